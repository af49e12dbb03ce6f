/- A part of the proofs: an abstract machine, or what functions come to on it. -/
import Derived.Test.YtnjlkiflililkaaCmpQ4
set_option linter.unusedVariables false
set_option linter.unusedSimpArgs false
set_option linter.defProp false
set_option maxRecDepth 4000
namespace Go.Am.Room
def idxOf {α : Type} (p : α → Bool) : List α → Nat → Int
 | [], _ => -1
 | x :: xs, k => if p x then k else idxOf p xs (k + 1)
theorem idxOf_any {α : Type} (p : α → Bool) : ∀ (l : List α) (k : Nat), decide (0 ≤ idxOf p l k) = l.any p
 | [], k => by simp [idxOf]
 | x :: xs, k => by
  cases h : p x
  ·simp [idxOf, h, idxOf_any p xs (k + 1)]
  ·simp [idxOf, h]
theorem index_int (σ : St) (f : AV) (l : List Int) (p : Int → Bool) (hl : l.length < 9223372036854775808) (hk : Keeps σ f) (h : ∀ x ∈ l, Same T f [.int .i64 x] σ (.bool (p x))) : Same T (.func 114 [] []) [ints l, f] σ (.int .i64 (idxOf p l 0)) := by
 refine same_fn (af := a114) rfl (by simp [a114]) ?_
 have hk0 := hk.nil
 (repeat (first | simp only [↓QA, QB, Nat.reduceLT, reduceIte, Nat.reduceEqDiff, Nat.reduceAdd, Nat.reduceLeDiff, Nat.reduceMul, Nat.reduceBEq, a114] | refine rd0 rfl ?_))
 refine loopE (S := Nat) 0 (fun k => k ≤ l.length ∧ idxOf p (l.drop k) k = idxOf p l 0) (fun k => l.length - k) (fun k => [(0, ints l), (1, f), (7, .int .i64 l.length), (8, .int .i64 k)]) (fun _ => σ) ⟨Nat.zero_le _, by simp⟩ rfl ?_ fun k hk1 => ?_
 ·try simp only [TrimX, QE, Nat.reduceLT, reduceIte, Nat.reduceEqDiff, Nat.reduceAdd, Nat.reduceLeDiff, Nat.reduceMul, Nat.reduceBEq]
  try simp
 ·obtain ⟨hkl, hi⟩ := hk1
  (repeat (first | simp only [↓QA, QB, Nat.reduceLT, reduceIte, Nat.reduceEqDiff, Nat.reduceAdd, Nat.reduceLeDiff, Nat.reduceMul, Nat.reduceBEq, L114_0] | refine rd0 rfl ?_))
  refine iteP_intro (fun hd => ?_) fun hd => ?_
  ·have hlt : k < l.length := by simpa using hd
   rw [List.drop_eq_getElem_cons hlt] at hi
   simp only [idxOf] at hi
   have hw := wrapN hlt hl
   (repeat (first | simp only [↓QA, QB, Nat.reduceLT, reduceIte, Nat.reduceEqDiff, Nat.reduceAdd, Nat.reduceLeDiff, Nat.reduceMul, Nat.reduceBEq, hlt] | refine rd0 rfl ?_))
   refine callK_same (h l[k] (List.getElem_mem hlt)) ?_
   (repeat (first | simp only [↓QA, QB, Nat.reduceLT, reduceIte, Nat.reduceEqDiff, Nat.reduceAdd, Nat.reduceLeDiff, Nat.reduceMul, Nat.reduceBEq] | refine rd0 rfl ?_))
   cases hp : p l[k]
   ·(repeat (first | simp only [↓QA, QB, Nat.reduceLT, reduceIte, Nat.reduceEqDiff, Nat.reduceAdd, Nat.reduceLeDiff, Nat.reduceMul, Nat.reduceBEq, hw] | refine rd0 rfl ?_))
    refine ⟨k + 1, ⟨by omega, by rw [← hi, hp]; rfl⟩, by omega, ?_⟩
    try simp only [TrimX, QE, Nat.reduceLT, reduceIte, Nat.reduceEqDiff, Nat.reduceAdd, Nat.reduceLeDiff, Nat.reduceMul, Nat.reduceBEq, hw, hk0, Nat.le_refl]
   ·(repeat (first | simp only [↓QA, QB, Nat.reduceLT, reduceIte, Nat.reduceEqDiff, Nat.reduceAdd, Nat.reduceLeDiff, Nat.reduceMul, Nat.reduceBEq] | refine rd0 rfl ?_))
    refine baseR [] (by first | rfl | simp) ?_
    rw [← hi, hp]
    try simp only [QS, QC, Nat.reduceLT, reduceIte, Nat.reduceEqDiff, Nat.reduceAdd, Nat.reduceLeDiff, Nat.reduceMul, Nat.reduceBEq]
  ·have hlt : k = l.length := by simp at hd; omega
   (repeat (first | simp only [↓QA, QB, Nat.reduceLT, reduceIte, Nat.reduceEqDiff, Nat.reduceAdd, Nat.reduceLeDiff, Nat.reduceMul, Nat.reduceBEq] | refine rd0 rfl ?_))
   refine baseR [] (by first | rfl | simp) ?_
   rw [← hi, hlt, List.drop_length]
   try simp only [QS, QC, Nat.reduceLT, reduceIte, Nat.reduceEqDiff, Nat.reduceAdd, Nat.reduceLeDiff, Nat.reduceMul, Nat.reduceBEq, idxOf]
theorem contains_int (σ : St) (f : AV) (l : List Int) (p : Int → Bool) (hl : l.length < 9223372036854775808) (hk : Keeps σ f) (h : ∀ x ∈ l, Same T f [.int .i64 x] σ (.bool (p x))) : Same T (.func 98 [] []) [ints l, f] σ (.bool (l.any p)) := by
 refine same_fn (af := a98) rfl (by simp [a98]) ?_
 (repeat (first | simp only [↓QA, QB, Nat.reduceLT, reduceIte, Nat.reduceEqDiff, Nat.reduceAdd, Nat.reduceLeDiff, Nat.reduceMul, Nat.reduceBEq, a98] | refine rd0 rfl ?_))
 refine callK_same (index_int σ f l p hl hk h) ?_
 (repeat (first | simp only [↓QA, QB, Nat.reduceLT, reduceIte, Nat.reduceEqDiff, Nat.reduceAdd, Nat.reduceLeDiff, Nat.reduceMul, Nat.reduceBEq] | refine rd0 rfl ?_))
 refine baseR [] (by first | rfl | simp) ?_
 rw [← idxOf_any p l 0]
 try simp only [QS, QC, Nat.reduceLT, reduceIte, Nat.reduceEqDiff, Nat.reduceAdd, Nat.reduceLeDiff, Nat.reduceMul, Nat.reduceBEq]
def outside (lo hi n : Int) : Bool := decide (n < lo) || decide (hi < n)
theorem beyond1_ok (lo hi n : Int) : Same T (.func 99 [] [.ptr 0 0, .ptr 1 0]) [.int .i64 n] [.cells [.int .i64 lo], .cells [.int .i64 hi]] (.bool (outside lo hi n)) := by
 refine same_fn (af := a99) rfl (by simp [a99]) ?_
 (repeat (first | simp only [↓QA, QB, Nat.reduceLT, reduceIte, Nat.reduceEqDiff, Nat.reduceAdd, Nat.reduceLeDiff, Nat.reduceMul, Nat.reduceBEq, a99] | refine rd0 rfl ?_))
 refine iteP_intro (fun h => ?_) fun h => ?_
 all_goals
  (repeat (first | simp only [↓QA, QB, Nat.reduceLT, reduceIte, Nat.reduceEqDiff, Nat.reduceAdd, Nat.reduceLeDiff, Nat.reduceMul, Nat.reduceBEq, h] | refine rd0 rfl ?_))
  refine baseR [] (by first | rfl | simp) ?_
  try simp only [QS, QC, Nat.reduceLT, reduceIte, Nat.reduceEqDiff, Nat.reduceAdd, Nat.reduceLeDiff, Nat.reduceMul, Nat.reduceBEq, outside, h]
  try simp
def beyond (lo hi : Int) (ns : List Int) : Bool := ns.any (outside lo hi)
theorem beyond_ok (lo hi : Int) (ns : List Int) (hl : ns.length < 9223372036854775808) : Pure T 63 [.int .i64 lo, .int .i64 hi, ints ns] (.bool (beyond lo hi ns)) := by
 refine pure_fn (af := a63) rfl (by simp [a63]) dd ?_
 (repeat (first | simp only [↓QA, QB, Nat.reduceLT, reduceIte, Nat.reduceEqDiff, Nat.reduceAdd, Nat.reduceLeDiff, Nat.reduceMul, Nat.reduceBEq, a63] | refine rd0 rfl ?_))
 refine callK_same (contains_int _ _ ns (outside lo hi) hl (fun τ => ?_) fun x _ => beyond1_ok lo hi x) ?_
 ·try simp only [QS, QC, Nat.reduceLT, reduceIte, Nat.reduceEqDiff, Nat.reduceAdd, Nat.reduceLeDiff, Nat.reduceMul, Nat.reduceBEq]
 ·(repeat (first | simp only [↓QA, QB, Nat.reduceLT, reduceIte, Nat.reduceEqDiff, Nat.reduceAdd, Nat.reduceLeDiff, Nat.reduceMul, Nat.reduceBEq, beyond] | refine rd0 rfl ?_))
theorem off1_ok (lo hi n : Int) : Same T (.func 115 [] [.ptr 0 0, .ptr 1 0]) [.int .i64 n] [.cells [.int .i64 lo], .cells [.int .i64 hi]] (.bool (outside lo hi n)) := by
 refine same_fn (af := a115) rfl (by simp [a115]) ?_
 (repeat (first | simp only [↓QA, QB, Nat.reduceLT, reduceIte, Nat.reduceEqDiff, Nat.reduceAdd, Nat.reduceLeDiff, Nat.reduceMul, Nat.reduceBEq, a115] | refine rd0 rfl ?_))
 refine iteP_intro (fun h => ?_) fun h => ?_
 all_goals
  (repeat (first | simp only [↓QA, QB, Nat.reduceLT, reduceIte, Nat.reduceEqDiff, Nat.reduceAdd, Nat.reduceLeDiff, Nat.reduceMul, Nat.reduceBEq, h] | refine rd0 rfl ?_))
  refine baseR [] (by first | rfl | simp) ?_
  try simp only [QS, QC, Nat.reduceLT, reduceIte, Nat.reduceEqDiff, Nat.reduceAdd, Nat.reduceLeDiff, Nat.reduceMul, Nat.reduceBEq, outside, h]
  try simp
theorem off_ok (lo hi : Int) (ns : List Int) (hl : ns.length < 9223372036854775808) : Pure T 100 [.int .i64 lo, .int .i64 hi, ints ns] (.bool (beyond lo hi ns)) := by
 refine pure_fn (af := a100) rfl (by simp [a100]) dd ?_
 (repeat (first | simp only [↓QA, QB, Nat.reduceLT, reduceIte, Nat.reduceEqDiff, Nat.reduceAdd, Nat.reduceLeDiff, Nat.reduceMul, Nat.reduceBEq, a100] | refine rd0 rfl ?_))
 refine callK_same (contains_int _ _ ns (outside lo hi) hl (fun τ => ?_) fun x _ => off1_ok lo hi x) ?_
 ·try simp only [QS, QC, Nat.reduceLT, reduceIte, Nat.reduceEqDiff, Nat.reduceAdd, Nat.reduceLeDiff, Nat.reduceMul, Nat.reduceBEq]
 ·(repeat (first | simp only [↓QA, QB, Nat.reduceLT, reduceIte, Nat.reduceEqDiff, Nat.reduceAdd, Nat.reduceLeDiff, Nat.reduceMul, Nat.reduceBEq, beyond] | refine rd0 rfl ?_))
theorem okUpTo_mono (s : ByteArray) : ∀ n k, k ≤ n → okUpTo s k = false → okUpTo s n = false
  | 0, k, h, h1 => by have : k = 0 := by omega
                      subst this; exact h1
  | n + 1, k, h, h1 => by
    by_cases hk : k = n + 1
    · subst hk; exact h1
    · simp [okUpTo, okUpTo_mono s n k (by omega) h1]
theorem beyond1 (lo hi n : Int) : beyond lo hi [n] = !inR n lo hi := by
 rw [Bool.eq_iff_iff]; simp [beyond, outside, inR]
theorem beyond2 (lo hi n m : Int) : beyond lo hi [n, m] = (!inR n lo hi || !inR m lo hi) := by
 rw [Bool.eq_iff_iff]; simp [beyond, outside, inR]
theorem handname_ok (s : ByteArray) (hs : s.size < 9223372036854775808) : Pure T 68 [.str s] (.bool (nameOk s)) := by
 refine pure_fn (af := a68) rfl (by simp [a68]) dd ?_
 (repeat (first | simp only [↓QA, QB, Nat.reduceLT, reduceIte, Nat.reduceEqDiff, Nat.reduceAdd, Nat.reduceLeDiff, Nat.reduceMul, Nat.reduceBEq, a68] | refine rd0 rfl ?_))
 refine loopE (S := Nat) 0 (fun k => k ≤ s.size ∧ okUpTo s k = true) (fun k => s.size - k) (fun k => [(0, .str s), (7, .ptr 0 0)]) (fun k => [.siter s k]) ⟨Nat.zero_le _, rfl⟩ rfl ?_ fun k hk => ?_
 ·try simp only [TrimX, QE, Nat.reduceLT, reduceIte, Nat.reduceEqDiff, Nat.reduceAdd, Nat.reduceLeDiff, Nat.reduceMul, Nat.reduceBEq]
  try simp
 ·obtain ⟨hkl, hok⟩ := hk
  by_cases hk1 : k < s.size
  ·obtain ⟨R, hR⟩ : ∃ R : Int, ((Utf8.decode s k).1 : Int) = R := ⟨_, rfl⟩
   obtain ⟨W, hW⟩ : ∃ W, (Utf8.decode s k).2 = W := ⟨_, rfl⟩
   have hstep : okUpTo s (k + 1) = okByte k (byteAt s k) := by simp [okUpTo, hok]
   have hbl := byteAt_lt s k
   have key : (97 ≤ R ∧ R ≤ 122 ∨ 0 < k ∧ (R = 46 ∨ 48 ≤ R ∧ R ≤ 57)) → W = 1 ∧ okUpTo s (k + 1) = true := by
    intro h
    by_cases hb : byteAt s k < 128
    ·have := byteAt_ascii hk1 hb
     rw [this] at hR hW
     have hR' : R = byteAt s k := by simp at hR; omega
     refine ⟨hW.symm, ?_⟩
     rw [hstep, okByte, ← hR']
     simp [inR]
     omega
    ·have := byteAt_high hk1 (by omega)
     omega
   have key2 : ¬ (97 ≤ R ∧ R ≤ 122 ∨ 0 < k ∧ (R = 46 ∨ 48 ≤ R ∧ R ≤ 57)) → nameOk s = false := by
    intro h
    have : okUpTo s (k + 1) = false := by
     rw [hstep, okByte]
     by_cases hb : byteAt s k < 128
     ·have := byteAt_ascii hk1 hb
      rw [this] at hR hW
      have hR' : R = byteAt s k := by simp at hR; omega
      rw [← hR']
      simp [inR]
      omega
     ·simp [inR]; omega
    simp [nameOk, okUpTo_mono s s.size (k + 1) (by omega) this]
   have go : ∀ (e : Env), W = 1 ∧ okUpTo s (k + 1) = true → Env.get e 0 = .str s → Env.get e 7 = .ptr 0 0 → ∃ s', (s' ≤ s.size ∧ okUpTo s s' = true) ∧ s.size - s' < s.size - k ∧ TrimX [.siter s k] e [.siter s (k + W)] [(0, .str s), (7, .ptr 0 0)] [.siter s s'] := by
    intro e h e0 e7
    refine ⟨k + 1, ⟨by omega, h.2⟩, by omega, ?_⟩
    try simp only [TrimX, QE, Nat.reduceLT, reduceIte, Nat.reduceEqDiff, Nat.reduceAdd, Nat.reduceLeDiff, Nat.reduceMul, Nat.reduceBEq, e0, e7, h.1]
    try simp [okBlk]
   (repeat (first | simp only [↓QA, QB, Nat.reduceLT, reduceIte, Nat.reduceEqDiff, Nat.reduceAdd, Nat.reduceLeDiff, Nat.reduceMul, Nat.reduceBEq, L68_0, V_snextT hk1, hR, hW] | refine rd0 rfl ?_))
   cases h1 : decide (97 ≤ R)
   ·have h1' : ¬ 97 ≤ R := by simpa using h1
    (repeat (first | simp only [↓QA, QB, Nat.reduceLT, reduceIte, Nat.reduceEqDiff, Nat.reduceAdd, Nat.reduceLeDiff, Nat.reduceMul, Nat.reduceBEq, h1] | refine rd0 rfl ?_))
    cases h3 : ((k : Int) == 0)
    ·have h3' : 0 < k := by simp at h3; omega
     (repeat (first | simp only [↓QA, QB, Nat.reduceLT, reduceIte, Nat.reduceEqDiff, Nat.reduceAdd, Nat.reduceLeDiff, Nat.reduceMul, Nat.reduceBEq, h3] | refine rd0 rfl ?_))
     cases h4 : (R == 46)
     ·have h4' : R ≠ 46 := by simpa using h4
      (repeat (first | simp only [↓QA, QB, Nat.reduceLT, reduceIte, Nat.reduceEqDiff, Nat.reduceAdd, Nat.reduceLeDiff, Nat.reduceMul, Nat.reduceBEq, h4] | refine rd0 rfl ?_))
      cases h5 : decide (R < 48)
      ·have h5' : ¬ R < 48 := by simpa using h5
       (repeat (first | simp only [↓QA, QB, Nat.reduceLT, reduceIte, Nat.reduceEqDiff, Nat.reduceAdd, Nat.reduceLeDiff, Nat.reduceMul, Nat.reduceBEq, h5] | refine rd0 rfl ?_))
       cases h6 : decide (57 < R)
       ·have h6' : ¬ 57 < R := by simpa using h6
        (repeat (first | simp only [↓QA, QB, Nat.reduceLT, reduceIte, Nat.reduceEqDiff, Nat.reduceAdd, Nat.reduceLeDiff, Nat.reduceMul, Nat.reduceBEq, h6] | refine rd0 rfl ?_))
        exact go _ (key (by omega)) (by try simp only [TrimX, QE, Nat.reduceLT, reduceIte, Nat.reduceEqDiff, Nat.reduceAdd, Nat.reduceLeDiff, Nat.reduceMul, Nat.reduceBEq]) (by try simp only [TrimX, QE, Nat.reduceLT, reduceIte, Nat.reduceEqDiff, Nat.reduceAdd, Nat.reduceLeDiff, Nat.reduceMul, Nat.reduceBEq])
       ·have h6' : 57 < R := by simpa using h6
        rw [key2 (by omega)]
        (repeat (first | simp only [↓QA, QB, Nat.reduceLT, reduceIte, Nat.reduceEqDiff, Nat.reduceAdd, Nat.reduceLeDiff, Nat.reduceMul, Nat.reduceBEq, h6] | refine rd0 rfl ?_))
      ·have h5' : R < 48 := by simpa using h5
       rw [key2 (by omega)]
       (repeat (first | simp only [↓QA, QB, Nat.reduceLT, reduceIte, Nat.reduceEqDiff, Nat.reduceAdd, Nat.reduceLeDiff, Nat.reduceMul, Nat.reduceBEq, h5] | refine rd0 rfl ?_))
     ·have h4' : R = 46 := by simpa using h4
      (repeat (first | simp only [↓QA, QB, Nat.reduceLT, reduceIte, Nat.reduceEqDiff, Nat.reduceAdd, Nat.reduceLeDiff, Nat.reduceMul, Nat.reduceBEq, h4] | refine rd0 rfl ?_))
      exact go _ (key (by omega)) (by try simp only [TrimX, QE, Nat.reduceLT, reduceIte, Nat.reduceEqDiff, Nat.reduceAdd, Nat.reduceLeDiff, Nat.reduceMul, Nat.reduceBEq]) (by try simp only [TrimX, QE, Nat.reduceLT, reduceIte, Nat.reduceEqDiff, Nat.reduceAdd, Nat.reduceLeDiff, Nat.reduceMul, Nat.reduceBEq])
    ·have h3' : k = 0 := by simp at h3; omega
     rw [key2 (by omega)]
     (repeat (first | simp only [↓QA, QB, Nat.reduceLT, reduceIte, Nat.reduceEqDiff, Nat.reduceAdd, Nat.reduceLeDiff, Nat.reduceMul, Nat.reduceBEq, h3] | refine rd0 rfl ?_))
   ·have h1' : 97 ≤ R := by simpa using h1
    (repeat (first | simp only [↓QA, QB, Nat.reduceLT, reduceIte, Nat.reduceEqDiff, Nat.reduceAdd, Nat.reduceLeDiff, Nat.reduceMul, Nat.reduceBEq, h1] | refine rd0 rfl ?_))
    cases h2 : decide (R ≤ 122)
    ·have h2' : ¬ R ≤ 122 := by simpa using h2
     (repeat (first | simp only [↓QA, QB, Nat.reduceLT, reduceIte, Nat.reduceEqDiff, Nat.reduceAdd, Nat.reduceLeDiff, Nat.reduceMul, Nat.reduceBEq, h2] | refine rd0 rfl ?_))
     cases h3 : ((k : Int) == 0)
     ·have h3' : 0 < k := by simp at h3; omega
      (repeat (first | simp only [↓QA, QB, Nat.reduceLT, reduceIte, Nat.reduceEqDiff, Nat.reduceAdd, Nat.reduceLeDiff, Nat.reduceMul, Nat.reduceBEq, h3] | refine rd0 rfl ?_))
      cases h4 : (R == 46)
      ·have h4' : R ≠ 46 := by simpa using h4
       (repeat (first | simp only [↓QA, QB, Nat.reduceLT, reduceIte, Nat.reduceEqDiff, Nat.reduceAdd, Nat.reduceLeDiff, Nat.reduceMul, Nat.reduceBEq, h4] | refine rd0 rfl ?_))
       cases h5 : decide (R < 48)
       ·have h5' : ¬ R < 48 := by simpa using h5
        (repeat (first | simp only [↓QA, QB, Nat.reduceLT, reduceIte, Nat.reduceEqDiff, Nat.reduceAdd, Nat.reduceLeDiff, Nat.reduceMul, Nat.reduceBEq, h5] | refine rd0 rfl ?_))
        cases h6 : decide (57 < R)
        ·have h6' : ¬ 57 < R := by simpa using h6
         (repeat (first | simp only [↓QA, QB, Nat.reduceLT, reduceIte, Nat.reduceEqDiff, Nat.reduceAdd, Nat.reduceLeDiff, Nat.reduceMul, Nat.reduceBEq, h6] | refine rd0 rfl ?_))
         exact go _ (key (by omega)) (by try simp only [TrimX, QE, Nat.reduceLT, reduceIte, Nat.reduceEqDiff, Nat.reduceAdd, Nat.reduceLeDiff, Nat.reduceMul, Nat.reduceBEq]) (by try simp only [TrimX, QE, Nat.reduceLT, reduceIte, Nat.reduceEqDiff, Nat.reduceAdd, Nat.reduceLeDiff, Nat.reduceMul, Nat.reduceBEq])
        ·have h6' : 57 < R := by simpa using h6
         rw [key2 (by omega)]
         (repeat (first | simp only [↓QA, QB, Nat.reduceLT, reduceIte, Nat.reduceEqDiff, Nat.reduceAdd, Nat.reduceLeDiff, Nat.reduceMul, Nat.reduceBEq, h6] | refine rd0 rfl ?_))
       ·have h5' : R < 48 := by simpa using h5
        rw [key2 (by omega)]
        (repeat (first | simp only [↓QA, QB, Nat.reduceLT, reduceIte, Nat.reduceEqDiff, Nat.reduceAdd, Nat.reduceLeDiff, Nat.reduceMul, Nat.reduceBEq, h5] | refine rd0 rfl ?_))
      ·have h4' : R = 46 := by simpa using h4
       (repeat (first | simp only [↓QA, QB, Nat.reduceLT, reduceIte, Nat.reduceEqDiff, Nat.reduceAdd, Nat.reduceLeDiff, Nat.reduceMul, Nat.reduceBEq, h4] | refine rd0 rfl ?_))
       exact go _ (key (by omega)) (by try simp only [TrimX, QE, Nat.reduceLT, reduceIte, Nat.reduceEqDiff, Nat.reduceAdd, Nat.reduceLeDiff, Nat.reduceMul, Nat.reduceBEq]) (by try simp only [TrimX, QE, Nat.reduceLT, reduceIte, Nat.reduceEqDiff, Nat.reduceAdd, Nat.reduceLeDiff, Nat.reduceMul, Nat.reduceBEq])
     ·have h3' : k = 0 := by simp at h3; omega
      rw [key2 (by omega)]
      (repeat (first | simp only [↓QA, QB, Nat.reduceLT, reduceIte, Nat.reduceEqDiff, Nat.reduceAdd, Nat.reduceLeDiff, Nat.reduceMul, Nat.reduceBEq, h3] | refine rd0 rfl ?_))
    ·have h2' : R ≤ 122 := by simpa using h2
     (repeat (first | simp only [↓QA, QB, Nat.reduceLT, reduceIte, Nat.reduceEqDiff, Nat.reduceAdd, Nat.reduceLeDiff, Nat.reduceMul, Nat.reduceBEq, h2] | refine rd0 rfl ?_))
     exact go _ (key (by omega)) (by try simp only [TrimX, QE, Nat.reduceLT, reduceIte, Nat.reduceEqDiff, Nat.reduceAdd, Nat.reduceLeDiff, Nat.reduceMul, Nat.reduceBEq]) (by try simp only [TrimX, QE, Nat.reduceLT, reduceIte, Nat.reduceEqDiff, Nat.reduceAdd, Nat.reduceLeDiff, Nat.reduceMul, Nat.reduceBEq])
  ·have hk2 : k = s.size := by omega
   (repeat (first | simp only [↓QA, QB, Nat.reduceLT, reduceIte, Nat.reduceEqDiff, Nat.reduceAdd, Nat.reduceLeDiff, Nat.reduceMul, Nat.reduceBEq, L68_0, V_snextF hk1] | refine rd0 rfl ?_))
   ((first | refine callK_v (off_ok 1 16 [(s.size : Int)] (by simp)) (by simp [clr, clrs, ints]) (by simp [okV, okVs]) ?_ | refine callD_v (off_ok 1 16 [(s.size : Int)] (by simp)) (by simp [clr, clrs, ints]) (by simp [okV, okVs]) ?_); (repeat (first | simp only [↓QA, QB, Nat.reduceLT, reduceIte, Nat.reduceEqDiff, Nat.reduceAdd, Nat.reduceLeDiff, Nat.reduceMul, Nat.reduceBEq] | refine rd0 rfl ?_)))
   rw [beyond1]
   (repeat (first | simp only [↓QA, QB, Nat.reduceLT, reduceIte, Nat.reduceEqDiff, Nat.reduceAdd, Nat.reduceLeDiff, Nat.reduceMul, Nat.reduceBEq] | refine rd0 rfl ?_))
   simp [nameOk, ← hk2, hok]
def enc2 (x : Int × Int) : AV := .tuple [.int .i64 x.1, .int .i64 x.2]
theorem any_nameOf {α : Type} (f : α → ByteArray) (s : ByteArray) : ∀ l : List α, l.any (fun x => decide (f x = s)) = decide (ahead s (l.map f) ≠ (l.map f).length)
 | [] => by simp [ahead]
 | x :: xs => by
  simp only [List.any_cons, any_nameOf f s xs, List.map_cons, ahead, List.length_cons]
  by_cases h : f x = s
  ·simp [h]
  ·simp [h]
end Go.Am.Room
set_option maxRecDepth 4000
namespace Go.Am.Room
def QXGCmp := And.intro @Int.toNat_natCast (@List.length_append.{0})
theorem isnan_ok (n : Int) : Pure T 121 [.int .i64 n] (.bool false) := by
 refine pure_fn (af := a121) rfl (by simp [a121]) dd ?_
 (repeat (first | simp only [↓QA, QB, Nat.reduceLT, reduceIte, Nat.reduceEqDiff, Nat.reduceAdd, Nat.reduceLeDiff, Nat.reduceMul, Nat.reduceBEq, QXGCmp, a121] | refine rd0 rfl ?_))
 try simp
def cmpI (a b : Int) : Int := if a < b then -1 else if b < a then 1 else 0
theorem cmp_ok (a b : Int) : Pure T 113 [.int .i64 a, .int .i64 b] (.int .i64 (cmpI a b)) := by
 refine pure_fn (af := a113) rfl (by simp [a113]) dd ?_
 (repeat (first | simp only [↓QA, QB, Nat.reduceLT, reduceIte, Nat.reduceEqDiff, Nat.reduceAdd, Nat.reduceLeDiff, Nat.reduceMul, Nat.reduceBEq, QXGCmp, a113] | refine rd0 rfl ?_))
 ((first | refine callK_d (isnan_ok a) rfl dd ?_ | refine callD_d (isnan_ok a) rfl dd ?_); (repeat (first | simp only [↓QA, QB, Nat.reduceLT, reduceIte, Nat.reduceEqDiff, Nat.reduceAdd, Nat.reduceLeDiff, Nat.reduceMul, Nat.reduceBEq, QXGCmp] | refine rd0 rfl ?_)))
 ((first | refine callK_d (isnan_ok b) rfl dd ?_ | refine callD_d (isnan_ok b) rfl dd ?_); (repeat (first | simp only [↓QA, QB, Nat.reduceLT, reduceIte, Nat.reduceEqDiff, Nat.reduceAdd, Nat.reduceLeDiff, Nat.reduceMul, Nat.reduceBEq, QXGCmp] | refine rd0 rfl ?_)))
 cases h1 : decide (a < b)
 ·have h1' : ¬ a < b := by simpa using h1
  (repeat (first | simp only [↓QA, QB, Nat.reduceLT, reduceIte, Nat.reduceEqDiff, Nat.reduceAdd, Nat.reduceLeDiff, Nat.reduceMul, Nat.reduceBEq, QXGCmp] | refine rd0 rfl ?_))
  cases h2 : decide (b < a)
  ·have h2' : ¬ b < a := by simpa using h2
   (repeat (first | simp only [↓QA, QB, Nat.reduceLT, reduceIte, Nat.reduceEqDiff, Nat.reduceAdd, Nat.reduceLeDiff, Nat.reduceMul, Nat.reduceBEq, QXGCmp] | refine rd0 rfl ?_))
   simp [cmpI, h1', h2']
  ·have h2' : b < a := by simpa using h2
   (repeat (first | simp only [↓QA, QB, Nat.reduceLT, reduceIte, Nat.reduceEqDiff, Nat.reduceAdd, Nat.reduceLeDiff, Nat.reduceMul, Nat.reduceBEq, QXGCmp] | refine rd0 rfl ?_))
   simp [cmpI, h1', h2']
 ·have h1' : a < b := by simpa using h1
  (repeat (first | simp only [↓QA, QB, Nat.reduceLT, reduceIte, Nat.reduceEqDiff, Nat.reduceAdd, Nat.reduceLeDiff, Nat.reduceMul, Nat.reduceBEq, QXGCmp] | refine rd0 rfl ?_))
  simp [cmpI, h1']
def cmpL : List Int → List Int → Int
 | [], [] => 0
 | [], _ :: _ => -1
 | _ :: _, [] => 1
 | a :: az, b :: bs => if cmpI a b = 0 then cmpL az bs else cmpI a b
theorem cmpL_less : ∀ a b : List Int, decide (0 < cmpL a b) = less b a
 | [], [] => rfl
 | [], b :: bs => rfl
 | a :: az, [] => rfl
 | a :: az, b :: bs => by
  have ih := cmpL_less az bs
  simp only [cmpL, less, cmpI]
  by_cases h1 : a < b
  ·simp [h1, show ¬ b = a by omega]; omega
  ·by_cases h2 : b < a
   ·simp [h1, h2, show ¬ b = a by omega]
   ·have : b = a := by omega
    subst this
    simp [ih]
theorem scmp_ok (a b : List Int) (ha : a.length < 9223372036854775808) (hb : b.length < 9223372036854775808) : Pure T 91 [ints a, ints b] (.int .i64 (cmpL a b)) := by
 refine pure_fn (af := a91) rfl (by simp [a91]) dd ?_
 (repeat (first | simp only [↓QA, QB, Nat.reduceLT, reduceIte, Nat.reduceEqDiff, Nat.reduceAdd, Nat.reduceLeDiff, Nat.reduceMul, Nat.reduceBEq, QXGCmp, a91] | refine rd0 rfl ?_))
 refine loopE (S := Nat) 0 (fun k => k ≤ a.length ∧ k ≤ b.length ∧ cmpL (a.drop k) (b.drop k) = cmpL a b) (fun k => a.length - k) (fun k => [(0, ints a), (1, ints b), (9, ints a), (10, .int .i64 a.length), (11, .int .i64 k)]) (fun _ => []) ⟨by simp, by simp, by simp⟩ rfl ?_ fun k hk => ?_
 ·try simp only [TrimX, QE, Nat.reduceLT, reduceIte, Nat.reduceEqDiff, Nat.reduceAdd, Nat.reduceLeDiff, Nat.reduceMul, Nat.reduceBEq, QXGCmp]
  try simp
 ·obtain ⟨hk, hkb, hq⟩ := hk
  (repeat (first | simp only [↓QA, QB, Nat.reduceLT, reduceIte, Nat.reduceEqDiff, Nat.reduceAdd, Nat.reduceLeDiff, Nat.reduceMul, Nat.reduceBEq, QXGCmp, L91_0] | refine rd0 rfl ?_))
  refine iteP_intro (fun h => ?_) fun h => ?_
  ·have hk1 : k < a.length := by simpa using h
   have hw := wrapN hk1 ha
   rw [List.drop_eq_getElem_cons hk1] at hq
   (repeat (first | simp only [↓QA, QB, Nat.reduceLT, reduceIte, Nat.reduceEqDiff, Nat.reduceAdd, Nat.reduceLeDiff, Nat.reduceMul, Nat.reduceBEq, QXGCmp, hk1] | refine rd0 rfl ?_))
   refine iteP_intro (fun h2 => ?_) fun h2 => ?_
   ·have hk2 : k = b.length := by simp at h2; omega
    have hd : b.drop k = [] := by rw [hk2, List.drop_length]
    rw [hd] at hq
    simp only [cmpL] at hq
    (repeat (first | simp only [↓QA, QB, Nat.reduceLT, reduceIte, Nat.reduceEqDiff, Nat.reduceAdd, Nat.reduceLeDiff, Nat.reduceMul, Nat.reduceBEq, QXGCmp, hk1, ← hq] | refine rd0 rfl ?_))
   ·have hk2 : k < b.length := by simp at h2; omega
    rw [List.drop_eq_getElem_cons hk2] at hq
    simp only [cmpL] at hq
    (repeat (first | simp only [↓QA, QB, Nat.reduceLT, reduceIte, Nat.reduceEqDiff, Nat.reduceAdd, Nat.reduceLeDiff, Nat.reduceMul, Nat.reduceBEq, QXGCmp, hk1, hk2] | refine rd0 rfl ?_))
    ((first | refine callK_d (cmp_ok a[k] b[k]) rfl dd ?_ | refine callD_d (cmp_ok a[k] b[k]) rfl dd ?_); (repeat (first | simp only [↓QA, QB, Nat.reduceLT, reduceIte, Nat.reduceEqDiff, Nat.reduceAdd, Nat.reduceLeDiff, Nat.reduceMul, Nat.reduceBEq, QXGCmp, hk1, hk2] | refine rd0 rfl ?_)))
    cases h3 : (cmpI a[k] b[k] == 0)
    ·have h3' : cmpI a[k] b[k] ≠ 0 := by simpa using h3
     rw [if_neg h3'] at hq
     (repeat (first | simp only [↓QA, QB, Nat.reduceLT, reduceIte, Nat.reduceEqDiff, Nat.reduceAdd, Nat.reduceLeDiff, Nat.reduceMul, Nat.reduceBEq, QXGCmp, h3, hk1, hk2, hq] | refine rd0 rfl ?_))
    ·have h3' : cmpI a[k] b[k] = 0 := by simpa using h3
     rw [if_pos h3'] at hq
     (repeat (first | simp only [↓QA, QB, Nat.reduceLT, reduceIte, Nat.reduceEqDiff, Nat.reduceAdd, Nat.reduceLeDiff, Nat.reduceMul, Nat.reduceBEq, QXGCmp, h3, hk1, hk2] | refine rd0 rfl ?_))
     refine ⟨k + 1, ⟨by omega, by omega, hq⟩, by omega, ?_⟩
     try simp only [TrimX, QE, Nat.reduceLT, reduceIte, Nat.reduceEqDiff, Nat.reduceAdd, Nat.reduceLeDiff, Nat.reduceMul, Nat.reduceBEq, QXGCmp, hw]
  ·have hk1 : k = a.length := by simp at h; omega
   rw [hk1, List.drop_length] at hq
   (repeat (first | simp only [↓QA, QB, Nat.reduceLT, reduceIte, Nat.reduceEqDiff, Nat.reduceAdd, Nat.reduceLeDiff, Nat.reduceMul, Nat.reduceBEq, QXGCmp] | refine rd0 rfl ?_))
   refine iteP_intro (fun h2 => ?_) fun h2 => ?_
   ·have hk2 : a.length < b.length := by simpa using h2
    rw [List.drop_eq_getElem_cons hk2] at hq
    (repeat (first | simp only [↓QA, QB, Nat.reduceLT, reduceIte, Nat.reduceEqDiff, Nat.reduceAdd, Nat.reduceLeDiff, Nat.reduceMul, Nat.reduceBEq, QXGCmp, ← hq, cmpL] | refine rd0 rfl ?_))
   ·have hk2 : a.length = b.length := by simp at h2; omega
    rw [hk2, List.drop_length] at hq
    (repeat (first | simp only [↓QA, QB, Nat.reduceLT, reduceIte, Nat.reduceEqDiff, Nat.reduceAdd, Nat.reduceLeDiff, Nat.reduceMul, Nat.reduceBEq, QXGCmp, ← hq, cmpL] | refine rd0 rfl ?_))
theorem list_ok (s n : Nat) (hs : s < 9223372036854775808) (hn : n ≤ 60) : Pure T 85 [.int .i64 s, .int .i64 n] (ints (lst n s)) := by
 refine pure_fn (af := a85) rfl (by simp [a85]) dd ?_
 (repeat (first | simp only [↓QA, QB, Nat.reduceLT, reduceIte, Nat.reduceEqDiff, Nat.reduceAdd, Nat.reduceLeDiff, Nat.reduceMul, Nat.reduceBEq, QXGCmp, a85] | refine rd0 rfl ?_))
 obtain ⟨R, hRR⟩ : ∃ R, lst n s = R := ⟨_, rfl⟩
 have hRR' : [] ++ (numbers ((0 : Nat) : Int) (n - 0)).filter (fun i => decide (s / 2 ^ i.toNat % 2 = 1)) = R := hRR
 rw [hRR]
 refine ghostK 4 1 [] rfl ?_
 refine loopE (S := Nat × List Int × Bool) (0, [], false) (fun x => x.1 ≤ n ∧ x.2.1.length ≤ x.1 ∧ x.2.1 ++ (numbers (x.1 : Int) (n - x.1)).filter (fun i => decide (s / 2 ^ i.toNat % 2 = 1)) = R) (fun x => n - x.1)
  (fun x => [(0, .int .i64 s), (4, .lit (x.2.1.map (.int .i64)) false (some 0)), (6, .int .i64 n), (7, .int .i64 x.1)]) (fun x => [.tok 1 x.2.1.length x.2.2]) ⟨by simp, by simp, hRR'⟩ rfl ?_ fun x hx => ?_
 ·try simp only [TrimX, QE, Nat.reduceLT, reduceIte, Nat.reduceEqDiff, Nat.reduceAdd, Nat.reduceLeDiff, Nat.reduceMul, Nat.reduceBEq, QXGCmp]
  try simp
 ·obtain ⟨k, acc, ex⟩ := x
  obtain ⟨hk, hal, hacc⟩ := hx
  simp only at hk hal hacc
  (repeat (first | simp only [↓QA, QB, Nat.reduceLT, reduceIte, Nat.reduceEqDiff, Nat.reduceAdd, Nat.reduceLeDiff, Nat.reduceMul, Nat.reduceBEq, QXGCmp, L85_0] | refine rd0 rfl ?_))
  refine iteP_intro (fun h => ?_) fun h => ?_
  ·have hk1 : k < n := by simpa using h
   have hw := wrapN hk1 (by omega)
   rw [show n - k = (n - (k + 1)) + 1 by omega] at hacc
   simp only [numbers, List.filter_cons, Int.toNat_natCast] at hacc
   rw [show ((k : Int) + 1) = ((k + 1 : Nat) : Int) by omega] at hacc
   have vs := V_shr s k (by omega)
   have va := V_and1 (s / 2 ^ k) (Nat.lt_of_le_of_lt (Nat.div_le_self _ _) hs)
   have hbit : (((s / 2 ^ k % 2 : Nat) : Int) == 1) = decide (s / 2 ^ k % 2 = 1) := by
    generalize s / 2 ^ k % 2 = q
    rw [Bool.eq_iff_iff, beq_iff_eq, decide_eq_true_eq]; omega
   (repeat (first | simp only [↓QA, QB, Nat.reduceLT, reduceIte, Nat.reduceEqDiff, Nat.reduceAdd, Nat.reduceLeDiff, Nat.reduceMul, Nat.reduceBEq, QXGCmp, vs, va, hbit] | refine rd0 rfl ?_))
   cases hb : decide (s / 2 ^ k % 2 = 1)
   ·simp only [hb, Bool.false_eq_true, if_false] at hacc
    (repeat (first | simp only [↓QA, QB, Nat.reduceLT, reduceIte, Nat.reduceEqDiff, Nat.reduceAdd, Nat.reduceLeDiff, Nat.reduceMul, Nat.reduceBEq, QXGCmp, hw] | refine rd0 rfl ?_))
    refine ⟨(k + 1, acc, ex), ⟨by simp only; omega, by simp only; omega, by simpa using hacc⟩, by simp only; omega, ?_⟩
    try simp only [TrimX, QE, Nat.reduceLT, reduceIte, Nat.reduceEqDiff, Nat.reduceAdd, Nat.reduceLeDiff, Nat.reduceMul, Nat.reduceBEq, QXGCmp, hw, S_mapI]
    try simp [okBlk]
   ·simp only [hb, if_true] at hacc
    have hap := fun (τ : St) => append_intT (σ := .tok 1 acc.length ex :: τ) (l := acc) (a := (k : Int)) (ex := ex) (t := 0) (by omega) rfl
    (repeat (first | simp only [↓QA, QB, Nat.reduceLT, reduceIte, Nat.reduceEqDiff, Nat.reduceAdd, Nat.reduceLeDiff, Nat.reduceMul, Nat.reduceBEq, QXGCmp, hw, hap] | refine rd0 rfl ?_))
    refine ⟨(k + 1, acc ++ [(k : Int)], true), ⟨by simp only; omega, by simp only [List.length_append, List.length_cons, List.length_nil]; omega, by
     rw [← hacc]; simp⟩, by simp only; omega, ?_⟩
    try simp only [TrimX, QE, Nat.reduceLT, reduceIte, Nat.reduceEqDiff, Nat.reduceAdd, Nat.reduceLeDiff, Nat.reduceMul, Nat.reduceBEq, QXGCmp, hw, S_mapI, List.map_append, List.map_cons, List.map_nil]
    try simp [okBlk]
  ·have hk1 : k = n := by simp at h; omega
   rw [hk1] at hacc
   simp only [Nat.sub_self, numbers, List.filter_nil, List.append_nil] at hacc
   (repeat (first | simp only [↓QA, QB, Nat.reduceLT, reduceIte, Nat.reduceEqDiff, Nat.reduceAdd, Nat.reduceLeDiff, Nat.reduceMul, Nat.reduceBEq, QXGCmp, hacc, ints] | refine rd0 rfl ?_))
end Go.Am.Room
set_option maxRecDepth 4000
namespace Go.Am.Room
def QXGTrP1 := And.intro @encNet_eq (And.intro @netCells_eq (And.intro @encRail_eq (And.intro @encTram_eq (And.intro @encSeen_eq (And.intro @encSpan_eq (And.intro @S_mapRail (And.intro @S_mapTram (And.intro @S_mapSeen (And.intro @T_sapp (And.intro @T_sapp0 (@Nat.not_lt_zero)))))))))))
theorem pover_ok (r : Rail) (s : Int) : Pure T 102 [encRail r, .int .i64 s] (.int .i64 (overOf r s)) := by
 refine pure_fn (af := a102) rfl (by simp [a102]) dd ?_
 (repeat (first | simp only [↓QA, QB, Nat.reduceLT, reduceIte, Nat.reduceEqDiff, Nat.reduceAdd, Nat.reduceLeDiff, Nat.reduceMul, Nat.reduceBEq, QXGTrP1, a102] | refine rd0 rfl ?_))
 cases h1 : (s == r.a)
 ·have h1' : s ≠ r.a := by simpa using h1
  (repeat (first | simp only [↓QA, QB, Nat.reduceLT, reduceIte, Nat.reduceEqDiff, Nat.reduceAdd, Nat.reduceLeDiff, Nat.reduceMul, Nat.reduceBEq, QXGTrP1, h1] | refine rd0 rfl ?_))
  cases h2 : (s == r.b)
  ·have h2' : s ≠ r.b := by simpa using h2
   (repeat (first | simp only [↓QA, QB, Nat.reduceLT, reduceIte, Nat.reduceEqDiff, Nat.reduceAdd, Nat.reduceLeDiff, Nat.reduceMul, Nat.reduceBEq, QXGTrP1, h2] | refine rd0 rfl ?_))
   simp [overOf, h1', h2']
  ·have h2' : s = r.b := by simpa using h2
   (repeat (first | simp only [↓QA, QB, Nat.reduceLT, reduceIte, Nat.reduceEqDiff, Nat.reduceAdd, Nat.reduceLeDiff, Nat.reduceMul, Nat.reduceBEq, QXGTrP1, h2] | refine rd0 rfl ?_))
   simp only [overOf, if_neg h1', if_pos h2']
 ·have h1' : s = r.a := by simpa using h1
  (repeat (first | simp only [↓QA, QB, Nat.reduceLT, reduceIte, Nat.reduceEqDiff, Nat.reduceAdd, Nat.reduceLeDiff, Nat.reduceMul, Nat.reduceBEq, QXGTrP1, h1] | refine rd0 rfl ?_))
  simp only [overOf, if_pos h1']
structure MetIs (b : Nat) (met : List Int) : Prop where
 lt : b < 2 ^ 6
 bit : ∀ i : Nat, i < 6 → b.testBit i = met.contains (i : Int)
theorem met_add {b : Nat} {met : List Int} (h : MetIs b met) {x : Nat} (hx : x < 6) : MetIs (b ||| 2 ^ x) (met ++ [(x : Int)]) := by
 refine ⟨Nat.or_lt_two_pow h.lt (Nat.pow_lt_pow_right (by omega) hx), fun i hi => ?_⟩
 rw [Nat.testBit_or, h.bit i hi, Nat.testBit_two_pow, Bool.eq_iff_iff]
 simp
 rw [or_congr_right]
 omega
theorem met_one {x : Nat} (hx : x < 6) : MetIs (2 ^ x) [(x : Int)] := by
 have := met_add (b := 0) (met := []) ⟨by simp, fun i _ => by simp⟩ hx
 simpa using this
theorem met_bit {b : Nat} {met : List Int} (h : MetIs b met) {i : Nat} (hi : i < 6) : (((b / 2 ^ i % 2 : Nat) : Int) == 0) = !met.contains (i : Int) := by
 have e : (((b / 2 ^ i % 2 : Nat) : Int) == 0) = !b.testBit i := by
  rw [bit_div, nat_eq0, Bool.eq_iff_iff]
  simp
 rw [e, h.bit i hi]
theorem over_in {v : Net} {r : Rail} (h : RailOk v r) (s : Int) : -1 ≤ overOf r s ∧ overOf r s < v.stations := by
 have h1 := h.a
 have h2 := h.b
 unfold overOf
 split
 ·omega
 ·split <;> omega
theorem walk_step {v : Net} {p : List Int} {k : Nat} (hk : k < p.length) (s : Int) (met : List Int) : walkGo v (p.drop k) s met = if s = 0 ∨ overOf (railAt v p[k]) s < 0 ∨ met.contains (overOf (railAt v p[k]) s) = true then none else walkGo v (p.drop (k + 1)) (overOf (railAt v p[k]) s) (met ++ [overOf (railAt v p[k]) s]) := by
 rw [List.drop_eq_getElem_cons hk, walkGo]
def whB (o : Option Int) (p : List Int) : Bool := match o with | some o => o == 0 && !p.isEmpty | none => false
def bgB (o : Option Int) : Bool := match o with | some o => !(o == 0) | none => false
theorem pleads_ok (v : Net) (hst : 2 ≤ v.stations ∧ v.stations ≤ 5) (hra : ∀ r ∈ v.rails, RailOk v r) (s : Nat) (hs : s < 5) (p : List Int) (hp : ∀ r ∈ p, 0 ≤ r ∧ r < v.rails.length) (hl : p.length < 9223372036854775808) :
  Pure T 71 [encNet v, .int .i64 s, ints p] (.tuple [.bool (wholeB v s p), .bool (beginsB v s p)]) := by
 refine pure_fn (af := a71) rfl (by simp [a71]) dd ?_
 obtain ⟨R, hR⟩ : ∃ R, walkGo v p s [(s : Int)] = R := ⟨_, rfl⟩
 have hwb : wholeB v s p = whB R p := by rw [← hR]; rfl
 have hbb : beginsB v s p = bgB R := by rw [← hR]; rfl
 rw [hwb, hbb]
 have hsh := V_shl1 s (by omega)
 (repeat (first | simp only [↓QA, QB, Nat.reduceLT, reduceIte, Nat.reduceEqDiff, Nat.reduceAdd, Nat.reduceLeDiff, Nat.reduceMul, Nat.reduceBEq, QXGTrP1, a71, hsh] | refine rd0 rfl ?_))
 refine loopE (S := Nat × Nat × Nat × List Int) (0, s, 2 ^ s, [(s : Int)]) (fun a => a.1 ≤ p.length ∧ a.2.1 < 5 ∧ MetIs a.2.2.1 a.2.2.2 ∧ walkGo v (p.drop a.1) (a.2.1 : Int) a.2.2.2 = R) (fun a => p.length - a.1)
  (fun a => [(1, .int .i64 (a.2.1 : Nat)), (2, ints p), (3, .ptr 0 0), (8, .int .i64 (a.2.2.1 : Nat)), (13, ints p), (14, .int .i64 p.length), (15, .int .i64 a.1)]) (fun a => [.cells (netCells v)]) ⟨Nat.zero_le _, hs, met_one (by omega), by simpa using hR⟩ (by simp [netCells, ints]) ?_ fun a ha => ?_
 ·try simp only [TrimX, QE, Nat.reduceLT, reduceIte, Nat.reduceEqDiff, Nat.reduceAdd, Nat.reduceLeDiff, Nat.reduceMul, Nat.reduceBEq, QXGTrP1, ints]
  try simp
 ·obtain ⟨k, c, b, met⟩ := a
  obtain ⟨hk, hc, hm, hq⟩ := ha
  simp only at hk hc hm hq
  (repeat (first | simp only [↓QA, QB, Nat.reduceLT, reduceIte, Nat.reduceEqDiff, Nat.reduceAdd, Nat.reduceLeDiff, Nat.reduceMul, Nat.reduceBEq, QXGTrP1, L71_0] | refine rd0 rfl ?_))
  refine iteP_intro (fun h => ?_) fun h => ?_
  ·have hk1 : k < p.length := by simpa using h
   have hw := wrapN hk1 hl
   rw [walk_step hk1] at hq
   have hpk := hp _ (List.getElem_mem hk1)
   obtain ⟨r, hr⟩ : ∃ r : Nat, p[k] = (r : Int) := ⟨p[k].toNat, by omega⟩
   rw [hr] at hpk hq
   have hr1 : r < v.rails.length := by omega
   rw [rail_at hr1] at hq
   have hro := hra _ (List.getElem_mem hr1)
   obtain ⟨z, hz⟩ : ∃ z, v.rails[r] = z := ⟨_, rfl⟩
   rw [hz] at hq hro
   have hov := pover_ok z c
   have hoi := over_in hro (c : Int)
   obtain ⟨o, ho⟩ : ∃ o, overOf z (c : Int) = o := ⟨_, rfl⟩
   rw [ho] at hq hov hoi
   have hc0 : ((c : Int) == 0) = decide (c = 0) := nat_eq0 c
   (repeat (first | simp only [↓QA, QB, Nat.reduceLT, reduceIte, Nat.reduceEqDiff, Nat.reduceAdd, Nat.reduceLeDiff, Nat.reduceMul, Nat.reduceBEq, QXGTrP1, hk1, hr] | refine rd0 rfl ?_))
   cases q1 : ((c : Int) == 0)
   ·have q1' : ¬ (c : Int) = 0 := by simpa using q1
    (repeat (first | simp only [↓QA, QB, Nat.reduceLT, reduceIte, Nat.reduceEqDiff, Nat.reduceAdd, Nat.reduceLeDiff, Nat.reduceMul, Nat.reduceBEq, QXGTrP1, hr1, hz] | refine rd0 rfl ?_))
    ((first | refine callK_d (hov) rfl dd ?_ | refine callD_d (hov) rfl dd ?_); (repeat (first | simp only [↓QA, QB, Nat.reduceLT, reduceIte, Nat.reduceEqDiff, Nat.reduceAdd, Nat.reduceLeDiff, Nat.reduceMul, Nat.reduceBEq, QXGTrP1, hr1, hz] | refine rd0 rfl ?_)))
    cases q2 : decide ((0 : Int) ≤ o)
    ·have q2' : ¬ 0 ≤ o := by simpa using q2
     rw [if_pos (.inr (.inl (by omega)))] at hq
     (repeat (first | simp only [↓QA, QB, Nat.reduceLT, reduceIte, Nat.reduceEqDiff, Nat.reduceAdd, Nat.reduceLeDiff, Nat.reduceMul, Nat.reduceBEq, QXGTrP1, q2] | refine rd0 rfl ?_))
     rw [← hq]
     try rfl
    ·have q2' : 0 ≤ o := by simpa using q2
     obtain ⟨O, rfl⟩ : ∃ O : Nat, o = (O : Int) := ⟨o.toNat, by omega⟩
     have hO : O < 5 := by omega
     have hb := hm.lt
     have vs := V_shr b O (by omega)
     have va := V_and1 (b / 2 ^ O) (Nat.lt_of_le_of_lt (Nat.div_le_self _ _) (by omega))
     have vb := met_bit hm (show O < 6 by omega)
     have hsh := V_shl1 O (by omega)
     have hp2 := pow_small (show O ≤ 60 by omega)
     have hor := V_or b (2 ^ O) (by omega) (by omega)
     cases q3 : met.contains (O : Int)
     ·rw [q3] at vb
      rw [if_neg (by rw [not_or, not_or]; exact ⟨q1', by omega, by rw [q3]; simp⟩)] at hq
      (repeat (first | simp only [↓QA, QB, Nat.reduceLT, reduceIte, Nat.reduceEqDiff, Nat.reduceAdd, Nat.reduceLeDiff, Nat.reduceMul, Nat.reduceBEq, QXGTrP1, q2, vs, va, vb, hsh, hor, hw] | refine rd0 rfl ?_))
      refine ⟨(k + 1, O, b ||| 2 ^ O, met ++ [(O : Int)]), ⟨by simp only; omega, hO, met_add hm (by omega), hq⟩, by simp only; omega, ?_⟩
      try simp only [TrimX, QE, Nat.reduceLT, reduceIte, Nat.reduceEqDiff, Nat.reduceAdd, Nat.reduceLeDiff, Nat.reduceMul, Nat.reduceBEq, QXGTrP1, hw, ints]
      try simp [okBlk]
     ·rw [q3] at vb
      rw [if_pos (.inr (.inr q3))] at hq
      (repeat (first | simp only [↓QA, QB, Nat.reduceLT, reduceIte, Nat.reduceEqDiff, Nat.reduceAdd, Nat.reduceLeDiff, Nat.reduceMul, Nat.reduceBEq, QXGTrP1, q2, vs, va, vb] | refine rd0 rfl ?_))
      rw [← hq]
      try rfl
   ·have q1' : (c : Int) = 0 := by simpa using q1
    rw [if_pos (.inl q1')] at hq
    (repeat (first | simp only [↓QA, QB, Nat.reduceLT, reduceIte, Nat.reduceEqDiff, Nat.reduceAdd, Nat.reduceLeDiff, Nat.reduceMul, Nat.reduceBEq, QXGTrP1] | refine rd0 rfl ?_))
    rw [← hq]
    try rfl
  ·have hk1 : k = p.length := by
    have : ¬ k < p.length := by simpa using h
    omega
   rw [hk1, List.drop_length, walkGo] at hq
   have hle : decide ((0 : Int) < (p.length : Int)) = !p.isEmpty := by cases p <;> simp
   cases q1 : ((c : Int) == 0)
   ·(repeat (first | simp only [↓QA, QB, Nat.reduceLT, reduceIte, Nat.reduceEqDiff, Nat.reduceAdd, Nat.reduceLeDiff, Nat.reduceMul, Nat.reduceBEq, QXGTrP1, q1] | refine rd0 rfl ?_))
    rw [← hq]
    simp only [whB, bgB, q1]
    try rfl
   ·(repeat (first | simp only [↓QA, QB, Nat.reduceLT, reduceIte, Nat.reduceEqDiff, Nat.reduceAdd, Nat.reduceLeDiff, Nat.reduceMul, Nat.reduceBEq, QXGTrP1, q1, hle] | refine rd0 rfl ?_))
    rw [← hq]
    simp only [whB, bgB, q1]
    try rfl
theorem index_tr (σ : St) (f : AV) (l : List Tram) (p : Tram → Bool) (hl : l.length < 9223372036854775808) (hk : Keeps σ f) (h : ∀ x ∈ l, Same T f [encTram x] σ (.bool (p x))) : Same T (.func 101 [] []) [.lit (l.map encTram) false none, f] σ (.int .i64 (idxOf p l 0)) := by
 refine same_fn (af := a101) rfl (by simp [a101]) ?_
 have hk0 := hk.nil
 (repeat (first | simp only [↓QA, QB, Nat.reduceLT, reduceIte, Nat.reduceEqDiff, Nat.reduceAdd, Nat.reduceLeDiff, Nat.reduceMul, Nat.reduceBEq, QXGTrP1, a101] | refine rd0 rfl ?_))
 refine loopE (S := Nat) 0 (fun k => k ≤ l.length ∧ idxOf p (l.drop k) k = idxOf p l 0) (fun k => l.length - k) (fun k => [(0, .lit (l.map encTram) false none), (1, f), (7, .int .i64 l.length), (8, .int .i64 k)]) (fun _ => σ) ⟨Nat.zero_le _, by simp⟩ rfl ?_ fun k hk1 => ?_
 ·try simp only [TrimX, QE, Nat.reduceLT, reduceIte, Nat.reduceEqDiff, Nat.reduceAdd, Nat.reduceLeDiff, Nat.reduceMul, Nat.reduceBEq, QXGTrP1]
  try simp
 ·obtain ⟨hkl, hi⟩ := hk1
  (repeat (first | simp only [↓QA, QB, Nat.reduceLT, reduceIte, Nat.reduceEqDiff, Nat.reduceAdd, Nat.reduceLeDiff, Nat.reduceMul, Nat.reduceBEq, QXGTrP1, L101_0] | refine rd0 rfl ?_))
  refine iteP_intro (fun hd => ?_) fun hd => ?_
  ·have hlt : k < l.length := by simpa using hd
   rw [List.drop_eq_getElem_cons hlt] at hi
   simp only [idxOf] at hi
   have hw := wrapN hlt hl
   (repeat (first | simp only [↓QA, QB, Nat.reduceLT, reduceIte, Nat.reduceEqDiff, Nat.reduceAdd, Nat.reduceLeDiff, Nat.reduceMul, Nat.reduceBEq, QXGTrP1, hlt] | refine rd0 rfl ?_))
   refine callK_same (h l[k] (List.getElem_mem hlt)) ?_
   (repeat (first | simp only [↓QA, QB, Nat.reduceLT, reduceIte, Nat.reduceEqDiff, Nat.reduceAdd, Nat.reduceLeDiff, Nat.reduceMul, Nat.reduceBEq, QXGTrP1] | refine rd0 rfl ?_))
   cases hp : p l[k]
   ·(repeat (first | simp only [↓QA, QB, Nat.reduceLT, reduceIte, Nat.reduceEqDiff, Nat.reduceAdd, Nat.reduceLeDiff, Nat.reduceMul, Nat.reduceBEq, QXGTrP1, hw] | refine rd0 rfl ?_))
    refine ⟨k + 1, ⟨by omega, by rw [← hi, hp]; rfl⟩, by omega, ?_⟩
    try simp only [TrimX, QE, Nat.reduceLT, reduceIte, Nat.reduceEqDiff, Nat.reduceAdd, Nat.reduceLeDiff, Nat.reduceMul, Nat.reduceBEq, QXGTrP1, hw, hk0, Nat.le_refl, S_mapTram]
   ·(repeat (first | simp only [↓QA, QB, Nat.reduceLT, reduceIte, Nat.reduceEqDiff, Nat.reduceAdd, Nat.reduceLeDiff, Nat.reduceMul, Nat.reduceBEq, QXGTrP1] | refine rd0 rfl ?_))
    refine baseR [] (by first | rfl | simp) ?_
    rw [← hi, hp]
    try simp only [QS, QC, Nat.reduceLT, reduceIte, Nat.reduceEqDiff, Nat.reduceAdd, Nat.reduceLeDiff, Nat.reduceMul, Nat.reduceBEq, QXGTrP1]
  ·have hlt : k = l.length := by simp at hd; omega
   (repeat (first | simp only [↓QA, QB, Nat.reduceLT, reduceIte, Nat.reduceEqDiff, Nat.reduceAdd, Nat.reduceLeDiff, Nat.reduceMul, Nat.reduceBEq, QXGTrP1] | refine rd0 rfl ?_))
   refine baseR [] (by first | rfl | simp) ?_
   rw [← hi, hlt, List.drop_length]
   try simp only [QS, QC, Nat.reduceLT, reduceIte, Nat.reduceEqDiff, Nat.reduceAdd, Nat.reduceLeDiff, Nat.reduceMul, Nat.reduceBEq, QXGTrP1, idxOf]
theorem contains_tr (σ : St) (f : AV) (l : List Tram) (p : Tram → Bool) (hl : l.length < 9223372036854775808) (hk : Keeps σ f) (h : ∀ x ∈ l, Same T f [encTram x] σ (.bool (p x))) : Same T (.func 69 [] []) [.lit (l.map encTram) false none, f] σ (.bool (l.any p)) := by
 refine same_fn (af := a69) rfl (by simp [a69]) ?_
 (repeat (first | simp only [↓QA, QB, Nat.reduceLT, reduceIte, Nat.reduceEqDiff, Nat.reduceAdd, Nat.reduceLeDiff, Nat.reduceMul, Nat.reduceBEq, QXGTrP1, a69] | refine rd0 rfl ?_))
 refine callK_same (index_tr σ f l p hl hk h) ?_
 (repeat (first | simp only [↓QA, QB, Nat.reduceLT, reduceIte, Nat.reduceEqDiff, Nat.reduceAdd, Nat.reduceLeDiff, Nat.reduceMul, Nat.reduceBEq, QXGTrP1] | refine rd0 rfl ?_))
 refine baseR [] (by first | rfl | simp) ?_
 rw [← idxOf_any p l 0]
 try simp only [QS, QC, Nat.reduceLT, reduceIte, Nat.reduceEqDiff, Nat.reduceAdd, Nat.reduceLeDiff, Nat.reduceMul, Nat.reduceBEq, QXGTrP1]
end Go.Am.Room
set_option maxRecDepth 4000
namespace Go.Am.Room
def QXGTrP2 := And.intro @encNet_eq (And.intro @netCells_eq (And.intro @encRail_eq (And.intro @encTram_eq (And.intro @encSeen_eq (And.intro @encSpan_eq (And.intro @S_mapRail (And.intro @S_mapTram (And.intro @S_mapSeen (And.intro @T_sapp (And.intro @T_sapp0 (@Nat.not_lt_zero)))))))))))
def failF {α : Type} (of : Nat → α → Int) (l : List α) : Int × Int := match firstBad of l 0 with | some (i, e) => (i, e) | none => (0, 0)
theorem failing_rail (σ : St) (f : AV) (l : List Rail) (of : Nat → Rail → Int) (hl : l.length < 9223372036854775808) (hk : Keeps σ f)
  (h : ∀ i (hi : i < l.length), Same T f [.int .i64 i, encRail l[i]] (σ ++ [.cells (encRail l[i]).cells]) (.int .i64 (of i l[i]))) : Same T (.func 64 [] []) [.lit (l.map encRail) false none, f] σ (enc2 (failF of l)) := by
 refine same_fn (af := a64) rfl (by simp [a64]) ?_
 have hk0 := hk.nil
 have hk2 : ∀ τ, snapM (σ ++ τ) σ.length 20 f = some f := hk
 (repeat (first | simp only [↓QA, QB, Nat.reduceLT, reduceIte, Nat.reduceEqDiff, Nat.reduceAdd, Nat.reduceLeDiff, Nat.reduceMul, Nat.reduceBEq, QXGTrP2, a64] | refine rd0 rfl ?_))
 refine loopE (S := Nat) 0 (fun k => k ≤ l.length ∧ firstBad of (l.drop k) k = firstBad of l 0) (fun k => l.length - k) (fun k => [(1, f), (9, .lit (l.map encRail) false none), (10, .int .i64 l.length), (11, .int .i64 k)]) (fun _ => σ) ⟨Nat.zero_le _, by simp⟩ rfl ?_ fun k hk1 => ?_
 ·try simp only [TrimX, QE, Nat.reduceLT, reduceIte, Nat.reduceEqDiff, Nat.reduceAdd, Nat.reduceLeDiff, Nat.reduceMul, Nat.reduceBEq, QXGTrP2]
  try simp
 ·obtain ⟨hkl, hi⟩ := hk1
  (repeat (first | simp only [↓QA, QB, Nat.reduceLT, reduceIte, Nat.reduceEqDiff, Nat.reduceAdd, Nat.reduceLeDiff, Nat.reduceMul, Nat.reduceBEq, QXGTrP2, L64_0] | refine rd0 rfl ?_))
  refine iteP_intro (fun hd => ?_) fun hd => ?_
  ·have hlt : k < l.length := by simpa using hd
   have hs := h k hlt
   rw [firstBad_step hlt] at hi
   have hw := wrapN hlt hl
   try simp only [↓QA, QB, Nat.reduceLT, reduceIte, Nat.reduceEqDiff, Nat.reduceAdd, Nat.reduceLeDiff, Nat.reduceMul, Nat.reduceBEq, QXGTrP2, hlt] at hs
   (repeat (first | simp only [↓QA, QB, Nat.reduceLT, reduceIte, Nat.reduceEqDiff, Nat.reduceAdd, Nat.reduceLeDiff, Nat.reduceMul, Nat.reduceBEq, QXGTrP2, hlt] | refine rd0 rfl ?_))
   refine callK_same hs ?_
   (repeat (first | simp only [↓QA, QB, Nat.reduceLT, reduceIte, Nat.reduceEqDiff, Nat.reduceAdd, Nat.reduceLeDiff, Nat.reduceMul, Nat.reduceBEq, QXGTrP2] | refine rd0 rfl ?_))
   cases hp : (of k l[k] == 0)
   ·have hp' : of k l[k] ≠ 0 := by simpa using hp
    rw [if_neg hp'] at hi
    (repeat (first | simp only [↓QA, QB, Nat.reduceLT, reduceIte, Nat.reduceEqDiff, Nat.reduceAdd, Nat.reduceLeDiff, Nat.reduceMul, Nat.reduceBEq, QXGTrP2, hp] | refine rd0 rfl ?_))
    refine baseR _ rfl ?_
    try simp only [QS, QC, Nat.reduceLT, reduceIte, Nat.reduceEqDiff, Nat.reduceAdd, Nat.reduceLeDiff, Nat.reduceMul, Nat.reduceBEq, QXGTrP2, enc2, failF, ← hi, reduceCtorEq]
   ·have hp' : of k l[k] = 0 := by simpa using hp
    rw [if_pos hp'] at hi
    (repeat (first | simp only [↓QA, QB, Nat.reduceLT, reduceIte, Nat.reduceEqDiff, Nat.reduceAdd, Nat.reduceLeDiff, Nat.reduceMul, Nat.reduceBEq, QXGTrP2, hp, hw] | refine rd0 rfl ?_))
    refine ⟨k + 1, ⟨by omega, hi⟩, by omega, ?_⟩
    try simp only [TrimX, QE, Nat.reduceLT, reduceIte, Nat.reduceEqDiff, Nat.reduceAdd, Nat.reduceLeDiff, Nat.reduceMul, Nat.reduceBEq, QXGTrP2, hw, hk0, hk2, Nat.le_refl, S_mapRail]
  ·have hlt : k = l.length := by simp at hd; omega
   rw [firstBad_end hlt] at hi
   (repeat (first | simp only [↓QA, QB, Nat.reduceLT, reduceIte, Nat.reduceEqDiff, Nat.reduceAdd, Nat.reduceLeDiff, Nat.reduceMul, Nat.reduceBEq, QXGTrP2] | refine rd0 rfl ?_))
   refine baseR [] (by first | rfl | simp) ?_
   try simp only [QS, QC, Nat.reduceLT, reduceIte, Nat.reduceEqDiff, Nat.reduceAdd, Nat.reduceLeDiff, Nat.reduceMul, Nat.reduceBEq, QXGTrP2, enc2, failF, ← hi, reduceCtorEq]
theorem failing_tram (σ : St) (f : AV) (l : List Tram) (of : Nat → Tram → Int) (hl : l.length < 9223372036854775808) (hk : Keeps σ f)
  (h : ∀ i (hi : i < l.length), Same T f [.int .i64 i, encTram l[i]] (σ ++ [.cells (encTram l[i]).cells]) (.int .i64 (of i l[i]))) : Same T (.func 66 [] []) [.lit (l.map encTram) false none, f] σ (enc2 (failF of l)) := by
 refine same_fn (af := a66) rfl (by simp [a66]) ?_
 have hk0 := hk.nil
 have hk2 : ∀ τ, snapM (σ ++ τ) σ.length 20 f = some f := hk
 (repeat (first | simp only [↓QA, QB, Nat.reduceLT, reduceIte, Nat.reduceEqDiff, Nat.reduceAdd, Nat.reduceLeDiff, Nat.reduceMul, Nat.reduceBEq, QXGTrP2, a66] | refine rd0 rfl ?_))
 refine loopE (S := Nat) 0 (fun k => k ≤ l.length ∧ firstBad of (l.drop k) k = firstBad of l 0) (fun k => l.length - k) (fun k => [(1, f), (9, .lit (l.map encTram) false none), (10, .int .i64 l.length), (11, .int .i64 k)]) (fun _ => σ) ⟨Nat.zero_le _, by simp⟩ rfl ?_ fun k hk1 => ?_
 ·try simp only [TrimX, QE, Nat.reduceLT, reduceIte, Nat.reduceEqDiff, Nat.reduceAdd, Nat.reduceLeDiff, Nat.reduceMul, Nat.reduceBEq, QXGTrP2]
  try simp
 ·obtain ⟨hkl, hi⟩ := hk1
  (repeat (first | simp only [↓QA, QB, Nat.reduceLT, reduceIte, Nat.reduceEqDiff, Nat.reduceAdd, Nat.reduceLeDiff, Nat.reduceMul, Nat.reduceBEq, QXGTrP2, L66_0] | refine rd0 rfl ?_))
  refine iteP_intro (fun hd => ?_) fun hd => ?_
  ·have hlt : k < l.length := by simpa using hd
   have hs := h k hlt
   rw [firstBad_step hlt] at hi
   have hw := wrapN hlt hl
   try simp only [↓QA, QB, Nat.reduceLT, reduceIte, Nat.reduceEqDiff, Nat.reduceAdd, Nat.reduceLeDiff, Nat.reduceMul, Nat.reduceBEq, QXGTrP2, hlt] at hs
   (repeat (first | simp only [↓QA, QB, Nat.reduceLT, reduceIte, Nat.reduceEqDiff, Nat.reduceAdd, Nat.reduceLeDiff, Nat.reduceMul, Nat.reduceBEq, QXGTrP2, hlt] | refine rd0 rfl ?_))
   refine callK_same hs ?_
   (repeat (first | simp only [↓QA, QB, Nat.reduceLT, reduceIte, Nat.reduceEqDiff, Nat.reduceAdd, Nat.reduceLeDiff, Nat.reduceMul, Nat.reduceBEq, QXGTrP2] | refine rd0 rfl ?_))
   cases hp : (of k l[k] == 0)
   ·have hp' : of k l[k] ≠ 0 := by simpa using hp
    rw [if_neg hp'] at hi
    (repeat (first | simp only [↓QA, QB, Nat.reduceLT, reduceIte, Nat.reduceEqDiff, Nat.reduceAdd, Nat.reduceLeDiff, Nat.reduceMul, Nat.reduceBEq, QXGTrP2, hp] | refine rd0 rfl ?_))
    refine baseR _ rfl ?_
    try simp only [QS, QC, Nat.reduceLT, reduceIte, Nat.reduceEqDiff, Nat.reduceAdd, Nat.reduceLeDiff, Nat.reduceMul, Nat.reduceBEq, QXGTrP2, enc2, failF, ← hi, reduceCtorEq]
   ·have hp' : of k l[k] = 0 := by simpa using hp
    rw [if_pos hp'] at hi
    (repeat (first | simp only [↓QA, QB, Nat.reduceLT, reduceIte, Nat.reduceEqDiff, Nat.reduceAdd, Nat.reduceLeDiff, Nat.reduceMul, Nat.reduceBEq, QXGTrP2, hp, hw] | refine rd0 rfl ?_))
    refine ⟨k + 1, ⟨by omega, hi⟩, by omega, ?_⟩
    try simp only [TrimX, QE, Nat.reduceLT, reduceIte, Nat.reduceEqDiff, Nat.reduceAdd, Nat.reduceLeDiff, Nat.reduceMul, Nat.reduceBEq, QXGTrP2, hw, hk0, hk2, Nat.le_refl, S_mapTram]
  ·have hlt : k = l.length := by simp at hd; omega
   rw [firstBad_end hlt] at hi
   (repeat (first | simp only [↓QA, QB, Nat.reduceLT, reduceIte, Nat.reduceEqDiff, Nat.reduceAdd, Nat.reduceLeDiff, Nat.reduceMul, Nat.reduceBEq, QXGTrP2] | refine rd0 rfl ?_))
   refine baseR [] (by first | rfl | simp) ?_
   try simp only [QS, QC, Nat.reduceLT, reduceIte, Nat.reduceEqDiff, Nat.reduceAdd, Nat.reduceLeDiff, Nat.reduceMul, Nat.reduceBEq, QXGTrP2, enc2, failF, ← hi, reduceCtorEq]
theorem failing_seen (σ : St) (f : AV) (l : List Seen) (of : Nat → Seen → Int) (hl : l.length < 9223372036854775808) (hk : Keeps σ f)
  (h : ∀ i (hi : i < l.length), Same T f [.int .i64 i, encSeen l[i]] (σ ++ [.cells (encSeen l[i]).cells]) (.int .i64 (of i l[i]))) : Same T (.func 72 [] []) [.lit (l.map encSeen) false none, f] σ (enc2 (failF of l)) := by
 refine same_fn (af := a72) rfl (by simp [a72]) ?_
 have hk0 := hk.nil
 have hk2 : ∀ τ, snapM (σ ++ τ) σ.length 20 f = some f := hk
 (repeat (first | simp only [↓QA, QB, Nat.reduceLT, reduceIte, Nat.reduceEqDiff, Nat.reduceAdd, Nat.reduceLeDiff, Nat.reduceMul, Nat.reduceBEq, QXGTrP2, a72] | refine rd0 rfl ?_))
 refine loopE (S := Nat) 0 (fun k => k ≤ l.length ∧ firstBad of (l.drop k) k = firstBad of l 0) (fun k => l.length - k) (fun k => [(1, f), (9, .lit (l.map encSeen) false none), (10, .int .i64 l.length), (11, .int .i64 k)]) (fun _ => σ) ⟨Nat.zero_le _, by simp⟩ rfl ?_ fun k hk1 => ?_
 ·try simp only [TrimX, QE, Nat.reduceLT, reduceIte, Nat.reduceEqDiff, Nat.reduceAdd, Nat.reduceLeDiff, Nat.reduceMul, Nat.reduceBEq, QXGTrP2]
  try simp
 ·obtain ⟨hkl, hi⟩ := hk1
  (repeat (first | simp only [↓QA, QB, Nat.reduceLT, reduceIte, Nat.reduceEqDiff, Nat.reduceAdd, Nat.reduceLeDiff, Nat.reduceMul, Nat.reduceBEq, QXGTrP2, L72_0] | refine rd0 rfl ?_))
  refine iteP_intro (fun hd => ?_) fun hd => ?_
  ·have hlt : k < l.length := by simpa using hd
   have hs := h k hlt
   rw [firstBad_step hlt] at hi
   have hw := wrapN hlt hl
   try simp only [↓QA, QB, Nat.reduceLT, reduceIte, Nat.reduceEqDiff, Nat.reduceAdd, Nat.reduceLeDiff, Nat.reduceMul, Nat.reduceBEq, QXGTrP2, hlt] at hs
   (repeat (first | simp only [↓QA, QB, Nat.reduceLT, reduceIte, Nat.reduceEqDiff, Nat.reduceAdd, Nat.reduceLeDiff, Nat.reduceMul, Nat.reduceBEq, QXGTrP2, hlt] | refine rd0 rfl ?_))
   refine callK_same hs ?_
   (repeat (first | simp only [↓QA, QB, Nat.reduceLT, reduceIte, Nat.reduceEqDiff, Nat.reduceAdd, Nat.reduceLeDiff, Nat.reduceMul, Nat.reduceBEq, QXGTrP2] | refine rd0 rfl ?_))
   cases hp : (of k l[k] == 0)
   ·have hp' : of k l[k] ≠ 0 := by simpa using hp
    rw [if_neg hp'] at hi
    (repeat (first | simp only [↓QA, QB, Nat.reduceLT, reduceIte, Nat.reduceEqDiff, Nat.reduceAdd, Nat.reduceLeDiff, Nat.reduceMul, Nat.reduceBEq, QXGTrP2, hp] | refine rd0 rfl ?_))
    refine baseR _ rfl ?_
    try simp only [QS, QC, Nat.reduceLT, reduceIte, Nat.reduceEqDiff, Nat.reduceAdd, Nat.reduceLeDiff, Nat.reduceMul, Nat.reduceBEq, QXGTrP2, enc2, failF, ← hi, reduceCtorEq]
   ·have hp' : of k l[k] = 0 := by simpa using hp
    rw [if_pos hp'] at hi
    (repeat (first | simp only [↓QA, QB, Nat.reduceLT, reduceIte, Nat.reduceEqDiff, Nat.reduceAdd, Nat.reduceLeDiff, Nat.reduceMul, Nat.reduceBEq, QXGTrP2, hp, hw] | refine rd0 rfl ?_))
    refine ⟨k + 1, ⟨by omega, hi⟩, by omega, ?_⟩
    try simp only [TrimX, QE, Nat.reduceLT, reduceIte, Nat.reduceEqDiff, Nat.reduceAdd, Nat.reduceLeDiff, Nat.reduceMul, Nat.reduceBEq, QXGTrP2, hw, hk0, hk2, Nat.le_refl, S_mapSeen]
  ·have hlt : k = l.length := by simp at hd; omega
   rw [firstBad_end hlt] at hi
   (repeat (first | simp only [↓QA, QB, Nat.reduceLT, reduceIte, Nat.reduceEqDiff, Nat.reduceAdd, Nat.reduceLeDiff, Nat.reduceMul, Nat.reduceBEq, QXGTrP2] | refine rd0 rfl ?_))
   refine baseR [] (by first | rfl | simp) ?_
   try simp only [QS, QC, Nat.reduceLT, reduceIte, Nat.reduceEqDiff, Nat.reduceAdd, Nat.reduceLeDiff, Nat.reduceMul, Nat.reduceBEq, QXGTrP2, enc2, failF, ← hi, reduceCtorEq]
theorem rail_eq7 (s : Span) : (ends s 1 20 = 7) ↔ (!inR s.lo 1 20 || !inR s.hi 1 20) = true := by
 unfold ends
 split
 ·rename_i h; simp [h]
 ·rename_i h
  constructor
  ·intro q; split at q <;> omega
  ·intro q; exact absurd q h
theorem chk1_ok (v : Net) (W : Int) (hW : ∀ s : Int, inR s 0 W = isSt v s) (i : Int) (r : Rail) (b : ABlk) (τ : St) : Same T (.func 65 [] [.ptr 1 0]) [.int .i64 i, encRail r] (b :: .cells [.int .i64 W] :: τ) (.int .i64 (railErr v r)) := by
 refine same_fn (af := a65) rfl (by simp [a65]) ?_
 (repeat (first | simp only [↓QA, QB, Nat.reduceLT, reduceIte, Nat.reduceEqDiff, Nat.reduceAdd, Nat.reduceLeDiff, Nat.reduceMul, Nat.reduceBEq, QXGTrP2, a65] | refine rd0 rfl ?_))
 ((first | refine callK_v (beyond_ok 0 W [r.a, r.b] (by simp)) (by simp [clr, clrs, ints]) (by simp [okV, okVs]) ?_ | refine callD_v (beyond_ok 0 W [r.a, r.b] (by simp)) (by simp [clr, clrs, ints]) (by simp [okV, okVs]) ?_); (repeat (first | simp only [↓QA, QB, Nat.reduceLT, reduceIte, Nat.reduceEqDiff, Nat.reduceAdd, Nat.reduceLeDiff, Nat.reduceMul, Nat.reduceBEq, QXGTrP2, beyond2] | refine rd0 rfl ?_)))
 rw [hW, hW]
 cases h1 : (!isSt v r.a || !isSt v r.b)
 ·have h1' : ¬ (isSt v r.a = false ∨ isSt v r.b = false) := by
   rintro (h | h) <;> rw [h] at h1 <;> simp at h1
  (repeat (first | simp only [↓QA, QB, Nat.reduceLT, reduceIte, Nat.reduceEqDiff, Nat.reduceAdd, Nat.reduceLeDiff, Nat.reduceMul, Nat.reduceBEq, QXGTrP2] | refine rd0 rfl ?_))
  cases h2 : (r.a == r.b)
  ·have h2' : r.a ≠ r.b := by simpa using h2
   (repeat (first | simp only [↓QA, QB, Nat.reduceLT, reduceIte, Nat.reduceEqDiff, Nat.reduceAdd, Nat.reduceLeDiff, Nat.reduceMul, Nat.reduceBEq, QXGTrP2, h2] | refine rd0 rfl ?_))
   ((first | refine callK_v (beyond_ok 1 20 [r.mins.lo, r.mins.hi] (by simp)) (by simp [clr, clrs, ints]) (by simp [okV, okVs]) ?_ | refine callD_v (beyond_ok 1 20 [r.mins.lo, r.mins.hi] (by simp)) (by simp [clr, clrs, ints]) (by simp [okV, okVs]) ?_); (repeat (first | simp only [↓QA, QB, Nat.reduceLT, reduceIte, Nat.reduceEqDiff, Nat.reduceAdd, Nat.reduceLeDiff, Nat.reduceMul, Nat.reduceBEq, QXGTrP2, beyond2] | refine rd0 rfl ?_)))
   cases h3 : (!inR r.mins.lo 1 20 || !inR r.mins.hi 1 20)
   ·have h3' : ends r.mins 1 20 ≠ 7 := fun q => by rw [rail_eq7, h3] at q; cases q
    (repeat (first | simp only [↓QA, QB, Nat.reduceLT, reduceIte, Nat.reduceEqDiff, Nat.reduceAdd, Nat.reduceLeDiff, Nat.reduceMul, Nat.reduceBEq, QXGTrP2] | refine rd0 rfl ?_))
    ((first | refine callK_v (beyond_ok 0 2 [r.shut] (by simp)) (by simp [clr, clrs, ints]) (by simp [okV, okVs]) ?_ | refine callD_v (beyond_ok 0 2 [r.shut] (by simp)) (by simp [clr, clrs, ints]) (by simp [okV, okVs]) ?_); (repeat (first | simp only [↓QA, QB, Nat.reduceLT, reduceIte, Nat.reduceEqDiff, Nat.reduceAdd, Nat.reduceLeDiff, Nat.reduceMul, Nat.reduceBEq, QXGTrP2, beyond1] | refine rd0 rfl ?_)))
    cases h4 : inR r.shut 0 2
    ·(repeat (first | simp only [↓QA, QB, Nat.reduceLT, reduceIte, Nat.reduceEqDiff, Nat.reduceAdd, Nat.reduceLeDiff, Nat.reduceMul, Nat.reduceBEq, QXGTrP2] | refine rd0 rfl ?_))
     refine baseR _ rfl ?_
     have : railErr v r = 7 := by rw [railErr, if_neg h1', if_neg h2', if_pos (.inr h4)]
     rw [this]
     try simp only [QS, QC, Nat.reduceLT, reduceIte, Nat.reduceEqDiff, Nat.reduceAdd, Nat.reduceLeDiff, Nat.reduceMul, Nat.reduceBEq, QXGTrP2]
    ·have hlo : inR r.mins.lo 1 20 = true := by
      cases q : inR r.mins.lo 1 20
      ·rw [q] at h3; simp at h3
      ·rfl
     have hhi : inR r.mins.hi 1 20 = true := by
      cases q : inR r.mins.hi 1 20
      ·rw [q] at h3; simp at h3
      ·rfl
     rw [inR_iff] at hlo hhi
     have hw : IntKind.i64.wrap (r.mins.hi - r.mins.lo) = r.mins.hi - r.mins.lo := wrap64 ⟨by omega, by omega⟩
     have hen : ends r.mins 1 20 = if r.mins.hi < r.mins.lo then 2 else 0 := by rw [ends, h3]; rfl
     simp only [Bool.not_true, iteP_false]
     (repeat (first | simp only [↓QA, QB, Nat.reduceLT, reduceIte, Nat.reduceEqDiff, Nat.reduceAdd, Nat.reduceLeDiff, Nat.reduceMul, Nat.reduceBEq, QXGTrP2, hw] | refine rd0 rfl ?_))
     ((first | refine callK_v (beyond_ok 0 1 [r.mins.hi - r.mins.lo] (by simp)) (by simp [clr, clrs, ints]) (by simp [okV, okVs]) ?_ | refine callD_v (beyond_ok 0 1 [r.mins.hi - r.mins.lo] (by simp)) (by simp [clr, clrs, ints]) (by simp [okV, okVs]) ?_); (repeat (first | simp only [↓QA, QB, Nat.reduceLT, reduceIte, Nat.reduceEqDiff, Nat.reduceAdd, Nat.reduceLeDiff, Nat.reduceMul, Nat.reduceBEq, QXGTrP2, beyond1] | refine rd0 rfl ?_)))
     cases h5 : inR (r.mins.hi - r.mins.lo) 0 1
     ·have h5' : ¬ (0 ≤ r.mins.hi - r.mins.lo ∧ r.mins.hi - r.mins.lo ≤ 1) := fun q => by rw [← inR_iff, h5] at q; cases q
      (repeat (first | simp only [↓QA, QB, Nat.reduceLT, reduceIte, Nat.reduceEqDiff, Nat.reduceAdd, Nat.reduceLeDiff, Nat.reduceMul, Nat.reduceBEq, QXGTrP2] | refine rd0 rfl ?_))
      refine baseR _ rfl ?_
      have : railErr v r = 2 := by
       rw [railErr, if_neg h1', if_neg h2', if_neg (by rw [not_or]; exact ⟨h3', by rw [h4]; simp⟩), hen]
       split
       ·rw [if_pos (.inl (by omega))]
       ·rw [if_pos (.inr (by omega))]
      rw [this]
      try simp only [QS, QC, Nat.reduceLT, reduceIte, Nat.reduceEqDiff, Nat.reduceAdd, Nat.reduceLeDiff, Nat.reduceMul, Nat.reduceBEq, QXGTrP2]
     ·rw [inR_iff] at h5
      (repeat (first | simp only [↓QA, QB, Nat.reduceLT, reduceIte, Nat.reduceEqDiff, Nat.reduceAdd, Nat.reduceLeDiff, Nat.reduceMul, Nat.reduceBEq, QXGTrP2] | refine rd0 rfl ?_))
      refine baseR _ rfl ?_
      have : railErr v r = 0 := by
       rw [railErr, if_neg h1', if_neg h2', if_neg (by rw [not_or]; exact ⟨h3', by rw [h4]; simp⟩), hen, if_neg (by omega)]
       try rfl
      rw [this]
      try simp only [QS, QC, Nat.reduceLT, reduceIte, Nat.reduceEqDiff, Nat.reduceAdd, Nat.reduceLeDiff, Nat.reduceMul, Nat.reduceBEq, QXGTrP2]
   ·have h3' : ends r.mins 1 20 = 7 := rail_eq7 _ |>.2 h3
    (repeat (first | simp only [↓QA, QB, Nat.reduceLT, reduceIte, Nat.reduceEqDiff, Nat.reduceAdd, Nat.reduceLeDiff, Nat.reduceMul, Nat.reduceBEq, QXGTrP2] | refine rd0 rfl ?_))
    refine baseR _ rfl ?_
    have : railErr v r = 7 := by rw [railErr, if_neg h1', if_neg h2', if_pos (.inl h3')]
    rw [this]
    try simp only [QS, QC, Nat.reduceLT, reduceIte, Nat.reduceEqDiff, Nat.reduceAdd, Nat.reduceLeDiff, Nat.reduceMul, Nat.reduceBEq, QXGTrP2]
  ·have h2' : r.a = r.b := by simpa using h2
   (repeat (first | simp only [↓QA, QB, Nat.reduceLT, reduceIte, Nat.reduceEqDiff, Nat.reduceAdd, Nat.reduceLeDiff, Nat.reduceMul, Nat.reduceBEq, QXGTrP2, h2] | refine rd0 rfl ?_))
   refine baseR _ rfl ?_
   have : railErr v r = 2 := by rw [railErr, if_neg h1', if_pos h2']
   rw [this]
   try simp only [QS, QC, Nat.reduceLT, reduceIte, Nat.reduceEqDiff, Nat.reduceAdd, Nat.reduceLeDiff, Nat.reduceMul, Nat.reduceBEq, QXGTrP2]
 ·have h1' : isSt v r.a = false ∨ isSt v r.b = false := by
   cases a : isSt v r.a
   ·exact .inl rfl
   ·cases b : isSt v r.b
    ·exact .inr rfl
    ·rw [a, b] at h1; simp at h1
  (repeat (first | simp only [↓QA, QB, Nat.reduceLT, reduceIte, Nat.reduceEqDiff, Nat.reduceAdd, Nat.reduceLeDiff, Nat.reduceMul, Nat.reduceBEq, QXGTrP2] | refine rd0 rfl ?_))
  refine baseR _ rfl ?_
  have : railErr v r = 4 := by rw [railErr, if_pos h1']
  rw [this]
  try simp only [QS, QC, Nat.reduceLT, reduceIte, Nat.reduceEqDiff, Nat.reduceAdd, Nat.reduceLeDiff, Nat.reduceMul, Nat.reduceBEq, QXGTrP2]
theorem chk21_ok (s x : Tram) (b0 b1 : ABlk) (τ : St) : Same T (.func 70 [] [.ptr (τ.length + 2) 0]) [encTram x] (b0 :: b1 :: (τ ++ [.cells (encTram s).cells])) (.bool (decide (x.name = s.name))) := by
 refine same_fn (af := a70) rfl (by simp [a70]) ?_
 (repeat (first | simp only [↓QA, QB, Nat.reduceLT, reduceIte, Nat.reduceEqDiff, Nat.reduceAdd, Nat.reduceLeDiff, Nat.reduceMul, Nat.reduceBEq, QXGTrP2, a70, str_beq, List.length_append] | refine rd0 rfl ?_))
 refine baseR [.cells [.str x.name, .int .i64 x.frm, .int .i64 x.leaves, .int .i64 x.due, .lit (x.path.map (.int .i64)) false none]] (by first | rfl | simp) ?_
 try simp only [QS, QC, Nat.reduceLT, reduceIte, Nat.reduceEqDiff, Nat.reduceAdd, Nat.reduceLeDiff, Nat.reduceMul, Nat.reduceBEq, QXGTrP2]
theorem beyond_all (lo hi : Int) (l : List Int) : beyond lo hi l = !l.all (fun r => inR r lo hi) := by
 rw [beyond]
 induction l with
 | nil => rfl
 | cons x l ih =>
  rw [List.any_cons, List.all_cons, ih, Bool.not_and]
  congr 1
  rw [Bool.eq_iff_iff]
  simp [outside, inR]
  try omega
theorem chk2_ok (v : Net) (h : Fits v) (hst : 2 ≤ v.stations ∧ v.stations ≤ 5) (hra : ∀ r ∈ v.rails, RailOk v r) (i : Nat) (hi : i < v.trams.length) (τ : St) : Same T (.func 67 [] [.ptr 0 0, .ptr 1 0]) [.int .i64 i, encTram v.trams[i]] (.cells (netCells v) :: .cells [.int .i64 (v.stations - 1)] :: τ) (.int .i64 (tramErr v i v.trams[i])) := by
 refine same_fn (af := a67) rfl (by simp [a67]) ?_
 have hfr := h.rails
 have hsz := h.names _ (List.getElem_mem hi)
 have hpz := h.paths _ (List.getElem_mem hi)
 have hts : (v.trams.take i).length < 9223372036854775808 := by have := h.trams; simp; omega
 obtain ⟨s, hs⟩ : ∃ s, v.trams[i] = s := ⟨_, rfl⟩
 have hk : tramErr v i s = if fresh s.name ((v.trams.take i).map Tram.name) = 0 then tramErr2 v s else fresh s.name ((v.trams.take i).map Tram.name) := rfl
 rw [hs] at hsz hpz ⊢
 obtain ⟨E, hE⟩ : ∃ E, tramErr v i s = E := ⟨_, rfl⟩
 rw [hE] at hk ⊢
 have hwr : IntKind.i64.wrap ((v.rails.length : Int) - 1) = (v.rails.length : Int) - 1 := wrap64 ⟨by omega, by omega⟩
 have fin : ∀ (n : Int) (b : List AV), n = E → BaseR (some (.int .i64 n)) (.cells (netCells v) :: .cells [.int .i64 (v.stations - 1)] :: τ) (.cells (netCells v) :: .cells [.int .i64 (v.stations - 1)] :: (τ ++ [.cells b])) (.int .i64 E) := fun n b hv => by
  refine baseR [.cells b] (by first | rfl | simp) ?_
  rw [hv]
  try simp only [QS, QC, Nat.reduceLT, reduceIte, Nat.reduceEqDiff, Nat.reduceAdd, Nat.reduceLeDiff, Nat.reduceMul, Nat.reduceBEq, QXGTrP2]
 simp only [netCells_eq] at fin
 (repeat (first | simp only [↓QA, QB, Nat.reduceLT, reduceIte, Nat.reduceEqDiff, Nat.reduceAdd, Nat.reduceLeDiff, Nat.reduceMul, Nat.reduceBEq, QXGTrP2, a67] | refine rd0 rfl ?_))
 ((first | refine callK_d (handname_ok s.name hsz) rfl dd ?_ | refine callD_d (handname_ok s.name hsz) rfl dd ?_); (repeat (first | simp only [↓QA, QB, Nat.reduceLT, reduceIte, Nat.reduceEqDiff, Nat.reduceAdd, Nat.reduceLeDiff, Nat.reduceMul, Nat.reduceBEq, QXGTrP2] | refine rd0 rfl ?_)))
 cases h1 : nameOk s.name
 ·(repeat (first | simp only [↓QA, QB, Nat.reduceLT, reduceIte, Nat.reduceEqDiff, Nat.reduceAdd, Nat.reduceLeDiff, Nat.reduceMul, Nat.reduceBEq, QXGTrP2] | refine rd0 rfl ?_))
  exact fin _ _ (by rw [hk]; simp [fresh, h1])
 ·have hc := contains_tr (.cells (netCells v) :: .cells [.int .i64 (v.stations - 1)] :: (τ ++ [.cells (encTram s).cells])) (.func 70 [] [.ptr (τ.length + 2) 0]) (v.trams.take i) (fun x => decide (x.name = s.name)) hts (fun υ => by try simp only [QS, QC, Nat.reduceLT, reduceIte, Nat.reduceEqDiff, Nat.reduceAdd, Nat.reduceLeDiff, Nat.reduceMul, Nat.reduceBEq, QXGTrP2, List.length_append]; simp) fun x _ => chk21_ok s x _ _ τ
  try simp only [↓QA, QB, Nat.reduceLT, reduceIte, Nat.reduceEqDiff, Nat.reduceAdd, Nat.reduceLeDiff, Nat.reduceMul, Nat.reduceBEq, QXGTrP2] at hc
  (repeat (first | simp only [↓QA, QB, Nat.reduceLT, reduceIte, Nat.reduceEqDiff, Nat.reduceAdd, Nat.reduceLeDiff, Nat.reduceMul, Nat.reduceBEq, QXGTrP2, V_take (enc := encTram) (l := v.trams) (Nat.le_of_lt hi)] | refine rd0 rfl ?_))
  refine callK_same hc ?_
  rw [any_nameOf]
  cases h2 : decide (ahead s.name ((v.trams.take i).map Tram.name) ≠ ((v.trams.take i).map Tram.name).length)
  ·have h2' : ahead s.name ((v.trams.take i).map Tram.name) = ((v.trams.take i).map Tram.name).length := by simpa using h2
   have hf : fresh s.name ((v.trams.take i).map Tram.name) = 0 := by simp only [fresh, h1, h2']; simp
   rw [hf] at hk
   simp only [if_true] at hk
   (repeat (first | simp only [↓QA, QB, Nat.reduceLT, reduceIte, Nat.reduceEqDiff, Nat.reduceAdd, Nat.reduceLeDiff, Nat.reduceMul, Nat.reduceBEq, QXGTrP2] | refine rd0 rfl ?_))
   ((first | refine callK_v (beyond_ok 0 (v.stations - 1) [s.frm] (by simp)) (by simp [clr, clrs, ints]) (by simp [okV, okVs]) ?_ | refine callD_v (beyond_ok 0 (v.stations - 1) [s.frm] (by simp)) (by simp [clr, clrs, ints]) (by simp [okV, okVs]) ?_); (repeat (first | simp only [↓QA, QB, Nat.reduceLT, reduceIte, Nat.reduceEqDiff, Nat.reduceAdd, Nat.reduceLeDiff, Nat.reduceMul, Nat.reduceBEq, QXGTrP2, beyond1] | refine rd0 rfl ?_)))
   have hsi : inR s.frm 0 (v.stations - 1) = isSt v s.frm := rfl
   rw [hsi]
   cases h3 : isSt v s.frm
   ·(repeat (first | simp only [↓QA, QB, Nat.reduceLT, reduceIte, Nat.reduceEqDiff, Nat.reduceAdd, Nat.reduceLeDiff, Nat.reduceMul, Nat.reduceBEq, QXGTrP2] | refine rd0 rfl ?_))
    exact fin _ _ (by rw [hk, tramErr2, if_pos h3])
   ·rw [tramErr2, if_neg (by rw [h3]; simp)] at hk
    (repeat (first | simp only [↓QA, QB, Nat.reduceLT, reduceIte, Nat.reduceEqDiff, Nat.reduceAdd, Nat.reduceLeDiff, Nat.reduceMul, Nat.reduceBEq, QXGTrP2] | refine rd0 rfl ?_))
    ((first | refine callK_v (beyond_ok 0 60 [s.leaves] (by simp)) (by simp [clr, clrs, ints]) (by simp [okV, okVs]) ?_ | refine callD_v (beyond_ok 0 60 [s.leaves] (by simp)) (by simp [clr, clrs, ints]) (by simp [okV, okVs]) ?_); (repeat (first | simp only [↓QA, QB, Nat.reduceLT, reduceIte, Nat.reduceEqDiff, Nat.reduceAdd, Nat.reduceLeDiff, Nat.reduceMul, Nat.reduceBEq, QXGTrP2, beyond1] | refine rd0 rfl ?_)))
    cases h4 : inR s.leaves 0 60
    ·(repeat (first | simp only [↓QA, QB, Nat.reduceLT, reduceIte, Nat.reduceEqDiff, Nat.reduceAdd, Nat.reduceLeDiff, Nat.reduceMul, Nat.reduceBEq, QXGTrP2] | refine rd0 rfl ?_))
     exact fin _ _ (by rw [hk, if_pos (.inl h4)])
    ·(repeat (first | simp only [↓QA, QB, Nat.reduceLT, reduceIte, Nat.reduceEqDiff, Nat.reduceAdd, Nat.reduceLeDiff, Nat.reduceMul, Nat.reduceBEq, QXGTrP2] | refine rd0 rfl ?_))
     ((first | refine callK_v (beyond_ok 0 400 [s.due] (by simp)) (by simp [clr, clrs, ints]) (by simp [okV, okVs]) ?_ | refine callD_v (beyond_ok 0 400 [s.due] (by simp)) (by simp [clr, clrs, ints]) (by simp [okV, okVs]) ?_); (repeat (first | simp only [↓QA, QB, Nat.reduceLT, reduceIte, Nat.reduceEqDiff, Nat.reduceAdd, Nat.reduceLeDiff, Nat.reduceMul, Nat.reduceBEq, QXGTrP2, beyond1] | refine rd0 rfl ?_)))
     cases h5 : inR s.due 0 400
     ·(repeat (first | simp only [↓QA, QB, Nat.reduceLT, reduceIte, Nat.reduceEqDiff, Nat.reduceAdd, Nat.reduceLeDiff, Nat.reduceMul, Nat.reduceBEq, QXGTrP2] | refine rd0 rfl ?_))
      exact fin _ _ (by rw [hk, if_pos (.inr h5)])
     ·rw [if_neg (by rw [h4, h5]; simp)] at hk
      (repeat (first | simp only [↓QA, QB, Nat.reduceLT, reduceIte, Nat.reduceEqDiff, Nat.reduceAdd, Nat.reduceLeDiff, Nat.reduceMul, Nat.reduceBEq, QXGTrP2] | refine rd0 rfl ?_))
      ((first | refine callK_v (beyond_ok 1 4 [(s.path.length : Int)] (by simp)) (by simp [clr, clrs, ints]) (by simp [okV, okVs]) ?_ | refine callD_v (beyond_ok 1 4 [(s.path.length : Int)] (by simp)) (by simp [clr, clrs, ints]) (by simp [okV, okVs]) ?_); (repeat (first | simp only [↓QA, QB, Nat.reduceLT, reduceIte, Nat.reduceEqDiff, Nat.reduceAdd, Nat.reduceLeDiff, Nat.reduceMul, Nat.reduceBEq, QXGTrP2, beyond1] | refine rd0 rfl ?_)))
      cases h6 : inR s.path.length 1 4
      ·(repeat (first | simp only [↓QA, QB, Nat.reduceLT, reduceIte, Nat.reduceEqDiff, Nat.reduceAdd, Nat.reduceLeDiff, Nat.reduceMul, Nat.reduceBEq, QXGTrP2] | refine rd0 rfl ?_))
       exact fin _ _ (by rw [hk, if_pos h6])
      ·rw [if_neg (by rw [h6]; simp)] at hk
       (repeat (first | simp only [↓QA, QB, Nat.reduceLT, reduceIte, Nat.reduceEqDiff, Nat.reduceAdd, Nat.reduceLeDiff, Nat.reduceMul, Nat.reduceBEq, QXGTrP2, hwr] | refine rd0 rfl ?_))
       ((first | refine callK_d (beyond_ok 0 ((v.rails.length : Int) - 1) s.path hpz) rfl dd ?_ | refine callD_d (beyond_ok 0 ((v.rails.length : Int) - 1) s.path hpz) rfl dd ?_); (repeat (first | simp only [↓QA, QB, Nat.reduceLT, reduceIte, Nat.reduceEqDiff, Nat.reduceAdd, Nat.reduceLeDiff, Nat.reduceMul, Nat.reduceBEq, QXGTrP2, beyond_all] | refine rd0 rfl ?_)))
       cases h7 : s.path.all (fun r => inR r 0 ((v.rails.length : Int) - 1))
       ·rw [if_pos h7] at hk
        (repeat (first | simp only [↓QA, QB, Nat.reduceLT, reduceIte, Nat.reduceEqDiff, Nat.reduceAdd, Nat.reduceLeDiff, Nat.reduceMul, Nat.reduceBEq, QXGTrP2] | refine rd0 rfl ?_))
        exact fin _ _ hk.symm
       ·rw [if_neg (by rw [h7]; simp)] at hk
        rw [isSt_iff] at h3
        obtain ⟨S, hS⟩ : ∃ S : Nat, s.frm = (S : Int) := ⟨s.frm.toNat, by omega⟩
        rw [inR_iff] at h6
        have hld := pleads_ok v hst hra S (by omega) s.path (fun r hr => by
         have := inR_iff.1 (List.all_eq_true.1 h7 r hr)
         omega) hpz
        have hlw : leadsB v s.frm s.path = wholeB v S s.path := by rw [hS]; exact leads_whole (by omega)
        rw [hlw] at hk
        obtain ⟨B, hB⟩ : ∃ B, wholeB v S s.path = B := ⟨_, rfl⟩
        rw [hB] at hk hld
        (repeat (first | simp only [↓QA, QB, Nat.reduceLT, reduceIte, Nat.reduceEqDiff, Nat.reduceAdd, Nat.reduceLeDiff, Nat.reduceMul, Nat.reduceBEq, QXGTrP2, hS] | refine rd0 rfl ?_))
        ((first | refine callK_d (hld) rfl dd ?_ | refine callD_d (hld) rfl dd ?_); (repeat (first | simp only [↓QA, QB, Nat.reduceLT, reduceIte, Nat.reduceEqDiff, Nat.reduceAdd, Nat.reduceLeDiff, Nat.reduceMul, Nat.reduceBEq, QXGTrP2, hS] | refine rd0 rfl ?_)))
        cases B
        ·(repeat (first | simp only [↓QA, QB, Nat.reduceLT, reduceIte, Nat.reduceEqDiff, Nat.reduceAdd, Nat.reduceLeDiff, Nat.reduceMul, Nat.reduceBEq, QXGTrP2] | refine rd0 rfl ?_))
         exact fin _ _ (by rw [hk]; rfl)
        ·(repeat (first | simp only [↓QA, QB, Nat.reduceLT, reduceIte, Nat.reduceEqDiff, Nat.reduceAdd, Nat.reduceLeDiff, Nat.reduceMul, Nat.reduceBEq, QXGTrP2] | refine rd0 rfl ?_))
         exact fin _ _ (by rw [hk]; rfl)
  ·have h2' : ahead s.name ((v.trams.take i).map Tram.name) ≠ ((v.trams.take i).map Tram.name).length := by simpa using h2
   have hf : fresh s.name ((v.trams.take i).map Tram.name) = 5 := by simp only [fresh, h1, h2', if_false]; simp
   rw [hf] at hk
   (repeat (first | simp only [↓QA, QB, Nat.reduceLT, reduceIte, Nat.reduceEqDiff, Nat.reduceAdd, Nat.reduceLeDiff, Nat.reduceMul, Nat.reduceBEq, QXGTrP2] | refine rd0 rfl ?_))
   exact fin _ _ (by rw [hk]; simp)
theorem chk3_ok (v : Net) (h : Fits v) (i : Nat) (x : Seen) (b : ABlk) : Same T (.func 73 [] [.ptr 0 0]) [.int .i64 i, encSeen x] [.cells (netCells v), b, .cells (encSeen x).cells] (.int .i64 (seenErr v i x)) := by
 refine same_fn (af := a73) rfl (by simp [a73]) ?_
 have hfp := h.trams
 have hw : IntKind.i64.wrap ((v.trams.length : Int) - 1) = (v.trams.length : Int) - 1 := wrap64 ⟨by omega, by omega⟩
 (repeat (first | simp only [↓QA, QB, Nat.reduceLT, reduceIte, Nat.reduceEqDiff, Nat.reduceAdd, Nat.reduceLeDiff, Nat.reduceMul, Nat.reduceBEq, QXGTrP2, a73, hw] | refine rd0 rfl ?_))
 ((first | refine callK_v (beyond_ok 0 ((v.trams.length : Int) - 1) [x.tram] (by simp)) (by simp [clr, clrs, ints]) (by simp [okV, okVs]) ?_ | refine callD_v (beyond_ok 0 ((v.trams.length : Int) - 1) [x.tram] (by simp)) (by simp [clr, clrs, ints]) (by simp [okV, okVs]) ?_); (repeat (first | simp only [↓QA, QB, Nat.reduceLT, reduceIte, Nat.reduceEqDiff, Nat.reduceAdd, Nat.reduceLeDiff, Nat.reduceMul, Nat.reduceBEq, QXGTrP2, beyond1] | refine rd0 rfl ?_)))
 cases h1 : inR x.tram 0 ((v.trams.length : Int) - 1)
 ·(repeat (first | simp only [↓QA, QB, Nat.reduceLT, reduceIte, Nat.reduceEqDiff, Nat.reduceAdd, Nat.reduceLeDiff, Nat.reduceMul, Nat.reduceBEq, QXGTrP2] | refine rd0 rfl ?_))
  refine baseR _ rfl ?_
  try simp only [QS, QC, Nat.reduceLT, reduceIte, Nat.reduceEqDiff, Nat.reduceAdd, Nat.reduceLeDiff, Nat.reduceMul, Nat.reduceBEq, QXGTrP2, seenErr, h1]
 ·(repeat (first | simp only [↓QA, QB, Nat.reduceLT, reduceIte, Nat.reduceEqDiff, Nat.reduceAdd, Nat.reduceLeDiff, Nat.reduceMul, Nat.reduceBEq, QXGTrP2] | refine rd0 rfl ?_))
  ((first | refine callK_v (beyond_ok (-1) 400 [x.minute] (by simp)) (by simp [clr, clrs, ints]) (by simp [okV, okVs]) ?_ | refine callD_v (beyond_ok (-1) 400 [x.minute] (by simp)) (by simp [clr, clrs, ints]) (by simp [okV, okVs]) ?_); (repeat (first | simp only [↓QA, QB, Nat.reduceLT, reduceIte, Nat.reduceEqDiff, Nat.reduceAdd, Nat.reduceLeDiff, Nat.reduceMul, Nat.reduceBEq, QXGTrP2, beyond1] | refine rd0 rfl ?_)))
  cases h2 : inR x.minute (-1) 400
  all_goals
   (repeat (first | simp only [↓QA, QB, Nat.reduceLT, reduceIte, Nat.reduceEqDiff, Nat.reduceAdd, Nat.reduceLeDiff, Nat.reduceMul, Nat.reduceBEq, QXGTrP2] | refine rd0 rfl ?_))
   refine baseR _ rfl ?_
   try simp only [QS, QC, Nat.reduceLT, reduceIte, Nat.reduceEqDiff, Nat.reduceAdd, Nat.reduceLeDiff, Nat.reduceMul, Nat.reduceBEq, QXGTrP2, seenErr, h1, h2, Bool.true_eq_false]
end Go.Am.Room
set_option maxRecDepth 4000
namespace Go.Am.Room
def QXGTrP3 := And.intro @encNet_eq (And.intro @netCells_eq (And.intro @encRail_eq (And.intro @encTram_eq (And.intro @encSeen_eq (And.intro @encSpan_eq (And.intro @S_mapRail (And.intro @S_mapTram (And.intro @S_mapSeen (And.intro @T_sapp (And.intro @T_sapp0 (@Nat.not_lt_zero)))))))))))
theorem check_ok (v : Net) (h : Fits v) : Pure T 17 [encNet v] (enc3 (check v)) := by
 refine pure_fn (af := a17) rfl (by simp [a17]) dd ?_
 obtain ⟨W, hW⟩ : ∃ W, IntKind.i64.wrap (v.stations - 1) = W := ⟨_, rfl⟩
 (repeat (first | simp only [↓QA, QB, Nat.reduceLT, reduceIte, Nat.reduceEqDiff, Nat.reduceAdd, Nat.reduceLeDiff, Nat.reduceMul, Nat.reduceBEq, QXGTrP3, a17, hW] | refine rd0 rfl ?_))
 ((first | refine callK_v (beyond_ok 2 5 [v.stations] (by simp)) (by simp [clr, clrs, ints]) (by simp [okV, okVs]) ?_ | refine callD_v (beyond_ok 2 5 [v.stations] (by simp)) (by simp [clr, clrs, ints]) (by simp [okV, okVs]) ?_); (repeat (first | simp only [↓QA, QB, Nat.reduceLT, reduceIte, Nat.reduceEqDiff, Nat.reduceAdd, Nat.reduceLeDiff, Nat.reduceMul, Nat.reduceBEq, QXGTrP3, beyond1] | refine rd0 rfl ?_)))
 cases h1 : inR v.stations 2 5
 ·(repeat (first | simp only [↓QA, QB, Nat.reduceLT, reduceIte, Nat.reduceEqDiff, Nat.reduceAdd, Nat.reduceLeDiff, Nat.reduceMul, Nat.reduceBEq, QXGTrP3] | refine rd0 rfl ?_))
  simp [check, h1, enc3]
 ·have hc : check v = check2 v := by simp only [check, h1, Bool.true_eq_false, if_false]
  rw [hc]
  have hst := inR_iff.1 h1
  have hWe : W = v.stations - 1 := by rw [← hW]; exact wrap64 ⟨by omega, by omega⟩
  subst hWe
  have hWs : ∀ s : Int, inR s 0 (v.stations - 1) = isSt v s := fun s => rfl
  (repeat (first | simp only [↓QA, QB, Nat.reduceLT, reduceIte, Nat.reduceEqDiff, Nat.reduceAdd, Nat.reduceLeDiff, Nat.reduceMul, Nat.reduceBEq, QXGTrP3] | refine rd0 rfl ?_))
  cases h2 : decide ((5 : Int) < (v.rails.length : Int))
  case' true =>
   have h2' : 5 < v.rails.length := by first | (have := of_decide_eq_false h2; omega) | (have := of_decide_eq_true h2; omega)
   (repeat (first | simp only [↓QA, QB, Nat.reduceLT, reduceIte, Nat.reduceEqDiff, Nat.reduceAdd, Nat.reduceLeDiff, Nat.reduceMul, Nat.reduceBEq, QXGTrP3, h2] | refine rd0 rfl ?_))
   simp [check2, h2', enc3]
  have h2' : ¬ 5 < v.rails.length := by first | (have := of_decide_eq_false h2; omega) | (have := of_decide_eq_true h2; omega)
  have hc : check2 v = match firstBad (fun _ r => railErr v r) v.rails 0 with | some (i, e) => (2, (i : Int), e) | none => check3 v := by simp only [check2, h2', if_false]; try rfl
  rw [hc]
  have hf := failing_rail [.cells (netCells v), .cells [.int .i64 (v.stations - 1)]] (.func 65 [] [.ptr 1 0]) v.rails (fun _ r => railErr v r) h.rails (fun τ => by try simp only [QS, QC, Nat.reduceLT, reduceIte, Nat.reduceEqDiff, Nat.reduceAdd, Nat.reduceLeDiff, Nat.reduceMul, Nat.reduceBEq, QXGTrP3]) fun i hi => chk1_ok v _ hWs i _ _ _
  try simp only [↓QA, QB, Nat.reduceLT, reduceIte, Nat.reduceEqDiff, Nat.reduceAdd, Nat.reduceLeDiff, Nat.reduceMul, Nat.reduceBEq, QXGTrP3] at hf
  (repeat (first | simp only [↓QA, QB, Nat.reduceLT, reduceIte, Nat.reduceEqDiff, Nat.reduceAdd, Nat.reduceLeDiff, Nat.reduceMul, Nat.reduceBEq, QXGTrP3, h2] | refine rd0 rfl ?_))
  refine callK_same hf ?_
  cases hb : firstBad (fun _ r => railErr v r) v.rails 0 with
  | some p =>
   obtain ⟨i, e⟩ := p
   have he := firstBad_nz hb
   have hg : (e == 0) = false := by simpa using he
   (repeat (first | simp only [↓QA, QB, Nat.reduceLT, reduceIte, Nat.reduceEqDiff, Nat.reduceAdd, Nat.reduceLeDiff, Nat.reduceMul, Nat.reduceBEq, QXGTrP3, failF, hb, enc2, hg, enc3] | refine rd0 rfl ?_))
  | none =>
   have hra : ∀ r ∈ v.rails, RailOk v r := fun x hx => by
    obtain ⟨k, hk, rfl⟩ := List.getElem_of_mem hx
    exact rail_zero.1 (firstBad_all hb k hk)
   (repeat (first | simp only [↓QA, QB, Nat.reduceLT, reduceIte, Nat.reduceEqDiff, Nat.reduceAdd, Nat.reduceLeDiff, Nat.reduceMul, Nat.reduceBEq, QXGTrP3, failF, hb, enc2] | refine rd0 rfl ?_))
   cases h6 : decide ((3 : Int) < (v.trams.length : Int))
   case' true =>
    have h6' : 3 < v.trams.length := by first | (have := of_decide_eq_false h6; omega) | (have := of_decide_eq_true h6; omega)
    (repeat (first | simp only [↓QA, QB, Nat.reduceLT, reduceIte, Nat.reduceEqDiff, Nat.reduceAdd, Nat.reduceLeDiff, Nat.reduceMul, Nat.reduceBEq, QXGTrP3, h6] | refine rd0 rfl ?_))
    simp [check3, h6', enc3]
   have h6' : ¬ 3 < v.trams.length := by first | (have := of_decide_eq_false h6; omega) | (have := of_decide_eq_true h6; omega)
   have hc : check3 v = match firstBad (tramErr v) v.trams 0 with | some (i, e) => (3, (i : Int), e) | none => check4 v := by simp only [check3, h6', if_false]; try rfl
   rw [hc]
   have hf := failing_tram [.cells (netCells v), .cells [.int .i64 (v.stations - 1)]] (.func 67 [] [.ptr 0 0, .ptr 1 0]) v.trams (tramErr v) h.trams (fun τ => by try simp only [QS, QC, Nat.reduceLT, reduceIte, Nat.reduceEqDiff, Nat.reduceAdd, Nat.reduceLeDiff, Nat.reduceMul, Nat.reduceBEq, QXGTrP3]) fun i hi => chk2_ok v h hst hra i hi _
   try simp only [↓QA, QB, Nat.reduceLT, reduceIte, Nat.reduceEqDiff, Nat.reduceAdd, Nat.reduceLeDiff, Nat.reduceMul, Nat.reduceBEq, QXGTrP3] at hf
   (repeat (first | simp only [↓QA, QB, Nat.reduceLT, reduceIte, Nat.reduceEqDiff, Nat.reduceAdd, Nat.reduceLeDiff, Nat.reduceMul, Nat.reduceBEq, QXGTrP3, h6] | refine rd0 rfl ?_))
   refine callK_same hf ?_
   cases hb : firstBad (tramErr v) v.trams 0 with
   | some p =>
    obtain ⟨i, e⟩ := p
    have he := firstBad_nz hb
    have hg : (e == 0) = false := by simpa using he
    (repeat (first | simp only [↓QA, QB, Nat.reduceLT, reduceIte, Nat.reduceEqDiff, Nat.reduceAdd, Nat.reduceLeDiff, Nat.reduceMul, Nat.reduceBEq, QXGTrP3, failF, hb, enc2, hg, enc3] | refine rd0 rfl ?_))
   | none =>
    (repeat (first | simp only [↓QA, QB, Nat.reduceLT, reduceIte, Nat.reduceEqDiff, Nat.reduceAdd, Nat.reduceLeDiff, Nat.reduceMul, Nat.reduceBEq, QXGTrP3, failF, hb, enc2] | refine rd0 rfl ?_))
    cases h7 : decide ((3 : Int) < (v.seen.length : Int))
    case' true =>
     have h7' : 3 < v.seen.length := by first | (have := of_decide_eq_false h7; omega) | (have := of_decide_eq_true h7; omega)
     (repeat (first | simp only [↓QA, QB, Nat.reduceLT, reduceIte, Nat.reduceEqDiff, Nat.reduceAdd, Nat.reduceLeDiff, Nat.reduceMul, Nat.reduceBEq, QXGTrP3, h7] | refine rd0 rfl ?_))
     simp [check4, h7', enc3]
    have h7' : ¬ 3 < v.seen.length := by first | (have := of_decide_eq_false h7; omega) | (have := of_decide_eq_true h7; omega)
    have hc : check4 v = match firstBad (seenErr v) v.seen 0 with | some (i, e) => (4, (i : Int), e) | none => (0, 0, 0) := by simp only [check4, h7', if_false]; try rfl
    rw [hc]
    have hf := failing_seen [.cells (netCells v), .cells [.int .i64 (v.stations - 1)]] (.func 73 [] [.ptr 0 0]) v.seen (seenErr v) h.seen (fun τ => by try simp only [QS, QC, Nat.reduceLT, reduceIte, Nat.reduceEqDiff, Nat.reduceAdd, Nat.reduceLeDiff, Nat.reduceMul, Nat.reduceBEq, QXGTrP3]) fun i hi => chk3_ok v h i _ _
    try simp only [↓QA, QB, Nat.reduceLT, reduceIte, Nat.reduceEqDiff, Nat.reduceAdd, Nat.reduceLeDiff, Nat.reduceMul, Nat.reduceBEq, QXGTrP3] at hf
    (repeat (first | simp only [↓QA, QB, Nat.reduceLT, reduceIte, Nat.reduceEqDiff, Nat.reduceAdd, Nat.reduceLeDiff, Nat.reduceMul, Nat.reduceBEq, QXGTrP3, h7] | refine rd0 rfl ?_))
    refine callK_same hf ?_
    cases hb : firstBad (seenErr v) v.seen 0 with
    | some p =>
     obtain ⟨i, e⟩ := p
     have he := firstBad_nz hb
     have hg : (e == 0) = false := by simpa using he
     (repeat (first | simp only [↓QA, QB, Nat.reduceLT, reduceIte, Nat.reduceEqDiff, Nat.reduceAdd, Nat.reduceLeDiff, Nat.reduceMul, Nat.reduceBEq, QXGTrP3, failF, hb, enc2, hg, enc3] | refine rd0 rfl ?_))
    | none =>
     (repeat (first | simp only [↓QA, QB, Nat.reduceLT, reduceIte, Nat.reduceEqDiff, Nat.reduceAdd, Nat.reduceLeDiff, Nat.reduceMul, Nat.reduceBEq, QXGTrP3, failF, hb, enc2, enc3] | refine rd0 rfl ?_))
end Go.Am.Room
set_option maxRecDepth 4000
namespace Go.Am.Room
def QXGTrP4 := And.intro @encNet_eq (And.intro @netCells_eq (And.intro @encRail_eq (And.intro @encTram_eq (And.intro @encSeen_eq (And.intro @encSpan_eq (And.intro @S_mapRail (And.intro @S_mapTram (And.intro @S_mapSeen (And.intro @T_sapp (And.intro @T_sapp0 (And.intro @Nat.not_lt_zero (And.intro @List.length_append.{0} (And.intro @List.length_replicate.{0} (And.intro @Nat.zero_add (And.intro @Nat.mul_one (@Int.toNat_natCast))))))))))))))))
theorem chop_ints : ∀ l : List Int, chop 1 l.length (l.map (AV.int .i64)) = l.map (.int .i64)
 | [] => rfl
 | x :: l => by simp [chop, chop_ints l, AV.cell]
theorem S_refI {σ : St} {m id n : Nat} {l : List Int} (hm : ¬ id < m) (hn : n = l.length) (hl : cellsAt σ id = some (l.map (.int .i64))) : snapM σ m 20 (.ref id 0 n 1) = some (.lit (l.map (.int .i64)) false none) := by
 subst hn
 have hv : view σ (.ref id 0 l.length 1) = some (l.map (.int .i64)) := by simp [view, hl, chop_ints]
 rw [S_ref, if_neg hm, hv]
 simp [allCells_int, S_mapI]
theorem copy_own {σ : St} {id : Nat} {l : List Int} (h : cellsAt σ id = some (List.replicate (l.length + 1) (.int .i64 0))) : copyAV 1 σ (.ref id 0 (l.length + 1) 1) (.lit (l.map (.int .i64)) false none) = some (.int .i64 l.length, σ.set id (.cells (l.map (.int .i64) ++ [.int .i64 0]))) := by
 have h1 := allCells_int l
 have h2 : (l.map (AV.int .i64)).take (l.length + 1) = l.map (.int .i64) := List.take_of_length_le (by simp)
 have h3 : Nat.min l.length (l.length + 1) = l.length := Nat.min_eq_left (by omega)
 have h4 : (List.replicate (l.length + 1) (AV.int .i64 0)).drop l.length = [.int .i64 0] := by rw [List.drop_replicate]; simp [List.replicate]
 simp [copyAV, view, sized, h1, h, setCells, h2, ints_cells, h3, h4]
theorem own_set (l : List Int) (r : Int) : (l.map (AV.int .i64) ++ [AV.int .i64 0]).take l.length ++ [AV.int .i64 r] ++ (l.map (AV.int .i64) ++ [AV.int .i64 0]).drop (l.length + 1) = (l ++ [r]).map (.int .i64) := by
 simp [List.take_append_of_le_length]
def okR (v : Net) (b : Int) (l : List Int) (r : Int) : Bool := railOkP v b r && !(l.length == 4)
def gF (v : Net) (b : Int) (l : List Int) (k : Int) : List (List Int) := ((numbers k ((v.rails.length : Int) - k).toNat).filter (okR v b l)).map fun r => l ++ [r]
def gW (v : Net) (b : Int) (l : List Int) : List (List Int) := gF v b l 0
theorem gF_step {v : Net} {k : Nat} (h : k < v.rails.length) (b : Int) (l : List Int) : gF v b l k = (if okR v b l (k : Int) = true then [l ++ [(k : Int)]] else []) ++ gF v b l ((k + 1 : Nat) : Int) := by
 have := numbers_cons (a := (k : Int)) (below := v.rails.length) (by omega)
 rw [gF, this, List.filter_cons, show (k : Int) + 1 = ((k + 1 : Nat) : Int) by omega]
 split <;> rfl
theorem gF_end (v : Net) (b : Int) (l : List Int) : gF v b l (v.rails.length : Int) = [] := by rw [gF, numbers_none (by omega)]; rfl
theorem gW_short {v : Net} {b : Int} {l : List Int} (h : l.length ≠ 4) : gW v b l = extP v b l := by
 have e : ∀ r, okR v b l r = railOkP v b r := fun r => by simp [okR, h]
 simp only [gW, gF, extP, Int.sub_zero, Int.toNat_natCast]
 congr 1
 exact List.filter_congr fun r _ => e r
theorem gW_long {v : Net} {b : Int} {l : List Int} (h : l.length = 4) : gW v b l = [] := by
 have e : ∀ r, okR v b l r = false := fun r => by simp [okR, h]
 simp only [gW, gF, List.map_eq_nil_iff, List.filter_eq_nil_iff]
 intro r _
 rw [e]; simp
def mP (v : Net) (s b : Int) (k : Nat) : List (List Int) := if k ≤ 4 then moreP v s b k else []
def aP (v : Net) (s b : Int) (k : Nat) : List (List Int) := allP v s b (min k 4)
theorem moreP_in {v : Net} {s b : Int} (hs : s ≠ 0) {k : Nat} : ∀ l ∈ moreP v s b k, l.length = k ∧ ∀ r ∈ l, 0 ≤ r ∧ r < v.rails.length := fun l hl => by
 rw [moreP_eq hs] at hl
 have := (List.mem_filter.1 hl).1
 exact ⟨moreW_len _ _ _ _ this, moreW_in _ _ _ _ this⟩
theorem moreP_cnt {v : Net} {s b : Int} (hs : s ≠ 0) (h5 : v.rails.length ≤ 5) (k : Nat) : (moreP v s b k).length ≤ 5 ^ k := by
 rw [moreP_eq hs]
 exact Nat.le_trans (List.length_filter_le _ _) (moreW_cnt v _ h5 k)
theorem allP_cnt {v : Net} {s b : Int} (hs : s ≠ 0) (h5 : v.rails.length ≤ 5) {k : Nat} (hk : k ≤ 4) : (allP v s b k).length ≤ 1000 := by
 rw [allP_eq hs k hk]
 exact waysUp_cnt h5 _ _ hk
theorem mP_in {v : Net} {s b : Int} (hs : s ≠ 0) {k : Nat} : ∀ l ∈ mP v s b k, l.length = k ∧ l.length ≤ 4 ∧ ∀ r ∈ l, 0 ≤ r ∧ r < v.rails.length := fun l hl => by
 unfold mP at hl
 split at hl
 ·have := moreP_in hs l hl
  exact ⟨this.1, by omega, this.2⟩
 ·cases hl
theorem flat_nil {α β : Type} {f : α → List β} : ∀ {l : List α}, (∀ x ∈ l, f x = []) → l.flatMap f = []
 | [], _ => rfl
 | x :: l, h => by rw [List.flatMap_cons, h x (by simp), flat_nil fun y hy => h y (by simp [hy])]; rfl
theorem mP_next {v : Net} {s b : Int} (hs : s ≠ 0) (k : Nat) : (mP v s b k).flatMap (fun l => (gW v b l).filter (beginsB v s)) = mP v s b (k + 1) := by
 unfold mP
 by_cases h : k ≤ 4
 ·rw [if_pos h]
  by_cases h4 : k = 4
  ·rw [if_neg (by omega)]
   refine flat_nil fun l hl => ?_
   rw [gW_long (by rw [(moreP_in hs l hl).1, h4])]; rfl
  ·rw [if_pos (by omega), moreP]
   refine flatMap_congr' fun l hl => ?_
   rw [gW_short (by rw [(moreP_in hs l hl).1]; exact h4)]
 ·rw [if_neg h, if_neg (by omega)]; rfl
theorem aP_next {v : Net} {s b : Int} (hs : s ≠ 0) (k : Nat) : aP v s b k ++ (mP v s b k).flatMap (fun l => (gW v b l).filter (wholeB v s)) = aP v s b (k + 1) := by
 unfold mP aP
 by_cases h : k ≤ 4
 ·rw [if_pos h]
  by_cases h4 : k = 4
  ·subst h4
   rw [flat_nil fun l hl => by rw [gW_long (moreP_in hs l hl).1]; rfl]
   simp
  ·rw [show min k 4 = k by omega, show min (k + 1) 4 = k + 1 by omega, allP]
   congr 1
   refine flatMap_congr' fun l hl => ?_
   rw [gW_short (by rw [(moreP_in hs l hl).1]; exact h4)]
 ·rw [if_neg h, show min k 4 = 4 by omega, show min (k + 1) 4 = 4 by omega]
  simp
theorem mP_empty {v : Net} {s b : Int} (hs : s ≠ 0) {k : Nat} (h : mP v s b k = []) : ∀ j, mP v s b (k + j) = [] ∧ aP v s b (k + j) = aP v s b k
 | 0 => ⟨h, rfl⟩
 | j + 1 => by
  obtain ⟨h1, h2⟩ := mP_empty hs h j
  have m := mP_next (v := v) (s := s) (b := b) hs (k + j)
  have a := aP_next (v := v) (s := s) (b := b) hs (k + j)
  rw [h1] at m a
  simp only [List.flatMap_nil, List.append_nil] at m a
  rw [show k + (j + 1) = k + j + 1 by omega]
  exact ⟨m.symm, by rw [← a, h2]⟩
theorem aP_all {v : Net} {s b : Int} (hs : s ≠ 0) {k : Nat} (h : mP v s b k = []) : aP v s b k = waysOf v s (butL b) := by
 rw [← waysP v hs]
 by_cases hk : k ≤ 4
 ·have := (mP_empty hs h (4 - k)).2
  rw [show k + (4 - k) = 4 by omega] at this
  rw [← this]; rfl
 ·rw [aP, show min k 4 = 4 by omega]
theorem beg_whole {v : Net} {s : Int} {p : List Int} (h : wholeB v s p = true) : beginsB v s p = false := by
 unfold wholeB at h
 unfold beginsB
 split at h
 ·rename_i o ho
  simp only [Bool.and_eq_true] at h
  simp [ho, h.1]
 ·cases h
theorem pways_ok (v : Net) (hv : Vd v) (s : Nat) (hs5 : s < 5) (b : Int) : Pure T 77 [encNet v, .int .i64 s, .int .i64 b] (intss (waysOf v s (butL b))) := by
 refine pure_fn (af := a77) rfl (by simp [a77]) dd ?_
 have hnr := hv.nra
 (repeat (first | simp only [↓QA, QB, Nat.reduceLT, reduceIte, Nat.reduceEqDiff, Nat.reduceAdd, Nat.reduceLeDiff, Nat.reduceMul, Nat.reduceBEq, QXGTrP4, a77] | refine rd0 rfl ?_))
 cases h0 : ((s : Int) == 0)
 case' true =>
  have h0' : (s : Int) = 0 := by simpa using h0
  have hz := ways_zero v (butL b)
  rw [← h0'] at hz
  rw [hz]
  (repeat (first | simp only [↓QA, QB, Nat.reduceLT, reduceIte, Nat.reduceEqDiff, Nat.reduceAdd, Nat.reduceLeDiff, Nat.reduceMul, Nat.reduceBEq, QXGTrP4, h0, intss_def, List.map_nil] | refine rd0 rfl ?_))
  try try simp only [QS, QC, Nat.reduceLT, reduceIte, Nat.reduceEqDiff, Nat.reduceAdd, Nat.reduceLeDiff, Nat.reduceMul, Nat.reduceBEq, QXGTrP4]
 have hs : (s : Int) ≠ 0 := by simpa using h0
 obtain ⟨Z, hZ⟩ : ∃ Z, waysOf v s (butL b) = Z := ⟨_, rfl⟩
 have hall := fun k => aP_all (v := v) (s := s) (b := b) hs (k := k)
 simp only [hZ] at hall
 rw [hZ]
 (repeat (first | simp only [↓QA, QB, Nat.reduceLT, reduceIte, Nat.reduceEqDiff, Nat.reduceAdd, Nat.reduceLeDiff, Nat.reduceMul, Nat.reduceBEq, QXGTrP4, h0] | refine rd0 rfl ?_))
 refine ghostK 6 1 [] rfl ?_
 refine loopE (S := Nat × Bool) (0, false) (fun a => a.1 ≤ 5) (fun a => 5 - a.1)
  (fun a => [(1, .int .i64 s), (2, .int .i64 b), (3, .ptr 0 0), (6, .lit ((aP v s b a.1).map ints) false (some 1)), (7, intss (mP v s b a.1))])
  (fun a => [.cells (netCells v), .tok 1 (aP v s b a.1).length a.2]) (Nat.zero_le _) (by simp [netCells, ints, aP, allP]) ?_ fun a hk => ?_
 ·try simp only [TrimX, QE, Nat.reduceLT, reduceIte, Nat.reduceEqDiff, Nat.reduceAdd, Nat.reduceLeDiff, Nat.reduceMul, Nat.reduceBEq, QXGTrP4]
  simp [intss, ints, mP, moreP, aP, allP, clr, clrs]
 ·obtain ⟨k, ex⟩ := a
  simp only at hk
  have hin := mP_in (v := v) (s := s) (b := b) hs (k := k)
  have hmn := mP_next (v := v) (s := s) (b := b) hs k
  have han := aP_next (v := v) (s := s) (b := b) hs k
  have hac : ∀ j, (aP v s b j).length ≤ 1000 := fun j => allP_cnt hs (by omega) (by omega)
  have hmc : ∀ j, (mP v s b j).length ≤ 625 := fun j => by
   unfold mP
   split
   ·exact Nat.le_trans (moreP_cnt hs (by omega) j) (Nat.le_trans (Nat.pow_le_pow_right (by omega) (by omega) : 5 ^ j ≤ 5 ^ 4) (by decide))
   ·simp
  have c1 := hac k
  have c2 := hac (k + 1)
  have c3 := hmc k
  have c4 := hmc (k + 1)
  have hfin := hall k
  have hm5 : k = 5 → mP v s b k = [] := fun q => by rw [q]; rfl
  obtain ⟨W, hW⟩ : ∃ W, mP v s b k = W := ⟨_, rfl⟩
  obtain ⟨X, hX⟩ : ∃ X, mP v s b (k + 1) = X := ⟨_, rfl⟩
  obtain ⟨O, hO⟩ : ∃ O, aP v s b k = O := ⟨_, rfl⟩
  obtain ⟨Y, hY⟩ : ∃ Y, aP v s b (k + 1) = Y := ⟨_, rfl⟩
  rw [hO] at c1 han hfin
  rw [hY] at c2 han
  rw [hX] at c4 hmn
  rw [hW] at c3 hmn han hfin hm5
  simp only [hW] at hin
  rw [hW, hO]
  (repeat (first | simp only [↓QA, QB, Nat.reduceLT, reduceIte, Nat.reduceEqDiff, Nat.reduceAdd, Nat.reduceLeDiff, Nat.reduceMul, Nat.reduceBEq, QXGTrP4, L77_0, intss] | refine rd0 rfl ?_))
  cases hne : decide ((0 : Int) < (W.length : Int))
  ·have hw0 : W = [] := by
    have : ¬ (0 : Int) < (W.length : Int) := by simpa using hne
    exact List.length_eq_zero_iff.1 (by omega)
   rw [hfin hw0]
   (repeat (first | simp only [↓QA, QB, Nat.reduceLT, reduceIte, Nat.reduceEqDiff, Nat.reduceAdd, Nat.reduceLeDiff, Nat.reduceMul, Nat.reduceBEq, QXGTrP4] | refine rd0 rfl ?_))
   try try simp only [QS, QC, Nat.reduceLT, reduceIte, Nat.reduceEqDiff, Nat.reduceAdd, Nat.reduceLeDiff, Nat.reduceMul, Nat.reduceBEq, QXGTrP4]
  ·have hw0 : W ≠ [] := by
    have : (0 : Int) < (W.length : Int) := by simpa using hne
    rintro rfl
    simp at this
   have hk4 : k < 5 := by
    by_cases q : k = 5
    ·exact absurd (hm5 q) hw0
    ·omega
   (repeat (first | simp only [↓QA, QB, Nat.reduceLT, reduceIte, Nat.reduceEqDiff, Nat.reduceAdd, Nat.reduceLeDiff, Nat.reduceMul, Nat.reduceBEq, QXGTrP4] | refine rd0 rfl ?_))
   refine ghostK 8 1 [] rfl ?_
   (repeat (first | simp only [↓QA, QB, Nat.reduceLT, reduceIte, Nat.reduceEqDiff, Nat.reduceAdd, Nat.reduceLeDiff, Nat.reduceMul, Nat.reduceBEq, QXGTrP4] | refine rd0 rfl ?_))
   refine loopE (S := Nat × List (List Int) × List (List Int) × Bool × Bool) (0, O, [], ex, false) (fun a => a.1 ≤ W.length ∧ a.2.2.1 ++ (W.drop a.1).flatMap (fun l => (gW v b l).filter (beginsB v s)) = X ∧ a.2.1 ++ (W.drop a.1).flatMap (fun l => (gW v b l).filter (wholeB v s)) = Y) (fun a => W.length - a.1)
    (fun a => [(1, .int .i64 s), (2, .int .i64 b), (3, .ptr 0 0), (6, .lit (a.2.1.map ints) false (some 1)), (8, .lit (a.2.2.1.map ints) false (some 2)), (22, intss W), (23, .int .i64 W.length), (24, .int .i64 a.1)])
    (fun a => [.cells (netCells v), .tok 1 a.2.1.length a.2.2.2.1, .tok 1 a.2.2.1.length a.2.2.2.2]) ⟨Nat.zero_le _, by simpa using hmn, by simpa using han⟩ (by simp [netCells, ints]) ?_ fun a ha => ?_
   ·try simp only [TrimX, QE, Nat.reduceLT, reduceIte, Nat.reduceEqDiff, Nat.reduceAdd, Nat.reduceLeDiff, Nat.reduceMul, Nat.reduceBEq, QXGTrP4, intss, ints]
    try simp
   ·obtain ⟨i, O, A, ex, ex2⟩ := a
    obtain ⟨hi, hA, hB⟩ := ha
    simp only at hi hA hB
    (repeat (first | simp only [↓QA, QB, Nat.reduceLT, reduceIte, Nat.reduceEqDiff, Nat.reduceAdd, Nat.reduceLeDiff, Nat.reduceMul, Nat.reduceBEq, QXGTrP4, L77_2, intss] | refine rd0 rfl ?_))
    refine iteP_intro (fun h2 => ?_) fun h2 => ?_
    ·have hi1 : i < W.length := by simpa using h2
     have hwi := wrapN hi1 (by omega)
     obtain ⟨l, hl⟩ : ∃ l, W[i] = l := ⟨_, rfl⟩
     obtain ⟨_, hl4, hlr⟩ := hin _ (List.getElem_mem hi1)
     rw [hl] at hl4 hlr
     rw [List.drop_eq_getElem_cons hi1, hl, List.flatMap_cons] at hA hB
     obtain ⟨F, hF⟩ : ∃ F, (W.drop (i + 1)).flatMap (fun l => (gW v b l).filter (beginsB v s)) = F := ⟨_, rfl⟩
     obtain ⟨G, hG⟩ : ∃ G, (W.drop (i + 1)).flatMap (fun l => (gW v b l).filter (wholeB v s)) = G := ⟨_, rfl⟩
     rw [hF, gW] at hA
     rw [hG, gW] at hB
     have hwl := wrapN (show l.length < 5 by omega) (by omega)
     have hmk : vMkslice 8 (.int .i64 ((l.length + 1 : Nat) : Int)) (.int .i64 ((l.length + 1 : Nat) : Int)) = some (l.length + 1) := by simp [vMkslice, room]; omega
     (repeat (first | simp only [↓QA, QB, Nat.reduceLT, reduceIte, Nat.reduceEqDiff, Nat.reduceAdd, Nat.reduceLeDiff, Nat.reduceMul, Nat.reduceBEq, QXGTrP4, hi1, hl, intss] | refine rd0 rfl ?_))
     refine loopE (S := Nat × List (List Int) × List (List Int) × Bool × Bool) (0, O, A, ex, ex2) (fun a => a.1 ≤ v.rails.length ∧ a.2.2.1 ++ ((gF v b l a.1).filter (beginsB v s) ++ F) = X ∧ a.2.1 ++ ((gF v b l a.1).filter (wholeB v s) ++ G) = Y) (fun a => v.rails.length - a.1)
      (fun a => [(1, .int .i64 s), (2, .int .i64 b), (3, .ptr 0 0), (6, .lit (a.2.1.map ints) false (some 1)), (8, .lit (a.2.2.1.map ints) false (some 2)), (10, ints l), (22, intss W), (23, .int .i64 W.length), (24, .int .i64 i), (29, .lit (v.rails.map encRail) false none), (30, .int .i64 v.rails.length), (31, .int .i64 a.1)])
      (fun a => [.cells (netCells v), .tok 1 a.2.1.length a.2.2.2.1, .tok 1 a.2.2.1.length a.2.2.2.2]) ⟨Nat.zero_le _, hA, hB⟩ (by simp [netCells]) ?_ fun a ha => ?_
     ·try simp only [TrimX, QE, Nat.reduceLT, reduceIte, Nat.reduceEqDiff, Nat.reduceAdd, Nat.reduceLeDiff, Nat.reduceMul, Nat.reduceBEq, QXGTrP4, intss, ints]
      try simp
     ·obtain ⟨r, O, A, ex, ex2⟩ := a
      obtain ⟨hr, hA, hB⟩ := ha
      simp only at hr hA hB
      (repeat (first | simp only [↓QA, QB, Nat.reduceLT, reduceIte, Nat.reduceEqDiff, Nat.reduceAdd, Nat.reduceLeDiff, Nat.reduceMul, Nat.reduceBEq, QXGTrP4, L77_4, intss] | refine rd0 rfl ?_))
      refine iteP_intro (fun h3 => ?_) fun h3 => ?_
      ·have hr1 : r < v.rails.length := by simpa using h3
       have hwr := wrapN hr1 (by omega)
       rw [gF_step hr1] at hA hB
       have hok : okR v b l (r : Int) = (!((r : Int) == b) && !(v.rails[r].shut == 1) && !((l.length : Int) == 4)) := by
        rw [okR, railOkP, rail_at hr1]
        have e1 : (v.rails[r].shut == 1) = decide (v.rails[r].shut = 1) := by rw [Bool.eq_iff_iff]; simp
        have e2 : ((l.length : Int) == 4) = (l.length == 4) := by rw [Bool.eq_iff_iff]; simp; omega
        rw [e1, e2]
       obtain ⟨z, hz⟩ : ∃ z, v.rails[r] = z := ⟨_, rfl⟩
       rw [hz] at hok
       obtain ⟨E, hE⟩ : ∃ E, gF v b l ((r + 1 : Nat) : Int) = E := ⟨_, rfl⟩
       rw [hE] at hA hB
       have no : okR v b l (r : Int) = false → A ++ (E.filter (beginsB v s) ++ F) = X ∧ O ++ (E.filter (wholeB v s) ++ G) = Y := fun q => by
        rw [q] at hA hB
        exact ⟨by simpa using hA, by simpa using hB⟩
       (repeat (first | simp only [↓QA, QB, Nat.reduceLT, reduceIte, Nat.reduceEqDiff, Nat.reduceAdd, Nat.reduceLeDiff, Nat.reduceMul, Nat.reduceBEq, QXGTrP4, hr1, hz] | refine rd0 rfl ?_))
       cases q0 : ((r : Int) == b)
       ·cases q1 : (z.shut == 1)
        ·cases q2 : ((l.length : Int) == 4)
         ·rw [q0, q1, q2] at hok
          rw [hok] at hA hB
          simp only [Bool.not_false, Bool.and_self, if_true, List.singleton_append, List.cons_append, List.filter_cons] at hA hB
          have hal : A.length ≤ 625 := by
           have := congrArg List.length hA
           simp only [List.length_append] at this
           omega
          have hol : O.length ≤ 1000 := by
           have := congrArg List.length hB
           simp only [List.length_append] at this
           omega
          have hbw := beg_whole (v := v) (s := s) (p := l ++ [(r : Int)])
          have hld := pleads_ok v hv.st hv.ra s hs5 (l ++ [(r : Int)]) (fun x hx => by
           rcases List.mem_append.1 hx with hx | hx
           ·exact hlr x hx
           ·simp only [List.mem_singleton] at hx; subst hx; omega) (by simp; omega)
          have hcp := fun (b0 b1 b2 b3 : ABlk) => copy_own (σ := [b0, b1, b2, b3, .cells (List.replicate (l.length + 1) (.int .i64 0))]) (id := 4) (l := l) rfl
          have hos := own_set l r
          have hsr := fun (b0 b1 b2 b3 : ABlk) (m : Nat) (hm : m ≤ 4) => S_refI (σ := [b0, b1, b2, b3, .cells ((l ++ [(r : Int)]).map (.int .i64))]) (m := m) (id := 4) (n := l.length + 1) (l := l ++ [(r : Int)]) (by omega) (by simp) rfl
          have i4 : (0 : Int) ≤ (l.length : Int) ∧ (l.length : Int) < ((l.length + 1 : Nat) : Int) ∧ 1 = 1 := ⟨by omega, by omega, rfl⟩
          obtain ⟨WB, hWB⟩ : ∃ WB, wholeB v s (l ++ [(r : Int)]) = WB := ⟨_, rfl⟩
          obtain ⟨BB, hBB⟩ : ∃ BB, beginsB v s (l ++ [(r : Int)]) = BB := ⟨_, rfl⟩
          rw [hWB, hBB] at hld
          rw [hWB] at hB hbw
          rw [hBB] at hA hbw
          have a2 := fun (b0 b1 : ABlk) (τ : St) => append_at (σ := b0 :: b1 :: .tok 1 A.length ex2 :: τ) (t := 2) (ex := ex2) (sz := 1) (b := 24) (xs := A.map ints) (ys := [.ref 4 0 (l.length + 1) 1]) (f := true) (tk := none) ⟨allCells_ints A, by simp [allCells, AV.cells, AV.cell], by simp [room]; omega, by simp [room]; omega⟩ (by simp) A.length (by simp) rfl
          have a3 := fun (b0 : ABlk) (τ : St) => append_at (σ := b0 :: .tok 1 O.length ex :: τ) (t := 1) (ex := ex) (sz := 1) (b := 24) (xs := O.map ints) (ys := [.ref 4 0 (l.length + 1) 1]) (f := true) (tk := none) ⟨allCells_ints O, by simp [allCells, AV.cells, AV.cell], by simp [room]; omega, by simp [room]; omega⟩ (by simp) O.length (by simp) rfl
          have hml : (l ++ [(r : Int)]).map (AV.int .i64) = l.map (.int .i64) ++ [.int .i64 r] := by simp
          (repeat (first | simp only [↓QA, QB, Nat.reduceLT, reduceIte, Nat.reduceEqDiff, Nat.reduceAdd, Nat.reduceLeDiff, Nat.reduceMul, Nat.reduceBEq, QXGTrP4, q0, q1, q2, hwl, hmk, flat_zeros, hcp, i4, hos] | refine rd0 rfl ?_))
          refine callK_s hld (by try simp only [QS, QC, Nat.reduceLT, reduceIte, Nat.reduceEqDiff, Nat.reduceAdd, Nat.reduceLeDiff, Nat.reduceMul, Nat.reduceBEq, QXGTrP4, hsr]) (by simp [Scal, Scals]) ?_
          (repeat (first | simp only [↓QA, QB, Nat.reduceLT, reduceIte, Nat.reduceEqDiff, Nat.reduceAdd, Nat.reduceLeDiff, Nat.reduceMul, Nat.reduceBEq, QXGTrP4] | refine rd0 rfl ?_))
          cases WB
          ·cases BB
           ·(repeat (first | simp only [↓QA, QB, Nat.reduceLT, reduceIte, Nat.reduceEqDiff, Nat.reduceAdd, Nat.reduceLeDiff, Nat.reduceMul, Nat.reduceBEq, QXGTrP4, hwr] | refine rd0 rfl ?_))
            refine ⟨(r + 1, O, A, ex, ex2), ⟨by simp only; omega, by rw [hE]; simpa using hA, by rw [hE]; simpa using hB⟩, by simp only; omega, ?_⟩
            try simp only [TrimX, QE, Nat.reduceLT, reduceIte, Nat.reduceEqDiff, Nat.reduceAdd, Nat.reduceLeDiff, Nat.reduceMul, Nat.reduceBEq, QXGTrP4, hwr, intss, ints]
            try simp [okBlk]
           ·(repeat (first | simp only [↓QA, QB, Nat.reduceLT, reduceIte, Nat.reduceEqDiff, Nat.reduceAdd, Nat.reduceLeDiff, Nat.reduceMul, Nat.reduceBEq, QXGTrP4, hwr, a2] | refine rd0 rfl ?_))
            refine ⟨(r + 1, O, A ++ [l ++ [(r : Int)]], ex, true), ⟨by simp only; omega, by rw [hE, ← hA]; simp, by rw [hE]; simpa using hB⟩, by simp only; omega, ?_⟩
            have hs1 := S_refI (σ := [.cells (netCells v), .tok 1 O.length ex, .tok 1 (A.length + 1) true, .cells (encRail z).cells, .cells ((l ++ [(r : Int)]).map (.int .i64))]) (m := 3) (id := 4) (n := l.length + 1) (l := l ++ [(r : Int)]) (by omega) (by simp) rfl
            rw [hml] at hs1
            try simp only [↓QA, QB, Nat.reduceLT, reduceIte, Nat.reduceEqDiff, Nat.reduceAdd, Nat.reduceLeDiff, Nat.reduceMul, Nat.reduceBEq, QXGTrP4] at hs1
            try simp only [TrimX, QE, Nat.reduceLT, reduceIte, Nat.reduceEqDiff, Nat.reduceAdd, Nat.reduceLeDiff, Nat.reduceMul, Nat.reduceBEq, QXGTrP4, hwr, intss, ints, hs1, List.map_append, List.map_cons, List.map_nil]
            try simp [okBlk]
          ·have := hbw rfl
           subst this
           (repeat (first | simp only [↓QA, QB, Nat.reduceLT, reduceIte, Nat.reduceEqDiff, Nat.reduceAdd, Nat.reduceLeDiff, Nat.reduceMul, Nat.reduceBEq, QXGTrP4, hwr, a3] | refine rd0 rfl ?_))
           refine ⟨(r + 1, O ++ [l ++ [(r : Int)]], A, true, ex2), ⟨by simp only; omega, by rw [hE]; simpa using hA, by rw [hE, ← hB]; simp⟩, by simp only; omega, ?_⟩
           have hs1 := S_refI (σ := [.cells (netCells v), .tok 1 (O.length + 1) true, .tok 1 A.length ex2, .cells (encRail z).cells, .cells ((l ++ [(r : Int)]).map (.int .i64))]) (m := 3) (id := 4) (n := l.length + 1) (l := l ++ [(r : Int)]) (by omega) (by simp) rfl
           rw [hml] at hs1
           try simp only [↓QA, QB, Nat.reduceLT, reduceIte, Nat.reduceEqDiff, Nat.reduceAdd, Nat.reduceLeDiff, Nat.reduceMul, Nat.reduceBEq, QXGTrP4] at hs1
           try simp only [TrimX, QE, Nat.reduceLT, reduceIte, Nat.reduceEqDiff, Nat.reduceAdd, Nat.reduceLeDiff, Nat.reduceMul, Nat.reduceBEq, QXGTrP4, hwr, intss, ints, hs1, List.map_append, List.map_cons, List.map_nil]
           try simp [okBlk]
         ·have nn := no (by rw [hok, q2]; simp)
          (repeat (first | simp only [↓QA, QB, Nat.reduceLT, reduceIte, Nat.reduceEqDiff, Nat.reduceAdd, Nat.reduceLeDiff, Nat.reduceMul, Nat.reduceBEq, QXGTrP4, q0, q1, q2, hwr] | refine rd0 rfl ?_))
          refine ⟨(r + 1, O, A, ex, ex2), ⟨by simp only; omega, by rw [hE]; exact nn.1, by rw [hE]; exact nn.2⟩, by simp only; omega, ?_⟩
          try simp only [TrimX, QE, Nat.reduceLT, reduceIte, Nat.reduceEqDiff, Nat.reduceAdd, Nat.reduceLeDiff, Nat.reduceMul, Nat.reduceBEq, QXGTrP4, hwr, intss, ints]
          try simp [okBlk]
        ·have nn := no (by rw [hok, q1]; simp)
         (repeat (first | simp only [↓QA, QB, Nat.reduceLT, reduceIte, Nat.reduceEqDiff, Nat.reduceAdd, Nat.reduceLeDiff, Nat.reduceMul, Nat.reduceBEq, QXGTrP4, q0, q1, hwr] | refine rd0 rfl ?_))
         refine ⟨(r + 1, O, A, ex, ex2), ⟨by simp only; omega, by rw [hE]; exact nn.1, by rw [hE]; exact nn.2⟩, by simp only; omega, ?_⟩
         try simp only [TrimX, QE, Nat.reduceLT, reduceIte, Nat.reduceEqDiff, Nat.reduceAdd, Nat.reduceLeDiff, Nat.reduceMul, Nat.reduceBEq, QXGTrP4, hwr, intss, ints]
         try simp [okBlk]
       ·have nn := no (by rw [hok, q0]; simp)
        (repeat (first | simp only [↓QA, QB, Nat.reduceLT, reduceIte, Nat.reduceEqDiff, Nat.reduceAdd, Nat.reduceLeDiff, Nat.reduceMul, Nat.reduceBEq, QXGTrP4, q0, hwr] | refine rd0 rfl ?_))
        refine ⟨(r + 1, O, A, ex, ex2), ⟨by simp only; omega, by rw [hE]; exact nn.1, by rw [hE]; exact nn.2⟩, by simp only; omega, ?_⟩
        try simp only [TrimX, QE, Nat.reduceLT, reduceIte, Nat.reduceEqDiff, Nat.reduceAdd, Nat.reduceLeDiff, Nat.reduceMul, Nat.reduceBEq, QXGTrP4, hwr, intss, ints]
        try simp [okBlk]
      ·have hr1 : r = v.rails.length := by simp at h3; omega
       rw [hr1, gF_end] at hA hB
       simp only [List.nil_append, List.filter_nil] at hA hB
       (repeat (first | simp only [↓QA, QB, Nat.reduceLT, reduceIte, Nat.reduceEqDiff, Nat.reduceAdd, Nat.reduceLeDiff, Nat.reduceMul, Nat.reduceBEq, QXGTrP4, hwi] | refine rd0 rfl ?_))
       refine ⟨(i + 1, O, A, ex, ex2), ⟨by simp only; omega, by rw [hF]; exact hA, by rw [hG]; exact hB⟩, by simp only; omega, ?_⟩
       try simp only [TrimX, QE, Nat.reduceLT, reduceIte, Nat.reduceEqDiff, Nat.reduceAdd, Nat.reduceLeDiff, Nat.reduceMul, Nat.reduceBEq, QXGTrP4, hwi, intss, ints]
       try simp [okBlk]
    ·have hi1 : i = W.length := by simp at h2; omega
     rw [hi1, List.drop_length] at hA hB
     simp only [List.flatMap_nil, List.append_nil] at hA hB
     subst hA hB
     (repeat (first | simp only [↓QA, QB, Nat.reduceLT, reduceIte, Nat.reduceEqDiff, Nat.reduceAdd, Nat.reduceLeDiff, Nat.reduceMul, Nat.reduceBEq, QXGTrP4] | refine rd0 rfl ?_))
     refine ⟨(k + 1, ex), by simp only; omega, by simp only; omega, ?_⟩
     try simp only [TrimX, QE, Nat.reduceLT, reduceIte, Nat.reduceEqDiff, Nat.reduceAdd, Nat.reduceLeDiff, Nat.reduceMul, Nat.reduceBEq, QXGTrP4, hX, hY, intss, ints]
     try simp [okBlk]
end Go.Am.Room
set_option maxRecDepth 4000
namespace Go.Am.Room
def QXGTrP5 := And.intro @encNet_eq (And.intro @netCells_eq (And.intro @encRail_eq (And.intro @encTram_eq (And.intro @encSeen_eq (And.intro @encSpan_eq (And.intro @S_mapRail (And.intro @S_mapTram (And.intro @S_mapSeen (And.intro @T_sapp (And.intro @T_sapp0 (And.intro @Nat.not_lt_zero (And.intro @List.length_append.{0} (And.intro @Nat.zero_add (And.intro @Nat.mul_one (And.intro @Int.toNat_natCast (And.intro @arrA_len (And.intro @arrA_take (And.intro @arrA_drop (And.intro @S_arrA (@arrA_cell))))))))))))))))))))
def encSP (x : Stay) : AV := .agg [.int .i64 x.rail, .int .i64 x.frm, .int .i64 x.til]
theorem encSP_eq (x : Stay) : encSP x = .agg [.int .i64 x.rail, .int .i64 x.frm, .int .i64 x.til] := by simp only [encSP]
theorem data_sp (x : Stay) : Data (encSP x) := data_agg (datas_cons (data_int _ _) (datas_cons (data_int _ _) (datas_cons (data_int _ _) datas_nil)))
instance (x : Stay) : Dat (encSP x) := ⟨data_sp x⟩
instance (l : List Stay) : Dats (l.map encSP) := ⟨datas_map data_sp l⟩
theorem S_mapSP (σ : St) (m d : Nat) (l : List Stay) : snapMs σ m d (l.map encSP) = some (l.map encSP) := S_datas (datas_map data_sp l) σ m d
theorem allCells_sp (l : List Stay) : allCells 3 (l.map encSP) = true := L_allM 3 encSP l fun x => by simp [cellsOk, encSP, AV.cells, AV.cell]
def db (v : Net) (b m : Nat) : List AV := netCells v ++ [.int .i64 b, .map m]
theorem db_0 (v : Net) (b m : Nat) : (db v b m)[0]? = some (.int .i64 v.stations) := by simp [db, netCells]
theorem db_1 (v : Net) (b m : Nat) : (db v b m)[1]? = some (.lit (v.rails.map encRail) false none) := by simp [db, netCells]
theorem db_2 (v : Net) (b m : Nat) : (db v b m)[2]? = some (.lit (v.trams.map encTram) false none) := by simp [db, netCells]
theorem db_3 (v : Net) (b m : Nat) : (db v b m)[3]? = some (.lit (v.seen.map encSeen) false none) := by simp [db, netCells]
theorem db_4 (v : Net) (b m : Nat) : (db v b m)[4]? = some (.int .i64 b) := by simp [db, netCells]
theorem db_5 (v : Net) (b m : Nat) : (db v b m)[5]? = some (.map m) := by simp [db, netCells]
theorem pfree_ok (ss : List Stay) (rail ready m B : Int) (hl : ss.length < 9223372036854775808) (hB : ∀ x ∈ ss, x.til ≤ B) (h0 : 0 ≤ ready) (hr : ready ≤ B) (hB2 : B ≤ 1000) (hm : 0 ≤ m ∧ m ≤ 20) :
  Pure T 120 [.lit (ss.map encSP) false none, .agg [.int .i64 rail, .int .i64 ready, .int .i64 (ready + m)]] (.int .i64 (freeOf ss rail ready m)) := by
 refine pure_fn (af := a120) rfl (by simp [a120]) dd ?_
 have hfi := freeOf_is (rail := rail) (m := m) hB (show B ≤ ready + 1000 by omega)
 obtain ⟨Z, hZ⟩ : ∃ Z, freeOf ss rail ready m = Z := ⟨_, rfl⟩
 rw [hZ] at hfi ⊢
 (repeat (first | simp only [↓QA, QB, Nat.reduceLT, reduceIte, Nat.reduceEqDiff, Nat.reduceAdd, Nat.reduceLeDiff, Nat.reduceMul, Nat.reduceBEq, QXGTrP5, encSP_eq, S_mapSP, db_0, db_1, db_2, db_3, db_4, db_5, a120] | refine rd0 rfl ?_))
 refine loopE (S := Int) ready (fun r => BusyTo ss rail m ready r) (fun r => (B - r).toNat)
  (fun r => [(0, .lit (ss.map encSP) false none), (3, .ptr 0 0)]) (fun r => [.cells [.int .i64 rail, .int .i64 r, .int .i64 (r + m)]]) (busy_self _ _ _ _) rfl ?_ fun r hb => ?_
 ·try simp only [TrimX, QE, Nat.reduceLT, reduceIte, Nat.reduceEqDiff, Nat.reduceAdd, Nat.reduceLeDiff, Nat.reduceMul, Nat.reduceBEq, QXGTrP5, encSP_eq, S_mapSP, db_0, db_1, db_2, db_3, db_4, db_5]
  try simp
 ·have hrB := busy_le hB hb hr
  have hr0 := hb.1
  (repeat (first | simp only [↓QA, QB, Nat.reduceLT, reduceIte, Nat.reduceEqDiff, Nat.reduceAdd, Nat.reduceLeDiff, Nat.reduceMul, Nat.reduceBEq, QXGTrP5, encSP_eq, S_mapSP, db_0, db_1, db_2, db_3, db_4, db_5, L120_0] | refine rd0 rfl ?_))
  refine loopE (S := Nat × Int) (0, r) (fun a => a.1 ≤ ss.length ∧ Look ss rail m ready r a.1 a.2) (fun a => ss.length - a.1)
   (fun a => [(0, .lit (ss.map encSP) false none), (3, .ptr 0 0), (5, .ptr 1 0), (10, .lit (ss.map encSP) false none), (11, .int .i64 ss.length), (12, .int .i64 a.1)]) (fun a => [.cells [.int .i64 rail, .int .i64 a.2, .int .i64 (a.2 + m)], .cells [.int .i64 rail, .int .i64 r, .int .i64 (r + m)]]) ⟨by simp, .inl ⟨rfl, by simp⟩⟩ rfl ?_ fun a ha => ?_
  ·try simp only [TrimX, QE, Nat.reduceLT, reduceIte, Nat.reduceEqDiff, Nat.reduceAdd, Nat.reduceLeDiff, Nat.reduceMul, Nat.reduceBEq, QXGTrP5, encSP_eq, S_mapSP, db_0, db_1, db_2, db_3, db_4, db_5]
   try simp
  ·obtain ⟨k, n⟩ := a
   obtain ⟨hk, hlk⟩ := ha
   simp only at hk hlk
   have hbn : BusyTo ss rail m ready n := by
    rcases hlk with ⟨e, _⟩ | ⟨_, e⟩
    ·rw [e]; exact hb
    ·exact e
   have hnB := busy_le hB hbn hr
   have hn0 := hbn.1
   (repeat (first | simp only [↓QA, QB, Nat.reduceLT, reduceIte, Nat.reduceEqDiff, Nat.reduceAdd, Nat.reduceLeDiff, Nat.reduceMul, Nat.reduceBEq, QXGTrP5, encSP_eq, S_mapSP, db_0, db_1, db_2, db_3, db_4, db_5, L120_2] | refine rd0 rfl ?_))
   refine iteP_intro (fun h => ?_) fun h => ?_
   ·have hk1 : k < ss.length := by simpa using h
    have hw := wrapN hk1 hl
    obtain ⟨x, hx⟩ : ∃ x, ss[k] = x := ⟨_, rfl⟩
    have hxm : x ∈ ss := by rw [← hx]; exact List.getElem_mem hk1
    have hat := any_take (p := clash rail r m) hk1
    rw [hx] at hat
    have no : clash rail n m x = false → Look ss rail m ready r (k + 1) n := fun q => by
     rcases hlk with ⟨e, a⟩ | e
     ·subst e
      exact .inl ⟨rfl, by rw [hat, a, q]; rfl⟩
     ·exact .inr e
    have yes : clash rail n m x = true → Look ss rail m ready r (k + 1) x.til := fun q => by
     have q1 := clash_lt q
     have hrn : r ≤ n := by rcases hlk with ⟨e, _⟩ | ⟨e, _⟩ <;> omega
     exact .inr ⟨by omega, busy_more hbn hxm (Int.le_refl n) q (fun y h1 h2 => by omega)⟩
    have hcl : clash rail n m x = ((x.rail == rail) && decide (x.frm < n + m) && decide (n < x.til)) := by
     have : decide (x.rail = rail) = (x.rail == rail) := by rw [Bool.eq_iff_iff]; simp
     rw [clash, this]
    have hxB := hB x hxm
    (repeat (first | simp only [↓QA, QB, Nat.reduceLT, reduceIte, Nat.reduceEqDiff, Nat.reduceAdd, Nat.reduceLeDiff, Nat.reduceMul, Nat.reduceBEq, QXGTrP5, encSP_eq, S_mapSP, db_0, db_1, db_2, db_3, db_4, db_5, hk1, hx] | refine rd0 rfl ?_))
    cases q1 : (x.rail == rail)
    ·have nn := no (by rw [hcl, q1]; simp)
     (repeat (first | simp only [↓QA, QB, Nat.reduceLT, reduceIte, Nat.reduceEqDiff, Nat.reduceAdd, Nat.reduceLeDiff, Nat.reduceMul, Nat.reduceBEq, QXGTrP5, encSP_eq, S_mapSP, db_0, db_1, db_2, db_3, db_4, db_5, q1, hw] | refine rd0 rfl ?_))
     refine ⟨(k + 1, n), ⟨by simp only; omega, nn⟩, by simp only; omega, ?_⟩
     try simp only [TrimX, QE, Nat.reduceLT, reduceIte, Nat.reduceEqDiff, Nat.reduceAdd, Nat.reduceLeDiff, Nat.reduceMul, Nat.reduceBEq, QXGTrP5, encSP_eq, S_mapSP, db_0, db_1, db_2, db_3, db_4, db_5, hw]
     try simp [okBlk]
    ·cases q2 : decide (x.frm < n + m)
     ·have nn := no (by rw [hcl, q1, q2]; simp)
      (repeat (first | simp only [↓QA, QB, Nat.reduceLT, reduceIte, Nat.reduceEqDiff, Nat.reduceAdd, Nat.reduceLeDiff, Nat.reduceMul, Nat.reduceBEq, QXGTrP5, encSP_eq, S_mapSP, db_0, db_1, db_2, db_3, db_4, db_5, q1, hw, q2] | refine rd0 rfl ?_))
      refine ⟨(k + 1, n), ⟨by simp only; omega, nn⟩, by simp only; omega, ?_⟩
      try simp only [TrimX, QE, Nat.reduceLT, reduceIte, Nat.reduceEqDiff, Nat.reduceAdd, Nat.reduceLeDiff, Nat.reduceMul, Nat.reduceBEq, QXGTrP5, encSP_eq, S_mapSP, db_0, db_1, db_2, db_3, db_4, db_5, hw]
      try simp [okBlk]
     ·cases q3 : decide (n < x.til)
      ·have nn := no (by rw [hcl, q1, q2, q3]; simp)
       (repeat (first | simp only [↓QA, QB, Nat.reduceLT, reduceIte, Nat.reduceEqDiff, Nat.reduceAdd, Nat.reduceLeDiff, Nat.reduceMul, Nat.reduceBEq, QXGTrP5, encSP_eq, S_mapSP, db_0, db_1, db_2, db_3, db_4, db_5, q1, hw, q2, q3] | refine rd0 rfl ?_))
       refine ⟨(k + 1, n), ⟨by simp only; omega, nn⟩, by simp only; omega, ?_⟩
       try simp only [TrimX, QE, Nat.reduceLT, reduceIte, Nat.reduceEqDiff, Nat.reduceAdd, Nat.reduceLeDiff, Nat.reduceMul, Nat.reduceBEq, QXGTrP5, encSP_eq, S_mapSP, db_0, db_1, db_2, db_3, db_4, db_5, hw]
       try simp [okBlk]
      ·have hc : clash rail n m x = true := by rw [hcl, q1, q2, q3]; rfl
       have nn := yes hc
       have hlt := clash_lt hc
       have w1 : IntKind.i64.wrap (n + m - n) = m := by rw [show n + m - n = m by omega]; exact wrap64 ⟨by omega, by omega⟩
       have w2 : IntKind.i64.wrap (x.til + m) = x.til + m := wrap64 ⟨by omega, by omega⟩
       (repeat (first | simp only [↓QA, QB, Nat.reduceLT, reduceIte, Nat.reduceEqDiff, Nat.reduceAdd, Nat.reduceLeDiff, Nat.reduceMul, Nat.reduceBEq, QXGTrP5, encSP_eq, S_mapSP, db_0, db_1, db_2, db_3, db_4, db_5, q1, hw, q2, q3, w1, w2] | refine rd0 rfl ?_))
       refine ⟨(k + 1, x.til), ⟨by simp only; omega, nn⟩, by simp only; omega, ?_⟩
       try simp only [TrimX, QE, Nat.reduceLT, reduceIte, Nat.reduceEqDiff, Nat.reduceAdd, Nat.reduceLeDiff, Nat.reduceMul, Nat.reduceBEq, QXGTrP5, encSP_eq, S_mapSP, db_0, db_1, db_2, db_3, db_4, db_5, hw]
       try simp [okBlk, okVs, okV]
   ·have hk1 : k = ss.length := by simp at h; omega
    rw [hk1] at hlk
    have hrr : (rail == rail) = true := by simp
    rcases hlk with ⟨e, a⟩ | ⟨e1, e2⟩
    ·rw [List.take_length] at a
     have hz := free_uniq hfi (busy_free hb a)
     subst e
     have g : (n == n) = true := by simp
     have g2 : (n + m == n + m) = true := by simp
     (repeat (first | simp only [↓QA, QB, Nat.reduceLT, reduceIte, Nat.reduceEqDiff, Nat.reduceAdd, Nat.reduceLeDiff, Nat.reduceMul, Nat.reduceBEq, QXGTrP5, encSP_eq, S_mapSP, db_0, db_1, db_2, db_3, db_4, db_5, g, g2, hrr, hz] | refine rd0 rfl ?_))
    ·have g : (n == r) = false := by simp; omega
     (repeat (first | simp only [↓QA, QB, Nat.reduceLT, reduceIte, Nat.reduceEqDiff, Nat.reduceAdd, Nat.reduceLeDiff, Nat.reduceMul, Nat.reduceBEq, QXGTrP5, encSP_eq, S_mapSP, db_0, db_1, db_2, db_3, db_4, db_5, g, hrr, Bool.false_and] | refine rd0 rfl ?_))
     refine ⟨n, e2, by omega, ?_⟩
     try simp only [TrimX, QE, Nat.reduceLT, reduceIte, Nat.reduceEqDiff, Nat.reduceAdd, Nat.reduceLeDiff, Nat.reduceMul, Nat.reduceBEq, QXGTrP5, encSP_eq, S_mapSP, db_0, db_1, db_2, db_3, db_4, db_5]
     try simp [okBlk, okVs, okV]
theorem own_same (v : Net) (b m p : Nat) (σ : St) (hσ : cellsAt σ p = some (db v b m)) (i : Nat) (hi : i < v.trams.length) : Same T (.func 110 [.ptr p 0] []) [.int .i64 i] σ (ints (pathAt (ownOf v) i)) := by
 refine same_fn (af := a110) rfl (by simp [a110]) ?_
 rw [own_at hi]
 obtain ⟨z, hz⟩ : ∃ z, v.trams[i] = z := ⟨_, rfl⟩
 rw [hz]
 (repeat (first | simp only [↓QA, QB, Nat.reduceLT, reduceIte, Nat.reduceEqDiff, Nat.reduceAdd, Nat.reduceLeDiff, Nat.reduceMul, Nat.reduceBEq, QXGTrP5, encSP_eq, S_mapSP, db_0, db_1, db_2, db_3, db_4, db_5, a110, hσ, hi, hz] | refine rd0 rfl ?_))
 refine baseR [] (by first | rfl | simp) ?_
 try simp only [QS, QC, Nat.reduceLT, reduceIte, Nat.reduceEqDiff, Nat.reduceAdd, Nat.reduceLeDiff, Nat.reduceMul, Nat.reduceBEq, QXGTrP5, encSP_eq, S_mapSP, db_0, db_1, db_2, db_3, db_4, db_5]
def comeF (cs : List Int) (j : Nat) : Int := comeAt cs (j : Int)
theorem comeF_snoc (cs : List Int) (x : Int) {k : Nat} (hk : cs.length = k) : comeF (cs ++ [x]) = updF (comeF cs) k x := by
 funext j
 simp only [comeF, comeAt, Int.toNat_natCast, updF]
 by_cases e : j = k
 ·subst e; simp [← hk]
 ·rw [if_neg e]
  by_cases h : j < cs.length
  ·rw [List.getElem?_append_left h]
  ·rw [List.getElem?_eq_none (by simp; omega), List.getElem?_eq_none (by omega)]
theorem upd_upd (f : Nat → Int) (i : Nat) (a b : Int) : updF (updF f i a) i b = updF f i b := by
 funext j; simp only [updF]; split <;> rfl
theorem upd_at (f : Nat → Int) (i : Nat) (a : Int) : updF f i a i = a := by simp [updF]
theorem comes0 (v : Net) (m : Int → Int) (ps : List (List Int)) : arrA 3 (comeF (runTo v m ps 0).2) = [.int .i64 0, .int .i64 0, .int .i64 0] := by
 simp [arrA, comeF, comeAt, runTo, List.range_succ]
theorem zero_same (M : Nat → Int) (k : Nat) (σ : St) (hσ : cellsAt σ k = some (arrA 5 M)) (r : Nat) (hr : r < 5) : Same T (.func 119 [] [.ptr k 0]) [.int .i64 r] σ (.bool (M r == 0)) := by
 refine same_fn (af := a119) rfl (by simp [a119]) ?_
 have i5 : (0 : Int) ≤ (r : Int) ∧ (r : Int) < ((5 : Nat) : Int) := ⟨by omega, by omega⟩
 have hg := arrA_get 5 M hr
 (repeat (first | simp only [↓QA, QB, Nat.reduceLT, reduceIte, Nat.reduceEqDiff, Nat.reduceAdd, Nat.reduceLeDiff, Nat.reduceMul, Nat.reduceBEq, QXGTrP5, encSP_eq, S_mapSP, db_0, db_1, db_2, db_3, db_4, db_5, a119, i5, hσ, hg] | refine rd0 rfl ?_))
 refine baseR [] (by first | rfl | simp) ?_
 try simp only [QS, QC, Nat.reduceLT, reduceIte, Nat.reduceEqDiff, Nat.reduceAdd, Nat.reduceLeDiff, Nat.reduceMul, Nat.reduceBEq, QXGTrP5, encSP_eq, S_mapSP, db_0, db_1, db_2, db_3, db_4, db_5]
theorem ppaths_ok (v : Net) (h : Fits v) (s : Int) : Pure T 19 [encNet v, .int .i64 s] (encLLI (pathsOf v s)) := by
 refine pure_fn (af := a19) rfl (by simp [a19]) dd ?_
 obtain ⟨W, hW⟩ : ∃ W, IntKind.i64.wrap (v.stations - 1) = W := ⟨_, rfl⟩
 (repeat (first | simp only [↓QA, QB, Nat.reduceLT, reduceIte, Nat.reduceEqDiff, Nat.reduceAdd, Nat.reduceLeDiff, Nat.reduceMul, Nat.reduceBEq, QXGTrP5, encSP_eq, S_mapSP, db_0, db_1, db_2, db_3, db_4, db_5, a19] | refine rd0 rfl ?_))
 ((first | refine callK_d (check_ok v h) rfl dd ?_ | refine callD_d (check_ok v h) rfl dd ?_); (repeat (first | simp only [↓QA, QB, Nat.reduceLT, reduceIte, Nat.reduceEqDiff, Nat.reduceAdd, Nat.reduceLeDiff, Nat.reduceMul, Nat.reduceBEq, QXGTrP5, encSP_eq, S_mapSP, db_0, db_1, db_2, db_3, db_4, db_5, enc3] | refine rd0 rfl ?_)))
 cases h0 : ((check v).2.2 == 0)
 ·have h0' : (check v).2.2 ≠ 0 := by simpa using h0
  have hp : pathsOf v s = ([], (check v).2.2) := by simp [pathsOf, h0']
  rw [hp]
  (repeat (first | simp only [↓QA, QB, Nat.reduceLT, reduceIte, Nat.reduceEqDiff, Nat.reduceAdd, Nat.reduceLeDiff, Nat.reduceMul, Nat.reduceBEq, QXGTrP5, encSP_eq, S_mapSP, db_0, db_1, db_2, db_3, db_4, db_5, h0, encLLI, intss_def, List.map_nil] | refine rd0 rfl ?_))
  try rfl
 ·have h0' : (check v).2.2 = 0 := by simpa using h0
  have hv := vd_of_check h0'
  have hst := hv.st
  have hWe : IntKind.i64.wrap (v.stations - 1) = v.stations - 1 := wrap64 ⟨by omega, by omega⟩
  (repeat (first | simp only [↓QA, QB, Nat.reduceLT, reduceIte, Nat.reduceEqDiff, Nat.reduceAdd, Nat.reduceLeDiff, Nat.reduceMul, Nat.reduceBEq, QXGTrP5, encSP_eq, S_mapSP, db_0, db_1, db_2, db_3, db_4, db_5, h0, hWe] | refine rd0 rfl ?_))
  ((first | refine callK_v (beyond_ok 0 (v.stations - 1) [s] (by simp)) (by simp [clr, clrs, ints]) (by simp [okV, okVs]) ?_ | refine callD_v (beyond_ok 0 (v.stations - 1) [s] (by simp)) (by simp [clr, clrs, ints]) (by simp [okV, okVs]) ?_); (repeat (first | simp only [↓QA, QB, Nat.reduceLT, reduceIte, Nat.reduceEqDiff, Nat.reduceAdd, Nat.reduceLeDiff, Nat.reduceMul, Nat.reduceBEq, QXGTrP5, encSP_eq, S_mapSP, db_0, db_1, db_2, db_3, db_4, db_5, beyond1] | refine rd0 rfl ?_)))
  rw [show inR s 0 (v.stations - 1) = isSt v s from rfl]
  cases h1 : isSt v s
  ·have hp : pathsOf v s = ([], 4) := by simp [pathsOf, h0', h1]
   rw [hp]
   (repeat (first | simp only [↓QA, QB, Nat.reduceLT, reduceIte, Nat.reduceEqDiff, Nat.reduceAdd, Nat.reduceLeDiff, Nat.reduceMul, Nat.reduceBEq, QXGTrP5, encSP_eq, S_mapSP, db_0, db_1, db_2, db_3, db_4, db_5, h0, encLLI, intss_def, List.map_nil] | refine rd0 rfl ?_))
   try rfl
  ·have hp : pathsOf v s = (waysOf v s [], 0) := by simp [pathsOf, h0', h1]
   rw [hp]
   rw [isSt_iff] at h1
   obtain ⟨S, rfl⟩ : ∃ S : Nat, s = (S : Int) := ⟨s.toNat, by omega⟩
   have hw := pways_ok v hv S (by omega) (-1)
   have hb : butL (-1) = [] := rfl
   rw [hb] at hw
   (repeat (first | simp only [↓QA, QB, Nat.reduceLT, reduceIte, Nat.reduceEqDiff, Nat.reduceAdd, Nat.reduceLeDiff, Nat.reduceMul, Nat.reduceBEq, QXGTrP5, encSP_eq, S_mapSP, db_0, db_1, db_2, db_3, db_4, db_5, h0] | refine rd0 rfl ?_))
   ((first | refine callK_d (hw) rfl dd ?_ | refine callD_d (hw) rfl dd ?_); (repeat (first | simp only [↓QA, QB, Nat.reduceLT, reduceIte, Nat.reduceEqDiff, Nat.reduceAdd, Nat.reduceLeDiff, Nat.reduceMul, Nat.reduceBEq, QXGTrP5, encSP_eq, S_mapSP, db_0, db_1, db_2, db_3, db_4, db_5, encLLI, intss_def] | refine rd0 rfl ?_)))
   try try simp only [QS, QC, Nat.reduceLT, reduceIte, Nat.reduceEqDiff, Nat.reduceAdd, Nat.reduceLeDiff, Nat.reduceMul, Nat.reduceBEq, QXGTrP5, encSP_eq, S_mapSP, db_0, db_1, db_2, db_3, db_4, db_5]
end Go.Am.Room
set_option maxRecDepth 8000
namespace Go.Am.Room
def QXGTrP6 := And.intro @encNet_eq (And.intro @netCells_eq (And.intro @encRail_eq (And.intro @encTram_eq (And.intro @encSeen_eq (And.intro @encSpan_eq (And.intro @S_mapRail (And.intro @S_mapTram (And.intro @S_mapSeen (And.intro @T_sapp (And.intro @T_sapp0 (And.intro @Nat.not_lt_zero (And.intro @List.length_append.{0} (And.intro @Nat.zero_add (And.intro @Nat.mul_one (And.intro @Int.toNat_natCast (And.intro @encSP_eq (And.intro @S_mapSP (And.intro @arrA_len (And.intro @arrA_take (And.intro @arrA_drop (And.intro @S_arrA (And.intro @arrA_cell (And.intro @db_0 (And.intro @db_1 (And.intro @db_2 (And.intro @db_3 (And.intro @db_4 (And.intro @db_5 (And.intro @Nat.add_lt_add_iff_left (@Nat.lt_add_right_iff_pos))))))))))))))))))))))))))))))
theorem run_same (v : Net) (hv : Vd v) (b m0 p : Nat) (σ : St) (hσ : cellsAt σ p = some (db v b m0)) (hp : p < σ.length) (f : AV) (hk3 : ∀ τ n, σ.length ≤ n → snapM (σ ++ τ) n 20 f = some f) (ps : List (List Int)) (hps : RunOk v ps) (hf : ∀ i, i < v.trams.length → ∀ τ, Same T f [.int .i64 i] (σ ++ τ) (ints (pathAt ps i))) (M : Nat → Int) (m : Int → Int) (hM : ∀ i : Nat, m (i : Int) = M i) (hm : MinsOk v m) :
  Same T (.func 109 [] []) [.ptr p 0, .agg (arrA 5 M), f] σ (.agg (arrA 3 (comeF (comesBy v ps m)))) := by
 refine same_fn (af := a109) rfl (by simp [a109]) ?_
 have hnt := hv.ntr
 have hnr := hv.nra
 have hk : Keeps σ f := fun τ => hk3 τ _ (Nat.le_refl _)
 have hk0 := hk.nil
 have hk2 : ∀ τ n, snapM (σ ++ τ) (σ.length + n) 20 f = some f := fun τ n => hk3 τ _ (by omega)
 have hk4 : ∀ τ, snapM (σ ++ τ) σ.length 20 f = some f := hk
 have hσ2 := fun τ => cells_app hσ τ
 have hbd := run_bd hv hm hps
 have hz := comes0 v m ps
 (repeat (first | simp only [↓QA, QB, Nat.reduceLT, reduceIte, Nat.reduceEqDiff, Nat.reduceAdd, Nat.reduceLeDiff, Nat.reduceMul, Nat.reduceBEq, QXGTrP6, a109, hσ2, ← hz] | refine rd0 rfl ?_))
 refine ghostK 7 3 [] rfl ?_
 refine loopE (S := Nat × Bool) (0, false) (fun a => a.1 ≤ v.trams.length) (fun a => v.trams.length - a.1)
  (fun a => [(2, f), (4, .ptr σ.length 0), (6, .ptr (σ.length + 1) 0), (7, .lit ((runTo v m ps a.1).1.map encSP) false (some (σ.length + 2))), (18, .lit (v.trams.map encTram) false none), (19, .int .i64 v.trams.length), (20, .int .i64 a.1)])
  (fun a => σ ++ [.cells (arrA 5 M), .cells (arrA 3 (comeF (runTo v m ps a.1).2)), .tok 3 (runTo v m ps a.1).1.length a.2]) (Nat.zero_le _) (by simp [runTo]) ?_ fun a ha => ?_
 ·try simp only [TrimX, QE, Nat.reduceLT, reduceIte, Nat.reduceEqDiff, Nat.reduceAdd, Nat.reduceLeDiff, Nat.reduceMul, Nat.reduceBEq, QXGTrP6, hk2, hk4]
  try simp [runTo]
 ·obtain ⟨i, ex⟩ := a
  simp only at ha
  (repeat (first | simp only [↓QA, QB, Nat.reduceLT, reduceIte, Nat.reduceEqDiff, Nat.reduceAdd, Nat.reduceLeDiff, Nat.reduceMul, Nat.reduceBEq, QXGTrP6, L109_0] | refine rd0 rfl ?_))
  refine iteP_intro (fun h => ?_) fun h => ?_
  ·have hi1 : i < v.trams.length := by simpa using h
   have hwi := wrapN hi1 (by omega)
   obtain ⟨b1, b2⟩ := hbd i (by omega)
   have hlc := run_len v m ps i
   have hsu := run_succ v m ps i
   have hto := tr_ok hv hi1
   have hpm := path_mem hps hi1
   have hp4 := hps.few _ hpm
   have hpr := hps.rails _ hpm
   have hfp := fun τ => hf i hi1 τ
   rw [leaves_at hi1] at hsu
   obtain ⟨t, ht⟩ : ∃ t, v.trams[i] = t := ⟨_, rfl⟩
   obtain ⟨p, hpp⟩ : ∃ p, pathAt ps i = p := ⟨_, rfl⟩
   rw [ht] at hto hsu
   rw [hpp] at hp4 hpr hsu
   simp only [hpp] at hfp
   have hlv := hto.leaves
   obtain ⟨L, hL⟩ : ∃ L, t.leaves = L := ⟨_, rfl⟩
   rw [hL] at hlv hsu
   obtain ⟨SS, hSS⟩ : ∃ SS, (runTo v m ps i).1 = SS := ⟨_, rfl⟩
   obtain ⟨OO, hOO⟩ : ∃ OO, (runTo v m ps i).2 = OO := ⟨_, rfl⟩
   rw [hSS] at b1 hsu
   rw [hOO] at b2 hlc hsu
   have hgo : tramGo m i L p SS = if p.any (fun r => m r == 0) = true then (SS, -1) else wayGo m i p L SS := rfl
   rw [hSS, hOO]
   obtain ⟨R, hR⟩ : ∃ R, tramGo m i L p SS = R := ⟨_, rfl⟩
   rw [hR] at hsu hgo
   have hsu1 : (runTo v m ps (i + 1)).1 = R.1 := by rw [hsu]
   have hsu2 : comeF (runTo v m ps (i + 1)).2 = updF (comeF OO) i R.2 := by rw [hsu]; exact comeF_snoc OO R.2 hlc
   have i3 : (0 : Int) ≤ (i : Int) ∧ (i : Int) < ((3 : Nat) : Int) := ⟨by omega, by omega⟩
   have c3 : i + 1 ≤ 3 := by omega
   have hset := fun (g : Nat → Int) x => arrA_set 3 g x (i := i) (by omega)
   have hget := fun (g : Nat → Int) => arrA_get 3 g (i := i) (by omega)
   have hct := fun (C : ABlk) (τ : St) => contains_int (σ ++ (.cells (arrA 5 M) :: C :: τ)) (.func 119 [] [.ptr σ.length 0]) p (fun r => m r == 0) (by omega) (fun υ => by try simp only [QS, QC, Nat.reduceLT, reduceIte, Nat.reduceEqDiff, Nat.reduceAdd, Nat.reduceLeDiff, Nat.reduceMul, Nat.reduceBEq, QXGTrP6, List.length_append]; simp) (fun x hx => by
    have hxr := hpr x hx
    obtain ⟨r, rfl⟩ : ∃ r : Nat, x = (r : Int) := ⟨x.toNat, by omega⟩
    rw [hM]
    exact zero_same M σ.length _ (by rw [M_base0]; rfl) r (by omega))
   (repeat (first | simp only [↓QA, QB, Nat.reduceLT, reduceIte, Nat.reduceEqDiff, Nat.reduceAdd, Nat.reduceLeDiff, Nat.reduceMul, Nat.reduceBEq, QXGTrP6, hi1, ht, hL, i3, c3, hset] | refine rd0 rfl ?_))
   refine callK_same (hfp _) ?_
   (repeat (first | simp only [↓QA, QB, Nat.reduceLT, reduceIte, Nat.reduceEqDiff, Nat.reduceAdd, Nat.reduceLeDiff, Nat.reduceMul, Nat.reduceBEq, QXGTrP6] | refine rd0 rfl ?_))
   refine callK_same (hct _ _) ?_
   have hwt : ∀ (TB : ABlk) (K : KJ) (e : Env), Env.get e 2 = f → Env.get e 4 = .ptr σ.length 0 → Env.get e 6 = .ptr (σ.length + 1) 0 → Env.get e 7 = .lit (SS.map encSP) false (some (σ.length + 2)) → Env.get e 8 = .int .i64 i → Env.get e 18 = .lit (v.trams.map encTram) false none → Env.get e 19 = .int .i64 v.trams.length → Env.get e 20 = .int .i64 i → Env.get e 37 = ints p → Env.get e 38 = .int .i64 p.length → Env.get e 39 = .int .i64 0 →
     p.any (fun r => m r == 0) = false → wayGo m i p L SS = R →
     (∀ e' ex', Env.get e' 2 = f → Env.get e' 4 = .ptr σ.length 0 → Env.get e' 6 = .ptr (σ.length + 1) 0 → Env.get e' 7 = .lit (R.1.map encSP) false (some (σ.length + 2)) → Env.get e' 18 = .lit (v.trams.map encTram) false none → Env.get e' 19 = .int .i64 v.trams.length → Env.get e' 20 = .int .i64 i →
      K (some (.exit 2)) e' (σ ++ [.cells (arrA 5 M), .cells (arrA 3 (updF (comeF OO) i R.2)), .tok 3 R.1.length ex', TB])) →
     rK (K := ⟨K⟩) T (.loop L109_2) e (σ ++ [.cells (arrA 5 M), .cells (arrA 3 (updF (comeF OO) i L)), .tok 3 SS.length ex, TB]) := by
    intro TB K e q2 q4 q6 q7 q8 q18 q19 q20 q37 q38 q39 hc hgo hK
    refine loopE (S := Nat × Int × List Stay × Bool) (0, L, SS, ex) (fun a => a.1 ≤ p.length ∧ 0 ≤ a.2.1 ∧ a.2.1 ≤ 60 + 20 * (4 * i + a.1 : Nat) ∧ StaysOk a.2.2.1 (4 * i + a.1) ∧ wayGo m i (p.drop a.1) a.2.1 a.2.2.1 = R) (fun a => p.length - a.1)
     (fun a => [(2, f), (4, .ptr σ.length 0), (6, .ptr (σ.length + 1) 0), (7, .lit (a.2.2.1.map encSP) false (some (σ.length + 2))), (8, .int .i64 i), (18, .lit (v.trams.map encTram) false none), (19, .int .i64 v.trams.length), (20, .int .i64 i), (37, ints p), (38, .int .i64 p.length), (39, .int .i64 a.1)])
     (fun a => σ ++ [.cells (arrA 5 M), .cells (arrA 3 (updF (comeF OO) i a.2.1)), .tok 3 a.2.2.1.length a.2.2.2, TB]) ⟨by simp, by simp only; omega, by simp only; omega, b1, hgo⟩ rfl ?_ fun a ha => ?_
    ·try simp only [TrimX, QE, Nat.reduceLT, reduceIte, Nat.reduceEqDiff, Nat.reduceAdd, Nat.reduceLeDiff, Nat.reduceMul, Nat.reduceBEq, QXGTrP6, ints, hk2, hk4, q2, q4, q6, q7, q8, q18, q19, q20, q37, q38, q39]
     try simp [okBlk]
    ·obtain ⟨j, at_, SS, ex⟩ := a
     obtain ⟨hj, ha0, ha1, hso, hgo⟩ := ha
     simp only at hj ha0 ha1 hso hgo
     (repeat (first | simp only [↓QA, QB, Nat.reduceLT, reduceIte, Nat.reduceEqDiff, Nat.reduceAdd, Nat.reduceLeDiff, Nat.reduceMul, Nat.reduceBEq, QXGTrP6, L109_2] | refine rd0 rfl ?_))
     refine iteP_intro (fun h2 => ?_) fun h2 => ?_
     ·have hj1 : j < p.length := by simpa using h2
      have hwj := wrapN hj1 (by omega)
      have hpk := hpr _ (List.getElem_mem hj1)
      rw [List.drop_eq_getElem_cons hj1] at hgo
      obtain ⟨r, hr⟩ : ∃ r : Nat, p[j] = (r : Int) := ⟨p[j].toNat, by omega⟩
      rw [hr] at hpk hgo
      have hmr := hm r hpk.1 hpk.2
      have hMr := hM r
      obtain ⟨Q, hQ⟩ : ∃ Q, M r = Q := ⟨_, rfl⟩
      rw [hQ] at hMr
      rw [hMr] at hmr
      simp only [wayGo, hMr] at hgo
      obtain ⟨f1, f2, f3⟩ := free_bd (rail := (r : Int)) (m := Q) hso (by omega) ha0 ha1
      have hsl := hso.len
      have hfr := pfree_ok SS r at_ Q (60 + 20 * ((4 * i + j : Nat) : Int)) (by omega) hso.til ha0 ha1 (by omega) (by omega)
      obtain ⟨F, hF⟩ : ∃ F, freeOf SS r at_ Q = F := ⟨_, rfl⟩
      rw [hF] at hgo f2 f3 hfr
      have hwF : IntKind.i64.wrap (F + Q) = F + Q := wrap64 ⟨by omega, by omega⟩
      have hwA : IntKind.i64.wrap (at_ + Q) = at_ + Q := wrap64 ⟨by omega, by omega⟩
      have i5 : (0 : Int) ≤ (r : Int) ∧ (r : Int) < ((5 : Nat) : Int) := ⟨by omega, by omega⟩
      have hg5 := arrA_get 5 M (show r < 5 by omega)
      rw [hQ] at hg5
      have a7 := fun (b0 b1 : ABlk) (τ : St) => append_at (σ := σ ++ (b0 :: b1 :: .tok 3 SS.length ex :: τ)) (t := σ.length + 2) (ex := ex) (sz := 3) (b := 24) (xs := SS.map encSP) (ys := [.agg [.int .i64 r, .int .i64 F, .int .i64 (F + Q)]]) (f := true) (tk := none) ⟨allCells_sp SS, by simp [allCells, cellsOk, AV.cells, AV.cell], by simp [room]; omega, by simp [room]; omega⟩ (by simp) SS.length (by simp) (by rw [st_get]; rfl)
      (repeat (first | simp only [↓QA, QB, Nat.reduceLT, reduceIte, Nat.reduceEqDiff, Nat.reduceAdd, Nat.reduceLeDiff, Nat.reduceMul, Nat.reduceBEq, QXGTrP6, hj1, hr, i3, i5, hget, hg5, upd_at, hwA] | refine rd0 rfl ?_))
      ((first | refine callK_s (hfr) (by try simp only [QS, QC, Nat.reduceLT, reduceIte, Nat.reduceEqDiff, Nat.reduceAdd, Nat.reduceLeDiff, Nat.reduceMul, Nat.reduceBEq, QXGTrP6]) trivial ?_ | refine callD_s (hfr) (by try simp only [QS, QC, Nat.reduceLT, reduceIte, Nat.reduceEqDiff, Nat.reduceAdd, Nat.reduceLeDiff, Nat.reduceMul, Nat.reduceBEq, QXGTrP6]) trivial ?_); (repeat (first | simp only [↓QA, QB, Nat.reduceLT, reduceIte, Nat.reduceEqDiff, Nat.reduceAdd, Nat.reduceLeDiff, Nat.reduceMul, Nat.reduceBEq, QXGTrP6, hj1, hr, i3, i5, c3, hget, hg5, upd_at, hwA, hwF, hset, upd_upd, a7] | refine rd0 rfl ?_)))
      refine ⟨(j + 1, F + Q, SS ++ [⟨i, r, F, F + Q⟩], true), ⟨by simp only; omega, by simp only; omega, by simp only; omega, ?_, hgo⟩, by simp only; omega, ?_⟩
      ·refine ⟨by simp; omega, fun x hx => ?_, fun x hx => ?_⟩
       ·rcases List.mem_append.1 hx with hx | hx
        ·have := hso.til x hx; simp only; omega
        ·simp only [List.mem_singleton] at hx; subst hx; simp only; omega
       ·rcases List.mem_append.1 hx with hx | hx
        ·exact hso.frm x hx
        ·simp only [List.mem_singleton] at hx; subst hx; simp only; omega
      ·try simp only [TrimX, QE, Nat.reduceLT, reduceIte, Nat.reduceEqDiff, Nat.reduceAdd, Nat.reduceLeDiff, Nat.reduceMul, Nat.reduceBEq, QXGTrP6, hwj, ints, hk2, hk4, List.map_append, List.map_cons, List.map_nil]
       try simp [okBlk, okVs, okV, arrA_ok]
     ·have hj1 : j = p.length := by
       have : ¬ j < p.length := by simpa using h2
       omega
      rw [List.drop_eq_nil_of_le (by omega), wayGo] at hgo
      subst hgo
      (repeat (first | simp only [↓QA, QB, Nat.reduceLT, reduceIte, Nat.reduceEqDiff, Nat.reduceAdd, Nat.reduceLeDiff, Nat.reduceMul, Nat.reduceBEq, QXGTrP6] | refine rd0 rfl ?_))
      refine hK _ ex ?_ ?_ ?_ ?_ ?_ ?_ ?_
      all_goals try simp only [TrimX, QE, Nat.reduceLT, reduceIte, Nat.reduceEqDiff, Nat.reduceAdd, Nat.reduceLeDiff, Nat.reduceMul, Nat.reduceBEq, QXGTrP6]
   cases hc : p.any (fun r => m r == 0)
   ·rw [hc] at hgo
    simp only [Bool.false_eq_true, if_false] at hgo
    (repeat (first | simp only [↓QA, QB, Nat.reduceLT, reduceIte, Nat.reduceEqDiff, Nat.reduceAdd, Nat.reduceLeDiff, Nat.reduceMul, Nat.reduceBEq, QXGTrP6] | refine rd0 rfl ?_))
    refine hwt _ _ _ ?_ ?_ ?_ ?_ ?_ ?_ ?_ ?_ ?_ ?_ ?_ hc hgo.symm ?_
    all_goals try try simp only [TrimX, QE, Nat.reduceLT, reduceIte, Nat.reduceEqDiff, Nat.reduceAdd, Nat.reduceLeDiff, Nat.reduceMul, Nat.reduceBEq, QXGTrP6, ints]
    intro e' ex' q2 q4 q6 q7 q18 q19 q20
    (repeat (first | simp only [↓QA, QB, Nat.reduceLT, reduceIte, Nat.reduceEqDiff, Nat.reduceAdd, Nat.reduceLeDiff, Nat.reduceMul, Nat.reduceBEq, QXGTrP6, q2, q4, q6, q7, q18, q19, q20, hwi] | refine rd0 rfl ?_))
    refine ⟨(i + 1, ex'), by simp only; omega, by simp only; omega, ?_⟩
    try simp only [TrimX, QE, Nat.reduceLT, reduceIte, Nat.reduceEqDiff, Nat.reduceAdd, Nat.reduceLeDiff, Nat.reduceMul, Nat.reduceBEq, QXGTrP6, q2, q4, q6, q7, q18, q19, q20, hwi, hsu1, hsu2, hk2, hk4]
    try simp [okBlk, okVs, okV, arrA_ok]
   ·rw [hc] at hgo
    simp only [if_true] at hgo
    subst hgo
    (repeat (first | simp only [↓QA, QB, Nat.reduceLT, reduceIte, Nat.reduceEqDiff, Nat.reduceAdd, Nat.reduceLeDiff, Nat.reduceMul, Nat.reduceBEq, QXGTrP6, hset, i3, c3, upd_upd, hwi] | refine rd0 rfl ?_))
    refine ⟨(i + 1, ex), by simp only; omega, by simp only; omega, ?_⟩
    try simp only [TrimX, QE, Nat.reduceLT, reduceIte, Nat.reduceEqDiff, Nat.reduceAdd, Nat.reduceLeDiff, Nat.reduceMul, Nat.reduceBEq, QXGTrP6, hwi, hsu1, hsu2, hk2, hk4]
    try simp [okBlk, okVs, okV, arrA_ok]
  ·have hi1 : i = v.trams.length := by
    have : ¬ i < v.trams.length := by simpa using h
    omega
   rw [hi1]
   (repeat (first | simp only [↓QA, QB, Nat.reduceLT, reduceIte, Nat.reduceEqDiff, Nat.reduceAdd, Nat.reduceLeDiff, Nat.reduceMul, Nat.reduceBEq, QXGTrP6] | refine rd0 rfl ?_))
   refine baseR [.cells (arrA 5 M), .cells (arrA 3 (comeF (runTo v m ps v.trams.length).2)), .tok 3 (runTo v m ps v.trams.length).1.length ex] (by first | rfl | simp) ?_
   try simp only [QS, QC, Nat.reduceLT, reduceIte, Nat.reduceEqDiff, Nat.reduceAdd, Nat.reduceLeDiff, Nat.reduceMul, Nat.reduceBEq, QXGTrP6, comesBy]
end Go.Am.Room
set_option maxRecDepth 8000
namespace Go.Am.Room
def QXGTrP7 := And.intro @encNet_eq (And.intro @netCells_eq (And.intro @encRail_eq (And.intro @encTram_eq (And.intro @encSeen_eq (And.intro @encSpan_eq (And.intro @S_mapRail (And.intro @S_mapTram (And.intro @S_mapSeen (And.intro @T_sapp (And.intro @T_sapp0 (And.intro @Nat.not_lt_zero (And.intro @List.length_append.{0} (And.intro @Nat.zero_add (And.intro @Nat.mul_one (And.intro @Int.toNat_natCast (And.intro @arrA_len (And.intro @arrA_take (And.intro @arrA_drop (And.intro @S_arrA (And.intro @arrA_cell (And.intro @db_0 (And.intro @db_1 (And.intro @db_2 (And.intro @db_3 (And.intro @db_4 (And.intro @db_5 (And.intro @Nat.add_lt_add_iff_left (@Nat.lt_add_right_iff_pos))))))))))))))))))))))))))))
def rl (l : List Int) (i : Nat) : Int := (l[i]?).getD 0
theorem rl_at {l : List Int} {k : Nat} (h : k < l.length) : rl l k = l[k] := by simp [rl, h]
theorem rlI_rl (c : List Int) (i : Nat) : rlI c (i : Int) = rl c i := by simp [rlI, rl]
theorem rl_inj {a b : List Int} (h1 : a.length = b.length) (h2 : a.length ≤ 5) : ((List.range 5).all fun i => rl a i == rl b i) = decide (a = b) := by
 rw [Bool.eq_iff_iff, List.all_eq_true, decide_eq_true_eq]
 constructor
 ·intro h
  refine List.ext_getElem h1 fun i hi1 hi2 => ?_
  have := h i (by simp; omega)
  rw [beq_iff_eq, rl_at (by omega), rl_at (by omega)] at this
  exact this
 ·rintro rfl i _
  simp
abbrev K5 := { c : List Int // c.length = 5 }
def pad (c : List Int) : K5 := ⟨(List.range 5).map (rl c), by simp⟩
theorem rl_pad (c : List Int) {i : Nat} (h : i < 5) : rl (pad c).1 i = rl c i := by simp [pad, rl, h]
theorem arr_pad (c : List Int) : arrA 5 (rl (pad c).1) = arrA 5 (rl c) := arrA_congr fun i hi => rl_pad c hi
theorem comes_pad (v : Net) {c : List Int} (h : c.length ≤ 5) : comesP v (pad c).1 = comesP v c := by
 have : rlI (pad c).1 = rlI c := by
  funext r
  simp only [rlI]
  by_cases hr : r.toNat < 5
  ·exact rl_pad c hr
  ·rw [List.getElem?_eq_none (by rw [(pad c).2]; omega), List.getElem?_eq_none (by omega)]
 rw [comesP, comesP, this]
def encK (w : K5) : AV := .agg (arrA 5 (rl w.1))
theorem encK_eq (w : K5) : encK w = .agg (arrA 5 (rl w.1)) := by simp only [encK]
def valK (v : Net) (w : K5) : AV := .agg (arrA 3 (comeF (comesP v w.1)))
theorem valK_eq (v : Net) (w : K5) : valK v w = .agg (arrA 3 (comeF (comesP v w.1))) := by simp only [valK]
theorem five_key (v : Net) : KeyIs (.agg [.i, .i, .i, .i, .i]) encK (valK v) where
 eq := fun w x => by
  have := arrA_eq 5 (rl w.1) (rl x.1)
  rw [rl_inj (by rw [w.2, x.2]) (by rw [w.2]; exact Nat.le_refl _)] at this
  have e : decide (w.1 = x.1) = decide (w = x) := by rw [decide_eq_decide]; exact Subtype.ext_iff.symm
  rw [e] at this
  exact this
 dk := fun w => data_agg (datas_arrA _ _)
 dv := fun w => data_agg (datas_arrA _ _)
abbrev tEs (v : Net) : List K5 → List (AV × AV) := keyEs encK (valK v)
def canF (k : Nat) : AV := if k = 0 then .func 116 [] [] else if k = 1 then .func 117 [] [] else .func 118 [] []
def canCells : List AV := [.func 116 [] [], .func 117 [] [], .func 118 [] []]
theorem canCells_eq : canCells = [.func 116 [] [], .func 117 [] [], .func 118 [] []] := by simp only [canCells]
theorem canC_get {k : Nat} (h : k < 3) : canCells[k]? = some (canF k) := by
 have : k = 0 ∨ k = 1 ∨ k = 2 := by omega
 rcases this with rfl | rfl | rfl <;> rfl
theorem canF_same (k : Nat) (hk : k < 3) (c : Bool) (σ : St) : Same T (canF k) [.bool c] σ (.bool (canC (k : Int) c)) := by
 have : k = 0 ∨ k = 1 ∨ k = 2 := by omega
 rcases this with rfl | rfl | rfl
 ·refine same_fn (af := a116) rfl (by simp [a116]) ?_
  (repeat (first | simp only [↓QA, QB, Nat.reduceLT, reduceIte, Nat.reduceEqDiff, Nat.reduceAdd, Nat.reduceLeDiff, Nat.reduceMul, Nat.reduceBEq, QXGTrP7, a116] | refine rd0 rfl ?_))
  refine baseR [] (by first | rfl | simp) ?_
  cases c <;> (rw [S_bool]; rfl)
 ·refine same_fn (af := a117) rfl (by simp [a117]) ?_
  (repeat (first | simp only [↓QA, QB, Nat.reduceLT, reduceIte, Nat.reduceEqDiff, Nat.reduceAdd, Nat.reduceLeDiff, Nat.reduceMul, Nat.reduceBEq, QXGTrP7, a117] | refine rd0 rfl ?_))
  refine baseR [] (by first | rfl | simp) ?_
  cases c <;> (rw [S_bool]; rfl)
 ·refine same_fn (af := a118) rfl (by simp [a118]) ?_
  (repeat (first | simp only [↓QA, QB, Nat.reduceLT, reduceIte, Nat.reduceEqDiff, Nat.reduceAdd, Nat.reduceLeDiff, Nat.reduceMul, Nat.reduceBEq, QXGTrP7, a118] | refine rd0 rfl ?_))
  refine baseR [] (by first | rfl | simp) ?_
  cases c <;> (rw [S_bool]; rfl)
theorem rules_same (σ : St) : Same T (.func 107 [] []) [] σ (.agg canCells) := by
 refine same_fn (af := a107) rfl (by simp [a107]) ?_
 have j0 : (0 : Int) ≤ 0 ∧ (0 : Int) < ((3 : Nat) : Int) := by decide
 have j1 : (0 : Int) ≤ 1 ∧ (1 : Int) < ((3 : Nat) : Int) := by decide
 have j2 : (0 : Int) ≤ 2 ∧ (2 : Int) < ((3 : Nat) : Int) := by decide
 have t0 : Int.toNat 0 = 0 := rfl
 have t1 : Int.toNat 1 = 1 := rfl
 have t2 : Int.toNat 2 = 2 := rfl
 (repeat (first | simp only [↓QA, QB, Nat.reduceLT, reduceIte, Nat.reduceEqDiff, Nat.reduceAdd, Nat.reduceLeDiff, Nat.reduceMul, Nat.reduceBEq, QXGTrP7, a107, j0, j1, j2, t0, t1, t2] | refine rd0 rfl ?_))
 refine baseR [.cells canCells] (by first | rfl | simp [canCells]) ?_
 try simp only [QS, QC, Nat.reduceLT, reduceIte, Nat.reduceEqDiff, Nat.reduceAdd, Nat.reduceLeDiff, Nat.reduceMul, Nat.reduceBEq, QXGTrP7, canCells_eq, S_func]
theorem seen_in (v : Net) (hv : Vd v) (b m p q tt s2 s5 : Nat) (bl CS : List Int) (hb : ButIs b bl) (hcl : CS.length = v.trams.length) (σ : St) (hq : cellsAt σ q = some [.ptr p 0]) (hp : cellsAt σ p = some (db v b m)) (ht : cellsAt σ tt = some (arrA 3 (comeF CS))) (hs2 : s2 < σ.length) (hs5 : s5 < σ.length) (e : Env) (K : KJ)
  (e1 : Env.get e 1 = .ptr q 0) (e2 : Env.get e 2 = .ptr s2 0) (e5 : Env.get e 5 = .ptr s5 0) (e10 : Env.get e 10 = .ptr tt 0) (e58 : Env.get e 58 = .lit (v.seen.map encSeen) false none) (e59 : Env.get e 59 = .int .i64 v.seen.length) (e60 : Env.get e 60 = .int .i64 0)
  (hKt : seenOk v bl CS = true → ∀ e', Env.get e' 2 = .ptr s2 0 → Env.get e' 5 = .ptr s5 0 → Env.get e' 10 = .ptr tt 0 → K (some (.exit 0)) e' σ)
  (hKf : seenOk v bl CS = false → ∀ e' τ', Env.get e' 9 = .bool true → K (some .ret) e' (σ ++ τ')) :
  rK (K := ⟨K⟩) T (.loop L108_0) e σ := by
 have hse := hv.nse
 have hnt := hv.ntr
 have hql := cells_lt hq
 have htl := cells_lt ht
 have hq2 := fun τ => cells_app hq τ
 have hp2 := fun τ => cells_app hp τ
 have ht2 := fun τ => cells_app ht τ
 refine loopE (S := Nat) 0 (fun k => k ≤ v.seen.length ∧ seenTo v bl CS k = true) (fun k => v.seen.length - k)
  (fun k => [(1, .ptr q 0), (2, .ptr s2 0), (5, .ptr s5 0), (10, .ptr tt 0), (58, .lit (v.seen.map encSeen) false none), (59, .int .i64 v.seen.length), (60, .int .i64 k)])
  (fun k => σ) ⟨Nat.zero_le _, rfl⟩ rfl ?_ fun k hk => ?_
 ·try simp only [TrimX, QE, Nat.reduceLT, reduceIte, Nat.reduceEqDiff, Nat.reduceAdd, Nat.reduceLeDiff, Nat.reduceMul, Nat.reduceBEq, QXGTrP7, e1, e2, e5, e10, e58, e59, e60]
  try simp [hs2, hs5, hql, htl]
 ·obtain ⟨hk, hok⟩ := hk
  (repeat (first | simp only [↓QA, QB, Nat.reduceLT, reduceIte, Nat.reduceEqDiff, Nat.reduceAdd, Nat.reduceLeDiff, Nat.reduceMul, Nat.reduceBEq, QXGTrP7, L108_0] | refine rd0 rfl ?_))
  refine iteP_intro (fun hd => ?_) fun hd => ?_
  ·have hk1 : k < v.seen.length := by simpa using hd
   have hw := wrapN hk1 (by omega)
   have hsu := seenTo_succ hk1 bl CS
   have hsx := hv.se _ (List.getElem_mem hk1)
   obtain ⟨x, hx⟩ : ∃ x, v.seen[k] = x := ⟨_, rfl⟩
   rw [hx] at hsu hsx
   rw [hok, Bool.true_and] at hsu
   obtain ⟨t, hte⟩ : ∃ t : Nat, x.tram = t := ⟨x.tram.toNat, by omega⟩
   rw [hte] at hsu hsx
   have hdiv : b / 2 ^ k < 9223372036854775808 := Nat.lt_of_le_of_lt (Nat.div_le_self _ _) hb.lt
   have hbit := hb.bit k (by omega)
   have vs := V_shr b k (by omega)
   have va := V_and1 (b / 2 ^ k) hdiv
   have i3 : (0 : Int) ≤ (t : Int) ∧ (t : Int) < ((3 : Nat) : Int) := ⟨by omega, by omega⟩
   have hg := arrA_get 3 (comeF CS) (i := t) (by omega)
   have hcf : comeF CS t = comeAt CS (t : Int) := rfl
   rw [hcf] at hg
   obtain ⟨C, hC⟩ : ∃ C, comeAt CS (t : Int) = C := ⟨_, rfl⟩
   rw [hC] at hsu hg
   have go : seenTo v bl CS (k + 1) = true → (k + 1 ≤ v.seen.length ∧ seenTo v bl CS (k + 1) = true) := fun q => ⟨by omega, q⟩
   have snp : ∀ τ n, n < σ.length → snapM (σ ++ τ) σ.length 20 (.ptr n 0) = some (.ptr n 0) := fun τ n hn => by rw [S_ptr, if_pos hn]
   cases h2 : bl.contains (k : Int)
   ·rw [h2] at hbit hsu
    rw [Bool.false_or] at hsu
    cases h3 : (C == x.minute)
    ·rw [h3] at hsu
     have hqf : seenOk v bl CS = false := by
      rw [← seenTo_all]
      simp only [seenTo, List.all_eq_false, List.mem_range] at hsu ⊢
      obtain ⟨a, ha, h1⟩ := hsu
      exact ⟨a, by omega, h1⟩
     (repeat (first | simp only [↓QA, QB, Nat.reduceLT, reduceIte, Nat.reduceEqDiff, Nat.reduceAdd, Nat.reduceLeDiff, Nat.reduceMul, Nat.reduceBEq, QXGTrP7, hk1, hx, hte, hq2, hp2, ht2, vs, va, hbit, i3, hg, h3] | refine rd0 rfl ?_))
     exact hKf hqf _ _ (by try simp only [TrimX, QE, Nat.reduceLT, reduceIte, Nat.reduceEqDiff, Nat.reduceAdd, Nat.reduceLeDiff, Nat.reduceMul, Nat.reduceBEq, QXGTrP7])
    ·rw [h3] at hsu
     (repeat (first | simp only [↓QA, QB, Nat.reduceLT, reduceIte, Nat.reduceEqDiff, Nat.reduceAdd, Nat.reduceLeDiff, Nat.reduceMul, Nat.reduceBEq, QXGTrP7, hk1, hx, hte, hq2, hp2, ht2, vs, va, hbit, i3, hg, h3] | refine rd0 rfl ?_))
     refine ⟨k + 1, go hsu, by omega, ?_⟩
     try simp only [TrimX, QE, Nat.reduceLT, reduceIte, Nat.reduceEqDiff, Nat.reduceAdd, Nat.reduceLeDiff, Nat.reduceMul, Nat.reduceBEq, QXGTrP7, hw, snp _ _ hql, snp _ _ hs2, snp _ _ hs5, snp _ _ htl]
     try simp [okBlk, hs2, hs5, hql, htl]
   ·rw [h2] at hbit hsu
    rw [Bool.true_or] at hsu
    (repeat (first | simp only [↓QA, QB, Nat.reduceLT, reduceIte, Nat.reduceEqDiff, Nat.reduceAdd, Nat.reduceLeDiff, Nat.reduceMul, Nat.reduceBEq, QXGTrP7, hk1, hx, hte, hq2, hp2, ht2, vs, va, hbit] | refine rd0 rfl ?_))
    refine ⟨k + 1, go hsu, by omega, ?_⟩
    try simp only [TrimX, QE, Nat.reduceLT, reduceIte, Nat.reduceEqDiff, Nat.reduceAdd, Nat.reduceLeDiff, Nat.reduceMul, Nat.reduceBEq, QXGTrP7, hw, snp _ _ hql, snp _ _ hs2, snp _ _ hs5, snp _ _ htl]
    try simp [okBlk, hs2, hs5, hql, htl]
  ·have hk1 : k = v.seen.length := by
    have : ¬ k < v.seen.length := by simpa using hd
    omega
   rw [hk1, seenTo_all] at hok
   (repeat (first | simp only [↓QA, QB, Nat.reduceLT, reduceIte, Nat.reduceEqDiff, Nat.reduceAdd, Nat.reduceLeDiff, Nat.reduceMul, Nat.reduceBEq, QXGTrP7] | refine rd0 rfl ?_))
   refine hKt hok _ ?_ ?_ ?_
   all_goals try simp only [TrimX, QE, Nat.reduceLT, reduceIte, Nat.reduceEqDiff, Nat.reduceAdd, Nat.reduceLeDiff, Nat.reduceMul, Nat.reduceBEq, QXGTrP7]
end Go.Am.Room
set_option maxRecDepth 8000
namespace Go.Am.Room
def QXGTrP8 := And.intro @encNet_eq (And.intro @netCells_eq (And.intro @encRail_eq (And.intro @encTram_eq (And.intro @encSeen_eq (And.intro @encSpan_eq (And.intro @S_mapRail (And.intro @S_mapTram (And.intro @S_mapSeen (And.intro @T_sapp (And.intro @T_sapp0 (And.intro @Nat.not_lt_zero (And.intro @List.length_append.{0} (And.intro @Nat.zero_add (And.intro @Nat.mul_one (And.intro @Int.toNat_natCast (And.intro @arrA_len (And.intro @arrA_take (And.intro @arrA_drop (And.intro @S_arrA (And.intro @arrA_cell (And.intro @db_0 (And.intro @db_1 (And.intro @db_2 (And.intro @db_3 (And.intro @db_4 (And.intro @db_5 (And.intro @Nat.add_lt_add_iff_left (And.intro @Nat.lt_add_right_iff_pos (And.intro @C_yield (@K_yield))))))))))))))))))))))))))))))
def onceF {A X : Type} [DecidableEq A] (f : A → X → X × Bool) (a : A) (s : Option A × X) : (Option A × X) × Bool := if s.1 = some a then (s, true) else ((some a, (f a s.2).1), (f a s.2).2)
theorem iterF_once {A X : Type} [DecidableEq A] (f : A → X → X × Bool) : ∀ (l : List A) (o : Option A) (x : X), l.Pairwise (· ≠ ·) → (∀ a ∈ l, o ≠ some a) → (iterF (onceF f) l (o, x)).1.2 = (iterF f l x).1 ∧ (iterF (onceF f) l (o, x)).2 = (iterF f l x).2
 | [], o, x, _, _ => ⟨rfl, rfl⟩
 | a :: l, o, x, h, ho => by
  have h0 := ho a (by simp)
  obtain ⟨h1, h2⟩ := List.pairwise_cons.1 h
  have ih := iterF_once f l (some a) (f a x).1 h2 fun b hb e => h1 b hb (by simpa using e)
  simp only [iterF, onceF, h0, if_false]
  split
  ·exact ih
  ·exact ⟨rfl, rfl⟩
theorem once_mem {A X : Type} [DecidableEq A] (f : A → X → X × Bool) : ∀ (az : List A) (o : Option A) (x : X) (u : A), (iterF (onceF f) az (o, x)).1.1 = some u → o = some u ∨ u ∈ az
 | [], o, x, u, h => .inl h
 | a :: az, o, x, u, h => by
  simp only [iterF, onceF] at h
  by_cases ho : o = some a
  ·simp only [ho, if_true] at h
   rcases once_mem f az (some a) x u h with h | h
   ·exact .inl (ho.trans h)
   ·exact .inr (by simp [h])
  ·simp only [ho, if_false] at h
   split at h
   ·rcases once_mem f az (some a) _ u h with h | h
    ·simp at h; exact .inr (by simp [h])
    ·exact .inr (by simp [h])
   ·simp at h; exact .inr (by simp [h])
theorem rl_app (l : List Int) (n : Int) : rl (l ++ [n]) = updF (rl l) l.length n := by
 funext i
 simp only [rl, updF]
 by_cases h : i = l.length
 ·subst h; simp
 ·rw [if_neg h]
  by_cases h2 : i < l.length
  ·rw [List.getElem?_append_left h2]
  ·rw [List.getElem?_eq_none (by simp; omega), List.getElem?_eq_none (by omega)]
theorem rl_upd0 (l : List Int) : updF (rl l) l.length 0 = rl l := by
 funext i
 simp only [updF]
 split
 ·rename_i h; subst h; simp [rl]
 ·rfl
def perC {X : Type} (v : Net) (bl : List Int) (f : List Int → X → X × Bool) (c : List Int) (y : X × List K5) : (X × List K5) × Bool :=
 if fitsP v bl c = true then (((f c y.1).1, memoStep y.2 (pad c)), (f c y.1).2) else ((y.1, memoStep y.2 (pad c)), true)
structure LeafOk (v : Net) (c : List Int) : Prop where
 len : c.length = v.rails.length
 mins : MinsOk v (rlI c)
def tArgs (v : Net) (c : List Int) (_ : Bool) (_ : Option Nat) : List AV := [.agg (arrA 5 (rl c)), .agg (arrA 3 (comeF (comesP v c)))]
def YieldsP {X : Type} (Zp ZDp : X × List K5 → St) (id : Nat) (v : Net) (P : List Int → Prop) (f : List Int → X → X × Bool) : Prop :=
 ∀ t, P t → ∀ (y : X × List K5) τ, Run T (.callv (.yield id) [.agg (arrA 5 (rl t)), .agg (arrA 3 (comeF (comesP v t)))] (Zp y ++ τ)) fun o => o.v = .bool (f t y.1).2 ∧ ∃ τ', o.σ = Fam.out Zp ZDp (((f t y.1).1, y.2), (f t y.1).2) ++ (τ ++ τ')
def nextF (q N : Nat) : AV := .func 108 [] [.ptr q 0, .ptr (N + 1) 0, .ptr (N + 2) 0, .ptr (N + 3) 0, .ptr N 0, .ptr (N + 4) 0, .ptr (N + 5) 0]
theorem nextF_eq (q N : Nat) : nextF q N = .func 108 [] [.ptr q 0, .ptr (N + 1) 0, .ptr (N + 2) 0, .ptr (N + 3) 0, .ptr N 0, .ptr (N + 4) 0, .ptr (N + 5) 0] := by simp only [nextF]
def nextB (id q N : Nat) (o : Option (List Int)) (A : Nat → Int) : St := [.cells [.yield id], .cells (arrA 5 A), .cells (arrA 5 (rl (o.getD []))), .cells [.bool o.isNone], .cells canCells, .cells [nextF q N]]
theorem nextB_eq (id q N : Nat) (o : Option (List Int)) (A : Nat → Int) (τ : St) : nextB id q N o A ++ τ = .cells [.yield id] :: .cells (arrA 5 A) :: .cells (arrA 5 (rl (o.getD []))) :: .cells [.bool o.isNone] :: .cells canCells :: .cells [nextF q N] :: τ := by simp [nextB]
def NextR {X : Type} (Zp ZDp : X × List K5 → St) (id q N : Nat) (l : List Int) (τ : St) (r : (Option (List Int) × (X × List K5)) × Bool) (o : Out) : Prop :=
 o.v = .bool r.2 ∧ ∃ A τ', o.σ = Fam.out Zp ZDp (r.1.2, r.2) ++ (nextB id q N r.1.1 A ++ (τ ++ τ')) ∧ (r.2 = true → A = rl l)
theorem leaf_run {X : Type} {Zp ZDp : X × List K5 → St} {v : Net} {b p m q N : Nat} {bl : List Int} (hR : Fam Zp ZDp (db v b m) p q N) (hS : ∀ x, MemAt (fun A => Zp (x, A)) (db v b m) (tEs v) p m N) (hv : Vd v) (hb : ButIs b bl) {id : Nat} {P : List Int → Prop} {f : List Int → X → X × Bool} (hy : YieldsP Zp ZDp id v P f)
  (c : List Int) (hc : LeafOk v c) (hP : fitsP v bl c = true → P c) (o : Option (List Int)) (ho : ∀ u, o = some u → u.length = v.rails.length) (y : X × List K5) (τ : St) :
  Run T (.callv (nextF q N) [.int .i64 c.length] (Zp y ++ (nextB id q N o (rl c) ++ τ))) (NextR Zp ZDp id q N c τ (onceF (perC v bl f) c (o, y))) := by
 have hnr := hv.nra
 have hcl := hc.len
 simp only [nextF_eq]
 refine .callf (.call (af := a108) rfl (by simp [a108]) (run_wp (K := fun j e σ' => (j = none ∨ j = some .ret) ∧ NextR Zp ZDp id q N c τ (onceF (perC v bl f) c (o, y)) ⟨none, [], σ', Env.get e 9⟩) ?_ fun o ho => ho) fun w hw => ⟨hw.1, _, rfl, .inl hw.2⟩)
 have hE : ((c.length : Int) == (v.rails.length : Int)) = true := by rw [hcl]; simp
 have heq : eqCells [.i, .i, .i, .i, .i] (arrA 5 (rl c)) (arrA 5 (rl (o.getD []))) = some ((List.range 5).all fun i => rl c i == rl (o.getD []) i) := arrA_eq 5 (rl c) (rl (o.getD []))
 obtain ⟨B, hB⟩ : ∃ B, ((List.range 5).all fun i => rl c i == rl (o.getD []) i) = B := ⟨_, rfl⟩
 rw [hB] at heq
 by_cases hu : o = some c
 ·subst hu
  have hBt : B = true := by rw [← hB]; simp
  subst hBt
  have hon : onceF (perC v bl f) c (some c, y) = ((some c, y), true) := by simp [onceF]
  rw [hon, nextB_eq]
  simp only [Option.getD_some] at heq
  (repeat (first | simp only [↓QA, QB, Nat.reduceLT, reduceIte, Nat.reduceEqDiff, Nat.reduceAdd, Nat.reduceLeDiff, Nat.reduceMul, Nat.reduceBEq, QXGTrP8, hR.len, hR.base, hR.base0, hR.bset, hR.bset0, hR.at1, hR.atq1, a108, hE, heq, Option.isNone_some, Option.getD_some] | refine rd0 rfl ?_))
  exact ⟨rfl, rl c, [], by simp [nextB, Fam.out], fun _ => rfl⟩
 ·have hon : onceF (perC v bl f) c (o, y) = ((some c, (perC v bl f c y).1), (perC v bl f c y).2) := by simp [onceF, hu]
  have hgo : (B && !o.isNone) = false := by
   cases o with
   | none => simp
   | some u =>
    have hul := ho u rfl
    have : B = decide (c = u) := by rw [← hB]; exact rl_inj (a := c) (b := u) (by omega) (by omega)
    rw [this]
    simp only [Option.isNone_some, Bool.not_false, Bool.and_true, decide_eq_false_iff_not]
    rintro rfl
    exact hu rfl
  rw [hon]
  obtain ⟨x, A⟩ := y
  obtain ⟨A', hA'⟩ : ∃ A', memoStep A (pad c) = A' := ⟨_, rfl⟩
  have hper : perC v bl f c (x, A) = if fitsP v bl c = true then (((f c x).1, A'), (f c x).2) else ((x, A'), true) := by rw [perC, hA']
  have hl1 := fun τ => keyLook (five_key v) (hS x) A τ (pad c)
  have hput := fun τ (hw : pad c ∉ A) => keyPut (five_key v) (hS x) A τ (pad c) hw
  simp only [encK_eq, valK_eq, arr_pad, comes_pad v (show c.length ≤ 5 by omega)] at hl1 hput
  have hcal := hy c
  have hfit : fitsP v bl c = seenOk v bl (comesP v c) := rfl
  have hcc : (comesP v c).length = v.trams.length := run_len _ _ _ _
  obtain ⟨CS, hCS⟩ : ∃ CS, comesP v c = CS := ⟨_, rfl⟩
  have hrun : ∀ (σ : St) (hσ : cellsAt σ p = some (db v b m)), Same T (.func 109 [] []) [.ptr p 0, .agg (arrA 5 (rl c)), .func 110 [.ptr p 0] []] σ (.agg (arrA 3 (comeF CS))) := fun σ hσ => by
   have hpl := cells_lt hσ
   rw [← hCS]
   exact run_same v hv b m p σ hσ hpl _ (fun τ n hn => by
    try simp only [QS, QC, Nat.reduceLT, reduceIte, Nat.reduceEqDiff, Nat.reduceAdd, Nat.reduceLeDiff, Nat.reduceMul, Nat.reduceBEq, QXGTrP8, hR.len, hR.base, hR.base0, hR.bset, hR.bset0, hR.at1, hR.atq1, S_func]
    simp [show p < n by omega]) (ownOf v) (own_ok hv) (fun i hi τ => own_same v b m p _ (cells_app hσ τ) i hi) (rl c) (rlI c) (rlI_rl c) hc.mins
  rw [hCS] at hl1 hput hfit hcc hcal
  have hpN := hR.pl
  have hqN := hR.ql
  have hP' := hP
  rw [hfit] at hP' hper
  rw [nextB_eq]
  -- behind the look into the map: the things that were seen
  have tail : ∀ (e : Env) (K : KJ), Env.get e 1 = .ptr q 0 → Env.get e 2 = .ptr (N + 1) 0 → Env.get e 5 = .ptr N 0 → Env.get e 10 = .ptr (N + (τ.length + 1 + 1 + 1 + 1 + 1 + 1)) 0 → Env.get e 58 = .lit (v.seen.map encSeen) false none → Env.get e 59 = .int .i64 v.seen.length → Env.get e 60 = .int .i64 0 →
    (seenOk v bl CS = true → ∀ e', Env.get e' 2 = .ptr (N + 1) 0 → Env.get e' 5 = .ptr N 0 → Env.get e' 10 = .ptr (N + (τ.length + 1 + 1 + 1 + 1 + 1 + 1)) 0 → K (some (.exit 0)) e' (Zp (x, A') ++ (nextB id q N (some c) (rl c) ++ (τ ++ [.cells (arrA 3 (comeF CS))])))) →
    (seenOk v bl CS = false → ∀ e' τ', Env.get e' 9 = .bool true → K (some .ret) e' ((Zp (x, A') ++ (nextB id q N (some c) (rl c) ++ (τ ++ [.cells (arrA 3 (comeF CS))]))) ++ τ')) →
    rK (K := ⟨K⟩) T (.loop L108_0) e (Zp (x, A') ++ (nextB id q N (some c) (rl c) ++ (τ ++ [.cells (arrA 3 (comeF CS))]))) := by
   intro e K e1 e2 e5 e10 e58 e59 e60 hKt hKf
   refine seen_in v hv b m p q (N + (τ.length + 1 + 1 + 1 + 1 + 1 + 1)) (N + 1) N bl CS hb hcc _ (hR.atq1 _ _) (hR.at1 _ _) ?_ ?_ ?_ e K e1 e2 e5 e10 e58 e59 e60 hKt hKf
   ·rw [nextB_eq, hR.base]
    simp only [M_atS]
    have := M_base0 τ [.cells (arrA 3 (comeF CS))]
    rw [this]; rfl
   ·simp [hR.len, nextB]
   ·simp [hR.len, nextB]
  have hta : ∀ (y : X × List K5) (b0 b1 b2 b3 b4 b5 : ABlk), cellsAt (Zp y ++ (b0 :: b1 :: b2 :: b3 :: b4 :: b5 :: (τ ++ [.cells (arrA 3 (comeF CS))]))) (N + (τ.length + 1 + 1 + 1 + 1 + 1 + 1)) = some (arrA 3 (comeF CS)) := fun y b0 b1 b2 b3 b4 b5 => by
   rw [hR.base]
   simp only [M_atS]
   rw [M_base0]; rfl
  have htz : ∀ (y : X × List K5) (b0 b1 b2 b3 b4 b5 : ABlk) (cs : List AV), cellsAt (Zp y ++ (b0 :: b1 :: b2 :: b3 :: b4 :: b5 :: (τ ++ [.cells cs]))) (N + (τ.length + 1 + 1 + 1 + 1 + 1 + 1)) = some cs := fun y b0 b1 b2 b3 b4 b5 cs => by
   rw [hR.base]
   simp only [M_atS]
   rw [M_base0]; rfl
  have hts : ∀ (y : X × List K5) (b0 b1 b2 b3 b4 b5 : ABlk) (cs : List AV) (B : ABlk), (Zp y ++ (b0 :: b1 :: b2 :: b3 :: b4 :: b5 :: (τ ++ [.cells cs]))).set (N + (τ.length + 1 + 1 + 1 + 1 + 1 + 1)) B = Zp y ++ (b0 :: b1 :: b2 :: b3 :: b4 :: b5 :: (τ ++ [B])) := fun y b0 b1 b2 b3 b4 b5 cs B => by
   rw [hR.bset]
   simp only [List.set_cons_succ]
   rw [st_set0]; rfl
  have hlen : ∀ (y : X × List K5), (Zp y).length = N := hR.len
  by_cases hw : pad c ∈ A
  ·have hA2 : A' = A := by rw [← hA', memoStep, if_pos hw]
   subst hA2
   simp only [hw, if_true] at hl1
   cases B
   ·(repeat (first | simp only [↓QA, QB, Nat.reduceLT, reduceIte, Nat.reduceEqDiff, Nat.reduceAdd, Nat.reduceLeDiff, Nat.reduceMul, Nat.reduceBEq, QXGTrP8, hR.len, hR.base, hR.base0, hR.bset, hR.bset0, hR.at1, hR.atq1, a108, hE, heq] | refine rd0 rfl ?_))
    refine rK_dreg1 [.cells [.int .i64 0, .int .i64 0, .int .i64 0]] rfl ?_
    (repeat (first | simp only [↓QA, QB, Nat.reduceLT, reduceIte, Nat.reduceEqDiff, Nat.reduceAdd, Nat.reduceLeDiff, Nat.reduceMul, Nat.reduceBEq, QXGTrP8, hR.len, hR.base, hR.base0, hR.bset, hR.bset0, hR.at1, hR.atq1, hl1, V_lookS, V_lookN, hlen, htz, hts] | refine rd0 rfl ?_))
    refine tail _ _ ?_ ?_ ?_ ?_ ?_ ?_ ?_ ?_ ?_
    all_goals try try simp only [TrimX, QE, Nat.reduceLT, reduceIte, Nat.reduceEqDiff, Nat.reduceAdd, Nat.reduceLeDiff, Nat.reduceMul, Nat.reduceBEq, QXGTrP8, hR.len, hR.base, hR.base0, hR.bset, hR.bset0, hR.at1, hR.atq1]
    ·intro hs e' q2 q5 q10
     have hc2 := fun A => hcal (hP' hs) (x, A)
     rw [hs, if_pos rfl] at hper
     rw [hper, nextB_eq]
     (repeat (first | simp only [↓QA, QB, Nat.reduceLT, reduceIte, Nat.reduceEqDiff, Nat.reduceAdd, Nat.reduceLeDiff, Nat.reduceMul, Nat.reduceBEq, QXGTrP8, hR.len, hR.base, hR.base0, hR.bset, hR.bset0, hR.at1, hR.atq1, q2, q5, q10, hta] | refine rd0 rfl ?_))
     refine .mono (hc2 _ _) fun w hw => ?_
     obtain ⟨hw1, τ', hw2⟩ := hw
     rw [hw1, hw2]
     (repeat (first | simp only [↓QA, QB, Nat.reduceLT, reduceIte, Nat.reduceEqDiff, Nat.reduceAdd, Nat.reduceLeDiff, Nat.reduceMul, Nat.reduceBEq, QXGTrP8, hR.len, hR.base, hR.base0, hR.bset, hR.bset0, hR.at1, hR.atq1, q2, q5, q10] | refine rd0 rfl ?_))
     exact ⟨rfl, rl c, [.cells (arrA 3 (comeF CS))] ++ τ', by simp [nextB], fun _ => rfl⟩
    ·intro hs e' τ' q9
     rw [hs] at hper
     simp only [Bool.false_eq_true, if_false] at hper
     rw [hper]
     (repeat (first | simp only [↓QA, QB, Nat.reduceLT, reduceIte, Nat.reduceEqDiff, Nat.reduceAdd, Nat.reduceLeDiff, Nat.reduceMul, Nat.reduceBEq, QXGTrP8, hR.len, hR.base, hR.base0, hR.bset, hR.bset0, hR.at1, hR.atq1, q9] | refine rd0 rfl ?_))
     exact ⟨rfl, rl c, [.cells (arrA 3 (comeF CS))] ++ τ', by simp [Fam.out], fun _ => rfl⟩
   ·rw [Bool.true_and] at hgo
    have hgo' : o.isNone = true := by simpa using hgo
    (repeat (first | simp only [↓QA, QB, Nat.reduceLT, reduceIte, Nat.reduceEqDiff, Nat.reduceAdd, Nat.reduceLeDiff, Nat.reduceMul, Nat.reduceBEq, QXGTrP8, hR.len, hR.base, hR.base0, hR.bset, hR.bset0, hR.at1, hR.atq1, a108, hE, heq, hgo'] | refine rd0 rfl ?_))
    refine rK_dreg1 [.cells [.int .i64 0, .int .i64 0, .int .i64 0]] rfl ?_
    (repeat (first | simp only [↓QA, QB, Nat.reduceLT, reduceIte, Nat.reduceEqDiff, Nat.reduceAdd, Nat.reduceLeDiff, Nat.reduceMul, Nat.reduceBEq, QXGTrP8, hR.len, hR.base, hR.base0, hR.bset, hR.bset0, hR.at1, hR.atq1, hl1, V_lookS, V_lookN, hlen, htz, hts] | refine rd0 rfl ?_))
    refine tail _ _ ?_ ?_ ?_ ?_ ?_ ?_ ?_ ?_ ?_
    all_goals try try simp only [TrimX, QE, Nat.reduceLT, reduceIte, Nat.reduceEqDiff, Nat.reduceAdd, Nat.reduceLeDiff, Nat.reduceMul, Nat.reduceBEq, QXGTrP8, hR.len, hR.base, hR.base0, hR.bset, hR.bset0, hR.at1, hR.atq1]
    ·intro hs e' q2 q5 q10
     have hc2 := fun A => hcal (hP' hs) (x, A)
     rw [hs, if_pos rfl] at hper
     rw [hper, nextB_eq]
     (repeat (first | simp only [↓QA, QB, Nat.reduceLT, reduceIte, Nat.reduceEqDiff, Nat.reduceAdd, Nat.reduceLeDiff, Nat.reduceMul, Nat.reduceBEq, QXGTrP8, hR.len, hR.base, hR.base0, hR.bset, hR.bset0, hR.at1, hR.atq1, q2, q5, q10, hta] | refine rd0 rfl ?_))
     refine .mono (hc2 _ _) fun w hw => ?_
     obtain ⟨hw1, τ', hw2⟩ := hw
     rw [hw1, hw2]
     (repeat (first | simp only [↓QA, QB, Nat.reduceLT, reduceIte, Nat.reduceEqDiff, Nat.reduceAdd, Nat.reduceLeDiff, Nat.reduceMul, Nat.reduceBEq, QXGTrP8, hR.len, hR.base, hR.base0, hR.bset, hR.bset0, hR.at1, hR.atq1, q2, q5, q10] | refine rd0 rfl ?_))
     exact ⟨rfl, rl c, [.cells (arrA 3 (comeF CS))] ++ τ', by simp [nextB], fun _ => rfl⟩
    ·intro hs e' τ' q9
     rw [hs] at hper
     simp only [Bool.false_eq_true, if_false] at hper
     rw [hper]
     (repeat (first | simp only [↓QA, QB, Nat.reduceLT, reduceIte, Nat.reduceEqDiff, Nat.reduceAdd, Nat.reduceLeDiff, Nat.reduceMul, Nat.reduceBEq, QXGTrP8, hR.len, hR.base, hR.base0, hR.bset, hR.bset0, hR.at1, hR.atq1, q9] | refine rd0 rfl ?_))
     exact ⟨rfl, rl c, [.cells (arrA 3 (comeF CS))] ++ τ', by simp [Fam.out], fun _ => rfl⟩
  ·have hA2 : A' = A ++ [pad c] := by rw [← hA', memoStep, if_neg hw]
   subst hA2
   simp only [hw, if_false] at hl1
   have hput := fun τ => hput τ hw
   cases B
   ·(repeat (first | simp only [↓QA, QB, Nat.reduceLT, reduceIte, Nat.reduceEqDiff, Nat.reduceAdd, Nat.reduceLeDiff, Nat.reduceMul, Nat.reduceBEq, QXGTrP8, hR.len, hR.base, hR.base0, hR.bset, hR.bset0, hR.at1, hR.atq1, a108, hE, heq] | refine rd0 rfl ?_))
    refine rK_dreg1 [.cells [.int .i64 0, .int .i64 0, .int .i64 0]] rfl ?_
    (repeat (first | simp only [↓QA, QB, Nat.reduceLT, reduceIte, Nat.reduceEqDiff, Nat.reduceAdd, Nat.reduceLeDiff, Nat.reduceMul, Nat.reduceBEq, QXGTrP8, hR.len, hR.base, hR.base0, hR.bset, hR.bset0, hR.at1, hR.atq1, hl1, V_lookS, V_lookN, hlen, htz, hts] | refine rd0 rfl ?_))
    refine callK_same (hrun _ (hR.at1 _ _)) ?_
    (repeat (first | simp only [↓QA, QB, Nat.reduceLT, reduceIte, Nat.reduceEqDiff, Nat.reduceAdd, Nat.reduceLeDiff, Nat.reduceMul, Nat.reduceBEq, QXGTrP8, hR.len, hR.base, hR.base0, hR.bset, hR.bset0, hR.at1, hR.atq1, hlen, htz, hts, hput] | refine rd0 rfl ?_))
    refine tail _ _ ?_ ?_ ?_ ?_ ?_ ?_ ?_ ?_ ?_
    all_goals try try simp only [TrimX, QE, Nat.reduceLT, reduceIte, Nat.reduceEqDiff, Nat.reduceAdd, Nat.reduceLeDiff, Nat.reduceMul, Nat.reduceBEq, QXGTrP8, hR.len, hR.base, hR.base0, hR.bset, hR.bset0, hR.at1, hR.atq1]
    ·intro hs e' q2 q5 q10
     have hc2 := fun A => hcal (hP' hs) (x, A)
     rw [hs, if_pos rfl] at hper
     rw [hper, nextB_eq]
     (repeat (first | simp only [↓QA, QB, Nat.reduceLT, reduceIte, Nat.reduceEqDiff, Nat.reduceAdd, Nat.reduceLeDiff, Nat.reduceMul, Nat.reduceBEq, QXGTrP8, hR.len, hR.base, hR.base0, hR.bset, hR.bset0, hR.at1, hR.atq1, q2, q5, q10, hta] | refine rd0 rfl ?_))
     refine .mono (hc2 _ _) fun w hw => ?_
     obtain ⟨hw1, τ', hw2⟩ := hw
     rw [hw1, hw2]
     (repeat (first | simp only [↓QA, QB, Nat.reduceLT, reduceIte, Nat.reduceEqDiff, Nat.reduceAdd, Nat.reduceLeDiff, Nat.reduceMul, Nat.reduceBEq, QXGTrP8, hR.len, hR.base, hR.base0, hR.bset, hR.bset0, hR.at1, hR.atq1, q2, q5, q10] | refine rd0 rfl ?_))
     exact ⟨rfl, rl c, [.cells (arrA 3 (comeF CS))] ++ τ', by simp [nextB], fun _ => rfl⟩
    ·intro hs e' τ' q9
     rw [hs] at hper
     simp only [Bool.false_eq_true, if_false] at hper
     rw [hper]
     (repeat (first | simp only [↓QA, QB, Nat.reduceLT, reduceIte, Nat.reduceEqDiff, Nat.reduceAdd, Nat.reduceLeDiff, Nat.reduceMul, Nat.reduceBEq, QXGTrP8, hR.len, hR.base, hR.base0, hR.bset, hR.bset0, hR.at1, hR.atq1, q9] | refine rd0 rfl ?_))
     exact ⟨rfl, rl c, [.cells (arrA 3 (comeF CS))] ++ τ', by simp [Fam.out], fun _ => rfl⟩
   ·rw [Bool.true_and] at hgo
    have hgo' : o.isNone = true := by simpa using hgo
    (repeat (first | simp only [↓QA, QB, Nat.reduceLT, reduceIte, Nat.reduceEqDiff, Nat.reduceAdd, Nat.reduceLeDiff, Nat.reduceMul, Nat.reduceBEq, QXGTrP8, hR.len, hR.base, hR.base0, hR.bset, hR.bset0, hR.at1, hR.atq1, a108, hE, heq, hgo'] | refine rd0 rfl ?_))
    refine rK_dreg1 [.cells [.int .i64 0, .int .i64 0, .int .i64 0]] rfl ?_
    (repeat (first | simp only [↓QA, QB, Nat.reduceLT, reduceIte, Nat.reduceEqDiff, Nat.reduceAdd, Nat.reduceLeDiff, Nat.reduceMul, Nat.reduceBEq, QXGTrP8, hR.len, hR.base, hR.base0, hR.bset, hR.bset0, hR.at1, hR.atq1, hl1, V_lookS, V_lookN, hlen, htz, hts] | refine rd0 rfl ?_))
    refine callK_same (hrun _ (hR.at1 _ _)) ?_
    (repeat (first | simp only [↓QA, QB, Nat.reduceLT, reduceIte, Nat.reduceEqDiff, Nat.reduceAdd, Nat.reduceLeDiff, Nat.reduceMul, Nat.reduceBEq, QXGTrP8, hR.len, hR.base, hR.base0, hR.bset, hR.bset0, hR.at1, hR.atq1, hlen, htz, hts, hput] | refine rd0 rfl ?_))
    refine tail _ _ ?_ ?_ ?_ ?_ ?_ ?_ ?_ ?_ ?_
    all_goals try try simp only [TrimX, QE, Nat.reduceLT, reduceIte, Nat.reduceEqDiff, Nat.reduceAdd, Nat.reduceLeDiff, Nat.reduceMul, Nat.reduceBEq, QXGTrP8, hR.len, hR.base, hR.base0, hR.bset, hR.bset0, hR.at1, hR.atq1]
    ·intro hs e' q2 q5 q10
     have hc2 := fun A => hcal (hP' hs) (x, A)
     rw [hs, if_pos rfl] at hper
     rw [hper, nextB_eq]
     (repeat (first | simp only [↓QA, QB, Nat.reduceLT, reduceIte, Nat.reduceEqDiff, Nat.reduceAdd, Nat.reduceLeDiff, Nat.reduceMul, Nat.reduceBEq, QXGTrP8, hR.len, hR.base, hR.base0, hR.bset, hR.bset0, hR.at1, hR.atq1, q2, q5, q10, hta] | refine rd0 rfl ?_))
     refine .mono (hc2 _ _) fun w hw => ?_
     obtain ⟨hw1, τ', hw2⟩ := hw
     rw [hw1, hw2]
     (repeat (first | simp only [↓QA, QB, Nat.reduceLT, reduceIte, Nat.reduceEqDiff, Nat.reduceAdd, Nat.reduceLeDiff, Nat.reduceMul, Nat.reduceBEq, QXGTrP8, hR.len, hR.base, hR.base0, hR.bset, hR.bset0, hR.at1, hR.atq1, q2, q5, q10] | refine rd0 rfl ?_))
     exact ⟨rfl, rl c, [.cells (arrA 3 (comeF CS))] ++ τ', by simp [nextB], fun _ => rfl⟩
    ·intro hs e' τ' q9
     rw [hs] at hper
     simp only [Bool.false_eq_true, if_false] at hper
     rw [hper]
     (repeat (first | simp only [↓QA, QB, Nat.reduceLT, reduceIte, Nat.reduceEqDiff, Nat.reduceAdd, Nat.reduceLeDiff, Nat.reduceMul, Nat.reduceBEq, QXGTrP8, hR.len, hR.base, hR.base0, hR.bset, hR.bset0, hR.at1, hR.atq1, q9] | refine rd0 rfl ?_))
     exact ⟨rfl, rl c, [.cells (arrA 3 (comeF CS))] ++ τ', by simp [Fam.out], fun _ => rfl⟩
end Go.Am.Room
set_option maxRecDepth 8000
namespace Go.Am.Room
def QXGTrP9 := And.intro @encNet_eq (And.intro @netCells_eq (And.intro @encRail_eq (And.intro @encTram_eq (And.intro @encSeen_eq (And.intro @encSpan_eq (And.intro @S_mapRail (And.intro @S_mapTram (And.intro @S_mapSeen (And.intro @T_sapp (And.intro @T_sapp0 (And.intro @Nat.not_lt_zero (And.intro @List.length_append.{0} (And.intro @Nat.zero_add (And.intro @Nat.mul_one (And.intro @Int.toNat_natCast (And.intro @arrA_len (And.intro @arrA_take (And.intro @arrA_drop (And.intro @S_arrA (And.intro @arrA_cell (And.intro @db_0 (And.intro @db_1 (And.intro @db_2 (And.intro @db_3 (And.intro @db_4 (And.intro @db_5 (And.intro @Nat.add_lt_add_iff_left (And.intro @Nat.lt_add_right_iff_pos (And.intro @C_yield (And.intro @K_yield (And.intro @q_loopNone (@q_loopSome))))))))))))))))))))))))))))))))
theorem canF_ev (k : Nat) : canF k = .func (if k = 0 then 116 else if k = 1 then 117 else 118) [] [] := by
 unfold canF; split
 ·rfl
 ·split <;> rfl
def restN (v : Net) (r : Rail) (rs : List Rail) (l : List Int) (n : Int) : List (List Int) := (if r.shut = 1 then [] else numbers n (r.mins.hi + 1 - n).toNat).flatMap fun n => leafs rs (l ++ [n])
def railCells (r : Rail) : List AV := [.int .i64 r.a, .int .i64 r.b, .int .i64 r.mins.lo, .int .i64 r.mins.hi, .int .i64 r.shut]
theorem railCells_eq (r : Rail) : railCells r = [.int .i64 r.a, .int .i64 r.b, .int .i64 r.mins.lo, .int .i64 r.mins.hi, .int .i64 r.shut] := by simp only [railCells]
def NextI {X : Type} (Zp ZDp : X × List K5 → St) (F : List Int → X × List K5 → (X × List K5) × Bool) (v : Net) (q id N : Nat) (l : List Int) (r : Rail) (rs : List Rail) (τ : St) (R : (Option (List Int) × (X × List K5)) × Bool) (k : Nat) (e : Env) (σ : St) : Prop :=
 Env.get e 0 = .int .i64 l.length ∧ Env.get e 2 = .ptr (N + 1) 0 ∧ Env.get e 6 = .ptr (N + 4) 0 ∧ Env.get e 7 = .ptr (N + 5) 0 ∧ Env.get e 14 = .ptr (N + (τ.length + 1 + 1 + 1 + 1 + 1 + 1)) 0 ∧ ∃ n o y c τ2, Env.get e 15 = .int .i64 n ∧ r.mins.lo ≤ n ∧ n ≤ r.mins.hi + 1 ∧ k = (r.mins.hi + 1 - n).toNat ∧ (∀ u, o = some u → u.length = v.rails.length) ∧
   σ = Zp y ++ (nextB id q N o (updF (rl l) l.length c) ++ (τ ++ (.cells (railCells r) :: τ2))) ∧ iterF (onceF F) (restN v r rs l n) (o, y) = R
theorem next_run {X : Type} {Zp ZDp : X × List K5 → St} {v : Net} {b p m q N : Nat} {bl : List Int} (hR : Fam Zp ZDp (db v b m) p q N) (hS : ∀ x, MemAt (fun A => Zp (x, A)) (db v b m) (tEs v) p m N) (hv : Vd v) (hb : ButIs b bl) {id : Nat} {P : List Int → Prop} {f : List Int → X → X × Bool} (hy : YieldsP Zp ZDp id v P f) (hP : ∀ c, LeafOk v c → fitsP v bl c = true → P c) :
  ∀ (rs : List Rail) (l : List Int) (o : Option (List Int)) (y : X × List K5) (τ : St), rs = v.rails.drop l.length → l.length ≤ v.rails.length → (∀ i, i < l.length → 0 ≤ rl l i ∧ rl l i ≤ 20) → (∀ u, o = some u → u.length = v.rails.length) →
   Run T (.callv (nextF q N) [.int .i64 l.length] (Zp y ++ (nextB id q N o (rl l) ++ τ))) (NextR Zp ZDp id q N l τ (iterF (onceF (perC v bl f)) (leafs rs l) (o, y)))
 | [], l, o, y, τ, hrs, hl, hbd, ho => by
  have hl2 : l.length = v.rails.length := by
   have := congrArg List.length hrs
   simp at this
   omega
  simp only [leafs, iterF_one]
  refine leaf_run hR hS hv hb hy l ⟨hl2, fun r h0 h1 => ?_⟩ (hP l ⟨hl2, fun r h0 h1 => ?_⟩) o ho y τ
  all_goals
   have := hbd r.toNat (by omega)
   simpa [rlI, rl] using this
 | r :: rs, l, o, y, τ, hrs, hl, hbd, ho => by
  have hlt : l.length < v.rails.length := by
   have := congrArg List.length hrs
   simp at this
   omega
  have hnr := hv.nra
  have hdr := List.drop_eq_getElem_cons hlt
  rw [← hrs] at hdr
  have hs : v.rails[l.length] = r := by have := (List.cons.inj hdr).1; exact this.symm
  have hrs2 : rs = v.rails.drop (l.length + 1) := (List.cons.inj hdr).2
  have hra := hv.ra _ (List.getElem_mem hlt)
  rw [hs] at hra
  have hmi := hra.mins
  have hsh := hra.shut
  obtain ⟨S, hS2⟩ : ∃ S : Nat, r.shut = (S : Int) := ⟨r.shut.toNat, by omega⟩
  have hS3 : S < 3 := by omega
  have hE : ((l.length : Int) == (v.rails.length : Int)) = false := by simp; omega
  have i5 : (0 : Int) ≤ (l.length : Int) ∧ (l.length : Int) < ((5 : Nat) : Int) := ⟨by omega, by omega⟩
  have c5 : l.length + 1 ≤ 5 := by omega
  have iS : (0 : Int) ≤ (S : Int) ∧ (S : Int) < ((3 : Nat) : Int) := ⟨by omega, by omega⟩
  have hcg := canC_get hS3
  have hct := fun σ => canF_same S hS3 true σ
  have hcf := fun σ => canF_same S hS3 false σ
  have hc1 : canC (S : Int) true = !decide (S = 0) := by
   have : ((S : Int) = 0) = (S = 0) := by rw [eq_iff_iff]; omega
   simp [canC]
  have hc2 : canC (S : Int) false = !decide (S = 1) := by
   have : ((S : Int) = 1) = (S = 1) := by rw [eq_iff_iff]; omega
   simp [canC]; omega
  rw [hc1] at hct
  rw [hc2] at hcf
  have hcE := canF_ev S
  obtain ⟨CF, hCF⟩ : ∃ CF, (if S = 0 then 116 else if S = 1 then 117 else 118) = CF := ⟨_, rfl⟩
  rw [hCF] at hcE
  rw [hcE] at hcg
  simp only [hcE] at hct hcf
  have hwd : IntKind.i64.wrap ((l.length : Int) + 1) = ((l.length + 1 : Nat) : Int) := wrapN hlt (by omega)
  have ih := fun (n : Int) (hn : 0 ≤ n ∧ n ≤ 20) (o : Option (List Int)) (y : X × List K5) (τ : St) (ho : ∀ u, o = some u → u.length = v.rails.length) => next_run hR hS hv hb hy hP rs (l ++ [n]) o y τ (by rw [hrs2]; simp) (by simp; omega) (fun i hi => by
   rw [rl_app]
   simp only [updF]
   by_cases e : i = l.length
   ·subst e
    rw [if_pos rfl]
    exact hn
   ·rw [if_neg e]
    exact hbd i (by simp at hi; omega)) ho
  obtain ⟨F, hF⟩ : ∃ F, perC v bl f = F := ⟨_, rfl⟩
  rw [hF] at ih ⊢
  obtain ⟨R, hRR⟩ : ∃ R, iterF (onceF F) (leafs (r :: rs) l) (o, y) = R := ⟨_, rfl⟩
  rw [hRR]
  have hsplit : leafs (r :: rs) l = (if S = 0 then [] else leafs rs (l ++ [0])) ++ restN v r rs l r.mins.lo := by
   have e0 : (r.shut = 0) = (S = 0) := by rw [eq_iff_iff]; omega
   simp only [leafs, chP, List.flatMap_append, restN, waysIn, e0]
   congr 1
   split <;> simp
  rw [hsplit, iterF_app] at hRR
  have hht : ∀ (y : X × List K5) (b0 b1 b2 b3 b4 b5 : ABlk) (cs : List AV) (τ2 : St), cellsAt (Zp y ++ (b0 :: b1 :: b2 :: b3 :: b4 :: b5 :: (τ ++ (.cells cs :: τ2)))) (N + (τ.length + 1 + 1 + 1 + 1 + 1 + 1)) = some cs := fun y b0 b1 b2 b3 b4 b5 cs τ2 => by
   rw [hR.base]
   simp only [M_atS]
   rw [M_base0]; rfl
  have hlen : ∀ (y : X × List K5), (Zp y).length = N := hR.len
  simp only [nextF_eq]
  refine .callf (.call (af := a108) rfl (by simp [a108]) (run_wp (K := fun j e σ' => (j = none ∨ j = some .ret) ∧ NextR Zp ZDp id q N l τ R ⟨none, [], σ', Env.get e 9⟩) ?_ fun o ho => ho) fun w hw => ⟨hw.1, _, rfl, .inl hw.2⟩)
  have hst0 := arrA_set 5 (rl l) 0 (show l.length < 5 by omega)
  rw [rl_upd0] at hst0
  rw [nextB_eq]
  -- the loop over minutes
  have loop : ∀ (e : Env) (K : KJ) (y : X × List K5) (o : Option (List Int)) (τ2 : St), (∀ u, o = some u → u.length = v.rails.length) → Env.get e 0 = .int .i64 l.length → Env.get e 2 = .ptr (N + 1) 0 → Env.get e 6 = .ptr (N + 4) 0 → Env.get e 7 = .ptr (N + 5) 0 → Env.get e 14 = .ptr (N + (τ.length + 1 + 1 + 1 + 1 + 1 + 1)) 0 → Env.get e 15 = .int .i64 r.mins.lo → iterF (onceF F) (restN v r rs l r.mins.lo) (o, y) = R →
    (∀ e' y' o' τ2 c, Env.get e' 0 = .int .i64 l.length → Env.get e' 2 = .ptr (N + 1) 0 → R = ((o', y'), true) → K (some (.exit 2)) e' (Zp y' ++ (nextB id q N o' (updF (rl l) l.length c) ++ (τ ++ (.cells (railCells r) :: τ2))))) →
    (∀ e' A τ2, Env.get e' 9 = .bool false → R.2 = false → K (some .ret) e' (Fam.out Zp ZDp (R.1.2, R.2) ++ (nextB id q N R.1.1 A ++ (τ ++ (.cells (railCells r) :: τ2))))) →
    rK (K := ⟨K⟩) T (.loop L108_2) e (Zp y ++ (nextB id q N o (rl l) ++ (τ ++ (.cells (railCells r) :: τ2)))) := by
   intro e K y o τ2 ho e0 e2 e6 e7 e14 e15 hq hKx hKf
   refine loopK (NextI Zp ZDp F v q id N l r rs τ R) ?_ (r.mins.hi + 1 - r.mins.lo).toNat _ _ ?_
   ·rintro k e σ ⟨e0, e2, e6, e7, e14, n, o, y, c, τ2, e15, hn0, hn1, hk, ho, rfl, hq⟩
    subst hk
    have hst := arrA_set 5 (updF (rl l) l.length c) n (show l.length < 5 by omega)
    rw [upd_upd, ← rl_app l n] at hst
    rw [nextB_eq]
    cases hle : decide (n ≤ r.mins.hi)
    ·have hn2 : ¬ n ≤ r.mins.hi := by simpa using hle
     have hrn : restN v r rs l n = [] := by
      rw [restN, ways_end hn2]; simp
     rw [hrn] at hq
     simp only [iterF] at hq
     (repeat (first | simp only [↓QA, QB, Nat.reduceLT, reduceIte, Nat.reduceEqDiff, Nat.reduceAdd, Nat.reduceLeDiff, Nat.reduceMul, Nat.reduceBEq, QXGTrP9, hR.len, hR.base, hR.base0, hR.bset, hR.bset0, hR.at1, hR.atq1, L108_2, e0, e2, e6, e7, e14, e15, hht, railCells_eq, hle] | refine rd0 rfl ?_))
     have := fun e' => hKx e' y o τ2 c
     simp only [nextB_eq, railCells_eq] at this
     refine this _ ?_ ?_ hq.symm
     all_goals try simp only [TrimX, QE, Nat.reduceLT, reduceIte, Nat.reduceEqDiff, Nat.reduceAdd, Nat.reduceLeDiff, Nat.reduceMul, Nat.reduceBEq, QXGTrP9, hR.len, hR.base, hR.base0, hR.bset, hR.bset0, hR.at1, hR.atq1, e0, e2]
    ·have hn2 : n ≤ r.mins.hi := by simpa using hle
     by_cases hS1 : S = 1
     ·have hrn : restN v r rs l n = [] := by
       rw [restN, if_pos (by omega)]; simp
      rw [hrn] at hq
      simp only [iterF] at hq
      have hd1 : (!decide (S = 1)) = false := by simp [hS1]
      rw [hd1] at hcf
      (repeat (first | simp only [↓QA, QB, Nat.reduceLT, reduceIte, Nat.reduceEqDiff, Nat.reduceAdd, Nat.reduceLeDiff, Nat.reduceMul, Nat.reduceBEq, QXGTrP9, hR.len, hR.base, hR.base0, hR.bset, hR.bset0, hR.at1, hR.atq1, L108_2, e0, e2, e6, e7, e14, e15, hht, railCells_eq, hle, hS2, iS, hcg, Nat.add_zero] | refine rd0 rfl ?_))
      refine callK_same (hcf _) ?_
      (repeat (first | simp only [↓QA, QB, Nat.reduceLT, reduceIte, Nat.reduceEqDiff, Nat.reduceAdd, Nat.reduceLeDiff, Nat.reduceMul, Nat.reduceBEq, QXGTrP9, hR.len, hR.base, hR.base0, hR.bset, hR.bset0, hR.at1, hR.atq1, e0, e2, e6, e7, e14, e15] | refine rd0 rfl ?_))
      have := fun e' => hKx e' y o τ2 c
      simp only [nextB_eq, railCells_eq, hS2] at this
      refine this _ ?_ ?_ hq.symm
      all_goals try simp only [TrimX, QE, Nat.reduceLT, reduceIte, Nat.reduceEqDiff, Nat.reduceAdd, Nat.reduceLeDiff, Nat.reduceMul, Nat.reduceBEq, QXGTrP9, hR.len, hR.base, hR.base0, hR.bset, hR.bset0, hR.at1, hR.atq1, e0, e2]
     ·have hd1 : (!decide (S = 1)) = true := by simp [hS1]
      rw [hd1] at hcf
      have hrn : restN v r rs l n = leafs rs (l ++ [n]) ++ restN v r rs l (n + 1) := by
       rw [restN, restN, if_neg (by omega), if_neg (by omega), ways_step hn2, List.flatMap_cons]
      rw [hrn, iterF_app] at hq
      have hwn : IntKind.i64.wrap (n + 1) = n + 1 := wrap64 ⟨by omega, by omega⟩
      have hc := ih n ⟨by omega, by omega⟩ o y (τ ++ (.cells (railCells r) :: τ2)) ho
      simp only [nextB_eq, railCells_eq, hS2, List.length_append, List.length_cons, List.length_nil, Nat.zero_add] at hc
      obtain ⟨r1, hr1⟩ : ∃ r1, iterF (onceF F) (leafs rs (l ++ [n])) (o, y) = r1 := ⟨_, rfl⟩
      rw [hr1] at hq hc
      (repeat (first | simp only [↓QA, QB, Nat.reduceLT, reduceIte, Nat.reduceEqDiff, Nat.reduceAdd, Nat.reduceLeDiff, Nat.reduceMul, Nat.reduceBEq, QXGTrP9, hR.len, hR.base, hR.base0, hR.bset, hR.bset0, hR.at1, hR.atq1, L108_2, e0, e2, e6, e7, e14, e15, hht, railCells_eq, hle, hS2, iS, hcg, Nat.add_zero] | refine rd0 rfl ?_))
      refine callK_same (hcf _) ?_
      (repeat (first | simp only [↓QA, QB, Nat.reduceLT, reduceIte, Nat.reduceEqDiff, Nat.reduceAdd, Nat.reduceLeDiff, Nat.reduceMul, Nat.reduceBEq, QXGTrP9, hR.len, hR.base, hR.base0, hR.bset, hR.bset0, hR.at1, hR.atq1, e0, e2, e6, e7, e14, e15, i5, c5, hst, hwd] | refine rd0 rfl ?_))
      refine .mono hc fun w hw => ?_
      obtain ⟨hw1, A, τ', hw2, hw3⟩ := hw
      rw [hw1, hw2]
      cases hr2 : r1.2
      ·rw [hr2] at hq
       simp only [Bool.false_eq_true, if_false] at hq
       (repeat (first | simp only [↓QA, QB, Nat.reduceLT, reduceIte, Nat.reduceEqDiff, Nat.reduceAdd, Nat.reduceLeDiff, Nat.reduceMul, Nat.reduceBEq, QXGTrP9, hR.len, hR.base, hR.base0, hR.bset, hR.bset0, hR.at1, hR.atq1, e0, e2, e6, e7, e14, e15] | refine rd0 rfl ?_))
       subst hq
       have hKf' := fun e' => hKf e' A (τ2 ++ τ')
       simp only [railCells_eq, hS2] at hKf'
       first | exact hKf' _ (by try simp only [TrimX, QE, Nat.reduceLT, reduceIte, Nat.reduceEqDiff, Nat.reduceAdd, Nat.reduceLeDiff, Nat.reduceMul, Nat.reduceBEq, QXGTrP9, hR.len, hR.base, hR.base0, hR.bset, hR.bset0, hR.at1, hR.atq1]) trivial | exact hKf' _ (by try simp only [TrimX, QE, Nat.reduceLT, reduceIte, Nat.reduceEqDiff, Nat.reduceAdd, Nat.reduceLeDiff, Nat.reduceMul, Nat.reduceBEq, QXGTrP9, hR.len, hR.base, hR.base0, hR.bset, hR.bset0, hR.at1, hR.atq1]) rfl | exact hKf' _ (by try simp only [TrimX, QE, Nat.reduceLT, reduceIte, Nat.reduceEqDiff, Nat.reduceAdd, Nat.reduceLeDiff, Nat.reduceMul, Nat.reduceBEq, QXGTrP9, hR.len, hR.base, hR.base0, hR.bset, hR.bset0, hR.at1, hR.atq1])
      ·rw [hr2] at hq
       simp only [if_true] at hq
       have hA := hw3 hr2
       rw [hA]
       simp only [Fam.out, if_true]
       rw [nextB_eq]
       (repeat (first | simp only [↓QA, QB, Nat.reduceLT, reduceIte, Nat.reduceEqDiff, Nat.reduceAdd, Nat.reduceLeDiff, Nat.reduceMul, Nat.reduceBEq, QXGTrP9, hR.len, hR.base, hR.base0, hR.bset, hR.bset0, hR.at1, hR.atq1, e0, e2, e6, e7, e14, e15, hwn] | refine rd0 rfl ?_))
       refine ⟨(r.mins.hi + 1 - (n + 1)).toNat, by omega, ?_, ?_, ?_, ?_, ?_, n + 1, r1.1.1, r1.1.2, n, τ2 ++ τ', ?_, by omega, by omega, rfl, fun u hu => ?_, ?_, hq⟩
       ·try simp only [TrimX, QE, Nat.reduceLT, reduceIte, Nat.reduceEqDiff, Nat.reduceAdd, Nat.reduceLeDiff, Nat.reduceMul, Nat.reduceBEq, QXGTrP9, hR.len, hR.base, hR.base0, hR.bset, hR.bset0, hR.at1, hR.atq1, e0]
       ·try simp only [TrimX, QE, Nat.reduceLT, reduceIte, Nat.reduceEqDiff, Nat.reduceAdd, Nat.reduceLeDiff, Nat.reduceMul, Nat.reduceBEq, QXGTrP9, hR.len, hR.base, hR.base0, hR.bset, hR.bset0, hR.at1, hR.atq1, e2]
       ·try simp only [TrimX, QE, Nat.reduceLT, reduceIte, Nat.reduceEqDiff, Nat.reduceAdd, Nat.reduceLeDiff, Nat.reduceMul, Nat.reduceBEq, QXGTrP9, hR.len, hR.base, hR.base0, hR.bset, hR.bset0, hR.at1, hR.atq1, e6]
       ·try simp only [TrimX, QE, Nat.reduceLT, reduceIte, Nat.reduceEqDiff, Nat.reduceAdd, Nat.reduceLeDiff, Nat.reduceMul, Nat.reduceBEq, QXGTrP9, hR.len, hR.base, hR.base0, hR.bset, hR.bset0, hR.at1, hR.atq1, e7]
       ·try simp only [TrimX, QE, Nat.reduceLT, reduceIte, Nat.reduceEqDiff, Nat.reduceAdd, Nat.reduceLeDiff, Nat.reduceMul, Nat.reduceBEq, QXGTrP9, hR.len, hR.base, hR.base0, hR.bset, hR.bset0, hR.at1, hR.atq1, e14]
       ·try simp only [TrimX, QE, Nat.reduceLT, reduceIte, Nat.reduceEqDiff, Nat.reduceAdd, Nat.reduceLeDiff, Nat.reduceMul, Nat.reduceBEq, QXGTrP9, hR.len, hR.base, hR.base0, hR.bset, hR.bset0, hR.at1, hR.atq1]
       ·rw [← hr1] at hu
        rcases once_mem F _ o y u hu with h | h
        ·exact ho u h
        ·have := leafs_len h
         have hlr : l.length + 1 + rs.length = v.rails.length := by rw [hrs2]; simp; omega
         simp at this
         omega
       ·rw [nextB_eq, rl_app, railCells_eq, hS2]
        try simp
   ·refine ⟨e0, e2, e6, e7, e14, r.mins.lo, o, y, 0, τ2, e15, Int.le_refl _, by omega, rfl, ho, ?_, hq⟩
    rw [rl_upd0]
  have fin : ∀ (y : X × List K5) (o : Option (List Int)) (τ2 : St), R = ((o, y), true) → NextR Zp ZDp id q N l τ R ⟨none, [], Zp y ++ (nextB id q N o (rl l) ++ (τ ++ (.cells (railCells r) :: τ2))), .bool true⟩ := fun y o τ2 hq => by
   rw [hq]
   exact ⟨rfl, rl l, .cells (railCells r) :: τ2, by simp [Fam.out], fun _ => rfl⟩
  by_cases hS0 : S = 0
  ·have hd0 : (!decide (S = 0)) = false := by simp [hS0]
   rw [hd0] at hct
   rw [if_pos hS0] at hRR
   simp only [iterF, if_true] at hRR
   (repeat (first | simp only [↓QA, QB, Nat.reduceLT, reduceIte, Nat.reduceEqDiff, Nat.reduceAdd, Nat.reduceLeDiff, Nat.reduceMul, Nat.reduceBEq, QXGTrP9, hR.len, hR.base, hR.base0, hR.bset, hR.bset0, hR.at1, hR.atq1, a108, hE, hlt, hs, hlen, hS2, hht, iS, hcg, Nat.add_zero] | refine rd0 rfl ?_))
   refine callK_same (hct _) ?_
   (repeat (first | simp only [↓QA, QB, Nat.reduceLT, reduceIte, Nat.reduceEqDiff, Nat.reduceAdd, Nat.reduceLeDiff, Nat.reduceMul, Nat.reduceBEq, QXGTrP9, hR.len, hR.base, hR.base0, hR.bset, hR.bset0, hR.at1, hR.atq1, hht] | refine rd0 rfl ?_))
   have lp := fun e K => loop e K y o [] ho
   simp only [nextB_eq, railCells_eq, hS2] at lp
   refine lp _ _ ?_ ?_ ?_ ?_ ?_ ?_ hRR ?_ ?_
   all_goals try try simp only [TrimX, QE, Nat.reduceLT, reduceIte, Nat.reduceEqDiff, Nat.reduceAdd, Nat.reduceLeDiff, Nat.reduceMul, Nat.reduceBEq, QXGTrP9, hR.len, hR.base, hR.base0, hR.bset, hR.bset0, hR.at1, hR.atq1]
   ·intro e' y' o' τ2 c q0 q2 hq
    have hst0 := arrA_set 5 (updF (rl l) l.length c) 0 (show l.length < 5 by omega)
    rw [upd_upd, rl_upd0] at hst0
    have fn := fin y' o' τ2 hq
    simp only [nextB_eq, railCells_eq, hS2] at fn
    (repeat (first | simp only [↓QA, QB, Nat.reduceLT, reduceIte, Nat.reduceEqDiff, Nat.reduceAdd, Nat.reduceLeDiff, Nat.reduceMul, Nat.reduceBEq, QXGTrP9, hR.len, hR.base, hR.base0, hR.bset, hR.bset0, hR.at1, hR.atq1, q0, q2, i5, c5, hst0] | refine rd0 rfl ?_))
    exact fn
   ·intro e' A τ2 q9 hq
    (repeat (first | simp only [↓QA, QB, Nat.reduceLT, reduceIte, Nat.reduceEqDiff, Nat.reduceAdd, Nat.reduceLeDiff, Nat.reduceMul, Nat.reduceBEq, QXGTrP9, hR.len, hR.base, hR.base0, hR.bset, hR.bset0, hR.at1, hR.atq1, q9] | refine rd0 rfl ?_))
    exact ⟨by rw [hq], A, _, rfl, fun h => by rw [hq] at h; cases h⟩
  ·have hd0 : (!decide (S = 0)) = true := by simp [hS0]
   rw [hd0] at hct
   rw [if_neg hS0] at hRR
   have hc := ih 0 ⟨by omega, by omega⟩ o y (τ ++ [.cells (railCells r)]) ho
   have hr0 : rl (l ++ [0]) = rl l := by rw [rl_app, rl_upd0]
   rw [hr0] at hc
   simp only [nextB_eq, railCells_eq, hS2, List.length_append, List.length_cons, List.length_nil, Nat.zero_add] at hc
   obtain ⟨r1, hr1⟩ : ∃ r1, iterF (onceF F) (leafs rs (l ++ [0])) (o, y) = r1 := ⟨_, rfl⟩
   rw [hr1] at hRR hc
   (repeat (first | simp only [↓QA, QB, Nat.reduceLT, reduceIte, Nat.reduceEqDiff, Nat.reduceAdd, Nat.reduceLeDiff, Nat.reduceMul, Nat.reduceBEq, QXGTrP9, hR.len, hR.base, hR.base0, hR.bset, hR.bset0, hR.at1, hR.atq1, a108, hE, hlt, hs, hlen, hS2, hht, iS, hcg, Nat.add_zero] | refine rd0 rfl ?_))
   refine callK_same (hct _) ?_
   (repeat (first | simp only [↓QA, QB, Nat.reduceLT, reduceIte, Nat.reduceEqDiff, Nat.reduceAdd, Nat.reduceLeDiff, Nat.reduceMul, Nat.reduceBEq, QXGTrP9, hR.len, hR.base, hR.base0, hR.bset, hR.bset0, hR.at1, hR.atq1, hht, i5, c5, hst0, hwd] | refine rd0 rfl ?_))
   refine .mono hc fun w hw => ?_
   obtain ⟨hw1, A, τ', hw2, hw3⟩ := hw
   rw [hw1, hw2]
   cases hr2 : r1.2
   ·rw [hr2] at hRR
    simp only [Bool.false_eq_true, if_false] at hRR
    (repeat (first | simp only [↓QA, QB, Nat.reduceLT, reduceIte, Nat.reduceEqDiff, Nat.reduceAdd, Nat.reduceLeDiff, Nat.reduceMul, Nat.reduceBEq, QXGTrP9, hR.len, hR.base, hR.base0, hR.bset, hR.bset0, hR.at1, hR.atq1] | refine rd0 rfl ?_))
    rw [← hRR]
    exact ⟨rfl, A, .cells (railCells r) :: τ', by simp [railCells_eq, hS2], fun h => by cases h⟩
   ·rw [hr2] at hRR
    simp only [if_true] at hRR
    have hA := hw3 hr2
    rw [hr0] at hA
    rw [hA]
    simp only [Fam.out, if_true]
    have ho1 : ∀ u, r1.1.1 = some u → u.length = v.rails.length := fun u hu => by
     rw [← hr1] at hu
     rcases once_mem F _ o y u hu with h | h
     ·exact ho u h
     ·have := leafs_len h
      have hlr : l.length + 1 + rs.length = v.rails.length := by rw [hrs2]; simp; omega
      simp at this
      omega
    rw [nextB_eq]
    (repeat (first | simp only [↓QA, QB, Nat.reduceLT, reduceIte, Nat.reduceEqDiff, Nat.reduceAdd, Nat.reduceLeDiff, Nat.reduceMul, Nat.reduceBEq, QXGTrP9, hR.len, hR.base, hR.base0, hR.bset, hR.bset0, hR.at1, hR.atq1, hht] | refine rd0 rfl ?_))
    have lp := fun e K => loop e K r1.1.2 r1.1.1 τ' ho1
    simp only [nextB_eq, railCells_eq, hS2] at lp
    refine lp _ _ ?_ ?_ ?_ ?_ ?_ ?_ hRR ?_ ?_
    all_goals try try simp only [TrimX, QE, Nat.reduceLT, reduceIte, Nat.reduceEqDiff, Nat.reduceAdd, Nat.reduceLeDiff, Nat.reduceMul, Nat.reduceBEq, QXGTrP9, hR.len, hR.base, hR.base0, hR.bset, hR.bset0, hR.at1, hR.atq1]
    ·intro e' y' o' τ2 c q0 q2 hq
     have hst0 := arrA_set 5 (updF (rl l) l.length c) 0 (show l.length < 5 by omega)
     rw [upd_upd, rl_upd0] at hst0
     have fn := fin y' o' τ2 hq
     simp only [nextB_eq, railCells_eq, hS2] at fn
     (repeat (first | simp only [↓QA, QB, Nat.reduceLT, reduceIte, Nat.reduceEqDiff, Nat.reduceAdd, Nat.reduceLeDiff, Nat.reduceMul, Nat.reduceBEq, QXGTrP9, hR.len, hR.base, hR.base0, hR.bset, hR.bset0, hR.at1, hR.atq1, q0, q2, i5, c5, hst0] | refine rd0 rfl ?_))
     exact fn
    ·intro e' A τ2 q9 hq
     (repeat (first | simp only [↓QA, QB, Nat.reduceLT, reduceIte, Nat.reduceEqDiff, Nat.reduceAdd, Nat.reduceLeDiff, Nat.reduceMul, Nat.reduceBEq, QXGTrP9, hR.len, hR.base, hR.base0, hR.bset, hR.bset0, hR.at1, hR.atq1, q9] | refine rd0 rfl ?_))
     exact ⟨by rw [hq], A, _, rfl, fun h => by rw [hq] at h; cases h⟩
end Go.Am.Room
set_option maxRecDepth 8000
namespace Go.Am.Room
def QXGTrPA := And.intro @encNet_eq (And.intro @netCells_eq (And.intro @encRail_eq (And.intro @encTram_eq (And.intro @encSeen_eq (And.intro @encSpan_eq (And.intro @S_mapRail (And.intro @S_mapTram (And.intro @S_mapSeen (And.intro @T_sapp (And.intro @T_sapp0 (And.intro @Nat.not_lt_zero (And.intro @List.length_append.{0} (And.intro @Nat.zero_add (And.intro @Nat.mul_one (And.intro @Int.toNat_natCast (And.intro @arrA_len (And.intro @arrA_take (And.intro @arrA_drop (And.intro @S_arrA (And.intro @arrA_cell (And.intro @db_0 (And.intro @db_1 (And.intro @db_2 (And.intro @db_3 (And.intro @db_4 (And.intro @db_5 (And.intro @Nat.add_lt_add_iff_left (And.intro @Nat.lt_add_right_iff_pos (And.intro @C_yield (@K_yield))))))))))))))))))))))))))))))
def allStates {X : Type} (v : Net) (bl : List Int) (f : List Int → X → X × Bool) (x : X) (A : List K5) : (X × List K5) × Bool := iterF (perC v bl f) (leafs v.rails []) (x, A)
theorem next1_run {X : Type} {Zp ZDp : X × List K5 → St} {v : Net} {b p m q N : Nat} {bl : List Int} (hR : Fam Zp ZDp (db v b m) p q N) (hS : ∀ x, MemAt (fun A => Zp (x, A)) (db v b m) (tEs v) p m N) (hv : Vd v) (hb : ButIs b bl) {id : Nat} {P : List Int → Prop} {f : List Int → X → X × Bool} (hy : YieldsP Zp ZDp id v P f) (hP : ∀ c, LeafOk v c → fitsP v bl c = true → P c) (y : X × List K5) :
  Run T (.call 106 [.yield id, .ptr q 0] (Zp y)) fun o => ∃ τ', o.σ = Fam.out Zp ZDp (iterF (perC v bl f) (leafs v.rails []) y) ++ τ' := by
 have hn := next_run hR hS hv hb hy hP v.rails [] none y [] (by simp) (by simp) (fun i hi => by simp at hi) (fun u hu => by cases hu)
 have hl := hR.len y
 have hz : [AV.int .i64 0, .int .i64 0, .int .i64 0, .int .i64 0, .int .i64 0] = arrA 5 (rl []) := by simp [arrA, rl, List.range_succ]
 obtain ⟨ho1, ho2⟩ := iterF_once (perC v bl f) (leafs v.rails []) none y (leafs_ne _ _ (fun r hr => (hv.ra r hr).mins.1)) (fun a _ h => by cases h)
 have hend : ∀ w, NextR Zp ZDp id q N [] [] (iterF (onceF (perC v bl f)) (leafs v.rails []) (none, y)) w → ∃ τ', w.σ = Fam.out Zp ZDp (iterF (perC v bl f) (leafs v.rails []) y) ++ τ' := by
  rintro w ⟨_, A, τ', h2, _⟩
  refine ⟨nextB id q N (iterF (onceF (perC v bl f)) (leafs v.rails []) (none, y)).1.1 A ++ ([] ++ τ'), ?_⟩
  rw [h2, show ((iterF (onceF (perC v bl f)) (leafs v.rails []) (none, y)).1.2, (iterF (onceF (perC v bl f)) (leafs v.rails []) (none, y)).2) = iterF (perC v bl f) (leafs v.rails []) y from Prod.ext ho1 ho2]
 rw [nextB_eq, nextF_eq] at hn
 simp only [List.length_nil, Option.getD_none, Option.isNone_none] at hn
 refine .call (af := a106) rfl (by simp [a106]) (run_wp (K := fun j e σ' => (j = none ∨ j = some .ret) ∧ ∃ τ', σ' = Fam.out Zp ZDp (iterF (perC v bl f) (leafs v.rails []) y) ++ τ') ?_ fun o ho => ho) fun o ho => ⟨ho.1, _, rfl, .inl ho.2⟩
 (repeat (first | simp only [↓QA, QB, Nat.reduceLT, reduceIte, Nat.reduceEqDiff, Nat.reduceAdd, Nat.reduceLeDiff, Nat.reduceMul, Nat.reduceBEq, QXGTrPA, hR.len, hR.base, hR.base0, hR.bset, hR.bset0, hR.at1, hR.at0, a106, hl, hz] | refine rd0 rfl ?_))
 refine callK_same (rules_same _) ?_
 (repeat (first | simp only [↓QA, QB, Nat.reduceLT, reduceIte, Nat.reduceEqDiff, Nat.reduceAdd, Nat.reduceLeDiff, Nat.reduceMul, Nat.reduceBEq, QXGTrPA, hR.len, hR.base, hR.base0, hR.bset, hR.bset0, hR.at1, hR.at0, hl, hz, canCells_eq] | refine rd0 rfl ?_))
 simp only [canCells_eq] at hn
 refine .mono hn fun w hw => ?_
 have := hend w hw
 (repeat (first | simp only [↓QA, QB, Nat.reduceLT, reduceIte, Nat.reduceEqDiff, Nat.reduceAdd, Nat.reduceLeDiff, Nat.reduceMul, Nat.reduceBEq, QXGTrPA, hR.len, hR.base, hR.base0, hR.bset, hR.bset0, hR.at1, hR.at0] | refine rd0 rfl ?_))
 exact this
theorem fam_of {X M : Type} {Z ZD : X → M → St} {obj : List AV} {es : M → List (AV × AV)} {p m q N : Nat} (h : Fam1 Z ZD obj es p m q N) : Fam (fun y : X × M => Z y.1 y.2) (fun y => ZD y.1 y.2) obj p q N :=
 ⟨fun y => (h.ship y.1).len y.2, fun y => h.lenD y.1 y.2, fun y => (h.ship y.1).at0 y.2, fun y => h.atq0 y.1 y.2, fun x y k i hk hi => h.keep _ _ _ _ k i hk hi, fun x y k i hk hi => h.keepD _ _ _ _ k i hk hi, h.pl, h.ql⟩
theorem truths1_run {X : Type} {Z ZD : X → List K5 → St} {v : Net} {b p m q N : Nat} {bl : List Int} (hF : Fam1 Z ZD (db v b m) (tEs v) p m q N) (hv : Vd v) (hb : ButIs b bl) {id : Nat} {P : List Int → Prop} {f : List Int → X → X × Bool} (hy : YieldsT Z ZD id (tArgs v) P f) (hP : ∀ c, LeafOk v c → fitsP v bl c = true → P c) (x : X) (A : List K5) :
  Run T (.call 106 [.yield id, .ptr q 0] (Z x A)) fun o => ∃ τ', o.σ = Fam1.out Z ZD ((allStates v bl f x A).1.1, (allStates v bl f x A).2) (allStates v bl f x A).1.2 ++ τ' :=
 next1_run (fam_of hF) (fun x => hF.ship x) hv hb (f := f) (fun t ht x τ => hy t ht false none x.1 x.2 τ) hP (x, A)
theorem allStates_fst {X : Type} (v : Net) (bl : List Int) (f : List Int → X → X × Bool) (x : X) (A : List K5) : ((allStates v bl f x A).1.1, (allStates v bl f x A).2) = iterF f (TL v bl) x := by
 have key : ∀ (l : List (List Int)) (x : X) (A : List K5), ((iterF (perC v bl f) l (x, A)).1.1, (iterF (perC v bl f) l (x, A)).2) = iterF f (l.filter (fitsP v bl)) x := by
  intro l
  induction l with
  | nil => intro x A; rfl
  | cons c l ih =>
   intro x A
   simp only [iterF, List.filter_cons]
   cases h : fitsP v bl c
   ·have hp : perC v bl f c (x, A) = ((x, memoStep A (pad c)), true) := by simp only [perC, h, Bool.false_eq_true, if_false]
    rw [hp]
    simp only [if_true, Bool.false_eq_true, if_false]
    exact ih x _
   ·have hp : perC v bl f c (x, A) = (((f c x).1, memoStep A (pad c)), (f c x).2) := by simp only [perC, h, if_true]
    rw [hp]
    simp only [if_true, iterF]
    split
    ·exact ih _ _
    ·rfl
 exact key _ x A
def TOk (v : Net) (bl c : List Int) : Prop := LeafOk v c ∧ fitsP v bl c = true
theorem truths_range {X : Type} {S : List K5 → St} {v : Net} {b p m N : Nat} {bl : List Int} (hS : MemAt S (db v b m) (tEs v) p m N) (hv : Vd v) (hb : ButIs b bl) (U UD : X → St) (n : Nat) (hU : ∀ x, (U x).length = n) (hUD : ∀ x, (UD x).length = n) (ok : ∀ x y, y ∈ U x → ∀ k, N ≤ k → okBlk k y) (okD : ∀ x y, y ∈ UD x → ∀ k, N ≤ k → okBlk k y)
  (J : AJump) {f : List Int → X → X × Bool} (e : Env) (k : Nat) (ps : List Nat) (a bb : ACode) (ek : Env.get e k = .func 106 [] [.ptr (N + n) 0])
  (hy : YieldsT (fun x B => S B ++ (U x ++ [.cells [.ptr p 0], .loop .ready none e ps a bb])) (fun x B => S B ++ (UD x ++ [.cells [.ptr p 0], .loop .done (some J) e ps a bb])) (N + n + 1) (tArgs v) (TOk v bl) f)
  (x : X) (A : List K5) (K : KJ)
  (hT : ∀ τ, (iterF f (TL v bl) x).2 = true → K none e (S (allStates v bl f x A).1.2 ++ (U (iterF f (TL v bl) x).1 ++ (.cells [.ptr p 0] :: .dead :: τ))))
  (hD : ∀ τ, (iterF f (TL v bl) x).2 = false → K (some J) e (S (allStates v bl f x A).1.2 ++ (UD (iterF f (TL v bl) x).1 ++ (.cells [.ptr p 0] :: .dead :: τ)))) :
  rK (K := ⟨K⟩) T (.rangeFunc (.t k) ps a bb) e (S A ++ (U x ++ [.cells [.ptr p 0]])) := by
 have hrun := truths1_run (fam1_of hS U UD n hU hUD ok okD e ps a bb .ready .done none (some J)) hv hb hy (fun c h1 h2 => ⟨h1, h2⟩) x A
 rw [allStates_fst] at hrun
 exact range_of (A := List Int) hS U UD n hU hUD J e k ps a bb 106 ek (iterF f (TL v bl) x) (allStates v bl f x A).1.2 x A hrun K hT hD
def stopF (_ : List Int) (x : Unit) : Unit × Bool := (x, false)
theorem stop_iter (l : List (List Int)) : (iterF stopF l ()).2 = l.isEmpty := by
 cases l <;> simp [iterF, stopF]
def someMemo (v : Net) (bl : List Int) (A : List K5) : List K5 := (allStates v bl stopF () A).1.2
theorem some_does {S : List K5 → St} {v : Net} {b p m N : Nat} {bl : List Int} (hR : MemAt S (db v b m) (tEs v) p m N) (hv : Vd v) (hb : ButIs b bl) (A : List K5) :
  Does T (.func 93 [] []) [.ptr p 0] (S A) (.bool !(truths v bl).isEmpty) (S (someMemo v bl A)) := by
 have hit := stop_iter (TL v bl)
 rw [TL_some hv] at hit
 refine does_memo hR (af := a93) rfl (by simp [a93]) ?_
 (repeat (first | simp only [↓QA, QB, Nat.reduceLT, reduceIte, Nat.reduceEqDiff, Nat.reduceAdd, Nat.reduceLeDiff, Nat.reduceMul, Nat.reduceBEq, QXGTrPA, hR.len, hR.base, hR.base0, hR.bset, hR.bset0, hR.at1, hR.at0, a93] | refine rd0 rfl ?_))
 refine callK_in rfl (by simp [a80]) ?_
 (repeat (first | simp only [↓QA, QB, Nat.reduceLT, reduceIte, Nat.reduceEqDiff, Nat.reduceAdd, Nat.reduceLeDiff, Nat.reduceMul, Nat.reduceBEq, QXGTrPA, hR.len, hR.base, hR.base0, hR.bset, hR.bset0, hR.at1, hR.at0, a80] | refine rd0 rfl ?_))
 refine truths_range hR hv hb (fun _ : Unit => [.cells [.bool false]]) (fun _ => [.cells [.bool true]]) 1 (fun _ => rfl) (fun _ => rfl) (fun _ y hy k _ => by simp at hy; subst hy; simp [okBlk, okVs, okV]) (fun _ y hy k _ => by simp at hy; subst hy; simp [okBlk, okVs, okV]) .ret (f := stopF) _ 4 [5, 6] _ _ ?_ ?_ () A _ ?_ ?_
 ·try simp only [TrimX, QE, Nat.reduceLT, reduceIte, Nat.reduceEqDiff, Nat.reduceAdd, Nat.reduceLeDiff, Nat.reduceMul, Nat.reduceBEq, QXGTrPA, hR.len, hR.base, hR.base0, hR.bset, hR.bset0, hR.at1, hR.at0]
 ·refine yields_of hR _ _ 1 (fun _ => rfl) (fun _ => rfl) .ret _ _ (tArgs v) (fun _ _ _ => rfl) _ _ ?_
  intro t _ fl tk x A' τ
  simp only [bindPs, tArgs]
  (repeat (first | simp only [↓QA, QB, Nat.reduceLT, reduceIte, Nat.reduceEqDiff, Nat.reduceAdd, Nat.reduceLeDiff, Nat.reduceMul, Nat.reduceBEq, QXGTrPA, hR.len, hR.base, hR.base0, hR.bset, hR.bset0, hR.at1, hR.at0, F93_0, stopF] | refine rd0 rfl ?_))
  exact .inr ⟨[], by simp⟩
 ·intro τ h2
  rw [hit] at h2
  (repeat (first | simp only [↓QA, QB, Nat.reduceLT, reduceIte, Nat.reduceEqDiff, Nat.reduceAdd, Nat.reduceLeDiff, Nat.reduceMul, Nat.reduceBEq, QXGTrPA, hR.len, hR.base, hR.base0, hR.bset, hR.bset0, hR.at1, hR.at0, h2] | refine rd0 rfl ?_))
  refine ⟨_, _, rfl, rfl, ?_⟩
  try simp only [QS, QC, Nat.reduceLT, reduceIte, Nat.reduceEqDiff, Nat.reduceAdd, Nat.reduceLeDiff, Nat.reduceMul, Nat.reduceBEq, QXGTrPA, hR.len, hR.base, hR.base0, hR.bset, hR.bset0, hR.at1, hR.at0]
 ·intro τ h2
  rw [hit] at h2
  (repeat (first | simp only [↓QA, QB, Nat.reduceLT, reduceIte, Nat.reduceEqDiff, Nat.reduceAdd, Nat.reduceLeDiff, Nat.reduceMul, Nat.reduceBEq, QXGTrPA, hR.len, hR.base, hR.base0, hR.bset, hR.bset0, hR.at1, hR.at0, h2] | refine rd0 rfl ?_))
  refine ⟨_, _, rfl, rfl, ?_⟩
  try simp only [QS, QC, Nat.reduceLT, reduceIte, Nat.reduceEqDiff, Nat.reduceAdd, Nat.reduceLeDiff, Nat.reduceMul, Nat.reduceBEq, QXGTrPA, hR.len, hR.base, hR.base0, hR.bset, hR.bset0, hR.at1, hR.at0]
end Go.Am.Room
set_option maxRecDepth 4000
namespace Go.Am.Room
def QXGTrPB := And.intro @encNet_eq (And.intro @netCells_eq (And.intro @encRail_eq (And.intro @encTram_eq (And.intro @encSeen_eq (And.intro @encSpan_eq (And.intro @S_mapRail (And.intro @S_mapTram (And.intro @S_mapSeen (And.intro @T_sapp (And.intro @T_sapp0 (And.intro @Nat.not_lt_zero (And.intro @List.length_append.{0} (And.intro @Nat.add_lt_add_iff_left (And.intro @Nat.lt_add_right_iff_pos (And.intro @Nat.mul_one (@Int.toNat_natCast))))))))))))))))
def lookSt (σ : St) (v : Net) (b : Nat) : St := σ ++ [.cells (netCells v), .map [], .cells (db v b (σ.length + 1))]
theorem look_run (σ : St) (v : Net) (b : Nat) : Does T (.func 92 [] []) [encNet v, .int .i64 b] σ (.ptr (σ.length + 2) 0) (lookSt σ v b) := by
 refine .callf (.call (af := a92) rfl (by simp [a92]) (run_wp (K := fun j e σ1 => (j = none ∨ j = some .ret) ∧ Env.get e 4 = .ptr (σ.length + 2) 0 ∧ σ1 = lookSt σ v b) ?_ fun o ho => ho) fun o ho => ?_)
 ·(repeat (first | simp only [↓QA, QB, Nat.reduceLT, reduceIte, Nat.reduceEqDiff, Nat.reduceAdd, Nat.reduceLeDiff, Nat.reduceMul, Nat.reduceBEq, QXGTrPB, a92, List.length_append, lookSt, db] | refine rd0 rfl ?_))
  try simp [db, netCells, ints]
 ·exact ⟨ho.1, _, rfl, .inl ⟨ho.2.1, ho.2.2⟩⟩
theorem tEs_ok (v : Net) (A : List K5) (k : Nat) : okBlk k (.map (tEs v A)) := key_ok (five_key v) A k
def entS (σ : St) (v : Net) (A : List K5) : St := σ ++ [.cells (netCells v), .cells (netCells v), .map (tEs v A), .cells (db v 0 (σ.length + 2))]
theorem net_at (σ : St) (v : Net) : MemAt (entS σ v) (db v 0 (σ.length + 2)) (tEs v) (σ.length + 3) (σ.length + 2) (σ.length + 4) :=
 ⟨fun M => by simp [entS], fun M => by simp [entS, M_base, M_atS, M_at0], fun M => by rw [entS, st_get]; rfl, fun M M' => by rw [entS, entS, st_set]; rfl, fun A k => tEs_ok v A k, by omega, by omega⟩
def pairB : List Int → Bool
 | [t, n] => inR t 0 (n - 1)
 | _ => true
def entE (v : Net) (ns : List Int) : Int := errKnown v (if (check v).2.2 = 0 then (if pairB ns = true then 0 else 4) else (check v).2.2)
theorem entE_nil (v : Net) : entE v [] = netErr v := by
 have : (if (check v).2.2 = 0 then (if pairB [] = true then 0 else 4) else (check v).2.2 : Int) = (check v).2.2 := by
  split
  ·rename_i h; simp [pairB, h]
  ·rfl
 rw [entE, this]; rfl
theorem entE_two (v : Net) (t : Int) : entE v [t, v.trams.length] = tramAsk v t := rfl
def enterV (v : Net) (ns : List Int) (k : Nat) : AV := if entE v ns = 0 then .tuple [.ptr (k + 3) 0, .int .i64 0] else .tuple [.nilPtr, .int .i64 (entE v ns)]
def memo0 (v : Net) : List K5 := someMemo v [] []
def enterSt (σ : St) (v : Net) (ns : List Int) : St := if entE v ns = 0 then entS σ v (memo0 v) else σ
theorem enter_run (σ : St) (v : Net) (ns : List Int) (hns : ns = [] ∨ ∃ t, ns = [t, (v.trams.length : Int)]) (hf : Fits v) : Does T (.func 79 [] []) [encNet v, .lit (ns.map (.int .i64)) true none] σ (enterV v ns σ.length) (enterSt σ v ns) := by
 refine .callf (.call (af := a79) rfl (by simp [a79]) (run_wp (K := fun j e σ1 => (j = none ∨ j = some .ret) ∧ (if entE v ns = 0 then Env.get e 4 = .ptr (σ.length + 3) 0 ∧ Env.get e 5 = .int .i64 0 ∧ σ1 = entS σ v (memo0 v) else Env.get e 4 = .nilPtr ∧ Env.get e 5 = .int .i64 (entE v ns) ∧ ∃ τ, σ1 = σ ++ τ)) ?_ fun o ho => ho) fun o ho => ?_)
 ·obtain ⟨E, hE⟩ : ∃ E, entE v ns = E := ⟨_, rfl⟩
  rw [hE]
  rw [entE] at hE
  (repeat (first | simp only [↓QA, QB, Nat.reduceLT, reduceIte, Nat.reduceEqDiff, Nat.reduceAdd, Nat.reduceLeDiff, Nat.reduceMul, Nat.reduceBEq, QXGTrPB, a79] | refine rd0 rfl ?_))
  ((first | refine callK_d (check_ok v hf) rfl dd ?_ | refine callD_d (check_ok v hf) rfl dd ?_); (repeat (first | simp only [↓QA, QB, Nat.reduceLT, reduceIte, Nat.reduceEqDiff, Nat.reduceAdd, Nat.reduceLeDiff, Nat.reduceMul, Nat.reduceBEq, QXGTrPB, enc3] | refine rd0 rfl ?_)))
  cases h0 : ((check v).2.2 == 0)
  ·have h0' : (check v).2.2 ≠ 0 := by simpa using h0
   have he : E = (check v).2.2 := by rw [← hE]; simp [h0', errKnown]
   (repeat (first | simp only [↓QA, QB, Nat.reduceLT, reduceIte, Nat.reduceEqDiff, Nat.reduceAdd, Nat.reduceLeDiff, Nat.reduceMul, Nat.reduceBEq, QXGTrPB, h0] | refine rd0 rfl ?_))
   rw [he, if_neg h0']
   simp
  ·have h0' : (check v).2.2 = 0 := by simpa using h0
   have hv := vd_of_check h0'
   have hnt := hv.ntr
   rw [if_pos h0'] at hE
   have hlk := look_run (σ ++ [.cells (netCells v)]) v 0
   have hso := some_does (net_at σ v) hv but0 []
   have e0 : tEs v [] = [] := rfl
   simp only [entS, lookSt, e0] at hso hlk
   try simp only [↓QA, QB, Nat.reduceLT, reduceIte, Nat.reduceEqDiff, Nat.reduceAdd, Nat.reduceLeDiff, Nat.reduceMul, Nat.reduceBEq, QXGTrPB, List.append_assoc] at hso hlk
   have tail : pairB ns = true → (if (truths v []).isEmpty then 8 else 0) = E := fun q => by
    rw [q] at hE; simpa [errKnown] using hE
   have hk0 : σ.length < σ.length + 1 := by omega
   rcases hns with rfl | ⟨t, rfl⟩
   ·have tl := tail rfl
    have w01 : IntKind.i64.wrap ((0 : Int) + 1) = 1 := rfl
    have d01 : decide ((1 : Int) < ((0 : Nat) : Int)) = false := rfl
    (repeat (first | simp only [↓QA, QB, Nat.reduceLT, reduceIte, Nat.reduceEqDiff, Nat.reduceAdd, Nat.reduceLeDiff, Nat.reduceMul, Nat.reduceBEq, QXGTrPB, h0] | refine rd0 rfl ?_))
    refine loopE (S := Unit) () (fun _ => True) (fun _ => 0) (fun _ => [(1, .lit [] false none), (2, .ptr σ.length 0), (9, .int .i64 0)]) (fun _ => σ ++ [.cells (netCells v)]) trivial (by simp [netCells, ints]) ?_ fun _ _ => ?_
    ·try simp only [TrimX, QE, Nat.reduceLT, reduceIte, Nat.reduceEqDiff, Nat.reduceAdd, Nat.reduceLeDiff, Nat.reduceMul, Nat.reduceBEq, QXGTrPB, List.map_nil]
     try simp [clr, clrs]
    ·(repeat (first | simp only [↓QA, QB, Nat.reduceLT, reduceIte, Nat.reduceEqDiff, Nat.reduceAdd, Nat.reduceLeDiff, Nat.reduceMul, Nat.reduceBEq, QXGTrPB, L79_0, w01, d01] | refine rd0 rfl ?_))
     refine callK_do hlk ?_
     (repeat (first | simp only [↓QA, QB, Nat.reduceLT, reduceIte, Nat.reduceEqDiff, Nat.reduceAdd, Nat.reduceLeDiff, Nat.reduceMul, Nat.reduceBEq, QXGTrPB] | refine rd0 rfl ?_))
     refine callK_do hso ?_
     cases hs : (truths v []).isEmpty
     ·have he : E = 0 := by rw [← tl]; simp [hs]
      subst he
      (repeat (first | simp only [↓QA, QB, Nat.reduceLT, reduceIte, Nat.reduceEqDiff, Nat.reduceAdd, Nat.reduceLeDiff, Nat.reduceMul, Nat.reduceBEq, QXGTrPB] | refine rd0 rfl ?_))
      simp [entS, memo0, netCells, ints]
     ·have he : E = 8 := by rw [← tl]; simp [hs]
      subst he
      (repeat (first | simp only [↓QA, QB, Nat.reduceLT, reduceIte, Nat.reduceEqDiff, Nat.reduceAdd, Nat.reduceLeDiff, Nat.reduceMul, Nat.reduceBEq, QXGTrPB] | refine rd0 rfl ?_))
      simp
   ·have w01 : IntKind.i64.wrap ((0 : Int) + 1) = 1 := rfl
    have w21 : IntKind.i64.wrap ((2 : Int) + 1) = 3 := rfl
    have w02 : IntKind.i64.wrap ((0 : Int) + 2) = 2 := rfl
    have d12 : decide ((1 : Int) < ((2 : Nat) : Int)) = true := rfl
    have d32 : decide ((3 : Int) < ((2 : Nat) : Int)) = false := rfl
    have j0 : (0 : Int) ≤ 0 := by decide
    have j1 : (0 : Int) ≤ 1 := by decide
    have t0 : Int.toNat 0 = 0 := rfl
    have t1 : Int.toNat 1 = 1 := rfl
    have hwl : IntKind.i64.wrap ((v.trams.length : Int) - 1) = (v.trams.length : Int) - 1 := wrap64 ⟨by omega, by omega⟩
    have hix0 : ∀ l : List AV, vIdx 1 (.int .i64 t :: l) 0 none = some (.lptr (.int .i64 t :: l) 0 0 none) := fun l => by simp [vIdx, AV.cells]
    have hix1 : ∀ l : List AV, vIdx 1 (.int .i64 t :: .int .i64 (v.trams.length : Int) :: l) 1 none = some (.lptr (.int .i64 t :: .int .i64 (v.trams.length : Int) :: l) 1 0 none) := fun l => by simp [vIdx, AV.cells]
    have hpb : pairB [t, (v.trams.length : Int)] = inR t 0 ((v.trams.length : Int) - 1) := rfl
    (repeat (first | simp only [↓QA, QB, Nat.reduceLT, reduceIte, Nat.reduceEqDiff, Nat.reduceAdd, Nat.reduceLeDiff, Nat.reduceMul, Nat.reduceBEq, QXGTrPB, h0] | refine rd0 rfl ?_))
    refine loopE (S := Bool) false (fun b => b = true → pairB [t, (v.trams.length : Int)] = true) (fun b => if b then 0 else 1) (fun b => [(1, .lit [.int .i64 t, .int .i64 v.trams.length] false none), (2, .ptr σ.length 0), (9, .int .i64 (if b then 2 else 0))]) (fun _ => σ ++ [.cells (netCells v)]) (fun h => by cases h) (by simp [netCells, ints]) ?_ fun b hb => ?_
    ·try simp only [TrimX, QE, Nat.reduceLT, reduceIte, Nat.reduceEqDiff, Nat.reduceAdd, Nat.reduceLeDiff, Nat.reduceMul, Nat.reduceBEq, QXGTrPB, List.map_nil, List.map_cons]
     try simp [clr, clrs]
    ·cases b
     ·simp only [Bool.false_eq_true, if_false]
      (repeat (first | simp only [↓QA, QB, Nat.reduceLT, reduceIte, Nat.reduceEqDiff, Nat.reduceAdd, Nat.reduceLeDiff, Nat.reduceMul, Nat.reduceBEq, QXGTrPB, L79_0, w01, d12, hix0, hix1, hwl] | refine rd0 rfl ?_))
      ((first | refine callK_v (beyond_ok 0 ((v.trams.length : Int) - 1) [t] (by simp)) (by simp [clr, clrs, ints]) (by simp [okV, okVs]) ?_ | refine callD_v (beyond_ok 0 ((v.trams.length : Int) - 1) [t] (by simp)) (by simp [clr, clrs, ints]) (by simp [okV, okVs]) ?_); (repeat (first | simp only [↓QA, QB, Nat.reduceLT, reduceIte, Nat.reduceEqDiff, Nat.reduceAdd, Nat.reduceLeDiff, Nat.reduceMul, Nat.reduceBEq, QXGTrPB, beyond1, w01, d12, hix0, hix1, hwl] | refine rd0 rfl ?_)))
      cases h1 : inR t 0 ((v.trams.length : Int) - 1)
      ·rw [hpb, h1] at hE
       have he : E = 4 := by rw [← hE]; simp [errKnown]
       subst he
       (repeat (first | simp only [↓QA, QB, Nat.reduceLT, reduceIte, Nat.reduceEqDiff, Nat.reduceAdd, Nat.reduceLeDiff, Nat.reduceMul, Nat.reduceBEq, QXGTrPB, hix0, hix1] | refine rd0 rfl ?_))
       simp
      ·(repeat (first | simp only [↓QA, QB, Nat.reduceLT, reduceIte, Nat.reduceEqDiff, Nat.reduceAdd, Nat.reduceLeDiff, Nat.reduceMul, Nat.reduceBEq, QXGTrPB, hix0, hix1, w02] | refine rd0 rfl ?_))
       refine ⟨true, fun _ => by rw [hpb, h1], by simp, ?_⟩
       try simp only [TrimX, QE, Nat.reduceLT, reduceIte, Nat.reduceEqDiff, Nat.reduceAdd, Nat.reduceLeDiff, Nat.reduceMul, Nat.reduceBEq, QXGTrPB, w02]
       try simp [okBlk]
     ·have tl := tail (hb rfl)
      simp only [if_true]
      (repeat (first | simp only [↓QA, QB, Nat.reduceLT, reduceIte, Nat.reduceEqDiff, Nat.reduceAdd, Nat.reduceLeDiff, Nat.reduceMul, Nat.reduceBEq, QXGTrPB, L79_0, w21, d32] | refine rd0 rfl ?_))
      refine callK_do hlk ?_
      (repeat (first | simp only [↓QA, QB, Nat.reduceLT, reduceIte, Nat.reduceEqDiff, Nat.reduceAdd, Nat.reduceLeDiff, Nat.reduceMul, Nat.reduceBEq, QXGTrPB] | refine rd0 rfl ?_))
      refine callK_do hso ?_
      cases hs : (truths v []).isEmpty
      ·have he : E = 0 := by rw [← tl]; simp [hs]
       subst he
       (repeat (first | simp only [↓QA, QB, Nat.reduceLT, reduceIte, Nat.reduceEqDiff, Nat.reduceAdd, Nat.reduceLeDiff, Nat.reduceMul, Nat.reduceBEq, QXGTrPB] | refine rd0 rfl ?_))
       simp [entS, memo0, netCells, ints]
      ·have he : E = 8 := by rw [← tl]; simp [hs]
       subst he
       (repeat (first | simp only [↓QA, QB, Nat.reduceLT, reduceIte, Nat.reduceEqDiff, Nat.reduceAdd, Nat.reduceLeDiff, Nat.reduceMul, Nat.reduceBEq, QXGTrPB] | refine rd0 rfl ?_))
       simp
 ·obtain ⟨hj, ho⟩ := ho
  by_cases he : entE v ns = 0
  ·rw [if_pos he] at ho
   refine ⟨hj, enterV v ns σ.length, ?_, .inl ⟨rfl, ?_⟩⟩
   ·simp [resOf, resAV, a79, ho.1, ho.2.1, enterV, he]
   ·rw [ho.2.2, enterSt, if_pos he]
  ·rw [if_neg he] at ho
   obtain ⟨h4, h5, τ, hσ⟩ := ho
   refine ⟨hj, enterV v ns σ.length, ?_, .inr ⟨20, enterV v ns σ.length, enterV v ns σ.length, ?_, .inl rfl, fun i hi => .inl (by rw [hσ]; exact List.getElem?_append_left hi), by rw [hσ]; simp, rfl, by rw [hσ]; simp [enterSt, he]⟩⟩
   ·simp [resOf, resAV, a79, h4, h5, enterV, he]
   ·simp [enterV, he, snap, snaps]
theorem fam1_ofX {X : Type} {M : Type} {S : X → M → St} {obj : List AV} {es : M → List (AV × AV)} {p m N : Nat} (hS : ∀ x, MemAt (S x) obj es p m N) (hK : ∀ x A y B k i, N ≤ k → i < N → blkKept (S x A) (S y B) k i) (hpl : p < N) (U UD : X → St) (n : Nat) (hU : ∀ x, (U x).length = n) (hUD : ∀ x, (UD x).length = n) (ok : ∀ x y, y ∈ U x → ∀ k, N ≤ k → okBlk k y) (okD : ∀ x y, y ∈ UD x → ∀ k, N ≤ k → okBlk k y)
  (env : Env) (ps : List Nat) (a bb : ACode) (st st' : LS) (pe pe' : Option AJump) :
  Fam1 (fun x A => S x A ++ (U x ++ [.cells [.ptr p 0], .loop st pe env ps a bb])) (fun x A => S x A ++ (UD x ++ [.cells [.ptr p 0], .loop st' pe' env ps a bb])) obj es p m (N + n) (N + n + 2) := by
 have low : ∀ (x : X) (A : M) (y : X) (B : M) (C D : St) (k i : Nat), N ≤ k → i < N → blkKept (S x A ++ C) (S y B ++ D) k i := by
  intro x A y B C D k i hk hi
  have e1 : (S x A ++ C)[i]? = (S x A)[i]? := List.getElem?_append_left (by rw [(hS x).len]; exact hi)
  have e2 : (S y B ++ D)[i]? = (S y B)[i]? := List.getElem?_append_left (by rw [(hS y).len]; exact hi)
  have := hK x A y B k i hk hi
  simp only [blkKept, e1, e2] at this ⊢
  exact this
 have high : ∀ (P Q : St) (C D : St) (l1 l2 : ABlk) (k i : Nat), P.length = N → Q.length = N → C.length = n → D.length = n → (∀ y ∈ D, okBlk k y) → N ≤ i → i < N + n + 2 → (l1 = l2 ∨ ∃ st pe st' pe' env ps a b, l1 = .loop st pe env ps a b ∧ l2 = .loop st' pe' env ps a b) →
   blkKept (P ++ (C ++ [.cells [.ptr p 0], l1])) (Q ++ (D ++ [.cells [.ptr p 0], l2])) k i := by
  intro P Q C D l1 l2 k i hP hQ hA hB hk h1 h2 hl
  have e1 : (P ++ (C ++ [.cells [.ptr p 0], l1]))[i]? = (C ++ [.cells [.ptr p 0], l1])[i - N]? := by rw [List.getElem?_append_right (by rw [hP]; exact h1), hP]
  have e2 : (Q ++ (D ++ [.cells [.ptr p 0], l2]))[i]? = (D ++ [.cells [.ptr p 0], l2])[i - N]? := by rw [List.getElem?_append_right (by rw [hQ]; exact h1), hQ]
  simp only [blkKept, e1, e2]
  obtain ⟨j, hj⟩ : ∃ j, i - N = j := ⟨_, rfl⟩
  rw [hj]
  by_cases hjn : j < n
  ·right; left
   have hb : j < D.length := by omega
   refine ⟨D[j], ?_, hk _ (List.getElem_mem hb)⟩
   rw [List.getElem?_append_left hb, List.getElem?_eq_getElem hb]
  ·have : j = n ∨ j = n + 1 := by omega
   rcases this with rfl | rfl
   ·left
    rw [List.getElem?_append_right (by omega), List.getElem?_append_right (by omega), hA, hB]
    simp
   ·rw [List.getElem?_append_right (by omega), List.getElem?_append_right (by omega), hA, hB]
    simp only [Nat.add_sub_cancel_left, List.getElem?_cons_succ, List.getElem?_cons_zero]
    rcases hl with rfl | ⟨_, _, _, _, _, _, _, _, rfl, rfl⟩
    ·exact .inl rfl
    ·exact .inr (.inr ⟨_, _, _, _, _, _, _, _, rfl, rfl⟩)
 refine ⟨fun x => ?_, fun x A => ?_, fun x A => ?_, fun x A y B k i hk hi => ?_, fun x A y B k i hk hi => ?_, by omega, by omega⟩
 ·have := (hS x).app (U x ++ [.cells [.ptr p 0], .loop st pe env ps a bb])
  rw [List.length_append, hU] at this
  exact this
 ·simp [(hS x).len, hUD]; omega
 ·have e : N + n = (S x A).length + n := by rw [(hS x).len]
  rw [e, M_base]
  have : n = (U x).length := by rw [hU]
  rw [this]
  exact M_base0 _ _
 ·by_cases h : i < N
  ·exact low _ _ _ _ _ _ _ _ (by omega) h
  ·exact high _ _ _ _ _ _ _ _ ((hS x).len A) ((hS y).len B) (hU x) (hU y) (fun z hz => ok y z hz k (by omega)) (by omega) hi (.inl rfl)
 ·by_cases h : i < N
  ·exact low _ _ _ _ _ _ _ _ (by omega) h
  ·exact high _ _ _ _ _ _ _ _ ((hS x).len A) ((hS y).len B) (hU x) (hUD y) (fun z hz => okD y z hz k (by omega)) (by omega) hi (.inr ⟨_, _, _, _, _, _, _, _, rfl, rfl⟩)
theorem range_ofX {X M : Type} {S : X → M → St} {obj : List AV} {es : M → List (AV × AV)} {p m N : Nat} (hS : ∀ x, MemAt (S x) obj es p m N) (U UD : X → St) (n : Nat) (hU : ∀ x, (U x).length = n) (hUD : ∀ x, (UD x).length = n)
  (J : AJump) (e : Env) (k : Nat) (ps : List Nat) (a bb : ACode) (g : FuncId) (ek : Env.get e k = .func g [] [.ptr (N + n) 0]) (r : X × Bool) (B' : M) (x : X) (B : M)
  (hrun : Run T (.call g [.yield (N + n + 1), .ptr (N + n) 0] (S x B ++ (U x ++ [.cells [.ptr p 0], .loop .ready none e ps a bb]))) fun o => ∃ τ', o.σ = Fam1.out (fun x A => S x A ++ (U x ++ [.cells [.ptr p 0], .loop .ready none e ps a bb])) (fun x A => S x A ++ (UD x ++ [.cells [.ptr p 0], .loop .done (some J) e ps a bb])) r B' ++ τ') (K : KJ)
  (hT : ∀ τ, r.2 = true → K none e (S r.1 B' ++ (U r.1 ++ (.cells [.ptr p 0] :: .dead :: τ))))
  (hD : ∀ τ, r.2 = false → K (some J) e (S r.1 B' ++ (UD r.1 ++ (.cells [.ptr p 0] :: .dead :: τ)))) :
  rK (K := ⟨K⟩) T (.rangeFunc (.t k) ps a bb) e (S x B ++ (U x ++ [.cells [.ptr p 0]])) := by
 have hlen : (S x B ++ (U x ++ [ABlk.cells [.ptr p 0]])).length = N + n + 1 := by simp [(hS x).len, hU]; omega
 have hout : ∀ (A W : St) (lp : ABlk) (τ' : St), A.length = N → W.length = n → (A ++ (W ++ [ABlk.cells [.ptr p 0], lp]) ++ τ')[N + n + 1]? = some lp ∧ (A ++ (W ++ [ABlk.cells [.ptr p 0], lp]) ++ τ').set (N + n + 1) .dead = A ++ (W ++ (.cells [.ptr p 0] :: .dead :: τ')) := by
  intro A W lp τ' hA hW
  have h1 : N + n + 1 = (A ++ W).length + 1 := by simp [hA, hW]
  have h2 : A ++ (W ++ [ABlk.cells [.ptr p 0], lp]) ++ τ' = (A ++ W) ++ (.cells [.ptr p 0] :: lp :: τ') := by simp
  rw [h1, h2]
  constructor
  ·rw [st_get]; rfl
  ·rw [st_set]; simp
 refine rK_range (by rw [q_evt, ek]) (by
  rw [hlen, List.append_assoc (S x B), List.append_assoc (U x)]
  exact hrun) fun o ho => ?_
 obtain ⟨τ', hσ⟩ := ho
 rw [hlen, hσ]
 cases hr2 : r.2
 ·have hD' := hD τ' hr2
  obtain ⟨g1, g2⟩ := hout (S r.1 B') (UD r.1) (.loop .done (some J) e ps a bb) τ' ((hS _).len _) (hUD _)
  simp only [Fam1.out, hr2, Bool.false_eq_true, if_false]
  rw [g1, g2]
  exact ⟨_, _, _, _, _, _, rfl, by simp, hD'⟩
 ·have hT' := hT τ' hr2
  obtain ⟨g1, g2⟩ := hout (S r.1 B') (U r.1) (.loop .ready none e ps a bb) τ' ((hS _).len _) (hU _)
  simp only [Fam1.out, hr2, if_true]
  rw [g1, g2]
  exact ⟨_, _, _, _, _, _, rfl, by simp, hT'⟩
theorem yields_ofX1 {X A M : Type} {S : X → M → St} {obj : List AV} {es : M → List (AV × AV)} {p m N : Nat} (hS : ∀ x, MemAt (S x) obj es p m N) (U UD : X → St) (n : Nat) (hU : ∀ x, (U x).length = n) (hUD : ∀ x, (UD x).length = n) (J : AJump) (e : Env) (ps : List Nat) (args : A → Bool → Option Nat → List AV) (hps : ∀ t fl tk, ps.length = (args t fl tk).length) (a bb : ACode) {P : A → Prop} {f : A → X → X × Bool}
  (h : ∀ t, P t → ∀ (fl : Bool) (tk : Option Nat) x B τ, wp T a (bindPs e ps (args t fl tk)) (S x B ++ (U x ++ (.cells [.ptr p 0] :: .loop .ready none e ps a bb :: τ))) (fun j e' σ' => j = none ∧ ∃ τ1, σ' = S x B ++ (U x ++ (.cells [.ptr p 0] :: .loop .ready none e ps a bb :: (τ ++ τ1))) ∧
   wp T bb e' (S x B ++ (U x ++ (.cells [.ptr p 0] :: .loop .busy none e ps a bb :: (τ ++ τ1)))) (fun j e'' σ'' => ((f t x).2 = true ∧ j = none ∧ ∃ τ', σ'' = S (f t x).1 B ++ (U (f t x).1 ++ (.cells [.ptr p 0] :: .loop .busy none e ps a bb :: (τ ++ τ')))) ∨
    ((f t x).2 = false ∧ j = some J ∧ ∃ τ', σ'' = S (f t x).1 B ++ (UD (f t x).1 ++ (.cells [.ptr p 0] :: .loop .busy none e ps a bb :: (τ ++ τ'))))))) :
  YieldsT (fun x B => S x B ++ (U x ++ [.cells [.ptr p 0], .loop .ready none e ps a bb])) (fun x B => S x B ++ (UD x ++ [.cells [.ptr p 0], .loop .done (some J) e ps a bb])) (N + n + 1) args P f := by
 intro t ht fl tk x B τ
 have hget : ∀ (A W : St) (lp : ABlk) (υ : St), A.length = N → W.length = n → (A ++ (W ++ (ABlk.cells [.ptr p 0] :: lp :: υ)))[N + n + 1]? = some lp := by
  intro A W lp υ hA hW
  have h1 : N + n + 1 = (A ++ W).length + 1 := by simp [hA, hW]
  rw [h1, ← List.append_assoc, st_get]; rfl
 have hset : ∀ (A W : St) (lp l2 : ABlk) (υ : St), A.length = N → W.length = n → (A ++ (W ++ (ABlk.cells [.ptr p 0] :: lp :: υ))).set (N + n + 1) l2 = A ++ (W ++ (ABlk.cells [.ptr p 0] :: l2 :: υ)) := by
  intro A W lp l2 υ hA hW
  have h1 : N + n + 1 = (A ++ W).length + 1 := by simp [hA, hW]
  rw [h1, ← List.append_assoc, st_set]
  simp
 obtain ⟨r, hr⟩ : ∃ r, f t x = r := ⟨_, rfl⟩
 have h := h t ht fl tk x B τ
 rw [hr] at h ⊢
 have hst : (fun x B => S x B ++ (U x ++ [ABlk.cells [.ptr p 0], .loop .ready none e ps a bb])) x B ++ τ = S x B ++ (U x ++ (.cells [.ptr p 0] :: .loop .ready none e ps a bb :: τ)) := by simp
 rw [hst]
 refine .round (env := e) (ps := ps) (a := a) (b := bb)
  (R := fun o => o.j = none ∧ ∃ τ1, o.σ = S x B ++ (U x ++ (.cells [.ptr p 0] :: .loop .ready none e ps a bb :: (τ ++ τ1))) ∧ wp T bb o.env (S x B ++ (U x ++ (.cells [.ptr p 0] :: .loop .busy none e ps a bb :: (τ ++ τ1)))) (fun j e'' σ'' => (r.2 = true ∧ j = none ∧ ∃ τ', σ'' = S r.1 B ++ (U r.1 ++ (.cells [.ptr p 0] :: .loop .busy none e ps a bb :: (τ ++ τ')))) ∨
    (r.2 = false ∧ j = some J ∧ ∃ τ', σ'' = S r.1 B ++ (UD r.1 ++ (.cells [.ptr p 0] :: .loop .busy none e ps a bb :: (τ ++ τ'))))))
  (S := fun o => (r.2 = true ∧ o.j = none ∧ ∃ τ', o.σ = S r.1 B ++ (U r.1 ++ (.cells [.ptr p 0] :: .loop .busy none e ps a bb :: (τ ++ τ')))) ∨ (r.2 = false ∧ o.j = some J ∧ ∃ τ', o.σ = S r.1 B ++ (UD r.1 ++ (.cells [.ptr p 0] :: .loop .busy none e ps a bb :: (τ ++ τ'))))) (hget _ _ _ _ ((hS _).len _) (hU _)) (by rw [hps t fl tk]) (run_wp h fun o ho => ho) ?_ ?_ ?_
 ·rintro o ⟨hj, τ1, hσ, _⟩
  exact ⟨hj, by rw [hσ]; exact hget _ _ _ _ ((hS _).len _) (hU _)⟩
 ·rintro o ⟨_, τ1, hσ, hw⟩
  rw [hσ, hset _ _ _ _ _ ((hS _).len _) (hU _)]
  exact run_wp hw fun o ho => ho
 ·rintro o (⟨hr2, hj, τ', hσ⟩ | ⟨hr2, hj, τ', hσ⟩)
  ·rw [hσ, hj, hget _ _ _ _ ((hS _).len _) (hU _), hset _ _ _ _ _ ((hS _).len _) (hU _)]
   refine ⟨rfl, by rw [hr2]; rfl, τ', ?_⟩
   simp [Fam1.out, hr2]
  ·rw [hσ, hj, hget _ _ _ _ ((hS _).len _) (hUD _), hset _ _ _ _ _ ((hS _).len _) (hUD _)]
   refine ⟨rfl, by rw [hr2]; rfl, τ', ?_⟩
   simp [Fam1.out, hr2]
end Go.Am.Room
set_option maxRecDepth 8000
namespace Go.Am.Room
def QXGTrPS := And.intro @encNet_eq (And.intro @netCells_eq (And.intro @encRail_eq (And.intro @encTram_eq (And.intro @encSeen_eq (And.intro @encSpan_eq (And.intro @S_mapRail (And.intro @S_mapTram (And.intro @S_mapSeen (And.intro @T_sapp (And.intro @T_sapp0 (And.intro @Nat.not_lt_zero (And.intro @List.length_append.{0} (And.intro @Nat.zero_add (And.intro @Nat.mul_one (And.intro @Int.toNat_natCast (And.intro @arrA_len (And.intro @arrA_take (And.intro @arrA_drop (And.intro @S_arrA (And.intro @arrA_cell (And.intro @db_0 (And.intro @db_1 (And.intro @db_2 (And.intro @db_3 (And.intro @db_4 (And.intro @db_5 (And.intro @Nat.add_lt_add_iff_left (@Nat.lt_add_right_iff_pos))))))))))))))))))))))))))))
theorem intime_same (v : Net) (b m p : Nat) (σ : St) (hσ : cellsAt σ p = some (db v b m)) (t : Nat) (ht : t < v.trams.length) (c : Int) : Same T (.func 111 [.ptr p 0] []) [.int .i64 t, .int .i64 c] σ (.bool (inTime v t c)) := by
 refine same_fn (af := a111) rfl (by simp [a111]) ?_
 have hit := inTime_at (v := v) (t := t) (z := v.trams[t]) (by simp [ht]) c
 obtain ⟨z, hz⟩ : ∃ z, v.trams[t] = z := ⟨_, rfl⟩
 rw [hz] at hit
 have e : decide (c = -1) = (c == -1) := by rw [Bool.eq_iff_iff]; simp
 rw [e] at hit
 rw [hit]
 cases h : (c == -1)
 ·(repeat (first | simp only [↓QA, QB, Nat.reduceLT, reduceIte, Nat.reduceEqDiff, Nat.reduceAdd, Nat.reduceLeDiff, Nat.reduceMul, Nat.reduceBEq, QXGTrPS, a111, h, hσ, ht, hz] | refine rd0 rfl ?_))
  refine baseR [] (by first | rfl | simp) ?_
  try simp only [QS, QC, Nat.reduceLT, reduceIte, Nat.reduceEqDiff, Nat.reduceAdd, Nat.reduceLeDiff, Nat.reduceMul, Nat.reduceBEq, QXGTrPS]
 ·(repeat (first | simp only [↓QA, QB, Nat.reduceLT, reduceIte, Nat.reduceEqDiff, Nat.reduceAdd, Nat.reduceLeDiff, Nat.reduceMul, Nat.reduceBEq, QXGTrPS, a111, h] | refine rd0 rfl ?_))
  refine baseR [] (by first | rfl | simp) ?_
  try simp only [QS, QC, Nat.reduceLT, reduceIte, Nat.reduceEqDiff, Nat.reduceAdd, Nat.reduceLeDiff, Nat.reduceMul, Nat.reduceBEq, QXGTrPS, Bool.false_and]
def inTF (p : Nat) : AV := .func 111 [.ptr p 0] []
theorem inTF_eq (p : Nat) : inTF p = .func 111 [.ptr p 0] [] := by simp only [inTF]
end Go.Am.Room
set_option maxRecDepth 8000
namespace Go.Am.Room
def QXGTrPC := And.intro @encNet_eq (And.intro @netCells_eq (And.intro @encRail_eq (And.intro @encTram_eq (And.intro @encSeen_eq (And.intro @encSpan_eq (And.intro @S_mapRail (And.intro @S_mapTram (And.intro @S_mapSeen (And.intro @T_sapp (And.intro @T_sapp0 (And.intro @Nat.not_lt_zero (And.intro @List.length_append.{0} (And.intro @Nat.zero_add (And.intro @Nat.mul_one (And.intro @Int.toNat_natCast (And.intro @arrA_len (And.intro @arrA_take (And.intro @arrA_drop (And.intro @S_arrA (And.intro @arrA_cell (And.intro @db_0 (And.intro @db_1 (And.intro @db_2 (And.intro @db_3 (And.intro @db_4 (And.intro @db_5 (And.intro @Nat.add_lt_add_iff_left (And.intro @Nat.lt_add_right_iff_pos (And.intro @C_yield (@K_yield))))))))))))))))))))))))))))))
theorem truths_rangeX {X : Type} {S : X → List K5 → St} {v : Net} {b p m N : Nat} {bl : List Int} (hS : ∀ x, MemAt (S x) (db v b m) (tEs v) p m N) (hK : ∀ x A y B k i, N ≤ k → i < N → blkKept (S x A) (S y B) k i) (hpl : p < N) (hv : Vd v) (hb : ButIs b bl) (U UD : X → St) (n : Nat) (hU : ∀ x, (U x).length = n) (hUD : ∀ x, (UD x).length = n) (ok : ∀ x y, y ∈ U x → ∀ k, N ≤ k → okBlk k y) (okD : ∀ x y, y ∈ UD x → ∀ k, N ≤ k → okBlk k y)
  (J : AJump) {f : List Int → X → X × Bool} (e : Env) (k : Nat) (ps : List Nat) (a bb : ACode) (ek : Env.get e k = .func 106 [] [.ptr (N + n) 0])
  (hy : YieldsT (fun x B => S x B ++ (U x ++ [.cells [.ptr p 0], .loop .ready none e ps a bb])) (fun x B => S x B ++ (UD x ++ [.cells [.ptr p 0], .loop .done (some J) e ps a bb])) (N + n + 1) (tArgs v) (TOk v bl) f)
  (x : X) (A : List K5) (K : KJ)
  (hT : ∀ τ, (iterF f (TL v bl) x).2 = true → K none e (S (iterF f (TL v bl) x).1 (allStates v bl f x A).1.2 ++ (U (iterF f (TL v bl) x).1 ++ (.cells [.ptr p 0] :: .dead :: τ))))
  (hD : ∀ τ, (iterF f (TL v bl) x).2 = false → K (some J) e (S (iterF f (TL v bl) x).1 (allStates v bl f x A).1.2 ++ (UD (iterF f (TL v bl) x).1 ++ (.cells [.ptr p 0] :: .dead :: τ)))) :
  rK (K := ⟨K⟩) T (.rangeFunc (.t k) ps a bb) e (S x A ++ (U x ++ [.cells [.ptr p 0]])) := by
 have hrun := truths1_run (fam1_ofX hS hK hpl U UD n hU hUD ok okD e ps a bb .ready .done none (some J)) hv hb hy (fun c h1 h2 => ⟨h1, h2⟩) x A
 rw [allStates_fst] at hrun
 exact range_ofX hS U UD n hU hUD J e k ps a bb 106 ek (iterF f (TL v bl) x) (allStates v bl f x A).1.2 x A hrun K hT hD
def lateU (p : Nat) (x : B64) : St := [.cells [.ptr p 0], .cells [.int .i64 (x.1.1 : Nat)], .cells [.int .i64 (x.1.2 : Nat)], .cells [inTF p]]
theorem late_body {S : List K5 → St} {v : Net} {b p m N : Nat} (hR : MemAt S (db v b m) (tEs v) p m N) (hv : Vd v) (c : List Int) (x : B64) (B : List K5) (lp : ABlk) (τ : St) (e : Env) (G : Option AJump → St → Prop)
  (e1 : Env.get e 1 = .ptr N 0) (e2 : Env.get e 2 = .ptr (N + 1) 0) (e3 : Env.get e 3 = .ptr (N + 2) 0) (e4 : Env.get e 4 = .ptr (N + 3) 0) (e6 : Env.get e 6 = .ptr (N + (τ.length + 1 + 1 + 1 + 1 + 1 + 1)) 0) (R : B64 × Bool) (hRr : bitsF (fineC v) v.trams.length c x = R) :
  wp T F84_1 e (S B ++ (lateU p x ++ (.cells [.ptr p 0] :: lp :: (τ ++ [.cells (arrA 3 (comeF (comesP v c)))])))) (fun j e'' σ'' => (R.2 = true ∧ j = none ∧ ∃ τ', σ'' = S B ++ (lateU p R.1 ++ (.cells [.ptr p 0] :: lp :: (τ ++ τ')))) ∨ G j σ'') := by
 have hnt := hv.ntr
 have hR1 : R.1.1 = bitsTo (fineC v c) v.trams.length x.1 := by rw [← hRr, bitsF_val (fineC v) (by omega)]
 have hR2 : R.2 = true := by rw [← hRr]; exact bitsF_go _ _ _ _
 have hpl := hR.pl
 have hta : ∀ (b0 b1 b2 b3 b4 b5 : ABlk), cellsAt (S B ++ (b0 :: b1 :: b2 :: b3 :: b4 :: b5 :: (τ ++ [.cells (arrA 3 (comeF (comesP v c)))]))) (N + (τ.length + 1 + 1 + 1 + 1 + 1 + 1)) = some (arrA 3 (comeF (comesP v c))) := fun b0 b1 b2 b3 b4 b5 => by
  rw [hR.base]
  simp only [M_atS]
  rw [M_base0]; rfl
 have hlt := fun k hk => bitsTo_lt (fineC v c) (n := 6) x.2 k hk
 simp only [lateU, hR1, inTF_eq]
 (repeat (first | simp only [↓QA, QB, Nat.reduceLT, reduceIte, Nat.reduceEqDiff, Nat.reduceAdd, Nat.reduceLeDiff, Nat.reduceMul, Nat.reduceBEq, QXGTrPC, hR.len, hR.base, hR.base0, hR.bset, hR.bset0, hR.at1, hR.at0, F84_1, e1] | refine rd0 rfl ?_))
 refine loopE (S := Nat) 0 (fun k => k ≤ v.trams.length) (fun k => v.trams.length - k)
  (fun k => [(2, .ptr (N + 1) 0), (3, .ptr (N + 2) 0), (4, .ptr (N + 3) 0), (6, .ptr (N + (τ.length + 1 + 1 + 1 + 1 + 1 + 1)) 0), (27, .int .i64 v.trams.length), (28, .int .i64 k)])
  (fun k => S B ++ (.cells [.ptr p 0] :: .cells [.int .i64 ((bitsTo (fineC v c) k x.1).1 : Nat)] :: .cells [.int .i64 ((bitsTo (fineC v c) k x.1).2 : Nat)] :: .cells [.func 111 [.ptr p 0] []] :: .cells [.ptr p 0] :: lp :: (τ ++ [.cells (arrA 3 (comeF (comesP v c)))]))) (Nat.zero_le _) rfl ?_ fun k hk => ?_
 ·try simp only [TrimX, QE, Nat.reduceLT, reduceIte, Nat.reduceEqDiff, Nat.reduceAdd, Nat.reduceLeDiff, Nat.reduceMul, Nat.reduceBEq, QXGTrPC, hR.len, hR.base, hR.base0, hR.bset, hR.bset0, hR.at1, hR.at0, e2, e3, e4, e6]
  try simp
 ·(repeat (first | simp only [↓QA, QB, Nat.reduceLT, reduceIte, Nat.reduceEqDiff, Nat.reduceAdd, Nat.reduceLeDiff, Nat.reduceMul, Nat.reduceBEq, QXGTrPC, hR.len, hR.base, hR.base0, hR.bset, hR.bset0, hR.at1, hR.at0, L84_2] | refine rd0 rfl ?_))
  refine iteP_intro (fun hd => ?_) fun hd => ?_
  ·have hk1 : k < v.trams.length := by simpa using hd
   have hw := wrapN hk1 (by omega)
   have hst : bitsTo (fineC v c) (k + 1) x.1 = if fineC v c k = true then (andN (bitsTo (fineC v c) k x.1).1 (2 ^ k), (bitsTo (fineC v c) k x.1).2) else ((bitsTo (fineC v c) k x.1).1, (bitsTo (fineC v c) k x.1).2 ||| 2 ^ k) := rfl
   obtain ⟨l1, l2⟩ := hlt k (by omega)
   obtain ⟨⟨Y1, Y2⟩, hY⟩ : ∃ Y, bitsTo (fineC v c) k x.1 = Y := ⟨_, rfl⟩
   rw [hY] at hst l1 l2
   simp only at hst l1 l2
   have hp2 := pow_small (show k ≤ 60 by omega)
   have hsh := V_shl1 k (by omega)
   have hor := V_or Y2 (2 ^ k) (by omega) (by omega)
   have han := V_andNot Y1 (2 ^ k) (by omega) (by omega)
   have i3 : (0 : Int) ≤ (k : Int) ∧ (k : Int) < ((3 : Nat) : Int) := ⟨by omega, by omega⟩
   have hg := arrA_get 3 (comeF (comesP v c)) (i := k) (by omega)
   have hin := fun σ (hσ : cellsAt σ p = some (db v b m)) => intime_same v b m p σ hσ k hk1 (comeF (comesP v c) k)
   have hfe : inTime v k (comeF (comesP v c) k) = fineC v c k := rfl
   rw [hY]
   (repeat (first | simp only [↓QA, QB, Nat.reduceLT, reduceIte, Nat.reduceEqDiff, Nat.reduceAdd, Nat.reduceLeDiff, Nat.reduceMul, Nat.reduceBEq, QXGTrPC, hR.len, hR.base, hR.base0, hR.bset, hR.bset0, hR.at1, hR.at0, hta, i3, hg] | refine rd0 rfl ?_))
   refine callD_same (hin _ (hR.at1 _ _)) ?_
   rw [hfe]
   cases hf : fineC v c k
   ·rw [hf] at hst
    simp only [Bool.false_eq_true, if_false] at hst
    (repeat (first | simp only [↓QA, QB, Nat.reduceLT, reduceIte, Nat.reduceEqDiff, Nat.reduceAdd, Nat.reduceLeDiff, Nat.reduceMul, Nat.reduceBEq, QXGTrPC, hR.len, hR.base, hR.base0, hR.bset, hR.bset0, hR.at1, hR.at0, hta, i3, hg, hsh, hor] | refine rd0 rfl ?_))
    refine ⟨k + 1, by omega, by omega, ?_⟩
    rw [hst]
    try simp only [TrimX, QE, Nat.reduceLT, reduceIte, Nat.reduceEqDiff, Nat.reduceAdd, Nat.reduceLeDiff, Nat.reduceMul, Nat.reduceBEq, QXGTrPC, hR.len, hR.base, hR.base0, hR.bset, hR.bset0, hR.at1, hR.at0, hw, hR.eqS]
    try simp [okBlk, okVs, okV]
    try omega
   ·rw [hf] at hst
    simp only [if_true] at hst
    (repeat (first | simp only [↓QA, QB, Nat.reduceLT, reduceIte, Nat.reduceEqDiff, Nat.reduceAdd, Nat.reduceLeDiff, Nat.reduceMul, Nat.reduceBEq, QXGTrPC, hR.len, hR.base, hR.base0, hR.bset, hR.bset0, hR.at1, hR.at0, hta, i3, hg, hsh, han] | refine rd0 rfl ?_))
    refine ⟨k + 1, by omega, by omega, ?_⟩
    rw [hst]
    try simp only [TrimX, QE, Nat.reduceLT, reduceIte, Nat.reduceEqDiff, Nat.reduceAdd, Nat.reduceLeDiff, Nat.reduceMul, Nat.reduceBEq, QXGTrPC, hR.len, hR.base, hR.base0, hR.bset, hR.bset0, hR.at1, hR.at0, hw, hR.eqS]
    try simp [okBlk, okVs, okV]
    try omega
  ·have hk1 : k = v.trams.length := by
    have : ¬ k < v.trams.length := by simpa using hd
    omega
   rw [hk1]
   (repeat (first | simp only [↓QA, QB, Nat.reduceLT, reduceIte, Nat.reduceEqDiff, Nat.reduceAdd, Nat.reduceLeDiff, Nat.reduceMul, Nat.reduceBEq, QXGTrPC, hR.len, hR.base, hR.base0, hR.bset, hR.bset0, hR.at1, hR.at0] | refine rd0 rfl ?_))
   exact .inl ⟨hR2, [.cells (arrA 3 (comeF (comesP v c)))], rfl⟩
end Go.Am.Room
set_option maxRecDepth 8000
namespace Go.Am.Room
def QXGTrPD := And.intro @encNet_eq (And.intro @netCells_eq (And.intro @encRail_eq (And.intro @encTram_eq (And.intro @encSeen_eq (And.intro @encSpan_eq (And.intro @S_mapRail (And.intro @S_mapTram (And.intro @S_mapSeen (And.intro @T_sapp (And.intro @T_sapp0 (And.intro @Nat.not_lt_zero (And.intro @List.length_append.{0} (And.intro @Nat.zero_add (And.intro @Nat.mul_one (And.intro @Int.toNat_natCast (And.intro @arrA_len (And.intro @arrA_take (And.intro @arrA_drop (And.intro @S_arrA (And.intro @arrA_cell (And.intro @db_0 (And.intro @db_1 (And.intro @db_2 (And.intro @db_3 (And.intro @db_4 (And.intro @db_5 (And.intro @Nat.add_lt_add_iff_left (And.intro @Nat.lt_add_right_iff_pos (And.intro @C_yield (@K_yield))))))))))))))))))))))))))))))
def lateN (v : Net) (h : v.trams.length ≤ 6) : B64 := bitsL (fineC v) v.trams.length (TL v []) (bits0 _ h)
def lateMemo (v : Net) (h : v.trams.length ≤ 6) (A : List K5) : List K5 := (allStates v [] (bitsF (fineC v) v.trams.length) (bits0 _ h) A).1.2
theorem bits_iter {A : Type} (fine : A → Nat → Bool) (n : Nat) (l : List A) (x : B64) : iterF (bitsF fine n) l x = (bitsL fine n l x, true) := iterF_go (bitsF_go fine n) l x
theorem late_does {S : List K5 → St} {v : Net} {b p m N : Nat} (hR : MemAt S (db v b m) (tEs v) p m N) (hv : Vd v) (hb : ButIs b []) (h6 : v.trams.length ≤ 6) (A : List K5) :
  Does T (.func 84 [] []) [.ptr p 0] (S A) (.tuple [.int .i64 ((lateN v h6).1.1 : Nat), .int .i64 ((lateN v h6).1.2 : Nat)]) (S (lateMemo v h6 A)) := by
 have hit := bits_iter (fineC v) v.trams.length (TL v []) (bits0 _ h6)
 obtain ⟨Y, hY⟩ : ∃ Y, bitsL (fineC v) v.trams.length (TL v []) (bits0 _ h6) = Y := ⟨_, rfl⟩
 have hl : lateN v h6 = Y := hY
 rw [hY] at hit
 rw [hl]
 have hsh := V_shl1 v.trams.length (by omega)
 have hp2 := pow_small (show v.trams.length ≤ 60 by omega)
 have hw : IntKind.i64.wrap (((2 ^ v.trams.length : Nat) : Int) - 1) = ((2 ^ v.trams.length - 1 : Nat) : Int) := by
  have := Nat.two_pow_pos v.trams.length
  rw [wrap64 ⟨by omega, by omega⟩]; omega
 have hok : ∀ (x : B64) (y : ABlk), y ∈ lateU p x → ∀ k, N ≤ k → okBlk k y := by
  intro x y hy k hk
  have hpl := hR.pl
  simp only [lateU, List.mem_cons, List.not_mem_nil, or_false] at hy
  rcases hy with rfl | rfl | rfl | rfl <;> simp [okBlk, okVs, okV, inTF] <;> omega
 refine does_memo hR (af := a84) rfl (by simp [a84]) ?_
 have hrg := truths_range hR hv hb (lateU p) (lateU p) 4 (fun _ => rfl) (fun _ => rfl) hok hok .ret (f := bitsF (fineC v) v.trams.length)
 (repeat (first | simp only [↓QA, QB, Nat.reduceLT, reduceIte, Nat.reduceEqDiff, Nat.reduceAdd, Nat.reduceLeDiff, Nat.reduceMul, Nat.reduceBEq, QXGTrPD, hR.len, hR.base, hR.base0, hR.bset, hR.bset0, hR.at1, hR.at0, a84, hsh, hw] | refine rd0 rfl ?_))
 refine callK_in rfl (by simp [a80]) ?_
 (repeat (first | simp only [↓QA, QB, Nat.reduceLT, reduceIte, Nat.reduceEqDiff, Nat.reduceAdd, Nat.reduceLeDiff, Nat.reduceMul, Nat.reduceBEq, QXGTrPD, hR.len, hR.base, hR.base0, hR.bset, hR.bset0, hR.at1, hR.at0, a80] | refine rd0 rfl ?_))
 refine hrg _ 19 [20, 21] _ _ ?_ ?_ (bits0 _ h6) A _ ?_ ?_
 ·try simp only [TrimX, QE, Nat.reduceLT, reduceIte, Nat.reduceEqDiff, Nat.reduceAdd, Nat.reduceLeDiff, Nat.reduceMul, Nat.reduceBEq, QXGTrPD, hR.len, hR.base, hR.base0, hR.bset, hR.bset0, hR.at1, hR.at0]
 ·refine yields_ofX1 (S := fun _ => S) (fun _ => hR) (lateU p) (lateU p) 4 (fun _ => rfl) (fun _ => rfl) .ret _ _ (tArgs v) (fun _ _ _ => rfl) _ _ ?_
  intro c _ fl tk x B τ
  simp only [bindPs, tArgs]
  obtain ⟨R, hRr⟩ : ∃ R, bitsF (fineC v) v.trams.length c x = R := ⟨_, rfl⟩
  rw [hRr]
  have lb := fun lp e G => late_body hR hv c x B lp τ e G
  simp only [lateU, inTF_eq] at lb ⊢
  (repeat (first | simp only [↓QA, QB, Nat.reduceLT, reduceIte, Nat.reduceEqDiff, Nat.reduceAdd, Nat.reduceLeDiff, Nat.reduceMul, Nat.reduceBEq, QXGTrPD, hR.len, hR.base, hR.base0, hR.bset, hR.bset0, hR.at1, hR.at0] | refine rd0 rfl ?_))
  refine ⟨[.cells (arrA 3 (comeF (comesP v c)))], by simp, ?_⟩
  simp only [← inTF_eq]
  refine late_body hR hv c x B _ τ _ _ ?_ ?_ ?_ ?_ ?_ R hRr
  all_goals try simp only [TrimX, QE, Nat.reduceLT, reduceIte, Nat.reduceEqDiff, Nat.reduceAdd, Nat.reduceLeDiff, Nat.reduceMul, Nat.reduceBEq, QXGTrPD, hR.len, hR.base, hR.base0, hR.bset, hR.bset0, hR.at1, hR.at0]
 ·intro τ h2
  rw [hit]
  simp only [lateU]
  (repeat (first | simp only [↓QA, QB, Nat.reduceLT, reduceIte, Nat.reduceEqDiff, Nat.reduceAdd, Nat.reduceLeDiff, Nat.reduceMul, Nat.reduceBEq, QXGTrPD, hR.len, hR.base, hR.base0, hR.bset, hR.bset0, hR.at1, hR.at0] | refine rd0 rfl ?_))
  refine ⟨_, _, rfl, rfl, ?_⟩
  try simp only [QS, QC, Nat.reduceLT, reduceIte, Nat.reduceEqDiff, Nat.reduceAdd, Nat.reduceLeDiff, Nat.reduceMul, Nat.reduceBEq, QXGTrPD, hR.len, hR.base, hR.base0, hR.bset, hR.bset0, hR.at1, hR.at0]
 ·intro τ h2
  rw [hit] at h2
  cases h2
end Go.Am.Room
set_option maxRecDepth 8000
namespace Go.Am.Room
def QXGTrPE := And.intro @encNet_eq (And.intro @netCells_eq (And.intro @encRail_eq (And.intro @encTram_eq (And.intro @encSeen_eq (And.intro @encSpan_eq (And.intro @S_mapRail (And.intro @S_mapTram (And.intro @S_mapSeen (And.intro @T_sapp (And.intro @T_sapp0 (And.intro @Nat.not_lt_zero (And.intro @List.length_append.{0} (And.intro @Nat.zero_add (And.intro @Nat.mul_one (And.intro @Int.toNat_natCast (And.intro @Nat.add_lt_add_iff_left (@Nat.lt_add_right_iff_pos)))))))))))))))))
theorem plate_ok (v : Net) (hf : Fits v) : Pure T 25 [encNet v] (encLLE (lateOf v)) := by
 refine pure_fn (af := a25) rfl (by simp [a25]) dd ?_
 have her := fun σ => enter_run σ v [] (.inl rfl) hf
 simp only [List.map_nil, enterV, enterSt, entE_nil] at her
 (repeat (first | simp only [↓QA, QB, Nat.reduceLT, reduceIte, Nat.reduceEqDiff, Nat.reduceAdd, Nat.reduceLeDiff, Nat.reduceMul, Nat.reduceBEq, QXGTrPE, a25] | refine rd0 rfl ?_))
 refine callK_do (her _) ?_
 by_cases h0 : netErr v = 0
 ·obtain ⟨hv, hne⟩ := netErr_ok h0
  have hnt := hv.ntr
  have h6 : v.trams.length ≤ 6 := by omega
  obtain ⟨hl1, hl2⟩ := late_law hv h6
  have hld := late_does (net_at [.cells (netCells v)] v) hv but0 h6 (memo0 v)
  have hlt := (lateN v h6).2
  obtain ⟨⟨⟨P, Q⟩, hPQ⟩, hY⟩ : ∃ Y, lateN v h6 = Y := ⟨_, rfl⟩
  have hYl : bitsL (fineC v) v.trams.length (TL v []) (bits0 _ h6) = ⟨(P, Q), hPQ⟩ := hY
  rw [hYl] at hl1 hl2
  rw [hY] at hld
  simp only at hl1 hl2 hld hPQ
  have hm : lateOf v = (lst v.trams.length P, lst v.trams.length Q, 0) := by rw [lateOf, if_pos h0, hl1, hl2]
  have hlo1 := list_ok P v.trams.length (by omega) (by omega)
  have hlo2 := list_ok Q v.trams.length (by omega) (by omega)
  rw [if_pos h0, if_pos h0, hm]
  simp only [entS] at hld ⊢
  try simp only [↓QA, QB, Nat.reduceLT, reduceIte, Nat.reduceEqDiff, Nat.reduceAdd, Nat.reduceLeDiff, Nat.reduceMul, Nat.reduceBEq, QXGTrPE] at hld
  (repeat (first | simp only [↓QA, QB, Nat.reduceLT, reduceIte, Nat.reduceEqDiff, Nat.reduceAdd, Nat.reduceLeDiff, Nat.reduceMul, Nat.reduceBEq, QXGTrPE, show ((0 : Int) == 0) = true from rfl] | refine rd0 rfl ?_))
  refine callK_do hld ?_
  (repeat (first | simp only [↓QA, QB, Nat.reduceLT, reduceIte, Nat.reduceEqDiff, Nat.reduceAdd, Nat.reduceLeDiff, Nat.reduceMul, Nat.reduceBEq, QXGTrPE] | refine rd0 rfl ?_))
  ((first | refine callK_d (hlo1) rfl dd ?_ | refine callD_d (hlo1) rfl dd ?_); (repeat (first | simp only [↓QA, QB, Nat.reduceLT, reduceIte, Nat.reduceEqDiff, Nat.reduceAdd, Nat.reduceLeDiff, Nat.reduceMul, Nat.reduceBEq, QXGTrPE] | refine rd0 rfl ?_)))
  ((first | refine callK_d (hlo2) rfl dd ?_ | refine callD_d (hlo2) rfl dd ?_); (repeat (first | simp only [↓QA, QB, Nat.reduceLT, reduceIte, Nat.reduceEqDiff, Nat.reduceAdd, Nat.reduceLeDiff, Nat.reduceMul, Nat.reduceBEq, QXGTrPE, encLLE] | refine rd0 rfl ?_)))
 ·have h0' : (netErr v == 0) = false := by simpa using h0
  have hm : lateOf v = ([], [], netErr v) := by rw [lateOf, if_neg h0]
  rw [if_neg h0, if_neg h0, hm]
  (repeat (first | simp only [↓QA, QB, Nat.reduceLT, reduceIte, Nat.reduceEqDiff, Nat.reduceAdd, Nat.reduceLeDiff, Nat.reduceMul, Nat.reduceBEq, QXGTrPE, h0', encLLE] | refine rd0 rfl ?_))
  try rfl
theorem pfirst_ok (v : Net) (hf : Fits v) : Pure T 28 [encNet v] (encIE (firstOf v)) := by
 refine pure_fn (af := a28) rfl (by simp [a28]) dd ?_
 have her := fun σ => enter_run σ v [] (.inl rfl) hf
 simp only [List.map_nil, enterV, enterSt, entE_nil] at her
 (repeat (first | simp only [↓QA, QB, Nat.reduceLT, reduceIte, Nat.reduceEqDiff, Nat.reduceAdd, Nat.reduceLeDiff, Nat.reduceMul, Nat.reduceBEq, QXGTrPE, a28] | refine rd0 rfl ?_))
 refine callK_do (her _) ?_
 by_cases h0 : netErr v = 0
 ·obtain ⟨hv, hne⟩ := netErr_ok h0
  have hnt := hv.ntr
  have h6 : v.trams.length ≤ 6 := by omega
  obtain ⟨hl1, hl2⟩ := late_law hv h6
  have hld := late_does (net_at [.cells (netCells v)] v) hv but0 h6 (memo0 v)
  obtain ⟨⟨⟨P, Q⟩, hPQ⟩, hY⟩ : ∃ Y, lateN v h6 = Y := ⟨_, rfl⟩
  have hYl : bitsL (fineC v) v.trams.length (TL v []) (bits0 _ h6) = ⟨(P, Q), hPQ⟩ := hY
  rw [hYl] at hl1 hl2
  rw [hY] at hld
  simp only at hl1 hl2 hld hPQ
  have hin := mayL_in (v := v) (l := truths v [])
  have hml := mayL_len v (truths v [])
  have hlo2 := list_ok Q v.trams.length (by omega) (by omega)
  rw [hl2] at hlo2
  obtain ⟨M, hM⟩ : ∃ M, mayL v (truths v []) = M := ⟨_, rfl⟩
  have hfo : firstOf v = if M = [] then (0, 9) else (firstGo v M (-1), 0) := by rw [firstOf, if_pos h0, hM]
  rw [hM] at hlo2 hml
  simp only [hM] at hin
  obtain ⟨Z, hZ⟩ : ∃ Z, firstGo v M (-1) = Z := ⟨_, rfl⟩
  have hZM : (Z < 0 ↔ M = []) := by
   have key : ∀ (l : List Int) (b : Int), (∀ t ∈ l, 0 ≤ t) → (firstGo v l b < 0 ↔ b < 0 ∧ l = []) := by
    intro l
    induction l with
    | nil => intro b _; simp [firstGo]
    | cons t l ih =>
     intro b h
     have ht := h t (by simp)
     rw [firstGo, ih _ fun x hx => h x (by simp [hx])]
     split <;> simp_all <;> omega
   rw [← hZ, key M (-1) fun t ht => (hin t ht).1]
   simp
  have hfo2 : firstOf v = if Z < 0 then (0, 9) else (Z, 0) := by
   rw [hfo, hZ]
   by_cases h : M = []
   ·rw [if_pos h, if_pos (hZM.2 h)]
   ·rw [if_neg h, if_neg fun q => h (hZM.1 q)]
  rw [if_pos h0, if_pos h0, hfo2]
  simp only [entS] at hld ⊢
  try simp only [↓QA, QB, Nat.reduceLT, reduceIte, Nat.reduceEqDiff, Nat.reduceAdd, Nat.reduceLeDiff, Nat.reduceMul, Nat.reduceBEq, QXGTrPE] at hld
  (repeat (first | simp only [↓QA, QB, Nat.reduceLT, reduceIte, Nat.reduceEqDiff, Nat.reduceAdd, Nat.reduceLeDiff, Nat.reduceMul, Nat.reduceBEq, QXGTrPE, show ((0 : Int) == 0) = true from rfl] | refine rd0 rfl ?_))
  refine callK_do hld ?_
  (repeat (first | simp only [↓QA, QB, Nat.reduceLT, reduceIte, Nat.reduceEqDiff, Nat.reduceAdd, Nat.reduceLeDiff, Nat.reduceMul, Nat.reduceBEq, QXGTrPE] | refine rd0 rfl ?_))
  ((first | refine callK_d (hlo2) rfl dd ?_ | refine callD_d (hlo2) rfl dd ?_); (repeat (first | simp only [↓QA, QB, Nat.reduceLT, reduceIte, Nat.reduceEqDiff, Nat.reduceAdd, Nat.reduceLeDiff, Nat.reduceMul, Nat.reduceBEq, QXGTrPE] | refine rd0 rfl ?_)))
  refine loopE (S := Nat × Int) (0, -1) (fun a => a.1 ≤ M.length ∧ a.2 < v.trams.length ∧ firstGo v (M.drop a.1) a.2 = Z) (fun a => M.length - a.1)
   (fun a => [(1, .ptr 0 0), (8, .int .i64 a.2), (28, ints M), (29, .int .i64 M.length), (30, .int .i64 a.1)]) (fun a => [.cells (netCells v), .cells (netCells v), .cells (netCells v), .map (tEs v (lateMemo v h6 (memo0 v))), .cells (db v 0 3)]) ⟨Nat.zero_le _, by simp only; omega, hZ⟩ (by simp [netCells, ints]) ?_ fun a ha => ?_
  ·try simp only [TrimX, QE, Nat.reduceLT, reduceIte, Nat.reduceEqDiff, Nat.reduceAdd, Nat.reduceLeDiff, Nat.reduceMul, Nat.reduceBEq, QXGTrPE, ints]
   try simp
  ·obtain ⟨k, b⟩ := a
   obtain ⟨hk, hb, hgo⟩ := ha
   simp only at hk hb hgo
   (repeat (first | simp only [↓QA, QB, Nat.reduceLT, reduceIte, Nat.reduceEqDiff, Nat.reduceAdd, Nat.reduceLeDiff, Nat.reduceMul, Nat.reduceBEq, QXGTrPE, L28_0] | refine rd0 rfl ?_))
   refine iteP_intro (fun h2 => ?_) fun h2 => ?_
   ·have hk1 : k < M.length := by simpa using h2
    have hw := wrapN hk1 (by omega)
    have hx := hin _ (List.getElem_mem hk1)
    rw [firstGo_drop hk1] at hgo
    obtain ⟨x, hxe⟩ : ∃ x : Nat, M[k] = (x : Int) := ⟨M[k].toNat, by omega⟩
    rw [hxe] at hx hgo
    have hx1 : x < v.trams.length := by omega
    (repeat (first | simp only [↓QA, QB, Nat.reduceLT, reduceIte, Nat.reduceEqDiff, Nat.reduceAdd, Nat.reduceLeDiff, Nat.reduceMul, Nat.reduceBEq, QXGTrPE, hk1, hxe] | refine rd0 rfl ?_))
    cases hbn : decide (b < 0)
    ·have hbn' : ¬ b < 0 := by simpa using hbn
     obtain ⟨B, rfl⟩ : ∃ B : Nat, b = (B : Int) := ⟨b.toNat, by omega⟩
     have hB1 : B < v.trams.length := by omega
     rw [Int.toNat_natCast, Int.toNat_natCast, due_at hx1, due_at hB1] at hgo
     obtain ⟨zx, hzx⟩ : ∃ z, v.trams[x] = z := ⟨_, rfl⟩
     obtain ⟨zb, hzb⟩ : ∃ z, v.trams[B] = z := ⟨_, rfl⟩
     rw [hzx, hzb] at hgo
     cases q : decide (zx.due < zb.due)
     ·have q' : ¬ zx.due < zb.due := by simpa using q
      rw [if_neg (by omega)] at hgo
      (repeat (first | simp only [↓QA, QB, Nat.reduceLT, reduceIte, Nat.reduceEqDiff, Nat.reduceAdd, Nat.reduceLeDiff, Nat.reduceMul, Nat.reduceBEq, QXGTrPE, hbn, hx1, hB1, hzx, hzb, q, hw] | refine rd0 rfl ?_))
      refine ⟨(k + 1, (B : Int)), ⟨by simp only; omega, by simp only; omega, hgo⟩, by simp only; omega, ?_⟩
      try simp only [TrimX, QE, Nat.reduceLT, reduceIte, Nat.reduceEqDiff, Nat.reduceAdd, Nat.reduceLeDiff, Nat.reduceMul, Nat.reduceBEq, QXGTrPE, hw, ints]
      try simp [okBlk]
     ·have q' : zx.due < zb.due := by simpa using q
      rw [if_pos (.inr q')] at hgo
      (repeat (first | simp only [↓QA, QB, Nat.reduceLT, reduceIte, Nat.reduceEqDiff, Nat.reduceAdd, Nat.reduceLeDiff, Nat.reduceMul, Nat.reduceBEq, QXGTrPE, hbn, hx1, hB1, hzx, hzb, q, hw] | refine rd0 rfl ?_))
      refine ⟨(k + 1, (x : Int)), ⟨by simp only; omega, by simp only; omega, hgo⟩, by simp only; omega, ?_⟩
      try simp only [TrimX, QE, Nat.reduceLT, reduceIte, Nat.reduceEqDiff, Nat.reduceAdd, Nat.reduceLeDiff, Nat.reduceMul, Nat.reduceBEq, QXGTrPE, hw, ints]
      try simp [okBlk]
    ·have hbn' : b < 0 := by simpa using hbn
     rw [if_pos (.inl hbn')] at hgo
     (repeat (first | simp only [↓QA, QB, Nat.reduceLT, reduceIte, Nat.reduceEqDiff, Nat.reduceAdd, Nat.reduceLeDiff, Nat.reduceMul, Nat.reduceBEq, QXGTrPE, hbn, hw] | refine rd0 rfl ?_))
     refine ⟨(k + 1, (x : Int)), ⟨by simp only; omega, by simp only; omega, hgo⟩, by simp only; omega, ?_⟩
     try simp only [TrimX, QE, Nat.reduceLT, reduceIte, Nat.reduceEqDiff, Nat.reduceAdd, Nat.reduceLeDiff, Nat.reduceMul, Nat.reduceBEq, QXGTrPE, hw, ints]
     try simp [okBlk]
   ·have hk1 : k = M.length := by simp at h2; omega
    rw [hk1, List.drop_length, firstGo] at hgo
    subst hgo
    cases q : decide (b < 0)
    ·have q' : ¬ b < 0 := by simpa using q
     rw [if_neg q']
     (repeat (first | simp only [↓QA, QB, Nat.reduceLT, reduceIte, Nat.reduceEqDiff, Nat.reduceAdd, Nat.reduceLeDiff, Nat.reduceMul, Nat.reduceBEq, QXGTrPE, q, encIE] | refine rd0 rfl ?_))
     try try simp only [QS, QC, Nat.reduceLT, reduceIte, Nat.reduceEqDiff, Nat.reduceAdd, Nat.reduceLeDiff, Nat.reduceMul, Nat.reduceBEq, QXGTrPE]
    ·have q' : b < 0 := by simpa using q
     rw [if_pos q']
     (repeat (first | simp only [↓QA, QB, Nat.reduceLT, reduceIte, Nat.reduceEqDiff, Nat.reduceAdd, Nat.reduceLeDiff, Nat.reduceMul, Nat.reduceBEq, QXGTrPE, q, encIE] | refine rd0 rfl ?_))
     try try simp only [QS, QC, Nat.reduceLT, reduceIte, Nat.reduceEqDiff, Nat.reduceAdd, Nat.reduceLeDiff, Nat.reduceMul, Nat.reduceBEq, QXGTrPE]
 ·have h0' : (netErr v == 0) = false := by simpa using h0
  have hm : firstOf v = (0, netErr v) := by rw [firstOf, if_neg h0]
  rw [if_neg h0, if_neg h0, hm]
  (repeat (first | simp only [↓QA, QB, Nat.reduceLT, reduceIte, Nat.reduceEqDiff, Nat.reduceAdd, Nat.reduceLeDiff, Nat.reduceMul, Nat.reduceBEq, QXGTrPE, h0', encIE] | refine rd0 rfl ?_))
  try rfl
end Go.Am.Room
set_option maxRecDepth 8000
namespace Go.Am.Room
def QXGTrPF := And.intro @encNet_eq (And.intro @netCells_eq (And.intro @encRail_eq (And.intro @encTram_eq (And.intro @encSeen_eq (And.intro @encSpan_eq (And.intro @S_mapRail (And.intro @S_mapTram (And.intro @S_mapSeen (And.intro @T_sapp (And.intro @T_sapp0 (And.intro @Nat.not_lt_zero (And.intro @List.length_append.{0} (And.intro @Nat.zero_add (And.intro @Nat.mul_one (And.intro @Int.toNat_natCast (And.intro @Nat.add_lt_add_iff_left (And.intro @Nat.lt_add_right_iff_pos (And.intro @arrA_len (And.intro @arrA_take (And.intro @arrA_drop (And.intro @S_arrA (@arrA_cell))))))))))))))))))))))
theorem enter_yes (σ : St) (v : Net) (ns : List Int) (hns : ns = [] ∨ ∃ t, ns = [t, (v.trams.length : Int)]) (hf : Fits v) (h : entE v ns = 0) : Does T (.func 79 [] []) [encNet v, .lit (ns.map (.int .i64)) true none] σ (.tuple [.ptr (σ.length + 3) 0, .int .i64 0]) (entS σ v (memo0 v)) := by
 have := enter_run σ v ns hns hf
 rwa [enterV, if_pos h, enterSt, if_pos h] at this
theorem enter_no (σ : St) (v : Net) (ns : List Int) (hns : ns = [] ∨ ∃ t, ns = [t, (v.trams.length : Int)]) (hf : Fits v) (h : entE v ns ≠ 0) : Does T (.func 79 [] []) [encNet v, .lit (ns.map (.int .i64)) true none] σ (.tuple [.nilPtr, .int .i64 (entE v ns)]) σ := by
 have := enter_run σ v ns hns hf
 rwa [enterV, if_neg h, enterSt, if_neg h] at this
abbrev Com := Span × Bool × Bool
def cU (x : Com) : St := [.cells [.bool x.2.1], .cells [.bool x.2.2]]
theorem cU_ok (N : Nat) (x : Com) (y : ABlk) (hy : y ∈ cU x) (k : Nat) (hk : N ≤ k) : okBlk k y := by
 simp only [cU, List.mem_cons, List.not_mem_nil, or_false] at hy
 rcases hy with rfl | rfl <;> simp [okBlk, okVs, okV]
def cS (v : Net) (t : Nat) (x : Com) (A : List K5) : St := entS [.cells (netCells v), .cells [.int .i64 t], .cells [.int .i64 x.1.lo, .int .i64 x.1.hi]] v A
theorem cS_at (v : Net) (t : Nat) (x : Com) : MemAt (cS v t x) (db v 0 5) (tEs v) 6 5 7 := net_at [.cells (netCells v), .cells [.int .i64 t], .cells [.int .i64 x.1.lo, .int .i64 x.1.hi]] v
theorem cS_keep (v : Net) (t : Nat) (x : Com) (A : List K5) (y : Com) (B : List K5) (k i : Nat) (hk : 7 ≤ k) (hi : i < 7) : blkKept (cS v t x A) (cS v t y B) k i := by
 match i, hi with
 | 0, _ => exact .inl rfl
 | 1, _ => exact .inl rfl
 | 2, _ => exact .inr (.inl ⟨_, rfl, by simp [okBlk, okVs, okV]⟩)
 | 3, _ => exact .inl rfl
 | 4, _ => exact .inl rfl
 | 5, _ => exact .inr (.inl ⟨_, rfl, tEs_ok v B k⟩)
 | 6, _ => exact .inl rfl
def comY (v : Net) (t : Nat) (c : List Int) (x : Com) : Com × Bool := (comF (comeAt (comesP v c) (t : Int)) x, true)
theorem pcomes_ok (v : Net) (hf : Fits v) (n : Int) : Pure T 23 [encNet v, .int .i64 n] (encSIE (comesR v n)) := by
 refine pure_fn (af := a23) rfl (by simp [a23]) dd ?_
 (repeat (first | simp only [↓QA, QB, Nat.reduceLT, reduceIte, Nat.reduceEqDiff, Nat.reduceAdd, Nat.reduceLeDiff, Nat.reduceMul, Nat.reduceBEq, QXGTrPF, a23] | refine rd0 rfl ?_))
 by_cases h0 : tramAsk v n = 0
 ·have hck : (check v).2.2 = 0 ∧ inR n 0 ((v.trams.length : Int) - 1) = true ∧ truths v [] ≠ [] := by
   have h1 := h0
   by_cases q : (check v).2.2 = 0
   ·cases q2 : inR n 0 ((v.trams.length : Int) - 1)
    ·simp [tramAsk, errKnown, q, q2] at h1
    ·refine ⟨q, rfl, fun e => ?_⟩
     simp [tramAsk, errKnown, q, q2, e] at h1
   ·simp [tramAsk, errKnown, q] at h1
  obtain ⟨hc0, hin, hne⟩ := hck
  have hv := vd_of_check hc0
  have hnt := hv.ntr
  rw [inR_iff] at hin
  obtain ⟨t, rfl⟩ : ∃ t : Nat, n = t := ⟨n.toNat, by omega⟩
  have htl : t < v.trams.length := by omega
  have hmem := comesS_mem (ats_mem hv [] t)
  have hTne : atsP v (TL v []) t ≠ [] := by
   intro e
   have : TL v [] = [] := by simpa [atsP] using e
   have h2 := TL_some hv []
   rw [this] at h2
   simp at h2
   exact hne h2
  have hst := com_settled hTne
  have hca := com_all (atsP v (TL v []) t)
  have hgo := iterF_go (f := comY v t) (fun _ _ => rfl) (TL v []) (⟨0, 0⟩, false, false)
  have hfd : (TL v []).foldl (fun x c => (comY v t c x).1) (⟨0, 0⟩, false, false) = (atsP v (TL v []) t).foldl (fun x a => comF a x) (⟨0, 0⟩, false, false) := by
   rw [atsP, List.foldl_map]; rfl
  rw [hfd, hca] at hgo
  have hm : comesR v t = ((comesS (atsP v (TL v []) t)).1, (comesS (atsP v (TL v []) t)).2, 0) := by rw [comesR, if_pos h0, Int.toNat_natCast, hmem]
  obtain ⟨AT, hAT⟩ : ∃ AT, atsP v (TL v []) t = AT := ⟨_, rfl⟩
  rw [hAT] at hm hgo hst
  have hcs : comesS AT = (spanL (runsIn AT), settled (runsIn AT).length AT.length) := rfl
  rw [hcs, hst] at hm
  obtain ⟨SP, hSP⟩ : ∃ SP, spanL (runsIn AT) = SP := ⟨_, rfl⟩
  obtain ⟨EM, hEM⟩ : ∃ EM, (runsIn AT).isEmpty = EM := ⟨_, rfl⟩
  obtain ⟨SY, hSY⟩ : ∃ SY, AT.contains (-1) = SY := ⟨_, rfl⟩
  rw [hSP, hEM, hSY] at hgo
  rw [hSP, hEM, hSY] at hm
  rw [hm]
  have her := fun σ => enter_yes σ v [(t : Int), (v.trams.length : Int)] (.inr ⟨_, rfl⟩) hf h0
  simp only [List.map_nil, List.map_cons] at her
  have hrng := truths_rangeX (S := cS v t) (cS_at v t) (cS_keep v t) (by decide) hv but0 cU cU 2 (fun _ => rfl) (fun _ => rfl) (cU_ok _) (cU_ok _) .ret (f := comY v t)
  simp only [cS, entS] at hrng her
  simp only [netCells_eq] at hrng her
  refine callK_do (her _) ?_
  (repeat (first | simp only [↓QA, QB, Nat.reduceLT, reduceIte, Nat.reduceEqDiff, Nat.reduceAdd, Nat.reduceLeDiff, Nat.reduceMul, Nat.reduceBEq, QXGTrPF, show ((0 : Int) == 0) = true from rfl] | refine rd0 rfl ?_))
  refine callK_in rfl (by simp [a80]) ?_
  (repeat (first | simp only [↓QA, QB, Nat.reduceLT, reduceIte, Nat.reduceEqDiff, Nat.reduceAdd, Nat.reduceLeDiff, Nat.reduceMul, Nat.reduceBEq, QXGTrPF, a80] | refine rd0 rfl ?_))
  refine hrng _ 28 [29, 30] _ _ ?_ ?_ (⟨0, 0⟩, false, false) (memo0 v) _ ?_ ?_
  ·try simp only [TrimX, QE, Nat.reduceLT, reduceIte, Nat.reduceEqDiff, Nat.reduceAdd, Nat.reduceLeDiff, Nat.reduceMul, Nat.reduceBEq, QXGTrPF]
  ·refine yields_ofX1 (cS_at v t) cU cU 2 (fun _ => rfl) (fun _ => rfl) .ret _ _ (tArgs v) (fun _ _ _ => rfl) _ _ ?_
   intro c _ fl tk x B τ
   have i3 : (0 : Int) ≤ (t : Int) ∧ (t : Int) < ((3 : Nat) : Int) := ⟨by omega, by omega⟩
   have hg := arrA_get 3 (comeF (comesP v c)) (i := t) (by omega)
   have hcf : comeF (comesP v c) t = comeAt (comesP v c) (t : Int) := rfl
   rw [hcf] at hg
   have hta : ∀ (b0 b1 b2 b3 b4 b5 b6 b7 b8 b9 b10 : ABlk), cellsAt (b0 :: b1 :: b2 :: b3 :: b4 :: b5 :: b6 :: b7 :: b8 :: b9 :: b10 :: (τ ++ [.cells (arrA 3 (comeF (comesP v c)))])) (τ.length + 1 + 1 + 1 + 1 + 1 + 1 + 1 + 1 + 1 + 1 + 1) = some (arrA 3 (comeF (comesP v c))) := fun b0 b1 b2 b3 b4 b5 b6 b7 b8 b9 b10 => by
    simp only [M_atS]
    rw [M_base0]; rfl
   obtain ⟨C, hC⟩ : ∃ C, comeAt (comesP v c) (t : Int) = C := ⟨_, rfl⟩
   have hcy : comY v t c x = (if C = -1 then (x.1, x.2.1, true) else if x.2.1 = false then (⟨C, C⟩, true, x.2.2) else (join x.1 C, true, x.2.2), true) := by rw [comY, hC]; rfl
   rw [hC] at hg
   rw [hcy]
   obtain ⟨⟨lo, hi⟩, ru, sy⟩ := x
   simp only [bindPs, tArgs, cS, entS, cU, netCells_eq]
   (repeat (first | simp only [↓QA, QB, Nat.reduceLT, reduceIte, Nat.reduceEqDiff, Nat.reduceAdd, Nat.reduceLeDiff, Nat.reduceMul, Nat.reduceBEq, QXGTrPF] | refine rd0 rfl ?_))
   refine ⟨[.cells (arrA 3 (comeF (comesP v c)))], by simp, ?_⟩
   cases q1 : (C == -1)
   ·have q1' : C ≠ -1 := by simpa using q1
    rw [if_neg q1']
    cases ru
    ·(repeat (first | simp only [↓QA, QB, Nat.reduceLT, reduceIte, Nat.reduceEqDiff, Nat.reduceAdd, Nat.reduceLeDiff, Nat.reduceMul, Nat.reduceBEq, QXGTrPF, F23_0, hta, i3, hg, q1] | refine rd0 rfl ?_))
     exact .inl ⟨[.cells (arrA 3 (comeF (comesP v c)))], by simp⟩
    ·(repeat (first | simp only [↓QA, QB, Nat.reduceLT, reduceIte, Nat.reduceEqDiff, Nat.reduceAdd, Nat.reduceLeDiff, Nat.reduceMul, Nat.reduceBEq, QXGTrPF, F23_0, hta, i3, hg, q1] | refine rd0 rfl ?_))
     exact .inl ⟨[.cells (arrA 3 (comeF (comesP v c)))], by simp [join]⟩
   ·have q1' : C = -1 := by simpa using q1
    rw [if_pos q1']
    (repeat (first | simp only [↓QA, QB, Nat.reduceLT, reduceIte, Nat.reduceEqDiff, Nat.reduceAdd, Nat.reduceLeDiff, Nat.reduceMul, Nat.reduceBEq, QXGTrPF, F23_0, hta, i3, hg, q1] | refine rd0 rfl ?_))
    exact .inl ⟨[.cells (arrA 3 (comeF (comesP v c)))], by simp⟩
  ·intro τ h2
   rw [hgo]
   simp only [cU, cS, entS, netCells_eq]
   cases SY
   ·(repeat (first | simp only [↓QA, QB, Nat.reduceLT, reduceIte, Nat.reduceEqDiff, Nat.reduceAdd, Nat.reduceLeDiff, Nat.reduceMul, Nat.reduceBEq, QXGTrPF, encSIE] | refine rd0 rfl ?_))
    try try simp only [QS, QC, Nat.reduceLT, reduceIte, Nat.reduceEqDiff, Nat.reduceAdd, Nat.reduceLeDiff, Nat.reduceMul, Nat.reduceBEq, QXGTrPF]
   ·cases EM
    ·(repeat (first | simp only [↓QA, QB, Nat.reduceLT, reduceIte, Nat.reduceEqDiff, Nat.reduceAdd, Nat.reduceLeDiff, Nat.reduceMul, Nat.reduceBEq, QXGTrPF, encSIE, Bool.true_eq_false, Bool.false_eq_true] | refine rd0 rfl ?_))
     try try simp only [QS, QC, Nat.reduceLT, reduceIte, Nat.reduceEqDiff, Nat.reduceAdd, Nat.reduceLeDiff, Nat.reduceMul, Nat.reduceBEq, QXGTrPF]
    ·(repeat (first | simp only [↓QA, QB, Nat.reduceLT, reduceIte, Nat.reduceEqDiff, Nat.reduceAdd, Nat.reduceLeDiff, Nat.reduceMul, Nat.reduceBEq, QXGTrPF, encSIE, Bool.true_eq_false, Bool.false_eq_true] | refine rd0 rfl ?_))
     try try simp only [QS, QC, Nat.reduceLT, reduceIte, Nat.reduceEqDiff, Nat.reduceAdd, Nat.reduceLeDiff, Nat.reduceMul, Nat.reduceBEq, QXGTrPF]
  ·intro τ h2
   rw [hgo] at h2
   cases h2
 ·have h0' : (tramAsk v n == 0) = false := by simpa using h0
  have hm : comesR v n = (⟨0, 0⟩, 0, tramAsk v n) := by rw [comesR, if_neg h0]
  have her := fun σ => enter_no σ v [n, (v.trams.length : Int)] (.inr ⟨n, rfl⟩) hf h0
  simp only [List.map_nil, List.map_cons, entE_two] at her
  rw [hm]
  refine callK_do (her _) ?_
  (repeat (first | simp only [↓QA, QB, Nat.reduceLT, reduceIte, Nat.reduceEqDiff, Nat.reduceAdd, Nat.reduceLeDiff, Nat.reduceMul, Nat.reduceBEq, QXGTrPF, h0', encSIE] | refine rd0 rfl ?_))
  try rfl
end Go.Am.Room
set_option maxRecDepth 8000
namespace Go.Am.Room
def QXGTrPT := And.intro @encNet_eq (And.intro @netCells_eq (And.intro @encRail_eq (And.intro @encTram_eq (And.intro @encSeen_eq (And.intro @encSpan_eq (And.intro @S_mapRail (And.intro @S_mapTram (And.intro @S_mapSeen (And.intro @T_sapp (And.intro @T_sapp0 (And.intro @Nat.not_lt_zero (And.intro @List.length_append.{0} (And.intro @Nat.zero_add (And.intro @Nat.mul_one (And.intro @Int.toNat_natCast (And.intro @arrA_len (And.intro @arrA_take (And.intro @arrA_drop (And.intro @S_arrA (And.intro @arrA_cell (And.intro @db_0 (And.intro @db_1 (And.intro @db_2 (And.intro @db_3 (And.intro @db_4 (And.intro @db_5 (And.intro @Nat.add_lt_add_iff_left (@Nat.lt_add_right_iff_pos))))))))))))))))))))))))))))
theorem intime_same2 (v : Net) (b m p : Nat) (σ : St) (hσ : cellsAt σ p = some (db v b m)) (t : Nat) (ht : t < v.trams.length) (c : Int) : Same T (.func 111 [] []) [.ptr p 0, .int .i64 t, .int .i64 c] σ (.bool (inTime v t c)) := by
 refine same_fn (af := a111) rfl (by simp [a111]) ?_
 have hit := inTime_at (v := v) (t := t) (z := v.trams[t]) (by simp [ht]) c
 obtain ⟨z, hz⟩ : ∃ z, v.trams[t] = z := ⟨_, rfl⟩
 rw [hz] at hit
 have e : decide (c = -1) = (c == -1) := by rw [Bool.eq_iff_iff]; simp
 rw [e] at hit
 rw [hit]
 cases h : (c == -1)
 ·(repeat (first | simp only [↓QA, QB, Nat.reduceLT, reduceIte, Nat.reduceEqDiff, Nat.reduceAdd, Nat.reduceLeDiff, Nat.reduceMul, Nat.reduceBEq, QXGTrPT, a111, h, hσ, ht, hz] | refine rd0 rfl ?_))
  refine baseR [] (by first | rfl | simp) ?_
  try simp only [QS, QC, Nat.reduceLT, reduceIte, Nat.reduceEqDiff, Nat.reduceAdd, Nat.reduceLeDiff, Nat.reduceMul, Nat.reduceBEq, QXGTrPT]
 ·(repeat (first | simp only [↓QA, QB, Nat.reduceLT, reduceIte, Nat.reduceEqDiff, Nat.reduceAdd, Nat.reduceLeDiff, Nat.reduceMul, Nat.reduceBEq, QXGTrPT, a111, h] | refine rd0 rfl ?_))
  refine baseR [] (by first | rfl | simp) ?_
  try simp only [QS, QC, Nat.reduceLT, reduceIte, Nat.reduceEqDiff, Nat.reduceAdd, Nat.reduceLeDiff, Nat.reduceMul, Nat.reduceBEq, QXGTrPT, Bool.false_and]
theorem equal_ok (a b : List Int) (ha : a.length < 9223372036854775808) (hb : b.length < 9223372036854775808) : Pure T 88 [ints a, ints b] (.bool (decide (a = b))) := by
 refine pure_fn (af := a88) rfl (by simp [a88]) dd ?_
 by_cases h : a.length = b.length
 ·have g : ((a.length : Int) == (b.length : Int)) = true := by simp; omega
  (repeat (first | simp only [↓QA, QB, Nat.reduceLT, reduceIte, Nat.reduceEqDiff, Nat.reduceAdd, Nat.reduceLeDiff, Nat.reduceMul, Nat.reduceBEq, QXGTrPT, a88, g] | refine rd0 rfl ?_))
  refine loopE (S := Nat) 0 (fun k => k ≤ a.length ∧ a.take k = b.take k) (fun k => a.length - k) (fun k => [(0, ints a), (1, ints b), (12, .int .i64 a.length), (13, .int .i64 k)]) (fun _ => []) ⟨Nat.zero_le _, by simp⟩ rfl ?_ fun k hk => ?_
  ·try simp only [TrimX, QE, Nat.reduceLT, reduceIte, Nat.reduceEqDiff, Nat.reduceAdd, Nat.reduceLeDiff, Nat.reduceMul, Nat.reduceBEq, QXGTrPT, ints]
   try simp
  ·obtain ⟨hk, hq⟩ := hk
   (repeat (first | simp only [↓QA, QB, Nat.reduceLT, reduceIte, Nat.reduceEqDiff, Nat.reduceAdd, Nat.reduceLeDiff, Nat.reduceMul, Nat.reduceBEq, QXGTrPT, L88_0] | refine rd0 rfl ?_))
   refine iteP_intro (fun hd => ?_) fun hd => ?_
   ·have hk1 : k < a.length := by simpa using hd
    have hk2 : k < b.length := by omega
    have hw := wrapN hk1 ha
    obtain ⟨x, hx⟩ : ∃ x, a[k] = x := ⟨_, rfl⟩
    obtain ⟨y, hy⟩ : ∃ y, b[k] = y := ⟨_, rfl⟩
    cases q : (x == y)
    ·have q' : x ≠ y := by simpa using q
     have hne : decide (a = b) = false := by
      simp only [decide_eq_false_iff_not]
      rintro rfl
      exact q' (hx.symm.trans hy)
     rw [hne]
     (repeat (first | simp only [↓QA, QB, Nat.reduceLT, reduceIte, Nat.reduceEqDiff, Nat.reduceAdd, Nat.reduceLeDiff, Nat.reduceMul, Nat.reduceBEq, QXGTrPT, hk1, hk2, hx, hy, q] | refine rd0 rfl ?_))
    ·have q' : x = y := by simpa using q
     (repeat (first | simp only [↓QA, QB, Nat.reduceLT, reduceIte, Nat.reduceEqDiff, Nat.reduceAdd, Nat.reduceLeDiff, Nat.reduceMul, Nat.reduceBEq, QXGTrPT, hk1, hk2, hx, hy, q] | refine rd0 rfl ?_))
     refine ⟨k + 1, ⟨by omega, by rw [List.take_succ_eq_append_getElem hk1, List.take_succ_eq_append_getElem hk2, hq, hx, hy, q']⟩, by omega, ?_⟩
     try simp only [TrimX, QE, Nat.reduceLT, reduceIte, Nat.reduceEqDiff, Nat.reduceAdd, Nat.reduceLeDiff, Nat.reduceMul, Nat.reduceBEq, QXGTrPT, hw, ints]
     try simp [okBlk]
   ·have hk1 : k = a.length := by
     have : ¬ k < a.length := by simpa using hd
     omega
    rw [hk1, List.take_length, h, List.take_length] at hq
    have he : decide (a = b) = true := by simpa using hq
    rw [he]
    (repeat (first | simp only [↓QA, QB, Nat.reduceLT, reduceIte, Nat.reduceEqDiff, Nat.reduceAdd, Nat.reduceLeDiff, Nat.reduceMul, Nat.reduceBEq, QXGTrPT] | refine rd0 rfl ?_))
 ·have g : ((a.length : Int) == (b.length : Int)) = false := by simp; omega
  have hne : decide (a = b) = false := by
   simp only [decide_eq_false_iff_not]
   rintro rfl
   exact h rfl
  rw [hne]
  (repeat (first | simp only [↓QA, QB, Nat.reduceLT, reduceIte, Nat.reduceEqDiff, Nat.reduceAdd, Nat.reduceLeDiff, Nat.reduceMul, Nat.reduceBEq, QXGTrPT, a88, g] | refine rd0 rfl ?_))
def slotAV : Option (List Int) → AV
 | none => .lit [] true none
 | some l => ints l
theorem slots_some (P : List (List Int)) : (P.map some).map slotAV = P.map ints := by simp [slotAV]
theorem path_same (ps : List (List Int)) (pl n k : Nat) (hn : n = ps.length) (σ : St) (h1 : cellsAt σ k = some [.ref pl 0 n 1]) (h2 : cellsAt σ pl = some (ps.map ints)) (i : Nat) (hi : i < ps.length) : Same T (.func 112 [] [.ptr k 0]) [.int .i64 i] σ (ints (pathAt ps i)) := by
 refine same_fn (af := a112) rfl (by simp [a112]) ?_
 rw [path_at hi]
 obtain ⟨w, hw⟩ : ∃ w, ps[i] = w := ⟨_, rfl⟩
 have i1 : (0 : Int) ≤ (i : Int) ∧ (i : Int) < (n : Int) ∧ 1 = 1 := ⟨by omega, by omega, rfl⟩
 rw [hw]
 (repeat (first | simp only [↓QA, QB, Nat.reduceLT, reduceIte, Nat.reduceEqDiff, Nat.reduceAdd, Nat.reduceLeDiff, Nat.reduceMul, Nat.reduceBEq, QXGTrPT, a112, h1, h2, i1, hi, hw] | refine rd0 rfl ?_))
 refine baseR [] (by first | rfl | simp) ?_
 try simp only [QS, QC, Nat.reduceLT, reduceIte, Nat.reduceEqDiff, Nat.reduceAdd, Nat.reduceLeDiff, Nat.reduceMul, Nat.reduceBEq, QXGTrPT]
end Go.Am.Room
set_option maxRecDepth 8000
namespace Go.Am.Room
def QXGTrPG := And.intro @encNet_eq (And.intro @netCells_eq (And.intro @encRail_eq (And.intro @encTram_eq (And.intro @encSeen_eq (And.intro @encSpan_eq (And.intro @S_mapRail (And.intro @S_mapTram (And.intro @S_mapSeen (And.intro @T_sapp (And.intro @T_sapp0 (And.intro @Nat.not_lt_zero (And.intro @List.length_append.{0} (And.intro @Nat.zero_add (And.intro @Nat.mul_one (And.intro @Int.toNat_natCast (And.intro @arrA_len (And.intro @arrA_take (And.intro @arrA_drop (And.intro @S_arrA (And.intro @arrA_cell (And.intro @db_0 (And.intro @db_1 (And.intro @db_2 (And.intro @db_3 (And.intro @db_4 (And.intro @db_5 (And.intro @Nat.add_lt_add_iff_left (And.intro @Nat.lt_add_right_iff_pos (And.intro @C_yield (@K_yield))))))))))))))))))))))))))))))
def finY (v : Net) (ps : List (List Int)) (c : List Int) (x : Unit) : Unit × Bool := (x, fineP v ps c)
theorem fin_iter (v : Net) (ps : List (List Int)) : ∀ l : List (List Int), (iterF (finY v ps) l ()).2 = l.all (fineP v ps)
 | [] => rfl
 | c :: l => by
  have ih := fin_iter v ps l
  rw [List.all_cons]
  by_cases h : fineP v ps c = true
  ·have : iterF (finY v ps) (c :: l) () = iterF (finY v ps) l () := by simp only [iterF, finY]; exact if_pos h
   rw [this, h, Bool.true_and, ih]
  ·have : iterF (finY v ps) (c :: l) () = ((), false) := by simp only [iterF, finY]; exact if_neg h
   rw [this]
   rw [Bool.not_eq_true] at h
   rw [h]; rfl
def doesMemo (v : Net) (ps : List (List Int)) (A : List K5) : List K5 := (allStates v [] (finY v ps) () A).1.2
def doU (p pl n : Nat) (_ : Unit) : St := [.cells [.ptr p 0], .cells [.ref pl 0 n 1], .cells [.bool false]]
theorem does_body {S : List K5 → St} {v : Net} {b p m N : Nat} (hR : MemAt S (db v b m) (tEs v) p m N) (hv : Vd v) (ps : List (List Int)) (hps : RunOk v ps) (pl : Nat) (hpl : ∀ A, cellsAt (S A) pl = some (ps.map ints)) (hplN : pl < N) (c : List Int) (hcl : c.length = v.rails.length) (hcm : MinsOk v (rlI c)) (B : List K5) (lp : ABlk) (τ : St) (e : Env)
  (e2 : Env.get e 2 = .ptr N 0) (e3 : Env.get e 3 = .ptr (N + 1) 0) (e4 : Env.get e 4 = .ptr (N + 2) 0) (e5 : Env.get e 5 = .ptr (N + (τ.length + 1 + 1 + 1 + 1 + 1)) 0) :
  wp T F87_1 e (S B ++ (doU p pl v.trams.length () ++ (.cells [.ptr p 0] :: lp :: (τ ++ [.cells (arrA 5 (rl c))])))) (fun j e'' σ'' => (fineTo v (comesBy v ps (rlI c)) v.trams.length = true ∧ j = none ∧ ∃ τ', σ'' = S B ++ (doU p pl v.trams.length () ++ (.cells [.ptr p 0] :: lp :: (τ ++ τ')))) ∨
   (fineTo v (comesBy v ps (rlI c)) v.trams.length = false ∧ j = some .ret ∧ ∃ τ', σ'' = S B ++ (doU p pl v.trams.length () ++ (.cells [.ptr p 0] :: lp :: (τ ++ τ'))))) := by
 have hnt := hv.ntr
 have hpN := hR.pl
 have hlen := hps.len
 have hta : ∀ (b0 b1 b2 b3 b4 : ABlk) (cs : List AV) (τ2 : St), cellsAt (S B ++ (b0 :: b1 :: b2 :: b3 :: b4 :: (τ ++ (.cells cs :: τ2)))) (N + (τ.length + 1 + 1 + 1 + 1 + 1)) = some cs := fun b0 b1 b2 b3 b4 cs τ2 => by
  rw [hR.base]
  simp only [M_atS]
  rw [M_base0]; rfl
 have htb : ∀ (b0 b1 b2 b3 b4 b5 : ABlk) (cs : List AV) (τ2 : St), cellsAt (S B ++ (b0 :: b1 :: b2 :: b3 :: b4 :: (τ ++ (b5 :: .cells cs :: τ2)))) (N + (τ.length + 1 + 1 + 1 + 1 + 1 + 1)) = some cs := fun b0 b1 b2 b3 b4 b5 cs τ2 => by
  rw [hR.base]
  simp only [M_atS]
  have : τ ++ (b5 :: .cells cs :: τ2) = (τ ++ [b5]) ++ (.cells cs :: τ2) := by simp
  rw [this, show τ.length + 1 = (τ ++ [b5]).length by simp, M_base0]; rfl
 have hrun : ∀ (σ : St) (k : Nat), cellsAt σ p = some (db v b m) → cellsAt σ pl = some (ps.map ints) → cellsAt σ k = some [.ref pl 0 v.trams.length 1] → Same T (.func 109 [] []) [.ptr p 0, .agg (arrA 5 (rl c)), .func 112 [] [.ptr k 0]] σ (.agg (arrA 3 (comeF (comesBy v ps (rlI c))))) := fun σ k h1 h2 h3 => by
  have hkl := cells_lt h3
  exact run_same v hv b m p σ h1 (cells_lt h1) _ (fun τ n hn => by
   try simp only [QS, QC, Nat.reduceLT, reduceIte, Nat.reduceEqDiff, Nat.reduceAdd, Nat.reduceLeDiff, Nat.reduceMul, Nat.reduceBEq, QXGTrPG, hR.len, hR.base, hR.base0, hR.bset, hR.bset0, hR.at1, hR.at0, S_func]
   simp [show k < n by omega]) ps hps (fun i hi τ => path_same ps pl v.trams.length k hlen.symm _ (cells_app h3 τ) (cells_app h2 τ) i (by omega)) (rl c) (rlI c) (rlI_rl c) hcm
 have hcc : (comesBy v ps (rlI c)).length = v.trams.length := run_len _ _ _ _
 obtain ⟨CS, hCS⟩ : ∃ CS, comesBy v ps (rlI c) = CS := ⟨_, rfl⟩
 simp only [hCS] at hrun
 rw [hCS] at hcc
 rw [hCS]
 have hplS : ∀ τ, cellsAt (S B ++ τ) pl = some (ps.map ints) := fun τ => cells_app (hpl B) τ
 have hk3 : ∀ (b0 b2 b3 b4 : ABlk) (cs : List AV) (τ2 : St), cellsAt (S B ++ (b0 :: .cells cs :: b2 :: τ2)) (N + 1) = some cs := fun b0 b2 b3 b4 cs τ2 => by rw [hR.base]; rfl
 simp only [doU]
 (repeat (first | simp only [↓QA, QB, Nat.reduceLT, reduceIte, Nat.reduceEqDiff, Nat.reduceAdd, Nat.reduceLeDiff, Nat.reduceMul, Nat.reduceBEq, QXGTrPG, hR.len, hR.base, hR.base0, hR.bset, hR.bset0, hR.at1, hR.at0, F87_1, hta, e2, e3, e4, e5] | refine rd0 rfl ?_))
 refine callK_same (hrun _ (N + 1) (hR.at1 _ _) (hplS _) (by rw [hR.base]; rfl)) ?_
 (repeat (first | simp only [↓QA, QB, Nat.reduceLT, reduceIte, Nat.reduceEqDiff, Nat.reduceAdd, Nat.reduceLeDiff, Nat.reduceMul, Nat.reduceBEq, QXGTrPG, hR.len, hR.base, hR.base0, hR.bset, hR.bset0, hR.at1, hR.at0, hta, htb, e2, e3, e4, e5] | refine rd0 rfl ?_))
 refine loopE (S := Nat) 0 (fun k => k ≤ v.trams.length ∧ fineTo v CS k = true) (fun k => v.trams.length - k)
  (fun k => [(2, .ptr N 0), (4, .ptr (N + 2) 0), (6, .ptr (N + (τ.length + 1 + 1 + 1 + 1 + 1 + 1)) 0), (21, .int .i64 v.trams.length), (22, .int .i64 k)])
  (fun k => S B ++ (.cells [.ptr p 0] :: .cells [.ref pl 0 v.trams.length 1] :: .cells [.bool false] :: .cells [.ptr p 0] :: lp :: (τ ++ [.cells (arrA 5 (rl c)), .cells (arrA 3 (comeF CS))]))) ⟨Nat.zero_le _, rfl⟩ rfl ?_ fun k hk => ?_
 ·try simp only [TrimX, QE, Nat.reduceLT, reduceIte, Nat.reduceEqDiff, Nat.reduceAdd, Nat.reduceLeDiff, Nat.reduceMul, Nat.reduceBEq, QXGTrPG, hR.len, hR.base, hR.base0, hR.bset, hR.bset0, hR.at1, hR.at0, e2, e4]
  try simp
 ·obtain ⟨hk, hf⟩ := hk
  (repeat (first | simp only [↓QA, QB, Nat.reduceLT, reduceIte, Nat.reduceEqDiff, Nat.reduceAdd, Nat.reduceLeDiff, Nat.reduceMul, Nat.reduceBEq, QXGTrPG, hR.len, hR.base, hR.base0, hR.bset, hR.bset0, hR.at1, hR.at0, L87_2] | refine rd0 rfl ?_))
  refine iteP_intro (fun hd => ?_) fun hd => ?_
  ·have hk1 : k < v.trams.length := by simpa using hd
   have hw := wrapN hk1 (by omega)
   have hsu := fineTo_succ v CS k
   rw [hf, Bool.true_and] at hsu
   have i3 : (0 : Int) ≤ (k : Int) ∧ (k : Int) < ((3 : Nat) : Int) := ⟨by omega, by omega⟩
   have hg := arrA_get 3 (comeF CS) (i := k) (by omega)
   have hin := fun σ (hσ : cellsAt σ p = some (db v b m)) => intime_same2 v b m p σ hσ k hk1 (comeF CS k)
   have hfe : inTime v k (comeF CS k) = inTime v k (comeAt CS (k : Int)) := rfl
   (repeat (first | simp only [↓QA, QB, Nat.reduceLT, reduceIte, Nat.reduceEqDiff, Nat.reduceAdd, Nat.reduceLeDiff, Nat.reduceMul, Nat.reduceBEq, QXGTrPG, hR.len, hR.base, hR.base0, hR.bset, hR.bset0, hR.at1, hR.at0, htb, i3, hg] | refine rd0 rfl ?_))
   refine callD_same (hin _ (hR.at1 _ _)) ?_
   rw [hfe]
   cases hq : inTime v k (comeAt CS (k : Int))
   ·rw [hq] at hsu
    have hff := fineTo_le hsu (show k + 1 ≤ v.trams.length by omega)
    rw [hff]
    (repeat (first | simp only [↓QA, QB, Nat.reduceLT, reduceIte, Nat.reduceEqDiff, Nat.reduceAdd, Nat.reduceLeDiff, Nat.reduceMul, Nat.reduceBEq, QXGTrPG, hR.len, hR.base, hR.base0, hR.bset, hR.bset0, hR.at1, hR.at0, htb, i3, hg] | refine rd0 rfl ?_))
    exact .inr ⟨[.cells (arrA 5 (rl c)), .cells (arrA 3 (comeF CS))], by simp⟩
   ·rw [hq] at hsu
    (repeat (first | simp only [↓QA, QB, Nat.reduceLT, reduceIte, Nat.reduceEqDiff, Nat.reduceAdd, Nat.reduceLeDiff, Nat.reduceMul, Nat.reduceBEq, QXGTrPG, hR.len, hR.base, hR.base0, hR.bset, hR.bset0, hR.at1, hR.at0, htb, i3, hg] | refine rd0 rfl ?_))
    refine ⟨k + 1, ⟨by omega, hsu⟩, by omega, ?_⟩
    try simp only [TrimX, QE, Nat.reduceLT, reduceIte, Nat.reduceEqDiff, Nat.reduceAdd, Nat.reduceLeDiff, Nat.reduceMul, Nat.reduceBEq, QXGTrPG, hR.len, hR.base, hR.base0, hR.bset, hR.bset0, hR.at1, hR.at0, hw, hR.eqS]
    try simp [okBlk, okVs, okV]
    try omega
  ·have hk1 : k = v.trams.length := by
    have : ¬ k < v.trams.length := by simpa using hd
    omega
   rw [hk1] at hf
   rw [hf]
   (repeat (first | simp only [↓QA, QB, Nat.reduceLT, reduceIte, Nat.reduceEqDiff, Nat.reduceAdd, Nat.reduceLeDiff, Nat.reduceMul, Nat.reduceBEq, QXGTrPG, hR.len, hR.base, hR.base0, hR.bset, hR.bset0, hR.at1, hR.at0] | refine rd0 rfl ?_))
   exact .inl ⟨[.cells (arrA 5 (rl c)), .cells (arrA 3 (comeF CS))], by simp⟩
theorem does_does {S : List K5 → St} {v : Net} {b p m N : Nat} (hR : MemAt S (db v b m) (tEs v) p m N) (hv : Vd v) (hb : ButIs b []) (ps : List (List Int)) (hps : RunOk v ps) (pl : Nat) (hpl : ∀ A, cellsAt (S A) pl = some (ps.map ints)) (hplN : pl < N) (A : List K5) :
  Does T (.func 87 [] []) [.ptr p 0, .ref pl 0 v.trams.length 1] (S A) (.bool (doesP v ps)) (S (doesMemo v ps A)) := by
 have hnt := hv.ntr
 have hpN := hR.pl
 have hlen := hps.len
 have hit := fin_iter v ps (TL v [])
 have hok : ∀ (x : Unit) (y : ABlk), y ∈ doU p pl v.trams.length x → ∀ k, N ≤ k → okBlk k y := by
  intro x y hy k hk
  simp only [doU, List.mem_cons, List.not_mem_nil, or_false] at hy
  rcases hy with rfl | rfl | rfl <;> simp [okBlk, okVs, okV] <;> omega
 refine does_memo hR (af := a87) rfl (by simp [a87]) ?_
 have hrg := truths_range hR hv hb (doU p pl v.trams.length) (doU p pl v.trams.length) 3 (fun _ => rfl) (fun _ => rfl) hok hok .ret (f := finY v ps)
 (repeat (first | simp only [↓QA, QB, Nat.reduceLT, reduceIte, Nat.reduceEqDiff, Nat.reduceAdd, Nat.reduceLeDiff, Nat.reduceMul, Nat.reduceBEq, QXGTrPG, hR.len, hR.base, hR.base0, hR.bset, hR.bset0, hR.at1, hR.at0, a87] | refine rd0 rfl ?_))
 refine callK_in rfl (by simp [a80]) ?_
 (repeat (first | simp only [↓QA, QB, Nat.reduceLT, reduceIte, Nat.reduceEqDiff, Nat.reduceAdd, Nat.reduceLeDiff, Nat.reduceMul, Nat.reduceBEq, QXGTrPG, hR.len, hR.base, hR.base0, hR.bset, hR.bset0, hR.at1, hR.at0, a80] | refine rd0 rfl ?_))
 refine hrg _ 9 [10, 11] _ _ ?_ ?_ () A _ ?_ ?_
 ·try simp only [TrimX, QE, Nat.reduceLT, reduceIte, Nat.reduceEqDiff, Nat.reduceAdd, Nat.reduceLeDiff, Nat.reduceMul, Nat.reduceBEq, QXGTrPG, hR.len, hR.base, hR.base0, hR.bset, hR.bset0, hR.at1, hR.at0]
 ·refine yields_ofX1 (S := fun _ => S) (fun _ => hR) (doU p pl v.trams.length) (doU p pl v.trams.length) 3 (fun _ => rfl) (fun _ => rfl) .ret _ _ (tArgs v) (fun _ _ _ => rfl) _ _ ?_
  intro c hc fl tk x B τ
  obtain ⟨hcl, hcm⟩ := hc.1
  simp only [bindPs, tArgs, doU]
  have hfin : finY v ps c x = ((), fineTo v (comesBy v ps (rlI c)) v.trams.length) := rfl
  rw [hfin]
  have db := fun lp e => does_body hR hv ps hps pl hpl hplN c hcl hcm B lp τ e
  simp only [doU] at db
  (repeat (first | simp only [↓QA, QB, Nat.reduceLT, reduceIte, Nat.reduceEqDiff, Nat.reduceAdd, Nat.reduceLeDiff, Nat.reduceMul, Nat.reduceBEq, QXGTrPG, hR.len, hR.base, hR.base0, hR.bset, hR.bset0, hR.at1, hR.at0] | refine rd0 rfl ?_))
  refine ⟨[.cells (arrA 5 (rl c))], by simp, ?_⟩
  refine db _ _ ?_ ?_ ?_ ?_
  all_goals try simp only [TrimX, QE, Nat.reduceLT, reduceIte, Nat.reduceEqDiff, Nat.reduceAdd, Nat.reduceLeDiff, Nat.reduceMul, Nat.reduceBEq, QXGTrPG, hR.len, hR.base, hR.base0, hR.bset, hR.bset0, hR.at1, hR.at0]
 ·intro τ h2
  rw [hit] at h2
  have h3 : doesP v ps = true := h2
  rw [h3]
  simp only [doU]
  (repeat (first | simp only [↓QA, QB, Nat.reduceLT, reduceIte, Nat.reduceEqDiff, Nat.reduceAdd, Nat.reduceLeDiff, Nat.reduceMul, Nat.reduceBEq, QXGTrPG, hR.len, hR.base, hR.base0, hR.bset, hR.bset0, hR.at1, hR.at0] | refine rd0 rfl ?_))
  refine ⟨_, _, rfl, rfl, ?_⟩
  try simp only [QS, QC, Nat.reduceLT, reduceIte, Nat.reduceEqDiff, Nat.reduceAdd, Nat.reduceLeDiff, Nat.reduceMul, Nat.reduceBEq, QXGTrPG, hR.len, hR.base, hR.base0, hR.bset, hR.bset0, hR.at1, hR.at0]
 ·intro τ h2
  rw [hit] at h2
  have h3 : doesP v ps = false := h2
  rw [h3]
  simp only [doU]
  (repeat (first | simp only [↓QA, QB, Nat.reduceLT, reduceIte, Nat.reduceEqDiff, Nat.reduceAdd, Nat.reduceLeDiff, Nat.reduceMul, Nat.reduceBEq, QXGTrPG, hR.len, hR.base, hR.base0, hR.bset, hR.bset0, hR.at1, hR.at0] | refine rd0 rfl ?_))
  refine ⟨_, _, rfl, rfl, ?_⟩
  try simp only [QS, QC, Nat.reduceLT, reduceIte, Nat.reduceEqDiff, Nat.reduceAdd, Nat.reduceLeDiff, Nat.reduceMul, Nat.reduceBEq, QXGTrPG, hR.len, hR.base, hR.base0, hR.bset, hR.bset0, hR.at1, hR.at0]
abbrev PS := List (Option (List Int)) × List K5
def fullP (l : List (Option (List Int))) : List (List Int) := l.map fun o => o.getD []
theorem full_some (P : List (List Int)) : fullP (P.map some) = P := by
 rw [fullP, List.map_map]
 exact List.map_id P
def tryW (v : Net) (rec : Nat → PS → Bool × PS) (t left : Nat) : List (List Int) → PS → Bool × PS
 | [], y => (false, y)
 | w :: ws, y =>
  if otherW v t w ≤ left then (if (rec (left - otherW v t w) (y.1.set t (some w), y.2)).1 = true then rec (left - otherW v t w) (y.1.set t (some w), y.2) else tryW v rec t left ws (rec (left - otherW v t w) (y.1.set t (some w), y.2)).2)
  else tryW v rec t left ws (y.1.set t (some w), y.2)
def fnd (v : Net) : Nat → Nat → Nat → PS → Bool × PS
 | 0, _, left, y => if left = 0 then (doesP v (fullP y.1), (y.1, doesMemo v (fullP y.1) y.2)) else (false, y)
 | k + 1, t, left, y => tryW v (fun left y => fnd v k (t + 1) left y) t left (waysOf v (fromAt v t) []) y
structure Fnd (v : Net) (p : List (List Int)) (t k : Nat) (y : PS) : Prop where
 len : y.1.length = t + k
 pre : y.1.take t = p.map some
theorem set_take {y : List (Option (List Int))} {t : Nat} {p : List (List Int)} {w : List Int} (h1 : y.take t = p.map some) (h2 : t < y.length) : (y.set t (some w)).take (t + 1) = (p ++ [w]).map some := by
 have hl : (y.set t (some w)).length = y.length := by simp
 rw [List.take_succ_eq_append_getElem (by rw [hl]; exact h2)]
 simp [List.take_set_of_le, h1]
theorem fnd_dfs (v : Net) : ∀ (k t left : Nat) (y : PS) (p : List (List Int)), p.length = t → Fnd v p t k y →
  ((fnd v k t left y).1 = (dfs v (doesP v) k p left).isSome) ∧ (∀ P, dfs v (doesP v) k p left = some P → (fnd v k t left y).2.1 = P.map some) ∧ Fnd v p t k (fnd v k t left y).2
 | 0, t, left, y, p, hp, hy => by
  have hl : y.1 = p.map some := by
   rw [← hy.pre, List.take_of_length_le (by rw [hy.len]; omega)]
  simp only [fnd, dfs]
  by_cases h0 : left = 0
  ·rw [if_pos h0, hl, full_some]
   subst h0
   simp only [decide_true, Bool.true_and]
   cases hd : doesP v p
   ·exact ⟨rfl, fun P h => (by cases h), ⟨by rw [← hl]; exact hy.len, by simp only; rw [← hl]; exact hy.pre.trans hl.symm⟩⟩
   ·refine ⟨rfl, fun P h => ?_, ⟨by rw [← hl]; exact hy.len, by simp only; rw [← hl]; exact hy.pre.trans hl.symm⟩⟩
    simp only [if_true, Option.some.injEq] at h
    rw [h]
  ·rw [if_neg h0]
   simp only [h0, decide_false, Bool.false_and, Bool.false_eq_true, if_false]
   exact ⟨rfl, fun P h => (by cases h), hy⟩
 | k + 1, t, left, y, p, hp, hy => by
  simp only [fnd, dfs, hp]
  have key : ∀ (ws : List (List Int)) (y : PS), Fnd v p t (k + 1) y →
    ((tryW v (fun left y => fnd v k (t + 1) left y) t left ws y).1 = (ws.findSome? fun w => if otherW v t w ≤ left then dfs v (doesP v) k (p ++ [w]) (left - otherW v t w) else none).isSome) ∧
    (∀ P, (ws.findSome? fun w => if otherW v t w ≤ left then dfs v (doesP v) k (p ++ [w]) (left - otherW v t w) else none) = some P → (tryW v (fun left y => fnd v k (t + 1) left y) t left ws y).2.1 = P.map some) ∧ Fnd v p t (k + 1) (tryW v (fun left y => fnd v k (t + 1) left y) t left ws y).2 := by
   intro ws
   induction ws with
   | nil => intro y hy; exact ⟨rfl, fun P h => (by cases h), hy⟩
   | cons w ws ih =>
    intro y hy
    have hlt : t < y.1.length := by have := hy.len; omega
    have hset : Fnd v (p ++ [w]) (t + 1) k (y.1.set t (some w), y.2) := ⟨by have := hy.len; simp; omega, set_take hy.pre hlt⟩
    have hset2 : Fnd v p t (k + 1) (y.1.set t (some w), y.2) := ⟨by have := hy.len; simp; omega, by
     rw [← hy.pre]; simp [List.take_set_of_le]⟩
    simp only [tryW, List.findSome?_cons]
    by_cases ho : otherW v t w ≤ left
    ·rw [if_pos ho, if_pos ho]
     obtain ⟨a, b, c⟩ := fnd_dfs v k (t + 1) (left - otherW v t w) (y.1.set t (some w), y.2) (p ++ [w]) (by simp [hp]) hset
     obtain ⟨R, hR⟩ : ∃ R, fnd v k (t + 1) (left - otherW v t w) (y.1.set t (some w), y.2) = R := ⟨_, rfl⟩
     rw [hR] at a b c ⊢
     have c' : Fnd v p t (k + 1) R.2 := ⟨by have := c.len; omega, by
      have h1 := congrArg (List.take t) c.pre
      rw [List.take_take, show min t (t + 1) = t by omega] at h1
      rw [h1, List.map_append]
      exact List.take_left' (by simp [hp])⟩
     cases hd : dfs v (doesP v) k (p ++ [w]) (left - otherW v t w) with
     | some P =>
      rw [hd] at a b
      rw [a]
      simp only [Option.isSome_some, if_true]
      exact ⟨a, fun Q h => by rw [← (Option.some.inj h)]; exact b P rfl, c'⟩
     | none =>
      rw [hd] at a
      rw [a]
      simp only [Option.isSome_none, Bool.false_eq_true, if_false]
      exact ih R.2 c'
    ·rw [if_neg ho, if_neg ho]
     exact ih _ hset2
  exact key _ y hy
end Go.Am.Room
set_option maxRecDepth 4000
namespace Go.Am.Room
structure Vary {Y : Type} (S : Y → St) (N : Nat) : Prop where
 len : ∀ y, (S y).length = N
 keep : ∀ y z i, i < N → blkKept (S y) (S z) N i
 eqS : ∀ k, N ≤ k → ∀ y z a b c, EqS k (S y ++ a) (S z ++ b) (S z ++ c) = EqS k a b c
theorem does_vary {Y : Type} {S : Y → St} {N : Nat} (hV : Vary S N) {f : FuncId} {first cap args : List AV} {af : AFunc} {v : AV} {y z : Y} (hf : T f = some af) (hn : (first ++ args ++ cap).length ≤ af.ntmps)
  (h : wp T af.body (argsEnv 0 (first ++ args ++ cap)) (S y) (fun j e σ1 => (j = none ∨ j = some .ret) ∧ ∃ v0 τ, resOf af.results e σ1 = some v0 ∧ σ1 = S z ++ τ ∧ snapM σ1 N 20 v0 = some v)) : Does T (.func f first cap) args (S y) v (S z) := by
 refine .callf (.call hf hn (run_wp h fun o ho => ho) fun o ho => ?_)
 obtain ⟨hj, v0, τ, hres, hσ, h4⟩ := ho
 refine ⟨hj, v0, hres, ?_⟩
 unfold snapM at h4
 cases hs : snap o.σ N 20 v0 with
 | none => rw [hs] at h4; cases h4
 | some v1 =>
  rw [hs] at h4
  simp at h4
  refine .inr ⟨20, v1, v, by rw [hV.len]; exact hs, .inr h4.symm, fun i hi => ?_, ?_, rfl, ?_⟩
  ·rw [hσ]
   rw [hV.len] at hi ⊢
   have := hV.keep y z i hi
   have e2 : (S z ++ τ)[i]? = (S z)[i]? := List.getElem?_append_left (by rw [hV.len]; exact hi)
   simp only [blkKept, e2] at this ⊢
   exact this
  ·rw [hσ, List.length_append, hV.len, hV.len]; omega
  ·rw [hσ, hV.len, ← hV.len z, List.take_left]
end Go.Am.Room
