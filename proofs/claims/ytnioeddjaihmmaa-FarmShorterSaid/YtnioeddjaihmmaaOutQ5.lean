/- A part of the proofs: an abstract machine, or what functions come to on it. -/
import Derived.Test.YtnioeddjaihmmaaOutQ4
set_option linter.unusedVariables false
set_option linter.unusedSimpArgs false
set_option linter.defProp false
namespace Go.Am.Room
structure MemAt {M : Type} (S : M → St) (obj : List AV) (es : M → List (AV × AV)) (p m N : Nat) : Prop where
 len : ∀ M, (S M).length = N
 at0 : ∀ M, cellsAt (S M) p = some obj
 map0 : ∀ M, (S M)[m]? = some (.map (es M))
 mset : ∀ M M', (S M).set m (.map (es M')) = S M'
 ok : ∀ M k, okBlk k (.map (es M))
 pl : p < N
 ml : m < N
namespace MemAt
variable {M : Type} {S : M → St} {obj : List AV} {es : M → List (AV × AV)} {p m N : Nat}
theorem base (h : MemAt S obj es p m N) (A : M) (τ : St) (k : Nat) : cellsAt (S A ++ τ) (N + k) = cellsAt τ k := by rw [← h.len A]; exact M_base _ _ _
theorem base0 (h : MemAt S obj es p m N) (A : M) (τ : St) : cellsAt (S A ++ τ) N = cellsAt τ 0 := h.base A τ 0
theorem bset (h : MemAt S obj es p m N) (A : M) (τ : St) (k : Nat) (x : ABlk) : (S A ++ τ).set (N + k) x = S A ++ τ.set k x := by rw [← h.len A]; exact st_set _ _ _ _
theorem bset0 (h : MemAt S obj es p m N) (A : M) (τ : St) (x : ABlk) : (S A ++ τ).set N x = S A ++ τ.set 0 x := h.bset A τ 0 x
theorem at1 (h : MemAt S obj es p m N) (A : M) (τ : St) : cellsAt (S A ++ τ) p = some (obj) := by
 have := h.at0 A
 have hl := h.pl
 rw [← h.len A] at hl
 simp only [cellsAt] at this ⊢
 rw [List.getElem?_append_left hl]
 exact this
theorem map1 (h : MemAt S obj es p m N) (A : M) (τ : St) : (S A ++ τ)[m]? = some (.map (es A)) := by
 have hl := h.ml
 rw [← h.len A] at hl
 rw [List.getElem?_append_left hl]
 exact h.map0 A
theorem mset1 (h : MemAt S obj es p m N) (A B : M) (τ : St) : (S A ++ τ).set m (.map (es B)) = S B ++ τ := by
 have hl := h.ml
 rw [← h.len A] at hl
 rw [List.set_append_left _ _ hl, h.mset]
theorem keep (h : MemAt S obj es p m N) (A B : M) (i : Nat) (hi : i ≠ m) : (S B)[i]? = (S A)[i]? := by
 rw [← h.mset A B, List.getElem?_set_ne (fun e => hi e.symm)]
theorem app (h : MemAt S obj es p m N) (τ : St) : MemAt (fun A => S A ++ τ) obj es p m (N + τ.length) :=
 ⟨fun A => by rw [List.length_append, h.len], fun A => h.at1 A τ, fun A => h.map1 A τ, fun A B => h.mset1 A B τ, h.ok, by have := h.pl; omega, by have := h.ml; omega⟩
end MemAt
def iterF {A X : Type} (f : A → X → X × Bool) : List A → X → X × Bool
 | [], x => (x, true)
 | a :: az, x => if (f a x).2 = true then iterF f az (f a x).1 else ((f a x).1, false)
theorem iterF_app {A X : Type} (f : A → X → X × Bool) : ∀ (az bs : List A) (x : X), iterF f (az ++ bs) x = if (iterF f az x).2 = true then iterF f bs (iterF f az x).1 else ((iterF f az x).1, false)
 | [], bs, x => by simp [iterF]
 | a :: az, bs, x => by
  simp only [List.cons_append, iterF]
  split
  ·exact iterF_app f az bs _
  ·simp
structure Fam {X : Type} (Z ZD : X → St) (obj : List AV) (p q N : Nat) : Prop where
 len : ∀ x, (Z x).length = N
 lenD : ∀ x, (ZD x).length = N
 at0 : ∀ x, cellsAt (Z x) p = some obj
 atq0 : ∀ x, cellsAt (Z x) q = some [.ptr p 0]
 keep : ∀ x y k i, N ≤ k → i < N → blkKept (Z x) (Z y) k i
 keepD : ∀ x y k i, N ≤ k → i < N → blkKept (Z x) (ZD y) k i
 pl : p < N
 ql : q < N
namespace Fam
variable {X : Type} {Z ZD : X → St} {obj : List AV} {p q N : Nat}
theorem base (h : Fam Z ZD obj p q N) (x : X) (τ : St) (k : Nat) : cellsAt (Z x ++ τ) (N + k) = cellsAt τ k := by rw [← h.len x]; exact M_base _ _ _
theorem base0 (h : Fam Z ZD obj p q N) (x : X) (τ : St) : cellsAt (Z x ++ τ) N = cellsAt τ 0 := h.base x τ 0
theorem bset (h : Fam Z ZD obj p q N) (x : X) (τ : St) (k : Nat) (y : ABlk) : (Z x ++ τ).set (N + k) y = Z x ++ τ.set k y := by rw [← h.len x]; exact st_set _ _ _ _
theorem bset0 (h : Fam Z ZD obj p q N) (x : X) (τ : St) (y : ABlk) : (Z x ++ τ).set N y = Z x ++ τ.set 0 y := h.bset x τ 0 y
theorem at1 (h : Fam Z ZD obj p q N) (x : X) (τ : St) : cellsAt (Z x ++ τ) p = some obj := by
 have := h.at0 x
 have hl := h.pl
 rw [← h.len x] at hl
 simp only [cellsAt] at this ⊢
 rw [List.getElem?_append_left hl]
 exact this
def out (Z ZD : X → St) (r : X × Bool) : St := if r.2 = true then Z r.1 else ZD r.1
end Fam
theorem iterF_one {A X : Type} (f : A → X → X × Bool) (a : A) (x : X) : iterF f [a] x = f a x := by
 simp only [iterF]
 obtain ⟨y, bb⟩ := f a x
 cases bb <;> simp
namespace Fam1
variable {X : Type} {M : Type} {Z ZD : X → M → St} {obj : List AV} {es : M → List (AV × AV)} {p m q N : Nat}
def out (Z ZD : X → M → St) (r : X × Bool) (A : M) : St := if r.2 = true then Z r.1 A else ZD r.1 A
end Fam1
theorem iterF_go {A X : Type} {f : A → X → X × Bool} (h : ∀ a x, (f a x).2 = true) : ∀ (l : List A) (x : X), iterF f l x = (l.foldl (fun x a => (f a x).1) x, true)
 | [], x => rfl
 | a :: az, x => by simp only [iterF, h, if_true, List.foldl_cons]; exact iterF_go h az _
end Go.Am.Room
namespace Go.Am.Room
def updF (f : Nat → Int) (i : Nat) (v : Int) : Nat → Int := fun j => if j = i then v else f j
def arrA (n : Nat) (f : Nat → Int) : List AV := (List.range n).map fun i => .int .i64 (f i)
theorem arrA_len (n : Nat) (f : Nat → Int) : (arrA n f).length = n := by simp [arrA]
theorem arrA_get (n : Nat) (f : Nat → Int) {i : Nat} (h : i < n) : (arrA n f)[i]? = some (.int .i64 (f i)) := by simp [arrA, h]
theorem arrA_set (n : Nat) (f : Nat → Int) (v : Int) {i : Nat} (h : i < n) : (arrA n f).take i ++ [AV.int .i64 v] ++ (arrA n f).drop (i + 1) = arrA n (updF f i v) := by
 have h1 : (arrA n f).take i ++ [AV.int .i64 v] ++ (arrA n f).drop (i + 1) = (arrA n f).set i (.int .i64 v) := by
  rw [List.set_eq_take_append_cons_drop, if_pos (by rw [arrA_len]; exact h)]; simp
 rw [h1]
 refine List.ext_getElem? fun j => ?_
 by_cases hj : j < n
 ·rw [arrA_get n _ hj, List.getElem?_set]
  by_cases e : i = j
  ·subst e; simp [arrA_len, hj, updF]
  ·rw [if_neg e, arrA_get n _ hj]; simp [updF, show ¬ j = i from fun q => e q.symm]
 ·rw [List.getElem?_eq_none (by rw [List.length_set, arrA_len]; omega), List.getElem?_eq_none (by rw [arrA_len]; omega)]
theorem datas_arrA (n : Nat) (f : Nat → Int) : Datas (arrA n f) := datas_map (enc := fun i : Nat => AV.int .i64 (f i)) (fun i => data_int _ _) (List.range n)
instance (n : Nat) (f : Nat → Int) : Dats (arrA n f) := ⟨datas_arrA n f⟩
theorem arrA_ok (n : Nat) (f : Nat → Int) (m : Nat) : okVs m (arrA n f) := ok_datas (datas_arrA n f) m
theorem S_arrA (n : Nat) (f : Nat → Int) (σ : St) (m d : Nat) : snapMs σ m d (arrA n f) = some (arrA n f) := S_datas (datas_arrA n f) σ m d
theorem arrA_cell (n : Nat) (f : Nat → Int) : allCell (arrA n f) = true := C_mapc _ _ fun i => by simp [AV.cell]
theorem arrA_take (n : Nat) (f : Nat → Int) : (arrA n f).take n = arrA n f := List.take_of_length_le (by rw [arrA_len]; exact Nat.le_refl n)
theorem arrA_drop (n : Nat) (f : Nat → Int) : (arrA n f).drop n = [] := List.drop_eq_nil_of_le (by rw [arrA_len]; exact Nat.le_refl n)
theorem arrA_eqC (f g : Nat → Int) : ∀ l : List Nat, eqCells (List.replicate l.length .i) (l.map fun i => .int .i64 (f i)) (l.map fun i => .int .i64 (g i)) = some (l.all fun i => f i == g i)
 | [] => rfl
 | x :: l => by
  simp only [List.length_cons, List.replicate_succ, List.map_cons, V_eqC1, V_eqI, arrA_eqC f g l, V_oand, List.all_cons]
theorem arrA_eq (n : Nat) (f g : Nat → Int) : eqCells (List.replicate n .i) (arrA n f) (arrA n g) = some ((List.range n).all fun i => f i == g i) := by
 have := arrA_eqC f g (List.range n)
 rwa [List.length_range] at this
section
variable {K : Type} [DecidableEq K]
variable {sh : EqTy} {enc val : K → AV}
variable {S : List K → St} {obj : List AV} {p m N : Nat}
end
end Go.Am.Room
set_option maxRecDepth 4000
namespace Go.Am.Room
def QXFFaP2 := And.intro @encFarm_eq (And.intro @farmCells_eq (And.intro @encPlot_eq (And.intro @encLook_eq (And.intro @encSpan_eq (And.intro @S_mapPlot (And.intro @S_mapLook (And.intro @S_mapSpan (And.intro @T_sapp (@List.length_append.{0})))))))))
theorem check_ok (v : Farm) (h : Fits v) : Pure T 15 [encFarm v] (enc3 (check v)) := by
 refine pure_fn (af := a15) rfl (by simp [a15]) dd ?_
 (repeat (first | simp only [↓QA, QB, Nat.reduceLT, reduceIte, Nat.reduceEqDiff, Nat.reduceAdd, Nat.reduceLeDiff, Nat.reduceMul, Nat.reduceBEq, QXFFaP2, a15] | refine rd0 rfl ?_))
 ((first | refine callK_v (beyond_ok 1 7 [(v.rain.length : Int)] (by simp)) (by simp [clr, clrs, ints]) (by simp [okV, okVs]) ?_ | refine callD_v (beyond_ok 1 7 [(v.rain.length : Int)] (by simp)) (by simp [clr, clrs, ints]) (by simp [okV, okVs]) ?_); (repeat (first | simp only [↓QA, QB, Nat.reduceLT, reduceIte, Nat.reduceEqDiff, Nat.reduceAdd, Nat.reduceLeDiff, Nat.reduceMul, Nat.reduceBEq, QXFFaP2, beyond1] | refine rd0 rfl ?_)))
 cases h1 : inR (v.rain.length : Int) 1 7
 ·(repeat (first | simp only [↓QA, QB, Nat.reduceLT, reduceIte, Nat.reduceEqDiff, Nat.reduceAdd, Nat.reduceLeDiff, Nat.reduceMul, Nat.reduceBEq, QXFFaP2] | refine rd0 rfl ?_))
  simp [check, h1, enc3]
 ·have hc : check v = match firstBad raErr v.rain 0 with | some (i, e) => (1, (i : Int), e) | none => check2 v := by simp only [check, h1, Bool.true_eq_false, if_false]; try rfl
  rw [hc]
  have hf := failing_span [.cells (farmCells v)] (.func 57 [] []) v.rain raErr h.rain (fun τ => by try simp only [QS, QC, Nat.reduceLT, reduceIte, Nat.reduceEqDiff, Nat.reduceAdd, Nat.reduceLeDiff, Nat.reduceMul, Nat.reduceBEq, QXFFaP2]) fun i hi => chk1_ok i _ _
  try simp only [↓QA, QB, Nat.reduceLT, reduceIte, Nat.reduceEqDiff, Nat.reduceAdd, Nat.reduceLeDiff, Nat.reduceMul, Nat.reduceBEq, QXFFaP2] at hf
  (repeat (first | simp only [↓QA, QB, Nat.reduceLT, reduceIte, Nat.reduceEqDiff, Nat.reduceAdd, Nat.reduceLeDiff, Nat.reduceMul, Nat.reduceBEq, QXFFaP2] | refine rd0 rfl ?_))
  refine callK_same hf ?_
  cases hb : firstBad raErr v.rain 0 with
  | some p =>
   obtain ⟨i, e⟩ := p
   have he := firstBad_nz hb
   have hg : (e == 0) = false := by simpa using he
   (repeat (first | simp only [↓QA, QB, Nat.reduceLT, reduceIte, Nat.reduceEqDiff, Nat.reduceAdd, Nat.reduceLeDiff, Nat.reduceMul, Nat.reduceBEq, QXFFaP2, failF, hb, enc2, hg, enc3] | refine rd0 rfl ?_))
  | none =>
   (repeat (first | simp only [↓QA, QB, Nat.reduceLT, reduceIte, Nat.reduceEqDiff, Nat.reduceAdd, Nat.reduceLeDiff, Nat.reduceMul, Nat.reduceBEq, QXFFaP2, failF, hb, enc2] | refine rd0 rfl ?_))
   ((first | refine callK_d (pends_ok v.way 0 9) rfl dd ?_ | refine callD_d (pends_ok v.way 0 9) rfl dd ?_); (repeat (first | simp only [↓QA, QB, Nat.reduceLT, reduceIte, Nat.reduceEqDiff, Nat.reduceAdd, Nat.reduceLeDiff, Nat.reduceMul, Nat.reduceBEq, QXFFaP2] | refine rd0 rfl ?_)))
   ((first | refine callK_v (beyond_ok 0 30 [v.full, v.ripe] (by simp)) (by simp [clr, clrs, ints]) (by simp [okV, okVs]) ?_ | refine callD_v (beyond_ok 0 30 [v.full, v.ripe] (by simp)) (by simp [clr, clrs, ints]) (by simp [okV, okVs]) ?_); (repeat (first | simp only [↓QA, QB, Nat.reduceLT, reduceIte, Nat.reduceEqDiff, Nat.reduceAdd, Nat.reduceLeDiff, Nat.reduceMul, Nat.reduceBEq, QXFFaP2, beyond2] | refine rd0 rfl ?_)))
   cases h2 : (!inR v.full 0 30 || !inR v.ripe 0 30)
   ·have h2' : ¬ (inR v.full 0 30 = false ∨ inR v.ripe 0 30 = false) := by
     intro h; rcases h with h | h <;> rw [h] at h2 <;> simp at h2
    cases h5 : (ends v.way 0 9 == 0)
    ·have h5' : ends v.way 0 9 ≠ 0 := by simpa using h5
     (repeat (first | simp only [↓QA, QB, Nat.reduceLT, reduceIte, Nat.reduceEqDiff, Nat.reduceAdd, Nat.reduceLeDiff, Nat.reduceMul, Nat.reduceBEq, QXFFaP2, h5] | refine rd0 rfl ?_))
     by_cases h4 : ends v.way 0 9 = 7
     ·simp [check2, h4, enc3]
     ·have : ¬ (inR v.full 0 30 = false ∨ inR v.ripe 0 30 = false ∨ ends v.way 0 9 = 7) := by
       rintro (h | h | h)
       ·exact h2' (.inl h)
       ·exact h2' (.inr h)
       ·exact h4 h
      simp [check2, this, h5', enc3]
    ·have h5' : ends v.way 0 9 = 0 := by simpa using h5
     have hc : check2 v = check3 v := by
      have : ¬ (inR v.full 0 30 = false ∨ inR v.ripe 0 30 = false ∨ ends v.way 0 9 = 7) := by
       rintro (h | h | h)
       ·exact h2' (.inl h)
       ·exact h2' (.inr h)
       ·omega
      rw [check2, if_neg this, if_pos h5']
     rw [hc]
     (repeat (first | simp only [↓QA, QB, Nat.reduceLT, reduceIte, Nat.reduceEqDiff, Nat.reduceAdd, Nat.reduceLeDiff, Nat.reduceMul, Nat.reduceBEq, QXFFaP2, h5] | refine rd0 rfl ?_))
     cases h6 : decide ((4 : Int) < (v.plots.length : Int))
     case' true =>
      have h6' : 4 < v.plots.length := by first | (have := of_decide_eq_false h6; omega) | (have := of_decide_eq_true h6; omega)
      (repeat (first | simp only [↓QA, QB, Nat.reduceLT, reduceIte, Nat.reduceEqDiff, Nat.reduceAdd, Nat.reduceLeDiff, Nat.reduceMul, Nat.reduceBEq, QXFFaP2, h6] | refine rd0 rfl ?_))
      simp [check3, h6', enc3]
     have h6' : ¬ 4 < v.plots.length := by first | (have := of_decide_eq_false h6; omega) | (have := of_decide_eq_true h6; omega)
     have hc : check3 v = match firstBad (plErr v) v.plots 0 with | some (i, e) => (3, (i : Int), e) | none => check4 v := by simp only [check3, h6', if_false]; try rfl
     rw [hc]
     have hf := failing_plot [.cells (farmCells v)] (.func 60 [] [.ptr 0 0]) v.plots (plErr v) h.plots (fun τ => by try simp only [QS, QC, Nat.reduceLT, reduceIte, Nat.reduceEqDiff, Nat.reduceAdd, Nat.reduceLeDiff, Nat.reduceMul, Nat.reduceBEq, QXFFaP2]) fun i hi => chk2_ok v h i hi _
     try simp only [↓QA, QB, Nat.reduceLT, reduceIte, Nat.reduceEqDiff, Nat.reduceAdd, Nat.reduceLeDiff, Nat.reduceMul, Nat.reduceBEq, QXFFaP2] at hf
     (repeat (first | simp only [↓QA, QB, Nat.reduceLT, reduceIte, Nat.reduceEqDiff, Nat.reduceAdd, Nat.reduceLeDiff, Nat.reduceMul, Nat.reduceBEq, QXFFaP2, h6] | refine rd0 rfl ?_))
     refine callK_same hf ?_
     cases hb : firstBad (plErr v) v.plots 0 with
     | some p =>
      obtain ⟨i, e⟩ := p
      have he := firstBad_nz hb
      have hg : (e == 0) = false := by simpa using he
      (repeat (first | simp only [↓QA, QB, Nat.reduceLT, reduceIte, Nat.reduceEqDiff, Nat.reduceAdd, Nat.reduceLeDiff, Nat.reduceMul, Nat.reduceBEq, QXFFaP2, failF, hb, enc2, hg, enc3] | refine rd0 rfl ?_))
     | none =>
      (repeat (first | simp only [↓QA, QB, Nat.reduceLT, reduceIte, Nat.reduceEqDiff, Nat.reduceAdd, Nat.reduceLeDiff, Nat.reduceMul, Nat.reduceBEq, QXFFaP2, failF, hb, enc2] | refine rd0 rfl ?_))
      cases h7 : decide ((4 : Int) < (v.looks.length : Int))
      case' true =>
       have h7' : 4 < v.looks.length := by first | (have := of_decide_eq_false h7; omega) | (have := of_decide_eq_true h7; omega)
       (repeat (first | simp only [↓QA, QB, Nat.reduceLT, reduceIte, Nat.reduceEqDiff, Nat.reduceAdd, Nat.reduceLeDiff, Nat.reduceMul, Nat.reduceBEq, QXFFaP2, h7] | refine rd0 rfl ?_))
       simp [check4, h7', enc3]
      have h7' : ¬ 4 < v.looks.length := by first | (have := of_decide_eq_false h7; omega) | (have := of_decide_eq_true h7; omega)
      have hc : check4 v = match firstBad (lkErr v) v.looks 0 with | some (i, e) => (4, (i : Int), e) | none => (0, 0, 0) := by simp only [check4, h7', if_false]; try rfl
      rw [hc]
      have hf := failing_look [.cells (farmCells v)] (.func 65 [] [.ptr 0 0]) v.looks (lkErr v) h.looks (fun τ => by try simp only [QS, QC, Nat.reduceLT, reduceIte, Nat.reduceEqDiff, Nat.reduceAdd, Nat.reduceLeDiff, Nat.reduceMul, Nat.reduceBEq, QXFFaP2]) fun i hi => chk3_ok v h i _
      try simp only [↓QA, QB, Nat.reduceLT, reduceIte, Nat.reduceEqDiff, Nat.reduceAdd, Nat.reduceLeDiff, Nat.reduceMul, Nat.reduceBEq, QXFFaP2] at hf
      (repeat (first | simp only [↓QA, QB, Nat.reduceLT, reduceIte, Nat.reduceEqDiff, Nat.reduceAdd, Nat.reduceLeDiff, Nat.reduceMul, Nat.reduceBEq, QXFFaP2, h7] | refine rd0 rfl ?_))
      refine callK_same hf ?_
      cases hb : firstBad (lkErr v) v.looks 0 with
      | some p =>
       obtain ⟨i, e⟩ := p
       have he := firstBad_nz hb
       have hg : (e == 0) = false := by simpa using he
       (repeat (first | simp only [↓QA, QB, Nat.reduceLT, reduceIte, Nat.reduceEqDiff, Nat.reduceAdd, Nat.reduceLeDiff, Nat.reduceMul, Nat.reduceBEq, QXFFaP2, failF, hb, enc2, hg, enc3] | refine rd0 rfl ?_))
      | none =>
       (repeat (first | simp only [↓QA, QB, Nat.reduceLT, reduceIte, Nat.reduceEqDiff, Nat.reduceAdd, Nat.reduceLeDiff, Nat.reduceMul, Nat.reduceBEq, QXFFaP2, failF, hb, enc2, enc3] | refine rd0 rfl ?_))
   ·have h2' : inR v.full 0 30 = false ∨ inR v.ripe 0 30 = false := by
     cases a : inR v.full 0 30
     ·exact .inl rfl
     ·cases b : inR v.ripe 0 30
      ·exact .inr rfl
      ·rw [a, b] at h2; simp at h2
    have : inR v.full 0 30 = false ∨ inR v.ripe 0 30 = false ∨ ends v.way 0 9 = 7 := by
     rcases h2' with h | h
     ·exact .inl h
     ·exact .inr (.inl h)
    (repeat (first | simp only [↓QA, QB, Nat.reduceLT, reduceIte, Nat.reduceEqDiff, Nat.reduceAdd, Nat.reduceLeDiff, Nat.reduceMul, Nat.reduceBEq, QXFFaP2] | refine rd0 rfl ?_))
    simp [check2, this, enc3]
theorem numbers_ok (s n : Nat) (hs : s < 9223372036854775808) (hn : n ≤ 60) : Pure T 78 [.int .i64 s, .int .i64 n] (ints (lst n s)) := by
 refine pure_fn (af := a78) rfl (by simp [a78]) dd ?_
 (repeat (first | simp only [↓QA, QB, Nat.reduceLT, reduceIte, Nat.reduceEqDiff, Nat.reduceAdd, Nat.reduceLeDiff, Nat.reduceMul, Nat.reduceBEq, QXFFaP2, a78] | refine rd0 rfl ?_))
 obtain ⟨R, hRR⟩ : ∃ R, lst n s = R := ⟨_, rfl⟩
 have hRR' : [] ++ (numbers ((0 : Nat) : Int) (n - 0)).filter (fun i => decide (s / 2 ^ i.toNat % 2 = 1)) = R := hRR
 rw [hRR]
 refine ghostK 4 1 [] rfl ?_
 refine loopE (S := Nat × List Int × Bool) (0, [], false) (fun x => x.1 ≤ n ∧ x.2.1.length ≤ x.1 ∧ x.2.1 ++ (numbers (x.1 : Int) (n - x.1)).filter (fun i => decide (s / 2 ^ i.toNat % 2 = 1)) = R) (fun x => n - x.1)
  (fun x => [(0, .int .i64 s), (4, .lit (x.2.1.map (.int .i64)) false (some 0)), (6, .int .i64 n), (7, .int .i64 x.1)]) (fun x => [.tok 1 x.2.1.length x.2.2]) ⟨by simp, by simp, hRR'⟩ rfl ?_ fun x hx => ?_
 ·try simp only [TrimX, QE, Nat.reduceLT, reduceIte, Nat.reduceEqDiff, Nat.reduceAdd, Nat.reduceLeDiff, Nat.reduceMul, Nat.reduceBEq, QXFFaP2]
  try simp
 ·obtain ⟨k, acc, ex⟩ := x
  obtain ⟨hk, hal, hacc⟩ := hx
  simp only at hk hal hacc
  (repeat (first | simp only [↓QA, QB, Nat.reduceLT, reduceIte, Nat.reduceEqDiff, Nat.reduceAdd, Nat.reduceLeDiff, Nat.reduceMul, Nat.reduceBEq, QXFFaP2, L78_0] | refine rd0 rfl ?_))
  refine iteP_intro (fun h => ?_) fun h => ?_
  ·have hk1 : k < n := by simpa using h
   have hw := wrapN hk1 (by omega)
   rw [show n - k = (n - (k + 1)) + 1 by omega] at hacc
   simp only [numbers, List.filter_cons, Int.toNat_natCast] at hacc
   rw [show ((k : Int) + 1) = ((k + 1 : Nat) : Int) by omega] at hacc
   have vs := V_shr s k (by omega)
   have va := V_and1 (s / 2 ^ k) (Nat.lt_of_le_of_lt (Nat.div_le_self _ _) hs)
   have hbit : (((s / 2 ^ k % 2 : Nat) : Int) == 1) = decide (s / 2 ^ k % 2 = 1) := by
    generalize s / 2 ^ k % 2 = q
    rw [Bool.eq_iff_iff, beq_iff_eq, decide_eq_true_eq]; omega
   (repeat (first | simp only [↓QA, QB, Nat.reduceLT, reduceIte, Nat.reduceEqDiff, Nat.reduceAdd, Nat.reduceLeDiff, Nat.reduceMul, Nat.reduceBEq, QXFFaP2, vs, va, hbit] | refine rd0 rfl ?_))
   cases hb : decide (s / 2 ^ k % 2 = 1)
   ·simp only [hb, Bool.false_eq_true, if_false] at hacc
    (repeat (first | simp only [↓QA, QB, Nat.reduceLT, reduceIte, Nat.reduceEqDiff, Nat.reduceAdd, Nat.reduceLeDiff, Nat.reduceMul, Nat.reduceBEq, QXFFaP2, hw] | refine rd0 rfl ?_))
    refine ⟨(k + 1, acc, ex), ⟨by simp only; omega, by simp only; omega, by simpa using hacc⟩, by simp only; omega, ?_⟩
    try simp only [TrimX, QE, Nat.reduceLT, reduceIte, Nat.reduceEqDiff, Nat.reduceAdd, Nat.reduceLeDiff, Nat.reduceMul, Nat.reduceBEq, QXFFaP2, hw, S_mapI]
    try simp [okBlk]
   ·simp only [hb, if_true] at hacc
    have hap := fun (τ : St) => append_intT (σ := .tok 1 acc.length ex :: τ) (l := acc) (a := (k : Int)) (ex := ex) (t := 0) (by omega) rfl
    (repeat (first | simp only [↓QA, QB, Nat.reduceLT, reduceIte, Nat.reduceEqDiff, Nat.reduceAdd, Nat.reduceLeDiff, Nat.reduceMul, Nat.reduceBEq, QXFFaP2, hw, hap] | refine rd0 rfl ?_))
    refine ⟨(k + 1, acc ++ [(k : Int)], true), ⟨by simp only; omega, by simp only [List.length_append, List.length_cons, List.length_nil]; omega, by
     rw [← hacc]; simp⟩, by simp only; omega, ?_⟩
    try simp only [TrimX, QE, Nat.reduceLT, reduceIte, Nat.reduceEqDiff, Nat.reduceAdd, Nat.reduceLeDiff, Nat.reduceMul, Nat.reduceBEq, QXFFaP2, hw, S_mapI, List.map_append, List.map_cons, List.map_nil]
    try simp [okBlk]
  ·have hk1 : k = n := by simp at h; omega
   rw [hk1] at hacc
   simp only [Nat.sub_self, numbers, List.filter_nil, List.append_nil] at hacc
   (repeat (first | simp only [↓QA, QB, Nat.reduceLT, reduceIte, Nat.reduceEqDiff, Nat.reduceAdd, Nat.reduceLeDiff, Nat.reduceMul, Nat.reduceBEq, QXFFaP2, hacc, ints] | refine rd0 rfl ?_))
def toldB (must never : Bool) : Int := if must then 1 else if never then 2 else 0
theorem told_ok (must never : Bool) : Pure T 106 [.bool must, .bool never] (.int .i64 (toldB must never)) := by
 refine pure_fn (af := a106) rfl (by simp [a106]) dd ?_
 cases must
 ·cases never
  all_goals (repeat (first | simp only [↓QA, QB, Nat.reduceLT, reduceIte, Nat.reduceEqDiff, Nat.reduceAdd, Nat.reduceLeDiff, Nat.reduceMul, Nat.reduceBEq, QXFFaP2, a106, toldB, Bool.false_eq_true] | refine rd0 rfl ?_))
 ·(repeat (first | simp only [↓QA, QB, Nat.reduceLT, reduceIte, Nat.reduceEqDiff, Nat.reduceAdd, Nat.reduceLeDiff, Nat.reduceMul, Nat.reduceBEq, QXFFaP2, a106, toldB] | refine rd0 rfl ?_))
theorem fine_ok : Pure T 77 [] (.int .i64 0) := by
 refine pure_fn (af := a77) rfl (by simp [a77]) datas_nil ?_
 (repeat (first | simp only [↓QA, QB, Nat.reduceLT, reduceIte, Nat.reduceEqDiff, Nat.reduceAdd, Nat.reduceLeDiff, Nat.reduceMul, Nat.reduceBEq, QXFFaP2, a77] | refine rd0 rfl ?_))
end Go.Am.Room
set_option maxRecDepth 4000
namespace Go.Am.Room
def QXFFaP3 := And.intro @encFarm_eq (And.intro @farmCells_eq (And.intro @encPlot_eq (And.intro @encLook_eq (And.intro @encSpan_eq (And.intro @S_mapPlot (And.intro @S_mapLook (And.intro @S_mapSpan (And.intro @T_sapp (And.intro @T_sapp0 (And.intro @List.length_append.{0} (And.intro @arrA_len (And.intro @arrA_take (And.intro @arrA_drop (And.intro @S_arrA (And.intro @arrA_cell (And.intro @V_min2 (And.intro @Nat.mul_one (@Int.toNat_natCast))))))))))))))))))
theorem V_slc (n sz id off : Nat) (k k' : IntKind) (lo hi : Int) : vSlicea n sz (.ptr id off) (some (.int k lo)) (some (.int k' hi)) = if 0 ≤ lo ∧ lo ≤ hi ∧ hi ≤ n then some (.ref id (off + lo.toNat * sz) (hi.toNat - lo.toNat) sz) else none := by simp only [vSlicea, vBound, intOf]
theorem pts_min (r : Nat → Int) (a d : Nat) : pts r (min a d) d = pts r a d := by
 by_cases h : a ≤ d
 ·rw [Nat.min_eq_left h]
 ·rw [Nat.min_eq_right (by omega), pts_self, pts_lt r (by omega)]
theorem full_gen (x : AV) (r : Nat → Int) (a d : Nat) (hr : ∀ i, 0 ≤ r i ∧ r i ≤ 2) (hd : d ≤ 7) (σ : St) :
  wp T a97.body (argsEnv 0 [x, .agg (arrA 7 r), .int .i64 a, .int .i64 d]) σ (BaseK a97.results σ (.int .i64 (pts r a d))) := by
 rw [← pts_min]
 have hm : min (a : Int) (d : Int) = ((min a d : Nat) : Int) := by omega
 obtain ⟨A, hA⟩ : ∃ A, min a d = A := ⟨_, rfl⟩
 rw [hA] at hm ⊢
 have hAd : A ≤ d := by omega
 have c1 : (0 : Int) ≤ (A : Int) ∧ (A : Int) ≤ (d : Int) ∧ (d : Int) ≤ ((7 : Nat) : Int) := ⟨by omega, by omega, by omega⟩
 (repeat (first | simp only [↓QA, QB, Nat.reduceLT, reduceIte, Nat.reduceEqDiff, Nat.reduceAdd, Nat.reduceLeDiff, Nat.reduceMul, Nat.reduceBEq, QXFFaP3, V_slc, a97, hm, c1] | refine rd0 rfl ?_))
 refine loopE (S := Nat) 0 (fun k => k ≤ d - A) (fun k => d - A - k) (fun k => [(8, .int .i64 (pts r A (A + k))), (15, .ref σ.length (0 + A) (d - A) 1), (16, .int .i64 ((d - A : Nat) : Int)), (17, .int .i64 k)]) (fun _ => σ ++ [.cells (arrA 7 r)]) (Nat.zero_le _) (by simp) ?_ fun k hk => ?_
 ·try simp only [TrimX, QE, Nat.reduceLT, reduceIte, Nat.reduceEqDiff, Nat.reduceAdd, Nat.reduceLeDiff, Nat.reduceMul, Nat.reduceBEq, QXFFaP3, V_slc, Nat.add_zero, pts_self]
  try simp
 ·(repeat (first | simp only [↓QA, QB, Nat.reduceLT, reduceIte, Nat.reduceEqDiff, Nat.reduceAdd, Nat.reduceLeDiff, Nat.reduceMul, Nat.reduceBEq, QXFFaP3, V_slc, L97_0] | refine rd0 rfl ?_))
  refine iteP_intro (fun h => ?_) fun h => ?_
  ·have hk1 : k < d - A := by
    have h0 : (k : Int) < ((d - A : Nat) : Int) := by simpa using h
    omega
   have hw := wrapN hk1 (by omega)
   have hi7 : A + k < 7 := by omega
   have hget := arrA_get 7 r hi7
   have c2 : (0 : Int) ≤ (k : Int) ∧ (k : Int) < ((d - A : Nat) : Int) ∧ 1 = 1 := ⟨by omega, by omega, rfl⟩
   have hb := pts_bd hr A (A + k)
   have hs := pts_step r (show A ≤ A + k by omega)
   have hrk := hr (A + k)
   obtain ⟨P, hP⟩ : ∃ P, pts r A (A + k) = P := ⟨_, rfl⟩
   obtain ⟨R, hR⟩ : ∃ R, r (A + k) = R := ⟨_, rfl⟩
   rw [hP] at hb hs
   rw [hR] at hs hrk hget
   have w1 : IntKind.i64.wrap (1 + R) = 1 + R := wrap64 ⟨by omega, by omega⟩
   have w2 : IntKind.i64.wrap (P + (1 + R)) = P + (1 + R) := wrap64 ⟨by omega, by omega⟩
   rw [hP]
   (repeat (first | simp only [↓QA, QB, Nat.reduceLT, reduceIte, Nat.reduceEqDiff, Nat.reduceAdd, Nat.reduceLeDiff, Nat.reduceMul, Nat.reduceBEq, QXFFaP3, V_slc, c2, Nat.zero_add, hget, w1, w2, hw] | refine rd0 rfl ?_))
   refine ⟨k + 1, by omega, by omega, ?_⟩
   try simp only [TrimX, QE, Nat.reduceLT, reduceIte, Nat.reduceEqDiff, Nat.reduceAdd, Nat.reduceLeDiff, Nat.reduceMul, Nat.reduceBEq, QXFFaP3, V_slc, hw, show A + (k + 1) = A + k + 1 by omega, hs, Nat.zero_add, S_refK (Nat.lt_succ_self σ.length)]
   try simp [okBlk, arrA_ok]
  ·have hk1 : k = d - A := by
    have h0 : ¬ (k : Int) < ((d - A : Nat) : Int) := by simpa using h
    omega
   subst hk1
   rw [show A + (d - A) = d by omega]
   (repeat (first | simp only [↓QA, QB, Nat.reduceLT, reduceIte, Nat.reduceEqDiff, Nat.reduceAdd, Nat.reduceLeDiff, Nat.reduceMul, Nat.reduceBEq, QXFFaP3, V_slc] | refine rd0 rfl ?_))
   refine baseR [.cells (arrA 7 r)] (by first | rfl | simp) ?_
   try simp only [QS, QC, Nat.reduceLT, reduceIte, Nat.reduceEqDiff, Nat.reduceAdd, Nat.reduceLeDiff, Nat.reduceMul, Nat.reduceBEq, QXFFaP3, V_slc]
theorem full_same (x : AV) (r : Nat → Int) (a d : Nat) (hr : ∀ i, 0 ≤ r i ∧ r i ≤ 2) (hd : d ≤ 7) (σ : St) : Same T (.func 97 [] []) [x, .agg (arrA 7 r), .int .i64 a, .int .i64 d] σ (.int .i64 (pts r a d)) :=
 same_fn (af := a97) rfl (by simp [a97]) (full_gen x r a d hr hd σ)
theorem full_bound (x : AV) (r : Nat → Int) (a d : Nat) (hr : ∀ i, 0 ≤ r i ∧ r i ≤ 2) (hd : d ≤ 7) (σ : St) : Same T (.func 97 [x] []) [.agg (arrA 7 r), .int .i64 a, .int .i64 d] σ (.int .i64 (pts r a d)) :=
 same_fn (af := a97) rfl (by simp [a97]) (full_gen x r a d hr hd σ)
def setB (ds : List Int) : Nat := ds.foldl (fun s d => s ||| 2 ^ d.toNat) 0
theorem setB_app (ds : List Int) (d : Int) : setB (ds ++ [d]) = setB ds ||| 2 ^ d.toNat := by simp [setB]
theorem setB_bits : ∀ (ds : List Int) (s : Nat), (∀ d ∈ ds, 0 ≤ d) → ∀ i : Nat, (ds.foldl (fun s d => s ||| 2 ^ d.toNat) s).testBit i = (s.testBit i || ds.contains (i : Int))
 | [], s, _, i => by simp
 | d :: ds, s, h, i => by
  rw [List.foldl_cons, setB_bits ds _ (fun x hx => h x (by simp [hx])) i, Nat.testBit_or, Nat.testBit_two_pow, List.contains_cons, Bool.or_assoc]
  congr 2
  have := h d (by simp)
  rw [Bool.eq_iff_iff, decide_eq_true_eq, beq_iff_eq]
  omega
theorem setB_bit {ds : List Int} (h : ∀ d ∈ ds, 0 ≤ d) (i : Nat) : (setB ds).testBit i = ds.contains (i : Int) := by
 rw [setB, setB_bits ds 0 h i]; simp
theorem setB_lt {ds : List Int} {n : Nat} (h : ∀ d ∈ ds, 0 ≤ d ∧ d < n) : setB ds < 2 ^ n := by
 refine Nat.lt_pow_two_of_testBit _ fun i hi => ?_
 rw [setB_bit (fun d hd => (h d hd).1), Bool.eq_false_iff]
 intro hc
 rw [List.contains_iff_mem] at hc
 have := h _ hc
 omega
theorem setB_zero {ds : List Int} (h : ∀ d ∈ ds, 0 ≤ d) : setB ds = 0 ↔ ds = [] := by
 constructor
 ·intro h0
  cases ds with
  | nil => rfl
  | cons d ds =>
   exfalso
   have hd := h d (by simp)
   have h1 := setB_bit h d.toNat
   rw [h0, Nat.zero_testBit, show ((d.toNat : Nat) : Int) = d by omega] at h1
   simp at h1
 ·rintro rfl; rfl
theorem numbers_range : ∀ (n : Nat) (a lo : Int) (k : Nat), a ≤ lo → lo + k ≤ a + n → (numbers a n).filter (fun x => decide (lo ≤ x) && decide (x < lo + k)) = numbers lo k
 | 0, a, lo, k, h1, h2 => by
  have : k = 0 := by omega
  subst this
  rfl
 | n + 1, a, lo, k, h1, h2 => by
  simp only [numbers, List.filter_cons]
  by_cases h : a = lo
  ·subst h
   cases k with
   | zero =>
    have hz : (decide (a ≤ a) && decide (a < a + ((0 : Nat) : Int))) = false := by simp
    rw [hz]
    simp only [Bool.false_eq_true, if_false, numbers]
    rw [List.filter_eq_nil_iff]
    intro x hx
    have := (numbers_mem _ _ _).1 hx
    rw [Bool.and_eq_true, decide_eq_true_eq, decide_eq_true_eq]
    omega
   | succ k =>
    have hz : (decide (a ≤ a) && decide (a < a + ((k + 1 : Nat) : Int))) = true := by
     rw [Bool.and_eq_true, decide_eq_true_eq, decide_eq_true_eq]; omega
    rw [hz]
    simp only [if_true, numbers]
    congr 1
    rw [← numbers_range n (a + 1) (a + 1) k (Int.le_refl _) (by omega)]
    refine List.filter_congr fun x hx => ?_
    have := (numbers_mem _ _ _).1 hx
    rw [Bool.eq_iff_iff]
    simp
    omega
  ·have hz : (decide (lo ≤ a) && decide (a < lo + (k : Int))) = false := by simp; omega
   rw [hz]
   simp only [Bool.false_eq_true, if_false]
   exact numbers_range n (a + 1) lo k (by omega) (by omega)
theorem lst_setB {lo : Int} {k n : Nat} (ok : Int → Bool) (h0 : 0 ≤ lo) (h1 : lo + k ≤ n) : lst n (setB ((numbers lo k).filter ok)) = (numbers lo k).filter ok := by
 have hn : ∀ d ∈ (numbers lo k).filter ok, 0 ≤ d := fun d hd => by
  have := (numbers_mem _ _ _).1 (List.mem_filter.1 hd).1
  omega
 rw [lst]
 have e : (numbers 0 n).filter (fun i => decide (setB ((numbers lo k).filter ok) / 2 ^ i.toNat % 2 = 1)) = ((numbers 0 n).filter (fun x => decide (lo ≤ x) && decide (x < lo + k))).filter ok := by
  rw [List.filter_filter]
  refine List.filter_congr fun x hx => ?_
  have hx0 := (numbers_mem _ _ _).1 hx
  rw [← bit_div, setB_bit hn, show ((x.toNat : Nat) : Int) = x by omega, Bool.eq_iff_iff, List.contains_iff_mem, List.mem_filter, numbers_mem]
  simp
  constructor
  ·rintro ⟨⟨a, b⟩, c⟩; exact ⟨c, a, b⟩
  ·rintro ⟨c, a, b⟩; exact ⟨⟨a, b⟩, c⟩
 rw [e, numbers_range n 0 lo k h0 (by omega)]
theorem lst_flowers {v : Farm} (hv : Vd v) {p : Nat} (hp : p < v.plots.length) (rain but : List Int) : lst v.rain.length (setB (flowersOf v p rain but)) = flowersOf v p rain but := by
 have := (pl_ok hv hp).1
 rw [flowersOf, flower_at hp, waysIn]
 exact lst_setB _ this.1 (by omega)
def leafs : List Span → List Int → List (List Int)
 | [], l => [l]
 | s :: rs, l => (waysIn s).flatMap fun n => leafs rs (l ++ [n])
theorem leafs_to {rs : List Span} : ∀ k, k ≤ rs.length → (weatherTo rs k).flatMap (leafs (rs.drop k)) = leafs rs []
 | 0, _ => by simp [weatherTo]
 | k + 1, h => by
  have hk : k < rs.length := by omega
  rw [← leafs_to k (by omega), weatherTo_succ hk, List.flatMap_assoc]
  congr 1
  funext l
  rw [List.drop_eq_getElem_cons hk, leafs, ext, List.flatMap_map]
theorem flatMap_one {α : Type} : ∀ l : List α, (l.flatMap fun x => [x]) = l
 | [] => rfl
 | x :: l => by rw [List.flatMap_cons, flatMap_one l]; rfl
theorem leafs_weather (v : Farm) : leafs v.rain [] = weather v := by
 rw [← leafs_to v.rain.length (Nat.le_refl _), List.drop_length]
 exact flatMap_one _
theorem leafs_pre : ∀ (rs : List Span) (l c : List Int), c ∈ leafs rs l → ∃ t, c = l ++ t
 | [], l, c, h => by simp only [leafs, List.mem_singleton] at h; exact ⟨[], by simp [h]⟩
 | s :: rs, l, c, h => by
  simp only [leafs, List.mem_flatMap] at h
  obtain ⟨n, _, hc⟩ := h
  obtain ⟨t, rfl⟩ := leafs_pre rs _ c hc
  exact ⟨n :: t, by simp⟩
theorem numbers_lt : ∀ (n : Nat) (a : Int), (numbers a n).Pairwise (· ≠ ·)
 | 0, a => List.Pairwise.nil
 | n + 1, a => by
  simp only [numbers]
  refine List.Pairwise.cons (fun x hx => ?_) (numbers_lt n (a + 1))
  have := (numbers_mem _ _ _).1 hx
  omega
theorem leafs_ne : ∀ (rs : List Span) (l : List Int), (leafs rs l).Pairwise (· ≠ ·)
 | [], l => by simp [leafs]
 | s :: rs, l => by
  simp only [leafs]
  rw [List.pairwise_flatMap]
  refine ⟨fun n _ => leafs_ne rs _, List.Pairwise.imp ?_ (numbers_lt _ _)⟩
  intro n m hnm x hx y hy e
  obtain ⟨t, rfl⟩ := leafs_pre _ _ _ hx
  obtain ⟨u, hu⟩ := leafs_pre _ _ _ hy
  have e2 := e.trans hu
  rw [List.append_assoc, List.append_assoc] at e2
  have := List.append_cancel_left e2
  simp at this
  exact hnm this.1
def onceF {A X : Type} [DecidableEq A] (f : A → X → X × Bool) (a : A) (s : Option A × X) : (Option A × X) × Bool := if s.1 = some a then (s, true) else ((some a, (f a s.2).1), (f a s.2).2)
theorem iterF_once {A X : Type} [DecidableEq A] (f : A → X → X × Bool) : ∀ (l : List A) (o : Option A) (x : X), l.Pairwise (· ≠ ·) → (∀ a ∈ l, o ≠ some a) → (iterF (onceF f) l (o, x)).1.2 = (iterF f l x).1 ∧ (iterF (onceF f) l (o, x)).2 = (iterF f l x).2
 | [], o, x, _, _ => ⟨rfl, rfl⟩
 | a :: l, o, x, h, ho => by
  have h0 := ho a (by simp)
  obtain ⟨h1, h2⟩ := List.pairwise_cons.1 h
  have ih := iterF_once f l (some a) (f a x).1 h2 fun b hb e => h1 b hb (by simpa using e)
  simp only [iterF, onceF, h0, if_false]
  split
  ·exact ih
  ·exact ⟨rfl, rfl⟩
end Go.Am.Room
set_option maxRecDepth 4000
namespace Go.Am.Room
def QXFFaP4 := And.intro @encFarm_eq (And.intro @farmCells_eq (And.intro @encPlot_eq (And.intro @encLook_eq (And.intro @encSpan_eq (And.intro @S_mapPlot (And.intro @S_mapLook (And.intro @S_mapSpan (And.intro @T_sapp (And.intro @T_sapp0 (And.intro @List.length_append.{0} (And.intro @arrA_len (And.intro @arrA_take (And.intro @arrA_drop (And.intro @S_arrA (And.intro @arrA_cell (And.intro @V_min2 (And.intro @Nat.mul_one (@Int.toNat_natCast))))))))))))))))))
def db (v : Farm) (b m : Nat) : List AV := farmCells v ++ [.int .i64 b, .map m]
theorem db_0 (v : Farm) (b m : Nat) : (db v b m)[0]? = some (.lit (v.rain.map encSpan) false none) := by simp [db, farmCells]
theorem db_1 (v : Farm) (b m : Nat) : (db v b m)[1]? = some (.int .i64 v.full) := by simp [db, farmCells]
theorem db_2 (v : Farm) (b m : Nat) : (db v b m)[2]? = some (.int .i64 v.ripe) := by simp [db, farmCells]
theorem db_3 (v : Farm) (b m : Nat) : (db v b m)[3]? = some (.int .i64 v.way.lo) := by simp [db, farmCells]
theorem db_4 (v : Farm) (b m : Nat) : (db v b m)[4]? = some (.int .i64 v.way.hi) := by simp [db, farmCells]
theorem db_5 (v : Farm) (b m : Nat) : (db v b m)[5]? = some (.lit (v.plots.map encPlot) false none) := by simp [db, farmCells]
theorem db_6 (v : Farm) (b m : Nat) : (db v b m)[6]? = some (.lit (v.looks.map encLook) false none) := by simp [db, farmCells]
theorem db_7 (v : Farm) (b m : Nat) : (db v b m)[7]? = some (.int .i64 b) := by simp [db, farmCells]
theorem db_8 (v : Farm) (b m : Nat) : (db v b m)[8]? = some (.map m) := by simp [db, farmCells]
theorem db_ok (v : Farm) (b : Nat) {m k : Nat} (h : m < k) : okVs k (db v b m) := by
 have := okVs_up (m := k) _ (data_farm v).1
 refine okVs_app this ?_
 simp [okVs, okV, h]
def flArr (v : Farm) (c bl : List Int) (k : Nat) (q : Nat) : Int := if q < k then (setB (flowersOf v q c bl) : Int) else 0
def flGo (v : Farm) (c bl : List Int) : Nat → Nat → Nat × Bool
 | 0, p => (p, true)
 | n + 1, p => if (flowersOf v p c bl).isEmpty then (p, false) else flGo v c bl n (p + 1)
theorem flGo_all (v : Farm) (c bl : List Int) : ∀ n p, (flGo v c bl n p).2 = ((List.range n).all fun i => !(flowersOf v (p + i) c bl).isEmpty) ∧ ((flGo v c bl n p).2 = true → (flGo v c bl n p).1 = p + n)
 | 0, p => ⟨rfl, fun _ => rfl⟩
 | n + 1, p => by
  obtain ⟨h1, h2⟩ := flGo_all v c bl n (p + 1)
  have hr : (List.range (n + 1)).all (fun i => !(flowersOf v (p + i) c bl).isEmpty) = (!(flowersOf v p c bl).isEmpty && (List.range n).all fun i => !(flowersOf v (p + 1 + i) c bl).isEmpty) := by
   rw [List.range_succ_eq_map, List.all_cons, List.all_map]
   have e : ((fun i => !(flowersOf v (p + i) c bl).isEmpty) ∘ Nat.succ) = fun i => !(flowersOf v (p + 1 + i) c bl).isEmpty := by
    funext i
    simp only [Function.comp, show p + Nat.succ i = p + 1 + i by omega]
   rw [e]
   rfl
  simp only [flGo]
  split
  ·rename_i h
   rw [hr, h]
   exact ⟨rfl, fun h => by cases h⟩
  ·rename_i h
   rw [hr, Bool.not_eq_true] at *
   rw [h, h1]
   refine ⟨rfl, fun h => ?_⟩
   rw [h2 (by rw [h1]; exact h)]
   omega
theorem flArr_next {v : Farm} {c bl : List Int} {k : Nat} : updF (flArr v c bl k) k (setB (flowersOf v k c bl)) = flArr v c bl (k + 1) := by
 funext i
 simp only [updF, flArr]
 by_cases h : i = k
 ·subst h; simp
 ·simp only [h, if_false]
  by_cases h2 : i < k
  ·rw [if_pos h2, if_pos (by omega)]
  ·rw [if_neg h2, if_neg (by omega)]
theorem flArr_same {v : Farm} {c bl : List Int} {k : Nat} : updF (flArr v c bl k) k 0 = flArr v c bl k := by
 funext i
 simp only [updF]
 by_cases h : i = k
 ·subst h; simp [flArr]
 ·simp only [h, if_false]
theorem updF_updF (f : Nat → Int) (k : Nat) (a b : Int) : updF (updF f k a) k b = updF f k b := by
 funext i
 simp only [updF]
 split <;> rfl
theorem flUp_false {v : Farm} {p : Int} {c bl : List Int} {d : Int} {k : Nat} (hk : k < v.looks.length) (h : lookOk p bl c d k v.looks[k] = false) : flowerOk v p c bl d = false := by
 simp only [flowerOk]
 rw [Bool.eq_false_iff]
 intro ha
 have := List.all_eq_true.1 ha k (by simpa using hk)
 rw [List.getElem?_eq_getElem hk] at this
 simp only at this
 rw [h] at this
 cases this
theorem flowers_same (v : Farm) (hv : Vd v) (b m p : Nat) (bl c : List Int) (hb : ButIs b bl) (hc : RainOk v c) (σ : St) (hp : cellsAt σ p = some (db v b m)) :
  Same T (.func 102 [] []) [.ptr p 0, .agg (arrA 7 (rl c))] σ (.tuple [.agg (arrA 4 (flArr v c bl (flGo v c bl v.plots.length 0).1)), .bool (flGo v c bl v.plots.length 0).2]) := by
 refine same_fn (af := a102) rfl (by simp [a102]) ?_
 have hno := hv.npl
 have hnr := hv.nra
 have hnl := hv.nlk
 have hpl := cells_lt hp
 have h0 := fun τ => cells_app hp τ
 have hbd := rain_bd hv hc
 have hp2 : p < σ.length + 2 := by omega
 have hp3 : p < σ.length + 3 := by omega
 obtain ⟨R, hR⟩ : ∃ R, flGo v c bl v.plots.length 0 = R := ⟨_, rfl⟩
 rw [hR]
 have hz : [AV.int .i64 0, .int .i64 0, .int .i64 0, .int .i64 0] = arrA 4 (flArr v c bl 0) := by simp [arrA, flArr, List.range_succ]
 obtain ⟨N, hN⟩ : ∃ N, σ.length = N := ⟨_, rfl⟩
 (repeat (first | simp only [↓QA, QB, Nat.reduceLT, reduceIte, Nat.reduceEqDiff, Nat.reduceAdd, Nat.reduceLeDiff, Nat.reduceMul, Nat.reduceBEq, QXFFaP4, db_0, db_1, db_2, db_3, db_4, db_5, db_6, db_7, db_8, a102, h0, hz] | refine rd0 rfl ?_))
 refine loopE (S := Nat) 0 (fun k => k ≤ v.plots.length ∧ flGo v c bl (v.plots.length - k) k = R) (fun k => v.plots.length - k)
  (fun k => [(0, .ptr p 0), (3, .ptr σ.length 0), (4, .ptr (σ.length + 1) 0), (6, .func 97 [.ptr p 0] []), (19, .lit (v.plots.map encPlot) false none), (20, .int .i64 v.plots.length), (21, .int .i64 k)])
  (fun k => σ ++ [.cells (arrA 7 (rl c)), .cells (arrA 4 (flArr v c bl k))]) ⟨Nat.zero_le _, by simpa using hR⟩ (by simp) ?_ fun k hk => ?_
 ·try simp only [TrimX, QE, Nat.reduceLT, reduceIte, Nat.reduceEqDiff, Nat.reduceAdd, Nat.reduceLeDiff, Nat.reduceMul, Nat.reduceBEq, QXFFaP4, db_0, db_1, db_2, db_3, db_4, db_5, db_6, db_7, db_8, hp2, hp3]
  try simp
 ·obtain ⟨hk, hq⟩ := hk
  (repeat (first | simp only [↓QA, QB, Nat.reduceLT, reduceIte, Nat.reduceEqDiff, Nat.reduceAdd, Nat.reduceLeDiff, Nat.reduceMul, Nat.reduceBEq, QXFFaP4, db_0, db_1, db_2, db_3, db_4, db_5, db_6, db_7, db_8, L102_0] | refine rd0 rfl ?_))
  refine iteP_intro (fun hd => ?_) fun hd => ?_
  ·have hk1 : k < v.plots.length := by simpa using hd
   have hw := wrapN hk1 (by omega)
   have hplk := (pl_ok hv hk1).1
   have hfb := flowers_bd hv hk1 c bl
   have hfe : flowersOf v k c bl = (numbers v.plots[k].flower.lo (v.plots[k].flower.hi + 1 - v.plots[k].flower.lo).toNat).filter (flowerOk v k c bl) := by rw [flowersOf, flower_at hk1]; rfl
   rw [show v.plots.length - k = (v.plots.length - (k + 1)) + 1 by omega] at hq
   simp only [flGo] at hq
   obtain ⟨y, hy⟩ : ∃ y, v.plots[k] = y := ⟨_, rfl⟩
   rw [hy] at hplk hfe
   obtain ⟨F, hF⟩ : ∃ F, flowersOf v k c bl = F := ⟨_, rfl⟩
   have hnx := @flArr_next v c bl k
   rw [hF] at hq hfe hfb hnx
   obtain ⟨L, hL⟩ : ∃ L : Nat, y.flower.lo = (L : Int) := ⟨y.flower.lo.toNat, by omega⟩
   obtain ⟨H, hH⟩ : ∃ H : Nat, y.flower.hi = (H : Int) := ⟨y.flower.hi.toNat, by omega⟩
   rw [hL, hH] at hfe hplk
   have i4 : (0 : Int) ≤ (k : Int) ∧ (k : Int) < ((4 : Nat) : Int) := ⟨by omega, by omega⟩
   have c4 : k + 1 ≤ 4 := by omega
   have hk4 : k < 4 := by omega
   (repeat (first | simp only [↓QA, QB, Nat.reduceLT, reduceIte, Nat.reduceEqDiff, Nat.reduceAdd, Nat.reduceLeDiff, Nat.reduceMul, Nat.reduceBEq, QXFFaP4, db_0, db_1, db_2, db_3, db_4, db_5, db_6, db_7, db_8, hk1, hy] | refine rd0 rfl ?_))
   refine loopE (S := Nat × List Int) (L, []) (fun a => L ≤ a.1 ∧ a.1 ≤ H + 1 ∧ a.2 ++ (numbers (a.1 : Int) ((H : Int) + 1 - a.1).toNat).filter (flowerOk v k c bl) = F) (fun a => H + 1 - a.1)
    (fun a => [(0, .ptr p 0), (3, .ptr σ.length 0), (4, .ptr (σ.length + 1) 0), (6, .func 97 [.ptr p 0] []), (7, .int .i64 k), (8, .ptr (σ.length + 2) 0), (9, .int .i64 a.1), (19, .lit (v.plots.map encPlot) false none), (20, .int .i64 v.plots.length), (21, .int .i64 k)])
    (fun a => σ ++ [.cells (arrA 7 (rl c)), .cells (arrA 4 (updF (flArr v c bl k) k (setB a.2))), .cells [.str y.name, .int .i64 y.flower.lo, .int .i64 y.flower.hi, .int .i64 y.hands]]) ⟨Nat.le_refl _, by simp only; omega, by rw [hfe]; rfl⟩ ?_ ?_ fun a ha => ?_
   ·have : (setB [] : Int) = 0 := rfl
    simp only [this, flArr_same]
   ·try simp only [TrimX, QE, Nat.reduceLT, reduceIte, Nat.reduceEqDiff, Nat.reduceAdd, Nat.reduceLeDiff, Nat.reduceMul, Nat.reduceBEq, QXFFaP4, db_0, db_1, db_2, db_3, db_4, db_5, db_6, db_7, db_8, hp2, hp3, hL]
    try simp
   ·obtain ⟨d, acc⟩ := a
    obtain ⟨hd0, hd1, hacc⟩ := ha
    simp only at hd0 hd1 hacc
    have hadF : ∀ x ∈ acc, 0 ≤ x ∧ x < v.rain.length := fun x hx => hfb.2 x (by rw [← hacc]; simp [hx])
    (repeat (first | simp only [↓QA, QB, Nat.reduceLT, reduceIte, Nat.reduceEqDiff, Nat.reduceAdd, Nat.reduceLeDiff, Nat.reduceMul, Nat.reduceBEq, QXFFaP4, db_0, db_1, db_2, db_3, db_4, db_5, db_6, db_7, db_8, L102_2] | refine rd0 rfl ?_))
    refine iteP_intro (fun h => ?_) fun h => ?_
    ·have hd2 : d ≤ H := by
      have h0 : (d : Int) ≤ y.flower.hi := by simpa using h
      omega
     have hwd := wrapN (show d < H + 1 by omega) (by omega)
     rw [ways_step (show (d : Int) ≤ (H : Int) by omega), List.filter_cons, show (d : Int) + 1 = ((d + 1 : Nat) : Int) by omega] at hacc
     (repeat (first | simp only [↓QA, QB, Nat.reduceLT, reduceIte, Nat.reduceEqDiff, Nat.reduceAdd, Nat.reduceLeDiff, Nat.reduceMul, Nat.reduceBEq, QXFFaP4, db_0, db_1, db_2, db_3, db_4, db_5, db_6, db_7, db_8, h0] | refine rd0 rfl ?_))
     refine loopE (S := Nat) 0 (fun i => i ≤ v.looks.length ∧ flowerUpTo v k c bl d i = true) (fun i => v.looks.length - i)
      (fun i => [(0, .ptr p 0), (3, .ptr σ.length 0), (4, .ptr (σ.length + 1) 0), (6, .func 97 [.ptr p 0] []), (7, .int .i64 k), (8, .ptr (σ.length + 2) 0), (9, .int .i64 d), (19, .lit (v.plots.map encPlot) false none), (20, .int .i64 v.plots.length), (21, .int .i64 k), (40, .lit (v.looks.map encLook) false none), (41, .int .i64 v.looks.length), (42, .int .i64 i)])
      (fun i => σ ++ [.cells (arrA 7 (rl c)), .cells (arrA 4 (updF (flArr v c bl k) k (setB acc))), .cells [.str y.name, .int .i64 y.flower.lo, .int .i64 y.flower.hi, .int .i64 y.hands]]) ⟨Nat.zero_le _, rfl⟩ (by simp) ?_ fun i hi => ?_
     ·try simp only [TrimX, QE, Nat.reduceLT, reduceIte, Nat.reduceEqDiff, Nat.reduceAdd, Nat.reduceLeDiff, Nat.reduceMul, Nat.reduceBEq, QXFFaP4, db_0, db_1, db_2, db_3, db_4, db_5, db_6, db_7, db_8, hp2, hp3]
      try simp
     ·obtain ⟨hi, hup⟩ := hi
      (repeat (first | simp only [↓QA, QB, Nat.reduceLT, reduceIte, Nat.reduceEqDiff, Nat.reduceAdd, Nat.reduceLeDiff, Nat.reduceMul, Nat.reduceBEq, QXFFaP4, db_0, db_1, db_2, db_3, db_4, db_5, db_6, db_7, db_8, L102_4] | refine rd0 rfl ?_))
      refine iteP_intro (fun h2 => ?_) fun h2 => ?_
      ·have hi1 : i < v.looks.length := by simpa using h2
       have hwi := wrapN hi1 (by omega)
       have hsu := flowerUpTo_succ hi1 k c bl d
       have hfa := @flUp_false v k c bl d i hi1
       have hlx := hv.lk _ (List.getElem_mem hi1)
       rw [hup, Bool.true_and] at hsu
       obtain ⟨x, hx⟩ : ∃ x, v.looks[i] = x := ⟨_, rfl⟩
       rw [hx] at hsu hlx hfa
       have hlo : lookOk k bl c d i x = (!(x.plot == (k : Int)) || bl.contains (i : Int) || ptsL c d x.day == x.points) := by
        simp only [lookOk]
        congr 3
       obtain ⟨D, hD⟩ : ∃ D : Nat, x.day = (D : Int) := ⟨x.day.toNat, by omega⟩
       have hpe : ptsL c d x.day = pts (rl c) d D := by rw [ptsL, hD, Int.toNat_natCast, Int.toNat_natCast]
       rw [hpe] at hlo
       have hfu := fun τ => full_bound (.ptr p 0) (rl c) d D hbd (by omega) τ
       obtain ⟨Z, hZ⟩ : ∃ Z, pts (rl c) d D = Z := ⟨_, rfl⟩
       rw [hZ] at hlo
       simp only [hZ] at hfu
       have vs := V_shr b i (by omega)
       have va := V_and1 (b / 2 ^ i) (Nat.lt_of_le_of_lt (Nat.div_le_self _ _) hb.lt)
       have hbi := hb.bit i (by omega)
       (repeat (first | simp only [↓QA, QB, Nat.reduceLT, reduceIte, Nat.reduceEqDiff, Nat.reduceAdd, Nat.reduceLeDiff, Nat.reduceMul, Nat.reduceBEq, QXFFaP4, db_0, db_1, db_2, db_3, db_4, db_5, db_6, db_7, db_8, hi1, hx] | refine rd0 rfl ?_))
       refine rK_dreg1 [.cells [.int .i64 0, .int .i64 0, .int .i64 0]] rfl ?_
       (repeat (first | simp only [↓QA, QB, Nat.reduceLT, reduceIte, Nat.reduceEqDiff, Nat.reduceAdd, Nat.reduceLeDiff, Nat.reduceMul, Nat.reduceBEq, QXFFaP4, db_0, db_1, db_2, db_3, db_4, db_5, db_6, db_7, db_8, hD] | refine rd0 rfl ?_))
       refine callD_same (hfu _) ?_
       (repeat (first | simp only [↓QA, QB, Nat.reduceLT, reduceIte, Nat.reduceEqDiff, Nat.reduceAdd, Nat.reduceLeDiff, Nat.reduceMul, Nat.reduceBEq, QXFFaP4, db_0, db_1, db_2, db_3, db_4, db_5, db_6, db_7, db_8, hD] | refine rd0 rfl ?_))
       cases hl : (x.plot == (k : Int))
       ·have hlk : lookOk k bl c d i x = true := by rw [hlo, hl]; rfl
        rw [hlk] at hsu
        (repeat (first | simp only [↓QA, QB, Nat.reduceLT, reduceIte, Nat.reduceEqDiff, Nat.reduceAdd, Nat.reduceLeDiff, Nat.reduceMul, Nat.reduceBEq, QXFFaP4, db_0, db_1, db_2, db_3, db_4, db_5, db_6, db_7, db_8, hl, hwi] | refine rd0 rfl ?_))
        refine ⟨i + 1, ⟨by omega, hsu⟩, by omega, ?_⟩
        try simp only [TrimX, QE, Nat.reduceLT, reduceIte, Nat.reduceEqDiff, Nat.reduceAdd, Nat.reduceLeDiff, Nat.reduceMul, Nat.reduceBEq, QXFFaP4, db_0, db_1, db_2, db_3, db_4, db_5, db_6, db_7, db_8, hp2, hp3, hwi]
        try simp [okBlk, okVs, okV]
       ·cases hbc : bl.contains (i : Int)
        ·rw [hbc, Bool.not_false] at hbi
         rw [hl, hbc] at hlo
         simp only [Bool.not_true, Bool.false_or] at hlo
         have hxz : (x.points == Z) = (Z == x.points) := by rw [Bool.eq_iff_iff, beq_iff_eq, beq_iff_eq]; exact eq_comm
         (repeat (first | simp only [↓QA, QB, Nat.reduceLT, reduceIte, Nat.reduceEqDiff, Nat.reduceAdd, Nat.reduceLeDiff, Nat.reduceMul, Nat.reduceBEq, QXFFaP4, db_0, db_1, db_2, db_3, db_4, db_5, db_6, db_7, db_8, hl, h0, vs, va, hbi, hxz] | refine rd0 rfl ?_))
         cases hzx : (Z == x.points)
         ·rw [hzx] at hlo
          rw [hfa hlo] at hacc
          simp only [Bool.false_eq_true, if_false] at hacc
          (repeat (first | simp only [↓QA, QB, Nat.reduceLT, reduceIte, Nat.reduceEqDiff, Nat.reduceAdd, Nat.reduceLeDiff, Nat.reduceMul, Nat.reduceBEq, QXFFaP4, db_0, db_1, db_2, db_3, db_4, db_5, db_6, db_7, db_8, hwd] | refine rd0 rfl ?_))
          refine ⟨(d + 1, acc), ⟨by simp only; omega, by simp only; omega, hacc⟩, by simp only; omega, ?_⟩
          try simp only [TrimX, QE, Nat.reduceLT, reduceIte, Nat.reduceEqDiff, Nat.reduceAdd, Nat.reduceLeDiff, Nat.reduceMul, Nat.reduceBEq, QXFFaP4, db_0, db_1, db_2, db_3, db_4, db_5, db_6, db_7, db_8, hp2, hp3, hwd]
          try simp [okBlk, okVs, okV]
         ·rw [hzx] at hlo
          rw [hlo] at hsu
          (repeat (first | simp only [↓QA, QB, Nat.reduceLT, reduceIte, Nat.reduceEqDiff, Nat.reduceAdd, Nat.reduceLeDiff, Nat.reduceMul, Nat.reduceBEq, QXFFaP4, db_0, db_1, db_2, db_3, db_4, db_5, db_6, db_7, db_8, hwi] | refine rd0 rfl ?_))
          refine ⟨i + 1, ⟨by omega, hsu⟩, by omega, ?_⟩
          try simp only [TrimX, QE, Nat.reduceLT, reduceIte, Nat.reduceEqDiff, Nat.reduceAdd, Nat.reduceLeDiff, Nat.reduceMul, Nat.reduceBEq, QXFFaP4, db_0, db_1, db_2, db_3, db_4, db_5, db_6, db_7, db_8, hp2, hp3, hwi]
          try simp [okBlk, okVs, okV]
        ·rw [hbc, Bool.not_true] at hbi
         have hlk : lookOk k bl c d i x = true := by rw [hlo, hl, hbc]; rfl
         rw [hlk] at hsu
         (repeat (first | simp only [↓QA, QB, Nat.reduceLT, reduceIte, Nat.reduceEqDiff, Nat.reduceAdd, Nat.reduceLeDiff, Nat.reduceMul, Nat.reduceBEq, QXFFaP4, db_0, db_1, db_2, db_3, db_4, db_5, db_6, db_7, db_8, hl, h0, vs, va, hbi, hwi] | refine rd0 rfl ?_))
         refine ⟨i + 1, ⟨by omega, hsu⟩, by omega, ?_⟩
         try simp only [TrimX, QE, Nat.reduceLT, reduceIte, Nat.reduceEqDiff, Nat.reduceAdd, Nat.reduceLeDiff, Nat.reduceMul, Nat.reduceBEq, QXFFaP4, db_0, db_1, db_2, db_3, db_4, db_5, db_6, db_7, db_8, hp2, hp3, hwi]
         try simp [okBlk, okVs, okV]
      ·have hi1 : i = v.looks.length := by simp at h2; omega
       rw [hi1] at hup
       have hok : flowerOk v k c bl d = true := hup
       rw [hok] at hacc
       simp only [if_true] at hacc
       have hsl : setB acc < 2 ^ 7 := setB_lt fun x hx => by have := hadF x hx; omega
       have h2d : 2 ^ d ≤ 2 ^ 7 := Nat.pow_le_pow_right (by omega) (by omega)
       have vsh := V_shl1 d (by omega)
       have vor := V_or (setB acc) (2 ^ d) (by omega) (by omega)
       have hge := arrA_get 4 (updF (flArr v c bl k) k (setB acc)) hk4
       have hup2 : updF (flArr v c bl k) k (setB acc) k = (setB acc : Int) := by simp [updF]
       rw [hup2] at hge
       have hst := arrA_set 4 (updF (flArr v c bl k) k (setB acc)) ((setB acc ||| 2 ^ d : Nat) : Int) hk4
       rw [updF_updF] at hst
       have hsa : setB (acc ++ [(d : Int)]) = setB acc ||| 2 ^ d := by rw [setB_app, Int.toNat_natCast]
       (repeat (first | simp only [↓QA, QB, Nat.reduceLT, reduceIte, Nat.reduceEqDiff, Nat.reduceAdd, Nat.reduceLeDiff, Nat.reduceMul, Nat.reduceBEq, QXFFaP4, db_0, db_1, db_2, db_3, db_4, db_5, db_6, db_7, db_8, i4, c4, Nat.zero_add, hge, vsh, vor, hst, hwd] | refine rd0 rfl ?_))
       refine ⟨(d + 1, acc ++ [(d : Int)]), ⟨by simp only; omega, by simp only; omega, by rw [← hacc]; simp⟩, by simp only; omega, ?_⟩
       try simp only [TrimX, QE, Nat.reduceLT, reduceIte, Nat.reduceEqDiff, Nat.reduceAdd, Nat.reduceLeDiff, Nat.reduceMul, Nat.reduceBEq, QXFFaP4, db_0, db_1, db_2, db_3, db_4, db_5, db_6, db_7, db_8, hp2, hp3, hwd, hsa]
       try simp [okBlk, okVs, okV, arrA_ok]
    ·have hd2 : d = H + 1 := by
      have h0 : ¬ (d : Int) ≤ y.flower.hi := by simpa using h
      omega
     rw [ways_end (show ¬ (d : Int) ≤ (H : Int) by omega)] at hacc
     simp only [List.filter_nil, List.append_nil] at hacc
     subst hacc
     have hge := arrA_get 4 (updF (flArr v c bl k) k (setB acc)) hk4
     have hup2 : updF (flArr v c bl k) k (setB acc) k = (setB acc : Int) := by simp [updF]
     rw [hup2] at hge
     have hsz := setB_zero (fun x hx => (hadF x hx).1)
     cases hz0 : ((setB acc : Int) == 0)
     ·have hz0' : setB acc ≠ 0 := by intro e; rw [e] at hz0; cases hz0
      have hne : acc ≠ [] := fun e => hz0' (hsz.2 e)
      have hie : acc.isEmpty = false := by cases acc with
       | nil => exact absurd rfl hne
       | cons a b => rfl
      rw [hie] at hq
      simp only [Bool.false_eq_true, if_false] at hq
      (repeat (first | simp only [↓QA, QB, Nat.reduceLT, reduceIte, Nat.reduceEqDiff, Nat.reduceAdd, Nat.reduceLeDiff, Nat.reduceMul, Nat.reduceBEq, QXFFaP4, db_0, db_1, db_2, db_3, db_4, db_5, db_6, db_7, db_8, i4, Nat.zero_add, hge, hz0, hw] | refine rd0 rfl ?_))
      refine ⟨k + 1, ⟨by omega, hq⟩, by omega, ?_⟩
      try simp only [TrimX, QE, Nat.reduceLT, reduceIte, Nat.reduceEqDiff, Nat.reduceAdd, Nat.reduceLeDiff, Nat.reduceMul, Nat.reduceBEq, QXFFaP4, db_0, db_1, db_2, db_3, db_4, db_5, db_6, db_7, db_8, hp2, hp3, hw, hnx]
      try simp [okBlk, okVs, okV, arrA_ok]
     ·have hz0' : setB acc = 0 := by
       have : (setB acc : Int) = 0 := by simpa using hz0
       omega
      have hne : acc = [] := hsz.1 hz0'
      rw [hne] at hq
      simp only [List.isEmpty_nil, if_true] at hq
      subst hq
      have hzz : updF (flArr v c bl k) k (setB acc) = flArr v c bl k := by rw [hz0']; exact flArr_same
      simp only [hzz] at hge
      (repeat (first | simp only [↓QA, QB, Nat.reduceLT, reduceIte, Nat.reduceEqDiff, Nat.reduceAdd, Nat.reduceLeDiff, Nat.reduceMul, Nat.reduceBEq, QXFFaP4, db_0, db_1, db_2, db_3, db_4, db_5, db_6, db_7, db_8, i4, Nat.zero_add, hge, hz0, hzz] | refine rd0 rfl ?_))
      refine baseR [.cells (arrA 7 (rl c)), .cells (arrA 4 (flArr v c bl k)), .cells [.str y.name, .int .i64 y.flower.lo, .int .i64 y.flower.hi, .int .i64 y.hands]] (by first | rfl | simp) ?_
      try simp only [QS, QC, Nat.reduceLT, reduceIte, Nat.reduceEqDiff, Nat.reduceAdd, Nat.reduceLeDiff, Nat.reduceMul, Nat.reduceBEq, QXFFaP4, db_0, db_1, db_2, db_3, db_4, db_5, db_6, db_7, db_8]
  ·have hk1 : k = v.plots.length := by simp at hd; omega
   subst hk1
   rw [Nat.sub_self] at hq
   simp only [flGo] at hq
   subst hq
   (repeat (first | simp only [↓QA, QB, Nat.reduceLT, reduceIte, Nat.reduceEqDiff, Nat.reduceAdd, Nat.reduceLeDiff, Nat.reduceMul, Nat.reduceBEq, QXFFaP4, db_0, db_1, db_2, db_3, db_4, db_5, db_6, db_7, db_8] | refine rd0 rfl ?_))
   refine baseR [.cells (arrA 7 (rl c)), .cells (arrA 4 (flArr v c bl v.plots.length))] (by first | rfl | simp) ?_
   try simp only [QS, QC, Nat.reduceLT, reduceIte, Nat.reduceEqDiff, Nat.reduceAdd, Nat.reduceLeDiff, Nat.reduceMul, Nat.reduceBEq, QXFFaP4, db_0, db_1, db_2, db_3, db_4, db_5, db_6, db_7, db_8]
structure ObjAt {X : Type} (S : X → St) (obj : List AV) (p N : Nat) : Prop where
 len : ∀ x, (S x).length = N
 at0 : ∀ x, cellsAt (S x) p = some obj
 pl : p < N
def outS {X : Type} (Z ZD : X → St) (r : X × Bool) : St := if r.2 = true then Z r.1 else ZD r.1
def YieldsS {A X : Type} (Z ZD : X → St) (id : Nat) (args : A → List AV) (P : A → Prop) (f : A → X → X × Bool) : Prop :=
 ∀ t, P t → ∀ x τ, Run T (.callv (.yield id) (args t) (Z x ++ τ)) fun o => o.v = .bool (f t x).2 ∧ ∃ τ', o.σ = outS Z ZD (f t x) ++ (τ ++ τ')
theorem range_ofS {X : Type} {S : X → St} {obj : List AV} {p N : Nat} (hS : ObjAt S obj p N) (U UD : X → St) (n : Nat) (hU : ∀ x, (U x).length = n) (hUD : ∀ x, (UD x).length = n)
  (J : AJump) (e : Env) (k : Nat) (ps : List Nat) (a bb : ACode) (g : FuncId) (ek : Env.get e k = .func g [] [.ptr (N + n) 0]) (r : X × Bool) (x : X)
  (hrun : Run T (.call g [.yield (N + n + 1), .ptr (N + n) 0] (S x ++ (U x ++ [.cells [.ptr p 0], .loop .ready none e ps a bb]))) fun o => ∃ τ', o.σ = outS (fun x => S x ++ (U x ++ [.cells [.ptr p 0], .loop .ready none e ps a bb])) (fun x => S x ++ (UD x ++ [.cells [.ptr p 0], .loop .done (some J) e ps a bb])) r ++ τ') (K : KJ)
  (hT : ∀ τ, r.2 = true → K none e (S r.1 ++ (U r.1 ++ (.cells [.ptr p 0] :: .dead :: τ))))
  (hD : ∀ τ, r.2 = false → K (some J) e (S r.1 ++ (UD r.1 ++ (.cells [.ptr p 0] :: .dead :: τ)))) :
  rK (K := ⟨K⟩) T (.rangeFunc (.t k) ps a bb) e (S x ++ (U x ++ [.cells [.ptr p 0]])) := by
 have hlen : (S x ++ (U x ++ [ABlk.cells [.ptr p 0]])).length = N + n + 1 := by simp [hS.len, hU]; omega
 have hout : ∀ (A W : St) (lp : ABlk) (τ' : St), A.length = N → W.length = n → (A ++ (W ++ [ABlk.cells [.ptr p 0], lp]) ++ τ')[N + n + 1]? = some lp ∧ (A ++ (W ++ [ABlk.cells [.ptr p 0], lp]) ++ τ').set (N + n + 1) .dead = A ++ (W ++ (.cells [.ptr p 0] :: .dead :: τ')) := by
  intro A W lp τ' hA hW
  have h1 : N + n + 1 = (A ++ W).length + 1 := by simp [hA, hW]
  have h2 : A ++ (W ++ [ABlk.cells [.ptr p 0], lp]) ++ τ' = (A ++ W) ++ (.cells [.ptr p 0] :: lp :: τ') := by simp
  rw [h1, h2]
  constructor
  ·rw [st_get]; rfl
  ·rw [st_set]; simp
 refine rK_range (by rw [q_evt, ek]) (by
  rw [hlen, List.append_assoc (S x), List.append_assoc (U x)]
  exact hrun) fun o ho => ?_
 obtain ⟨τ', hσ⟩ := ho
 rw [hlen, hσ]
 cases hr2 : r.2
 ·have hD' := hD τ' hr2
  obtain ⟨g1, g2⟩ := hout (S r.1) (UD r.1) (.loop .done (some J) e ps a bb) τ' (hS.len _) (hUD _)
  simp only [outS, hr2, Bool.false_eq_true, if_false]
  rw [g1, g2]
  exact ⟨_, _, _, _, _, _, rfl, by simp, hD'⟩
 ·have hT' := hT τ' hr2
  obtain ⟨g1, g2⟩ := hout (S r.1) (U r.1) (.loop .ready none e ps a bb) τ' (hS.len _) (hU _)
  simp only [outS, hr2, if_true]
  rw [g1, g2]
  exact ⟨_, _, _, _, _, _, rfl, by simp, hT'⟩
theorem yields_ofS {X A : Type} {S : X → St} {obj : List AV} {p N : Nat} (hS : ObjAt S obj p N) (U UD : X → St) (n : Nat) (hU : ∀ x, (U x).length = n) (hUD : ∀ x, (UD x).length = n) (J : AJump) (e : Env) (ps : List Nat) (args : A → List AV) (hps : ∀ t, ps.length = (args t).length) (a bb : ACode) {P : A → Prop} {f : A → X → X × Bool}
  (h : ∀ t, P t → ∀ x τ, wp T a (bindPs e ps (args t)) (S x ++ (U x ++ (.cells [.ptr p 0] :: .loop .ready none e ps a bb :: τ))) (fun j e' σ' => j = none ∧ ∃ τ1, σ' = S x ++ (U x ++ (.cells [.ptr p 0] :: .loop .ready none e ps a bb :: (τ ++ τ1))) ∧
   wp T bb e' (S x ++ (U x ++ (.cells [.ptr p 0] :: .loop .busy none e ps a bb :: (τ ++ τ1)))) (fun j e'' σ'' => ((f t x).2 = true ∧ j = none ∧ ∃ τ', σ'' = S (f t x).1 ++ (U (f t x).1 ++ (.cells [.ptr p 0] :: .loop .busy none e ps a bb :: (τ ++ τ')))) ∨
    ((f t x).2 = false ∧ j = some J ∧ ∃ τ', σ'' = S (f t x).1 ++ (UD (f t x).1 ++ (.cells [.ptr p 0] :: .loop .busy none e ps a bb :: (τ ++ τ'))))))) :
  YieldsS (fun x => S x ++ (U x ++ [.cells [.ptr p 0], .loop .ready none e ps a bb])) (fun x => S x ++ (UD x ++ [.cells [.ptr p 0], .loop .done (some J) e ps a bb])) (N + n + 1) args P f := by
 intro t ht x τ
 have hget : ∀ (A W : St) (lp : ABlk) (υ : St), A.length = N → W.length = n → (A ++ (W ++ (ABlk.cells [.ptr p 0] :: lp :: υ)))[N + n + 1]? = some lp := by
  intro A W lp υ hA hW
  have h1 : N + n + 1 = (A ++ W).length + 1 := by simp [hA, hW]
  rw [h1, ← List.append_assoc, st_get]; rfl
 have hset : ∀ (A W : St) (lp l2 : ABlk) (υ : St), A.length = N → W.length = n → (A ++ (W ++ (ABlk.cells [.ptr p 0] :: lp :: υ))).set (N + n + 1) l2 = A ++ (W ++ (ABlk.cells [.ptr p 0] :: l2 :: υ)) := by
  intro A W lp l2 υ hA hW
  have h1 : N + n + 1 = (A ++ W).length + 1 := by simp [hA, hW]
  rw [h1, ← List.append_assoc, st_set]
  simp
 obtain ⟨r, hr⟩ : ∃ r, f t x = r := ⟨_, rfl⟩
 have h := h t ht x τ
 rw [hr] at h ⊢
 have hst : (fun x => S x ++ (U x ++ [ABlk.cells [.ptr p 0], .loop .ready none e ps a bb])) x ++ τ = S x ++ (U x ++ (.cells [.ptr p 0] :: .loop .ready none e ps a bb :: τ)) := by simp
 rw [hst]
 refine .round (env := e) (ps := ps) (a := a) (b := bb)
  (R := fun o => o.j = none ∧ ∃ τ1, o.σ = S x ++ (U x ++ (.cells [.ptr p 0] :: .loop .ready none e ps a bb :: (τ ++ τ1))) ∧ wp T bb o.env (S x ++ (U x ++ (.cells [.ptr p 0] :: .loop .busy none e ps a bb :: (τ ++ τ1)))) (fun j e'' σ'' => (r.2 = true ∧ j = none ∧ ∃ τ', σ'' = S r.1 ++ (U r.1 ++ (.cells [.ptr p 0] :: .loop .busy none e ps a bb :: (τ ++ τ')))) ∨
    (r.2 = false ∧ j = some J ∧ ∃ τ', σ'' = S r.1 ++ (UD r.1 ++ (.cells [.ptr p 0] :: .loop .busy none e ps a bb :: (τ ++ τ'))))))
  (S := fun o => (r.2 = true ∧ o.j = none ∧ ∃ τ', o.σ = S r.1 ++ (U r.1 ++ (.cells [.ptr p 0] :: .loop .busy none e ps a bb :: (τ ++ τ')))) ∨ (r.2 = false ∧ o.j = some J ∧ ∃ τ', o.σ = S r.1 ++ (UD r.1 ++ (.cells [.ptr p 0] :: .loop .busy none e ps a bb :: (τ ++ τ'))))) (hget _ _ _ _ (hS.len _) (hU _)) (by rw [hps t]) (run_wp h fun o ho => ho) ?_ ?_ ?_
 ·rintro o ⟨hj, τ1, hσ, _⟩
  exact ⟨hj, by rw [hσ]; exact hget _ _ _ _ (hS.len _) (hU _)⟩
 ·rintro o ⟨_, τ1, hσ, hw⟩
  rw [hσ, hset _ _ _ _ _ (hS.len _) (hU _)]
  exact run_wp hw fun o ho => ho
 ·rintro o (⟨hr2, hj, τ', hσ⟩ | ⟨hr2, hj, τ', hσ⟩)
  ·rw [hσ, hj, hget _ _ _ _ (hS.len _) (hU _), hset _ _ _ _ _ (hS.len _) (hU _)]
   refine ⟨rfl, by rw [hr2]; rfl, τ', ?_⟩
   simp [outS, hr2]
  ·rw [hσ, hj, hget _ _ _ _ (hS.len _) (hUD _), hset _ _ _ _ _ (hS.len _) (hUD _)]
   refine ⟨rfl, by rw [hr2]; rfl, τ', ?_⟩
   simp [outS, hr2]
end Go.Am.Room
set_option maxRecDepth 8000
namespace Go.Am.Room
def QXFFaP5 := And.intro @encSpan_eq (And.intro @S_mapSpan (And.intro @List.length_append.{0} (And.intro @arrA_len (And.intro @arrA_take (And.intro @arrA_drop (And.intro @S_arrA (And.intro @arrA_cell (And.intro @Nat.mul_one (And.intro @Int.toNat_natCast (And.intro @db_0 (And.intro @db_1 (And.intro @db_2 (And.intro @db_3 (And.intro @db_4 (And.intro @db_5 (And.intro @db_6 (And.intro @db_7 (And.intro @db_8 (And.intro @q_loopNone (And.intro @q_loopSome (And.intro @C_yield (@K_yield))))))))))))))))))))))
theorem rl_app (l : List Int) (n : Int) : rl (l ++ [n]) = updF (rl l) l.length n := by
 funext i
 simp only [rl, updF]
 by_cases h : i = l.length
 ·subst h; simp
 ·rw [if_neg h]
  by_cases h2 : i < l.length
  ·rw [List.getElem?_append_left h2]
  ·rw [List.getElem?_eq_none (by simp; omega), List.getElem?_eq_none (by omega)]
theorem rl_upd0 (l : List Int) : updF (rl l) l.length 0 = rl l := by
 funext i
 simp only [updF]
 split
 ·rename_i h; subst h; simp [rl]
 ·rfl
theorem rl_inj {a b : List Int} (h1 : a.length = b.length) (h2 : a.length ≤ 7) : ((List.range 7).all fun i => rl a i == rl b i) = decide (b = a) := by
 rw [Bool.eq_iff_iff, List.all_eq_true, decide_eq_true_eq]
 constructor
 ·intro h
  refine List.ext_getElem h1.symm fun i hi1 hi2 => ?_
  have := h i (by simp; omega)
  rw [beq_iff_eq, rl_at (by omega), rl_at (by omega)] at this
  exact this.symm
 ·rintro rfl i _
  simp
theorem once_mem {A X : Type} [DecidableEq A] (f : A → X → X × Bool) : ∀ (az : List A) (o : Option A) (x : X) (u : A), (iterF (onceF f) az (o, x)).1.1 = some u → o = some u ∨ u ∈ az
 | [], o, x, u, h => .inl h
 | a :: az, o, x, u, h => by
  simp only [iterF, onceF] at h
  by_cases ho : o = some a
  ·simp only [ho, if_true] at h
   rcases once_mem f az (some a) x u h with h | h
   ·exact .inl (ho.trans h)
   ·exact .inr (by simp [h])
  ·simp only [ho, if_false] at h
   split at h
   ·rcases once_mem f az (some a) _ u h with h | h
    ·simp at h; exact .inr (by simp [h])
    ·exact .inr (by simp [h])
   ·simp at h; exact .inr (by simp [h])
theorem leafs_len : ∀ (rs : List Span) (l c : List Int), c ∈ leafs rs l → c.length = l.length + rs.length
 | [], l, c, h => by simp only [leafs, List.mem_singleton] at h; simp [h]
 | s :: rs, l, c, h => by
  simp only [leafs, List.mem_flatMap] at h
  obtain ⟨n, _, hc⟩ := h
  have := leafs_len rs _ c hc
  simp at this ⊢
  omega
def seven : List SK := List.replicate 7 .i
theorem seven_len : [SK.i, .i, .i, .i, .i, .i, .i] = List.replicate 7 .i := rfl
structure WFam {X : Type} (Z : X → St) (v : Farm) (b m p q N : Nat) : Prop where
 len : ∀ x, (Z x).length = N
 atp : ∀ x τ, cellsAt (Z x ++ τ) p = some (db v b m)
 atq : ∀ x τ, cellsAt (Z x ++ τ) q = some [.ptr p 0]
namespace WFam
variable {X : Type} {Z : X → St} {v : Farm} {b m p q N : Nat}
theorem base (h : WFam Z v b m p q N) (x : X) (τ : St) (k : Nat) : cellsAt (Z x ++ τ) (N + k) = cellsAt τ k := by rw [← h.len x]; exact M_base _ _ _
theorem base0 (h : WFam Z v b m p q N) (x : X) (τ : St) : cellsAt (Z x ++ τ) N = cellsAt τ 0 := h.base x τ 0
theorem bset (h : WFam Z v b m p q N) (x : X) (τ : St) (k : Nat) (y : ABlk) : (Z x ++ τ).set (N + k) y = Z x ++ τ.set k y := by rw [← h.len x]; exact st_set _ _ _ _
theorem bset0 (h : WFam Z v b m p q N) (x : X) (τ : St) (y : ABlk) : (Z x ++ τ).set N y = Z x ++ τ.set 0 y := h.bset x τ 0 y
end WFam
def nextF (q N : Nat) : AV := .func 110 [] [.ptr q 0, .ptr (N + 3) 0, .ptr (N + 1) 0, .ptr (N + 2) 0, .ptr N 0, .ptr (N + 4) 0]
theorem nextF_eq (q N : Nat) : nextF q N = .func 110 [] [.ptr q 0, .ptr (N + 3) 0, .ptr (N + 1) 0, .ptr (N + 2) 0, .ptr N 0, .ptr (N + 4) 0] := by simp only [nextF]
def nextB (id q N : Nat) (o : Option (List Int)) (A : Nat → Int) : St := [.cells [.yield id], .cells (arrA 7 A), .cells (arrA 7 (rl (o.getD []))), .cells [.bool o.isNone], .cells [nextF q N]]
theorem nextB_eq (id q N : Nat) (o : Option (List Int)) (A : Nat → Int) (τ : St) : nextB id q N o A ++ τ = .cells [.yield id] :: .cells (arrA 7 A) :: .cells (arrA 7 (rl (o.getD []))) :: .cells [.bool o.isNone] :: .cells [nextF q N] :: τ := by simp [nextB]
def NextR {X : Type} (Z ZD : X → St) (id q N : Nat) (l : List Int) (r : (Option (List Int) × X) × Bool) (o : Out) : Prop :=
 o.v = .bool r.2 ∧ ∃ A τ', o.σ = outS Z ZD (r.1.2, r.2) ++ (nextB id q N r.1.1 A ++ τ') ∧ (r.2 = true → A = rl l)
def NextI {X : Type} (Z : X → St) (f : List Int → X → X × Bool) (v : Farm) (q id N : Nat) (l : List Int) (s : Span) (rs : List Span) (R : (Option (List Int) × X) × Bool) (k : Nat) (e : Env) (σ : St) : Prop :=
 Env.get e 0 = .int .i64 l.length ∧ Env.get e 1 = .ptr q 0 ∧ Env.get e 3 = .ptr (N + 1) 0 ∧ Env.get e 6 = .ptr (N + 4) 0 ∧ ∃ n o x c τ, Env.get e 9 = .int .i64 n ∧ s.lo ≤ n ∧ n ≤ s.hi + 1 ∧ k = (s.hi + 1 - n).toNat ∧ (∀ u, o = some u → u.length = v.rain.length) ∧
   σ = Z x ++ (nextB id q N o (updF (rl l) l.length c) ++ τ) ∧ iterF (onceF f) ((numbers n k).flatMap fun n => leafs rs (l ++ [n])) (o, x) = R
theorem next_run {X : Type} {Z ZD : X → St} {v : Farm} {b m p q id N : Nat} (hR : WFam Z v b m p q N) (f : List Int → X → X × Bool) (hy : YieldsS Z ZD id (fun t => [.agg (arrA 7 (rl t))]) (RainOk v) f) (hv : Vd v) :
  ∀ (rs : List Span) (l : List Int) (o : Option (List Int)) (x : X) (τ : St), rs = v.rain.drop l.length → l.length ≤ v.rain.length → (∀ i (h : i < v.rain.length), i < l.length → v.rain[i].lo ≤ rl l i ∧ rl l i ≤ v.rain[i].hi) → (∀ u, o = some u → u.length = v.rain.length) →
   Run T (.callv (nextF q N) [.int .i64 l.length] (Z x ++ (nextB id q N o (rl l) ++ τ))) (NextR Z ZD id q N l (iterF (onceF f) (leafs rs l) (o, x)))
 | [], l, o, x, τ, hrs, hl, hbd, ho => by
  have hl2 : l.length = v.rain.length := by
   have := congrArg List.length hrs
   simp at this
   omega
  have hro : RainOk v l := ⟨hl2, fun i h => hbd i h (by omega)⟩
  have hnr := hv.nra
  simp only [leafs, iterF_one, nextF_eq]
  refine .callf (.call (af := a110) rfl (by simp [a110]) (run_wp (K := fun j e σ' => (j = none ∨ j = some .ret) ∧ NextR Z ZD id q N l (onceF f l (o, x)) ⟨none, [], σ', Env.get e 8⟩) ?_ fun o ho => ho) fun w hw => ⟨hw.1, _, rfl, .inl hw.2⟩)
  have hE : ((l.length : Int) == (v.rain.length : Int)) = true := by rw [hl2]; simp
  rw [nextB_eq]
  cases o with
  | none =>
   have hon : onceF f l (none, x) = ((some l, (f l x).1), (f l x).2) := by simp [onceF]
   rw [hon]
   have hcall := hy l hro x
   obtain ⟨r, hr⟩ : ∃ r, f l x = r := ⟨_, rfl⟩
   rw [hr] at hcall ⊢
   (repeat (first | simp only [↓QA, QB, Nat.reduceLT, reduceIte, Nat.reduceEqDiff, Nat.reduceAdd, Nat.reduceLeDiff, Nat.reduceMul, Nat.reduceBEq, QXFFaP5, hR.base, hR.base0, hR.bset, hR.bset0, hR.atp, hR.atq, seven, seven_len, a110, hE, Option.isNone_none, Option.getD_none] | refine rd0 rfl ?_))
   refine .mono (hcall _) fun w hw => ?_
   obtain ⟨hw1, τ', hw2⟩ := hw
   rw [hw1, hw2]
   (repeat (first | simp only [↓QA, QB, Nat.reduceLT, reduceIte, Nat.reduceEqDiff, Nat.reduceAdd, Nat.reduceLeDiff, Nat.reduceMul, Nat.reduceBEq, QXFFaP5, hR.base, hR.base0, hR.bset, hR.bset0, hR.atp, hR.atq, seven, seven_len] | refine rd0 rfl ?_))
   exact ⟨rfl, rl l, τ ++ τ', by simp [nextB], fun _ => rfl⟩
  | some u =>
   have hul := ho u rfl
   have heq : eqCells (List.replicate 7 .i) (arrA 7 (rl l)) (arrA 7 (rl u)) = some (decide (u = l)) := by
    rw [arrA_eq, rl_inj (by omega) (by omega)]
   by_cases hu : u = l
   ·subst hu
    have hon : onceF f u (some u, x) = ((some u, x), true) := by simp [onceF]
    rw [hon]
    have hdt : decide (u = u) = true := by simp
    rw [hdt] at heq
    (repeat (first | simp only [↓QA, QB, Nat.reduceLT, reduceIte, Nat.reduceEqDiff, Nat.reduceAdd, Nat.reduceLeDiff, Nat.reduceMul, Nat.reduceBEq, QXFFaP5, hR.base, hR.base0, hR.bset, hR.bset0, hR.atp, hR.atq, seven, seven_len, a110, hE, heq, Option.isNone_some, Option.getD_some] | refine rd0 rfl ?_))
    exact ⟨rfl, rl u, τ, by simp [nextB, outS], fun _ => rfl⟩
   ·have hon : onceF f l (some u, x) = ((some l, (f l x).1), (f l x).2) := by simp [onceF, hu]
    rw [hon]
    have hdt : decide (u = l) = false := by simpa using hu
    rw [hdt] at heq
    have hcall := hy l hro x
    obtain ⟨r, hr⟩ : ∃ r, f l x = r := ⟨_, rfl⟩
    rw [hr] at hcall ⊢
    (repeat (first | simp only [↓QA, QB, Nat.reduceLT, reduceIte, Nat.reduceEqDiff, Nat.reduceAdd, Nat.reduceLeDiff, Nat.reduceMul, Nat.reduceBEq, QXFFaP5, hR.base, hR.base0, hR.bset, hR.bset0, hR.atp, hR.atq, seven, seven_len, a110, hE, heq, Option.isNone_some, Option.getD_some] | refine rd0 rfl ?_))
    refine .mono (hcall _) fun w hw => ?_
    obtain ⟨hw1, τ', hw2⟩ := hw
    rw [hw1, hw2]
    (repeat (first | simp only [↓QA, QB, Nat.reduceLT, reduceIte, Nat.reduceEqDiff, Nat.reduceAdd, Nat.reduceLeDiff, Nat.reduceMul, Nat.reduceBEq, QXFFaP5, hR.base, hR.base0, hR.bset, hR.bset0, hR.atp, hR.atq, seven, seven_len] | refine rd0 rfl ?_))
    exact ⟨rfl, rl l, τ ++ τ', by simp [nextB], fun _ => rfl⟩
 | s :: rs, l, o, x, τ, hrs, hl, hbd, ho => by
  have hlt : l.length < v.rain.length := by
   have := congrArg List.length hrs
   simp at this
   omega
  have hdr := List.drop_eq_getElem_cons hlt
  rw [← hrs] at hdr
  have hs : v.rain[l.length] = s := by have := (List.cons.inj hdr).1; exact this.symm
  have hrs2 : rs = v.rain.drop (l.length + 1) := (List.cons.inj hdr).2
  have hra := hv.ra _ (List.getElem_mem hlt)
  rw [hs] at hra
  have hnr := hv.nra
  have hE : ((l.length : Int) == (v.rain.length : Int)) = false := by simp; omega
  have hlen7 : l.length < 7 := by omega
  have i7 : (0 : Int) ≤ (l.length : Int) ∧ (l.length : Int) < ((7 : Nat) : Int) := ⟨by omega, by omega⟩
  have c7 : l.length + 1 ≤ 7 := by omega
  have hwd : IntKind.i64.wrap ((l.length : Int) + 1) = ((l.length + 1 : Nat) : Int) := wrapN hlt (by omega)
  have ih := fun (n : Int) (hn : s.lo ≤ n ∧ n ≤ s.hi) (o : Option (List Int)) (x : X) (τ : St) (ho : ∀ u, o = some u → u.length = v.rain.length) => next_run hR f hy hv rs (l ++ [n]) o x τ (by rw [hrs2]; simp) (by simp; omega) (fun i h hi => by
   rw [rl_app]
   simp only [updF]
   by_cases e : i = l.length
   ·subst e
    rw [if_pos rfl, hs]
    exact hn
   ·rw [if_neg e]
    exact hbd i h (by simp at hi; omega)) ho
  obtain ⟨R, hRR⟩ : ∃ R, iterF (onceF f) (leafs (s :: rs) l) (o, x) = R := ⟨_, rfl⟩
  rw [hRR]
  simp only [leafs, waysIn] at hRR
  simp only [nextF_eq]
  refine .callf (.call (af := a110) rfl (by simp [a110]) (run_wp (K := fun j e σ' => (j = none ∨ j = some .ret) ∧ NextR Z ZD id q N l R ⟨none, [], σ', Env.get e 8⟩) ?_ fun o ho => ho) fun w hw => ⟨hw.1, _, rfl, .inl hw.2⟩)
  rw [nextB_eq]
  (repeat (first | simp only [↓QA, QB, Nat.reduceLT, reduceIte, Nat.reduceEqDiff, Nat.reduceAdd, Nat.reduceLeDiff, Nat.reduceMul, Nat.reduceBEq, QXFFaP5, hR.base, hR.base0, hR.bset, hR.bset0, hR.atp, hR.atq, seven, seven_len, a110, hE, hlt, hs] | refine rd0 rfl ?_))
  refine loopK (NextI Z f v q id N l s rs R) ?_ (s.hi + 1 - s.lo).toNat _ _ ?_
  ·rintro k e σ ⟨e0, e1, e3, e6, n, o, x, c, τ, e9, hn0, hn1, hk, ho, rfl, hq⟩
   subst hk
   have hst := arrA_set 7 (updF (rl l) l.length c) n hlen7
   rw [updF_updF, ← rl_app l n] at hst
   have hst0 := arrA_set 7 (updF (rl l) l.length c) 0 hlen7
   rw [updF_updF, rl_upd0] at hst0
   rw [nextB_eq]
   (repeat (first | simp only [↓QA, QB, Nat.reduceLT, reduceIte, Nat.reduceEqDiff, Nat.reduceAdd, Nat.reduceLeDiff, Nat.reduceMul, Nat.reduceBEq, QXFFaP5, hR.base, hR.base0, hR.bset, hR.bset0, hR.atp, hR.atq, seven, seven_len, L110_0, e0, e1, e3, e6, e9, hlt, hs] | refine rd0 rfl ?_))
   refine iteP_intro (fun h => ?_) fun h => ?_
   ·have hn2 : n ≤ s.hi := by simpa using h
    have hwn : IntKind.i64.wrap (n + 1) = n + 1 := wrap64 ⟨by omega, by omega⟩
    rw [ways_step hn2, List.flatMap_cons, iterF_app] at hq
    have hc := ih n ⟨hn0, hn2⟩ o x τ ho
    simp only [nextB_eq, List.length_append, List.length_cons, List.length_nil, Nat.zero_add] at hc
    obtain ⟨r, hr⟩ : ∃ r, iterF (onceF f) (leafs rs (l ++ [n])) (o, x) = r := ⟨_, rfl⟩
    rw [hr] at hq hc
    (repeat (first | simp only [↓QA, QB, Nat.reduceLT, reduceIte, Nat.reduceEqDiff, Nat.reduceAdd, Nat.reduceLeDiff, Nat.reduceMul, Nat.reduceBEq, QXFFaP5, hR.base, hR.base0, hR.bset, hR.bset0, hR.atp, hR.atq, seven, seven_len, e0, e1, e3, e6, e9, i7, c7, Nat.zero_add, hst, hwd] | refine rd0 rfl ?_))
    refine .mono hc fun w hw => ?_
    obtain ⟨hw1, A, τ', hw2, hw3⟩ := hw
    rw [hw1, hw2]
    cases hr2 : r.2
    ·rw [hr2] at hq
     simp only [Bool.false_eq_true, if_false] at hq
     (repeat (first | simp only [↓QA, QB, Nat.reduceLT, reduceIte, Nat.reduceEqDiff, Nat.reduceAdd, Nat.reduceLeDiff, Nat.reduceMul, Nat.reduceBEq, QXFFaP5, hR.base, hR.base0, hR.bset, hR.bset0, hR.atp, hR.atq, seven, seven_len, e0, e1, e3, e6, e9] | refine rd0 rfl ?_))
     rw [← hq]
     exact ⟨rfl, A, τ', by simp [outS], fun h => by cases h⟩
    ·rw [hr2] at hq
     simp only [if_true] at hq
     have hA := hw3 hr2
     rw [hA]
     simp only [outS, if_true]
     rw [nextB_eq]
     have hlr : l.length + 1 + rs.length = v.rain.length := by rw [hrs2]; simp; omega
     (repeat (first | simp only [↓QA, QB, Nat.reduceLT, reduceIte, Nat.reduceEqDiff, Nat.reduceAdd, Nat.reduceLeDiff, Nat.reduceMul, Nat.reduceBEq, QXFFaP5, hR.base, hR.base0, hR.bset, hR.bset0, hR.atp, hR.atq, seven, seven_len, e0, e1, e3, e6, e9, hwn] | refine rd0 rfl ?_))
     refine ⟨(s.hi + 1 - (n + 1)).toNat, by omega, ?_, ?_, ?_, ?_, n + 1, r.1.1, r.1.2, n, τ', ?_, by omega, by omega, rfl, fun u hu => ?_, ?_, hq⟩
     ·try simp only [TrimX, QE, Nat.reduceLT, reduceIte, Nat.reduceEqDiff, Nat.reduceAdd, Nat.reduceLeDiff, Nat.reduceMul, Nat.reduceBEq, QXFFaP5, hR.base, hR.base0, hR.bset, hR.bset0, hR.atp, hR.atq, seven, seven_len, e0]
     ·try simp only [TrimX, QE, Nat.reduceLT, reduceIte, Nat.reduceEqDiff, Nat.reduceAdd, Nat.reduceLeDiff, Nat.reduceMul, Nat.reduceBEq, QXFFaP5, hR.base, hR.base0, hR.bset, hR.bset0, hR.atp, hR.atq, seven, seven_len, e1]
     ·try simp only [TrimX, QE, Nat.reduceLT, reduceIte, Nat.reduceEqDiff, Nat.reduceAdd, Nat.reduceLeDiff, Nat.reduceMul, Nat.reduceBEq, QXFFaP5, hR.base, hR.base0, hR.bset, hR.bset0, hR.atp, hR.atq, seven, seven_len, e3]
     ·try simp only [TrimX, QE, Nat.reduceLT, reduceIte, Nat.reduceEqDiff, Nat.reduceAdd, Nat.reduceLeDiff, Nat.reduceMul, Nat.reduceBEq, QXFFaP5, hR.base, hR.base0, hR.bset, hR.bset0, hR.atp, hR.atq, seven, seven_len, e6]
     ·try simp only [TrimX, QE, Nat.reduceLT, reduceIte, Nat.reduceEqDiff, Nat.reduceAdd, Nat.reduceLeDiff, Nat.reduceMul, Nat.reduceBEq, QXFFaP5, hR.base, hR.base0, hR.bset, hR.bset0, hR.atp, hR.atq, seven, seven_len]
     ·rw [← hr] at hu
      rcases once_mem f _ o x u hu with h | h
      ·exact ho u h
      ·have := leafs_len _ _ _ h
       simp at this
       omega
     ·rw [nextB_eq, rl_app]
   ·have hn2 : ¬ n ≤ s.hi := by simpa using h
    rw [ways_end hn2, List.flatMap_nil] at hq
    simp only [iterF] at hq
    (repeat (first | simp only [↓QA, QB, Nat.reduceLT, reduceIte, Nat.reduceEqDiff, Nat.reduceAdd, Nat.reduceLeDiff, Nat.reduceMul, Nat.reduceBEq, QXFFaP5, hR.base, hR.base0, hR.bset, hR.bset0, hR.atp, hR.atq, seven, seven_len, e0, e1, e3, e6, e9, i7, c7, Nat.zero_add, hst0] | refine rd0 rfl ?_))
    rw [← hq]
    exact ⟨rfl, rl l, τ, by simp [outS, nextB], fun _ => rfl⟩
  ·refine ⟨?_, ?_, ?_, ?_, s.lo, o, x, 0, τ, ?_, Int.le_refl _, by omega, rfl, ho, ?_, hRR⟩
   ·try simp only [TrimX, QE, Nat.reduceLT, reduceIte, Nat.reduceEqDiff, Nat.reduceAdd, Nat.reduceLeDiff, Nat.reduceMul, Nat.reduceBEq, QXFFaP5, hR.base, hR.base0, hR.bset, hR.bset0, hR.atp, hR.atq, seven, seven_len]
   ·try simp only [TrimX, QE, Nat.reduceLT, reduceIte, Nat.reduceEqDiff, Nat.reduceAdd, Nat.reduceLeDiff, Nat.reduceMul, Nat.reduceBEq, QXFFaP5, hR.base, hR.base0, hR.bset, hR.bset0, hR.atp, hR.atq, seven, seven_len]
   ·try simp only [TrimX, QE, Nat.reduceLT, reduceIte, Nat.reduceEqDiff, Nat.reduceAdd, Nat.reduceLeDiff, Nat.reduceMul, Nat.reduceBEq, QXFFaP5, hR.base, hR.base0, hR.bset, hR.bset0, hR.atp, hR.atq, seven, seven_len]
   ·try simp only [TrimX, QE, Nat.reduceLT, reduceIte, Nat.reduceEqDiff, Nat.reduceAdd, Nat.reduceLeDiff, Nat.reduceMul, Nat.reduceBEq, QXFFaP5, hR.base, hR.base0, hR.bset, hR.bset0, hR.atp, hR.atq, seven, seven_len]
   ·try simp only [TrimX, QE, Nat.reduceLT, reduceIte, Nat.reduceEqDiff, Nat.reduceAdd, Nat.reduceLeDiff, Nat.reduceMul, Nat.reduceBEq, QXFFaP5, hR.base, hR.base0, hR.bset, hR.bset0, hR.atp, hR.atq, seven, seven_len]
   ·rw [nextB_eq, rl_upd0]
theorem weather1_run {X : Type} {Z ZD : X → St} {v : Farm} {b m p q id N : Nat} (hR : WFam Z v b m p q N) (f : List Int → X → X × Bool) (hy : YieldsS Z ZD id (fun t => [.agg (arrA 7 (rl t))]) (RainOk v) f) (hv : Vd v) (x : X) :
  Run T (.call 109 [.yield id, .ptr q 0] (Z x)) fun o => ∃ τ', o.σ = outS Z ZD (iterF f (leafs v.rain []) x) ++ τ' := by
 have hn := next_run hR f hy hv v.rain [] none x [] (by simp) (by simp) (fun i h hi => by simp at hi) (fun u hu => by cases hu)
 have hl := hR.len x
 have hz : [AV.int .i64 0, .int .i64 0, .int .i64 0, .int .i64 0, .int .i64 0, .int .i64 0, .int .i64 0] = arrA 7 (rl []) := by simp [arrA, rl, List.range_succ]
 obtain ⟨ho1, ho2⟩ := iterF_once f (leafs v.rain []) none x (leafs_ne _ _) (fun a _ h => by cases h)
 have hend : ∀ w, NextR Z ZD id q N [] (iterF (onceF f) (leafs v.rain []) (none, x)) w → ∃ τ', w.σ = outS Z ZD (iterF f (leafs v.rain []) x) ++ τ' := by
  rintro w ⟨_, A, τ', h2, _⟩
  refine ⟨nextB id q N (iterF (onceF f) (leafs v.rain []) (none, x)).1.1 A ++ τ', ?_⟩
  rw [h2, show ((iterF (onceF f) (leafs v.rain []) (none, x)).1.2, (iterF (onceF f) (leafs v.rain []) (none, x)).2) = iterF f (leafs v.rain []) x from Prod.ext ho1 ho2]
 rw [nextB_eq, nextF_eq] at hn
 simp only [List.length_nil, Option.getD_none, Option.isNone_none] at hn
 refine .call (af := a109) rfl (by simp [a109]) (run_wp (K := fun j e σ' => (j = none ∨ j = some .ret) ∧ ∃ τ', σ' = outS Z ZD (iterF f (leafs v.rain []) x) ++ τ') ?_ fun o ho => ho) fun o ho => ⟨ho.1, _, rfl, .inl ho.2⟩
 (repeat (first | simp only [↓QA, QB, Nat.reduceLT, reduceIte, Nat.reduceEqDiff, Nat.reduceAdd, Nat.reduceLeDiff, Nat.reduceMul, Nat.reduceBEq, QXFFaP5, hR.base, hR.base0, hR.bset, hR.bset0, hR.atp, hR.atq, seven, seven_len, a109, hl, hz] | refine rd0 rfl ?_))
 refine .mono hn fun w hw => ?_
 have := hend w hw
 (repeat (first | simp only [↓QA, QB, Nat.reduceLT, reduceIte, Nat.reduceEqDiff, Nat.reduceAdd, Nat.reduceLeDiff, Nat.reduceMul, Nat.reduceBEq, QXFFaP5, hR.base, hR.base0, hR.bset, hR.bset0, hR.atp, hR.atq, seven, seven_len] | refine rd0 rfl ?_))
 exact this
end Go.Am.Room
namespace Go.Am.Room
def eqT (t u : Truth) : Bool := (List.range 7).all fun i => rl t.rain i == rl u.rain i
def putT (t : Truth) : List Truth → List Truth
 | [] => [t]
 | u :: us => if eqT t u = true then t :: us else u :: putT t us
def tKey (t : Truth) : AV := .agg (arrA 7 (rl t.rain))
def tVal (t : Truth) : AV := .agg (arrA 4 (fun q => (setB (flAt t q) : Int)))
def kvT (t : Truth) : AV × AV := (tKey t, tVal t)
theorem key_eq (t u : Truth) : eqSh (.agg (List.replicate 7 .i)) (tKey t) (tKey u) = some (eqT t u) := by
 have := arrA_eq 7 (rl t.rain) (rl u.rain)
 simp only [tKey, eqSh, this, eqT]
theorem setKey_put (t : Truth) : ∀ ts : List Truth, setKey (.agg (List.replicate 7 .i)) (tKey t) (tVal t) (ts.map kvT) = some ((putT t ts).map kvT)
 | [] => rfl
 | u :: us => by
  have ih := setKey_put t us
  simp only [List.map_cons, setKey, kvT, key_eq, putT] at ih ⊢
  cases h : eqT t u
  ·simp only [Bool.false_eq_true, if_false, List.map_cons, kvT]
   simp only [ih, Option.map_some]
  ·simp only [if_true, List.map_cons, kvT]
theorem putT_new {t : Truth} : ∀ {ts : List Truth}, (∀ u ∈ ts, eqT t u = false) → putT t ts = ts ++ [t]
 | [], _ => rfl
 | u :: us, h => by
  simp only [putT, h u (by simp), Bool.false_eq_true, if_false, List.cons_append]
  rw [putT_new fun w hw => h w (by simp [hw])]
def addT (v : Farm) (bl c : List Int) (ts : List Truth) : List Truth := match truthOf v bl c with | some t => putT t ts | none => ts
theorem truthOf_rain {v : Farm} {bl c : List Int} {t : Truth} (h : truthOf v bl c = some t) : t.rain = c := by
 simp only [truthOf] at h
 split at h
 ·simp only [Option.some.injEq] at h; subst h; rfl
 ·cases h
theorem add_all {v : Farm} {bl : List Int} {G : Nat} (hG : G ≤ 7) : ∀ (cs : List (List Int)) (acc : List Truth), cs.Pairwise (· ≠ ·) → (∀ c ∈ cs, c.length = G) → (∀ u ∈ acc, u.rain.length = G ∧ u.rain ∉ cs) →
  cs.foldl (fun ts c => addT v bl c ts) acc = acc ++ cs.filterMap (truthOf v bl)
 | [], acc, _, _, _ => by simp
 | c :: cs, acc, hp, hl, ha => by
  obtain ⟨h1, h2⟩ := List.pairwise_cons.1 hp
  rw [List.foldl_cons, List.filterMap_cons]
  cases ht : truthOf v bl c with
  | none =>
   simp only [addT, ht]
   exact add_all hG cs acc h2 (fun c hc => hl c (by simp [hc])) fun u hu => ⟨(ha u hu).1, fun h => (ha u hu).2 (by simp [h])⟩
  | some t =>
   have hr := truthOf_rain ht
   have hcl := hl c (by simp)
   have hnew : putT t acc = acc ++ [t] := putT_new fun u hu => by
    obtain ⟨q1, q2⟩ := ha u hu
    rw [eqT, rl_inj (by rw [hr, hcl, q1]) (by rw [hr, hcl]; exact hG), hr]
    simp only [decide_eq_false_iff_not]
    intro e
    exact q2 (by simp [e])
   have e : addT v bl c acc = acc ++ [t] := by simp only [addT, ht, hnew]
   rw [e, add_all hG cs (acc ++ [t]) h2 (fun c hc => hl c (by simp [hc])) fun u hu => ?_]
   ·simp
   ·rcases List.mem_append.1 hu with hu | hu
    ·exact ⟨(ha u hu).1, fun h => (ha u hu).2 (by simp [h])⟩
    ·simp only [List.mem_singleton] at hu
     subst hu
     rw [hr]
     exact ⟨hcl, fun h => h1 c h rfl⟩
theorem add_weather {v : Farm} (hv : Vd v) (bl : List Int) : (leafs v.rain []).foldl (fun ts c => addT v bl c ts) [] = truths v bl := by
 rw [add_all (G := v.rain.length) hv.nra.2 _ _ (leafs_ne _ _) (fun c hc => by have := leafs_len _ _ _ hc; simpa using this) (by simp), leafs_weather]
 rfl
theorem data_key (t : Truth) : Data (tKey t) := data_agg (datas_arrA 7 _)
theorem data_val (t : Truth) : Data (tVal t) := data_agg (datas_arrA 4 _)
theorem known_ok (ts : List Truth) (k : Nat) : okBlk k (.map (ts.map kvT)) := by
 simp only [okBlk]
 intro q hq
 obtain ⟨t, _, rfl⟩ := List.mem_map.1 hq
 exact ⟨ok_data (data_key t) k, ok_data (data_val t) k⟩
theorem put_map (σ τ : St) (F : ABlk) (ts : List Truth) (t : Truth) : vMapset (.agg (List.replicate 7 .i)) (σ ++ (F :: .map (ts.map kvT) :: τ)) (.map (σ.length + 1)) (tKey t) (tVal t) = some (σ ++ (F :: .map ((putT t ts).map kvT) :: τ)) := by
 have h1 : (σ ++ (F :: .map (ts.map kvT) :: τ))[σ.length + 1]? = some (.map (ts.map kvT)) := by rw [st_get]; rfl
 have h2 : (σ ++ (F :: .map (ts.map kvT) :: τ)).set (σ.length + 1) (.map ((putT t ts).map kvT)) = σ ++ (F :: .map ((putT t ts).map kvT) :: τ) := by rw [st_set]; rfl
 simp only [vMapset, key_eq, h1, setKey_put, Option.map_some, h2, Option.isSome_some]
 simp
theorem flArr_val (v : Farm) (c bl : List Int) : (fun q => (setB (flAt ⟨c, flTo v c bl v.plots.length⟩ q) : Int)) = flArr v c bl v.plots.length := by
 funext q
 simp only [flAt, flTo, flArr]
 by_cases h : q < v.plots.length
 ·simp [h]
 ·simp [h, setB]
theorem flGo_truth (v : Farm) (c bl : List Int) : ((flGo v c bl v.plots.length 0).2 = true → truthOf v bl c = some ⟨c, flTo v c bl v.plots.length⟩ ∧ (flGo v c bl v.plots.length 0).1 = v.plots.length) ∧ ((flGo v c bl v.plots.length 0).2 = false → truthOf v bl c = none) := by
 obtain ⟨h1, h2⟩ := flGo_all v c bl v.plots.length 0
 have e : allFl v c bl v.plots.length = (flGo v c bl v.plots.length 0).2 := by
  rw [h1, allFl, flTo, List.all_map]
  congr 1
  funext i
  simp
 rw [truthOf_eq, e]
 constructor
 ·intro h
  rw [if_pos h]
  exact ⟨rfl, by rw [h2 h]; omega⟩
 ·intro h
  rw [h]
  rfl
end Go.Am.Room
set_option maxRecDepth 8000
namespace Go.Am.Room
def QXFFaP6 := And.intro @encFarm_eq (And.intro @farmCells_eq (And.intro @encPlot_eq (And.intro @encLook_eq (And.intro @encSpan_eq (And.intro @S_mapPlot (And.intro @S_mapLook (And.intro @S_mapSpan (And.intro @List.length_append.{0} (And.intro @arrA_len (And.intro @arrA_take (And.intro @arrA_drop (And.intro @S_arrA (And.intro @arrA_cell (And.intro @Nat.mul_one (And.intro @Int.toNat_natCast (And.intro @db_0 (And.intro @db_1 (And.intro @db_2 (And.intro @db_3 (And.intro @db_4 (And.intro @db_5 (And.intro @db_6 (And.intro @db_7 (And.intro @db_8 (And.intro @C_yield (And.intro @K_yield (@seven_len)))))))))))))))))))))))))))
def lookS (σ : St) (v : Farm) (b : Nat) (ts : List Truth) : St := σ ++ [.cells (farmCells v), .map (ts.map kvT), .cells (db v b (σ.length + 1))]
theorem lookS_eq (σ : St) (v : Farm) (b : Nat) (ts : List Truth) (τ : St) : lookS σ v b ts ++ τ = σ ++ (.cells (farmCells v) :: .map (ts.map kvT) :: .cells (db v b (σ.length + 1)) :: τ) := by simp [lookS]
theorem lookS_at (σ : St) (v : Farm) (b : Nat) : ObjAt (lookS σ v b) (db v b (σ.length + 1)) (σ.length + 2) (σ.length + 3) :=
 ⟨fun ts => by simp [lookS], fun ts => by rw [lookS, M_base]; rfl, by omega⟩
theorem weather_does (σ : St) (p : Nat) : Does T (.func 101 [] []) [.ptr p 0] σ (.func 109 [] [.ptr σ.length 0]) (σ ++ [.cells [.ptr p 0]]) := by
 refine .callf (.call (af := a101) rfl (by simp [a101]) (run_wp (K := fun j e σ1 => (j = none ∨ j = some .ret) ∧ Env.get e 2 = .func 109 [] [.ptr σ.length 0] ∧ σ1 = σ ++ [.cells [.ptr p 0]]) ?_ fun o ho => ho) fun o ho => ?_)
 ·(repeat (first | simp only [↓QA, QB, Nat.reduceLT, reduceIte, Nat.reduceEqDiff, Nat.reduceAdd, Nat.reduceLeDiff, Nat.reduceMul, Nat.reduceBEq, QXFFaP6, a101] | refine rd0 rfl ?_))
  try simp
 ·exact ⟨ho.1, _, rfl, .inl ⟨ho.2.1, ho.2.2⟩⟩
theorem look_yields (σ : St) (v : Farm) (b : Nat) (bl : List Int) (hv : Vd v) (hb : ButIs b bl) (e : Env) (e5 : Env.get e 5 = .ptr (σ.length + 3) 0) :
  YieldsS (fun ts => lookS σ v b ts ++ ([.cells [.ptr (σ.length + 2) 0]] ++ [.cells [.ptr (σ.length + 2) 0], .loop .ready none e [16] (.reg [⟨(some 6), .alloc [(.int .i64 0), (.int .i64 0), (.int .i64 0), (.int .i64 0), (.int .i64 0), (.int .i64 0), (.int .i64 0)], none⟩, ⟨none, .store 7 (.t 6) (.t 16), none⟩]) F86_0]))
   (fun ts => lookS σ v b ts ++ ([.cells [.ptr (σ.length + 2) 0]] ++ [.cells [.ptr (σ.length + 2) 0], .loop .done (some .ret) e [16] (.reg [⟨(some 6), .alloc [(.int .i64 0), (.int .i64 0), (.int .i64 0), (.int .i64 0), (.int .i64 0), (.int .i64 0), (.int .i64 0)], none⟩, ⟨none, .store 7 (.t 6) (.t 16), none⟩]) F86_0]))
   (σ.length + 3 + 1 + 1) (fun t => [.agg (arrA 7 (rl t))]) (RainOk v) (fun c ts => (addT v bl c ts, true)) := by
 refine yields_ofS (lookS_at σ v b) (fun _ => [.cells [.ptr (σ.length + 2) 0]]) (fun _ => [.cells [.ptr (σ.length + 2) 0]]) 1 (fun _ => rfl) (fun _ => rfl) .ret e [16] (fun t => [.agg (arrA 7 (rl t))]) (fun _ => rfl) _ _ ?_
 intro c hc ts τ
 simp only [bindPs, Env.put]
 rw [lookS_eq]
 (repeat (first | simp only [↓QA, QB, Nat.reduceLT, reduceIte, Nat.reduceEqDiff, Nat.reduceAdd, Nat.reduceLeDiff, Nat.reduceMul, Nat.reduceBEq, QXFFaP6] | refine rd0 rfl ?_))
 refine ⟨[.cells (arrA 7 (rl c))], by simp [lookS, farmCells_eq], ?_⟩
 rw [lookS_eq]
 obtain ⟨hg1, hg2⟩ := flGo_truth v c bl
 have hfl := fun σ' hp => flowers_same v hv b (σ.length + 1) (σ.length + 2) bl c hb hc σ' hp
 obtain ⟨r, hr⟩ : ∃ r, flGo v c bl v.plots.length 0 = r := ⟨_, rfl⟩
 rw [hr] at hg1 hg2
 simp only [hr] at hfl
 have hp : ∀ (a0 a1 : ABlk) (τ : St), cellsAt (σ ++ (a0 :: a1 :: .cells (db v b (σ.length + 1)) :: τ)) (σ.length + 2) = some (db v b (σ.length + 1)) := fun a0 a1 τ => by rw [M_base]; rfl
 (repeat (first | simp only [↓QA, QB, Nat.reduceLT, reduceIte, Nat.reduceEqDiff, Nat.reduceAdd, Nat.reduceLeDiff, Nat.reduceMul, Nat.reduceBEq, QXFFaP6, F86_0, e5] | refine rd0 rfl ?_))
 refine callK_same (hfl _ (hp _ _ _)) ?_
 cases hr2 : r.2
 ·have ht := hg2 hr2
  have ha : addT v bl c ts = ts := by simp only [addT, ht]
  (repeat (first | simp only [↓QA, QB, Nat.reduceLT, reduceIte, Nat.reduceEqDiff, Nat.reduceAdd, Nat.reduceLeDiff, Nat.reduceMul, Nat.reduceBEq, QXFFaP6] | refine rd0 rfl ?_))
  refine .inl ⟨[.cells (arrA 7 (rl c)), .cells (arrA 4 (flArr v c bl r.1))], ?_⟩
  rw [ha]
  simp [lookS, farmCells_eq]
 ·obtain ⟨ht, hr1⟩ := hg1 hr2
  have ha : addT v bl c ts = putT ⟨c, flTo v c bl v.plots.length⟩ ts := by simp only [addT, ht]
  have hpm : ∀ (F : ABlk) (τ : St), vMapset (.agg (List.replicate 7 .i)) (σ ++ (F :: .map (ts.map kvT) :: τ)) (.map (σ.length + 1)) (.agg (arrA 7 (rl c))) (.agg (arrA 4 (flArr v c bl v.plots.length))) = some (σ ++ (F :: .map ((putT ⟨c, flTo v c bl v.plots.length⟩ ts).map kvT) :: τ)) := fun F τ => by
   have := put_map σ τ F ts ⟨c, flTo v c bl v.plots.length⟩
   simp only [tVal, flArr_val, tKey] at this
   exact this
  rw [hr1]
  (repeat (first | simp only [↓QA, QB, Nat.reduceLT, reduceIte, Nat.reduceEqDiff, Nat.reduceAdd, Nat.reduceLeDiff, Nat.reduceMul, Nat.reduceBEq, QXFFaP6, e5, hpm] | refine rd0 rfl ?_))
  refine .inl ⟨[.cells (arrA 7 (rl c)), .cells (arrA 4 (flArr v c bl v.plots.length))], ?_⟩
  rw [ha]
  simp [lookS, farmCells_eq]
end Go.Am.Room
set_option maxRecDepth 8000
namespace Go.Am.Room
def QXFFaP7 := And.intro @encFarm_eq (And.intro @farmCells_eq (And.intro @encPlot_eq (And.intro @encLook_eq (And.intro @encSpan_eq (And.intro @S_mapPlot (And.intro @S_mapLook (And.intro @S_mapSpan (And.intro @List.length_append.{0} (And.intro @Nat.mul_one (@Int.toNat_natCast))))))))))
theorem look_range (σ : St) (v : Farm) (b : Nat) (bl : List Int) (hv : Vd v) (hb : ButIs b bl) (e : Env) (e5 : Env.get e 5 = .ptr (σ.length + 3) 0) (e15 : Env.get e 15 = .func 109 [] [.ptr (σ.length + 3 + 1) 0]) (K : KJ) (σ0 : St)
  (hσ : σ0 = lookS σ v b [] ++ ([.cells [.ptr (σ.length + 2) 0]] ++ [.cells [.ptr (σ.length + 2) 0]])) (hT : ∀ τ, K none e (lookS σ v b (truths v bl) ++ (.cells [.ptr (σ.length + 2) 0] :: τ))) :
  rK (K := ⟨K⟩) T (.rangeFunc (.t 15) [16] (.reg [⟨(some 6), .alloc [(.int .i64 0), (.int .i64 0), (.int .i64 0), (.int .i64 0), (.int .i64 0), (.int .i64 0), (.int .i64 0)], none⟩, ⟨none, .store 7 (.t 6) (.t 16), none⟩]) F86_0) e σ0 := by
 subst hσ
 have hy := look_yields σ v b bl hv hb e e5
 have hW : WFam (fun ts => lookS σ v b ts ++ ([.cells [.ptr (σ.length + 2) 0]] ++ [.cells [.ptr (σ.length + 2) 0], .loop .ready none e [16] (.reg [⟨(some 6), .alloc [(.int .i64 0), (.int .i64 0), (.int .i64 0), (.int .i64 0), (.int .i64 0), (.int .i64 0), (.int .i64 0)], none⟩, ⟨none, .store 7 (.t 6) (.t 16), none⟩]) F86_0])) v b (σ.length + 1) (σ.length + 2) (σ.length + 3 + 1) (σ.length + 3 + 1 + 2) := by
  refine ⟨fun ts => by simp [lookS], fun ts τ => ?_, fun ts τ => ?_⟩
  ·rw [List.append_assoc, lookS_eq, M_base]; rfl
  ·rw [List.append_assoc, lookS_eq, show σ.length + 3 + 1 = σ.length + 4 from rfl, M_base]; rfl
 have hrun := weather1_run hW (fun c ts => (addT v bl c ts, true)) hy hv []
 have hit : iterF (fun c ts => (addT v bl c ts, true)) (leafs v.rain []) [] = (truths v bl, true) := by
  rw [iterF_go (fun _ _ => rfl)]
  simp only
  rw [add_weather hv]
 rw [hit] at hrun
 exact range_ofS (lookS_at σ v b) (fun _ => [.cells [.ptr (σ.length + 2) 0]]) (fun _ => [.cells [.ptr (σ.length + 2) 0]]) 1 (fun _ => rfl) (fun _ => rfl) .ret e 15 [16] _ _ _ e15 (truths v bl, true) [] hrun K (fun τ _ => hT _) (fun τ h => by cases h)
theorem look_does (σ : St) (v : Farm) (b : Nat) (bl : List Int) (hv : Vd v) (hb : ButIs b bl) : Does T (.func 86 [] []) [encFarm v, .int .i64 b] σ (.ptr (σ.length + 2) 0) (lookS σ v b (truths v bl)) := by
 have hlen : ∀ ts, (lookS σ v b ts).length = σ.length + 3 := fun ts => by simp [lookS]
 refine .callf (.call (af := a86) rfl (by simp [a86]) (Run.trim (R := fun o => o.j = some .ret ∧ Env.get o.env 4 = .ptr (σ.length + 2) 0 ∧ ∃ τ, o.σ = lookS σ v b (truths v bl) ++ τ)
   (Q := fun o => o.j = some .ret ∧ Env.get o.env 4 = .ptr (σ.length + 2) 0 ∧ o.σ = lookS σ v b (truths v bl)) (run_wp (K := fun j e σ1 => j = some .ret ∧ Env.get e 4 = .ptr (σ.length + 2) 0 ∧ ∃ τ, σ1 = lookS σ v b (truths v bl) ++ τ) ?_ fun o ho => ho) fun o ho => ?_) fun o ho => ?_)
 ·(repeat (first | simp only [↓QA, QB, Nat.reduceLT, reduceIte, Nat.reduceEqDiff, Nat.reduceAdd, Nat.reduceLeDiff, Nat.reduceMul, Nat.reduceBEq, QXFFaP7, a86] | refine rd0 rfl ?_))
  refine callK_do (weather_does _ _) ?_
  (repeat (first | simp only [↓QA, QB, Nat.reduceLT, reduceIte, Nat.reduceEqDiff, Nat.reduceAdd, Nat.reduceLeDiff, Nat.reduceMul, Nat.reduceBEq, QXFFaP7] | refine rd0 rfl ?_))
  refine look_range σ v b bl hv hb _ ?_ ?_ _ _ ?_ fun τ => ?_
  ·try simp only [TrimX, QE, Nat.reduceLT, reduceIte, Nat.reduceEqDiff, Nat.reduceAdd, Nat.reduceLeDiff, Nat.reduceMul, Nat.reduceBEq, QXFFaP7]
  ·try simp only [TrimX, QE, Nat.reduceLT, reduceIte, Nat.reduceEqDiff, Nat.reduceAdd, Nat.reduceLeDiff, Nat.reduceMul, Nat.reduceBEq, QXFFaP7]
   try simp
  ·simp [lookS, db, farmCells_eq]
  ·rw [lookS_eq]
   (repeat (first | simp only [↓QA, QB, Nat.reduceLT, reduceIte, Nat.reduceEqDiff, Nat.reduceAdd, Nat.reduceLeDiff, Nat.reduceMul, Nat.reduceBEq, QXFFaP7] | refine rd0 rfl ?_))
   exact ⟨.cells [.ptr (σ.length + 2) 0] :: τ, by simp [lookS, farmCells_eq]⟩
 ·obtain ⟨hj, h4, τ, hs⟩ := ho
  refine ⟨[(4, .ptr (σ.length + 2) 0)], σ.length + 3, ⟨by omega, by rw [hs]; simp [hlen], fun q hq => ?_, fun i hi => ?_⟩, hj, by simp [Env.get], ?_⟩
  ·simp only [List.mem_singleton] at hq
   subst hq
   exact ⟨h4.symm, by simp [okV]⟩
  ·rw [hs]
   by_cases h : i < σ.length
   ·refine .inl ⟨h, .inl ?_⟩
    rw [lookS_eq, List.getElem?_append_left h]
   ·refine .inr ?_
    obtain ⟨k, rfl⟩ : ∃ k, i = σ.length + k := ⟨i - σ.length, by omega⟩
    rw [lookS_eq, st_get]
    have hk : k < 3 := by omega
    match k, hk with
    | 0, _ => exact ⟨_, rfl, okVs_up _ (data_farm v).1⟩
    | 1, _ => exact ⟨_, rfl, known_ok _ _⟩
    | 2, _ => exact ⟨_, rfl, db_ok v b (by omega)⟩
  ·simp only
   rw [hs, ← hlen (truths v bl), List.take_left]
 ·exact ⟨.inr ho.1, _, rfl, .inl ⟨ho.2.1, ho.2.2⟩⟩
end Go.Am.Room
set_option maxRecDepth 8000
namespace Go.Am.Room
def QXFFaP8 := And.intro @encFarm_eq (And.intro @farmCells_eq (And.intro @encPlot_eq (And.intro @encLook_eq (And.intro @encSpan_eq (And.intro @S_mapPlot (And.intro @S_mapLook (And.intro @S_mapSpan (And.intro @List.length_append.{0} (And.intro @Nat.mul_one (And.intro @Int.toNat_natCast (And.intro @T_sapp (And.intro @T_sapp0 (And.intro @db_0 (And.intro @db_1 (And.intro @db_2 (And.intro @db_3 (And.intro @db_4 (And.intro @db_5 (And.intro @db_6 (And.intro @db_7 (@db_8)))))))))))))))))))))
def untilE : List Int → Int
 | a :: m :: rest => if inR a 0 m then untilE rest else 7
 | _ => 0
def litI (ns : List Int) : AV := .lit (ns.map (.int .i64)) true none
theorem litI_eq (ns : List Int) : litI ns = .lit (ns.map (.int .i64)) true none := by simp only [litI]
theorem until_does (ns : List Int) (σ : St) : Does T (.func 71 [] []) [litI ns] σ (.func 96 [] [.ptr σ.length 0]) (σ ++ [.cells [litI ns]]) := by
 refine .callf (.call (af := a71) rfl (by simp [a71]) (run_wp (K := fun j e σ1 => (j = none ∨ j = some .ret) ∧ Env.get e 2 = .func 96 [] [.ptr σ.length 0] ∧ σ1 = σ ++ [.cells [litI ns]]) ?_ fun o ho => ho) fun o ho => ⟨ho.1, _, rfl, .inl ⟨ho.2.1, ho.2.2⟩⟩)
 (repeat (first | simp only [↓QA, QB, Nat.reduceLT, reduceIte, Nat.reduceEqDiff, Nat.reduceAdd, Nat.reduceLeDiff, Nat.reduceMul, Nat.reduceBEq, QXFFaP8, a71, litI_eq] | refine rd0 rfl ?_))
 try simp
theorem until1_same (ns : List Int) (hn : ns.length ≤ 100) (q : Nat) (σ : St) (hq : cellsAt σ q = some [litI ns]) : Same T (.func 96 [] [.ptr q 0]) [] σ (.int .i64 (untilE ns)) := by
 refine same_fn (af := a96) rfl (by simp [a96]) ?_
 obtain ⟨R, hR⟩ : ∃ R, untilE ns = R := ⟨_, rfl⟩
 have hql := cells_lt hq
 rw [hR]
 rw [litI_eq] at hq
 (repeat (first | simp only [↓QA, QB, Nat.reduceLT, reduceIte, Nat.reduceEqDiff, Nat.reduceAdd, Nat.reduceLeDiff, Nat.reduceMul, Nat.reduceBEq, QXFFaP8, a96] | refine rd0 rfl ?_))
 refine loopE (S := Nat) 0 (fun i => untilE (ns.drop i) = R ∧ i ≤ ns.length) (fun i => ns.length - i) (fun i => [(0, .ptr q 0), (2, .int .i64 i)]) (fun _ => σ) ⟨by simpa using hR, Nat.zero_le _⟩ rfl ?_ fun i hi => ?_
 ·try simp only [TrimX, QE, Nat.reduceLT, reduceIte, Nat.reduceEqDiff, Nat.reduceAdd, Nat.reduceLeDiff, Nat.reduceMul, Nat.reduceBEq, QXFFaP8]
  try simp
 ·obtain ⟨hi, hil⟩ := hi
  have hw1 : IntKind.i64.wrap ((i : Int) + 1) = ((i + 1 : Nat) : Int) := by rw [wrap64 ⟨by omega, by omega⟩]; omega
  have hw2 : IntKind.i64.wrap ((i : Int) + 2) = ((i + 2 : Nat) : Int) := by rw [wrap64 ⟨by omega, by omega⟩]; omega
  (repeat (first | simp only [↓QA, QB, Nat.reduceLT, reduceIte, Nat.reduceEqDiff, Nat.reduceAdd, Nat.reduceLeDiff, Nat.reduceMul, Nat.reduceBEq, QXFFaP8, L96_0, hq, hw1] | refine rd0 rfl ?_))
  refine iteP_intro (fun h => ?_) fun h => ?_
  ·have hi2 : i + 1 < ns.length := by
    have h0 : ((i + 1 : Nat) : Int) < (ns.length : Int) := by simpa using h
    omega
   have hi1 : i < ns.length := by omega
   rw [List.drop_eq_getElem_cons hi1, List.drop_eq_getElem_cons hi2, untilE] at hi
   (repeat (first | simp only [↓QA, QB, Nat.reduceLT, reduceIte, Nat.reduceEqDiff, Nat.reduceAdd, Nat.reduceLeDiff, Nat.reduceMul, Nat.reduceBEq, QXFFaP8, hq, hw1, hi1, hi2] | refine rd0 rfl ?_))
   ((first | refine callK_v (beyond_ok 0 ns[i + 1] [ns[i]] (by simp)) (by simp [clr, clrs, ints]) (by simp [okV, okVs]) ?_ | refine callD_v (beyond_ok 0 ns[i + 1] [ns[i]] (by simp)) (by simp [clr, clrs, ints]) (by simp [okV, okVs]) ?_); (repeat (first | simp only [↓QA, QB, Nat.reduceLT, reduceIte, Nat.reduceEqDiff, Nat.reduceAdd, Nat.reduceLeDiff, Nat.reduceMul, Nat.reduceBEq, QXFFaP8, beyond1, hq, hw1, hi1, hi2] | refine rd0 rfl ?_)))
   cases hb : inR ns[i] 0 ns[i + 1]
   ·rw [hb] at hi
    simp only [Bool.false_eq_true, if_false] at hi
    subst hi
    (repeat (first | simp only [↓QA, QB, Nat.reduceLT, reduceIte, Nat.reduceEqDiff, Nat.reduceAdd, Nat.reduceLeDiff, Nat.reduceMul, Nat.reduceBEq, QXFFaP8] | refine rd0 rfl ?_))
    refine baseR [] (by first | rfl | simp) ?_
    try simp only [QS, QC, Nat.reduceLT, reduceIte, Nat.reduceEqDiff, Nat.reduceAdd, Nat.reduceLeDiff, Nat.reduceMul, Nat.reduceBEq, QXFFaP8]
   ·rw [hb] at hi
    simp only [if_true] at hi
    (repeat (first | simp only [↓QA, QB, Nat.reduceLT, reduceIte, Nat.reduceEqDiff, Nat.reduceAdd, Nat.reduceLeDiff, Nat.reduceMul, Nat.reduceBEq, QXFFaP8, hw2] | refine rd0 rfl ?_))
    refine ⟨i + 2, ⟨hi, by omega⟩, by omega, ?_⟩
    try simp only [TrimX, QE, Nat.reduceLT, reduceIte, Nat.reduceEqDiff, Nat.reduceAdd, Nat.reduceLeDiff, Nat.reduceMul, Nat.reduceBEq, QXFFaP8, hw2, hql]
    try simp
  ·have hi2 : ¬ i + 1 < ns.length := by
    have h0 : ¬ ((i + 1 : Nat) : Int) < (ns.length : Int) := by simpa using h
    omega
   have hz : untilE (ns.drop i) = 0 := by
    rcases Nat.lt_or_ge i ns.length with hlt | hge
    ·rw [List.drop_eq_getElem_cons hlt, List.drop_eq_nil_of_le (by omega)]; rfl
    ·rw [List.drop_eq_nil_of_le hge]; rfl
   rw [hz] at hi
   subst hi
   (repeat (first | simp only [↓QA, QB, Nat.reduceLT, reduceIte, Nat.reduceEqDiff, Nat.reduceAdd, Nat.reduceLeDiff, Nat.reduceMul, Nat.reduceBEq, QXFFaP8] | refine rd0 rfl ?_))
   refine baseR [] (by first | rfl | simp) ?_
   try simp only [QS, QC, Nat.reduceLT, reduceIte, Nat.reduceEqDiff, Nat.reduceAdd, Nat.reduceLeDiff, Nat.reduceMul, Nat.reduceBEq, QXFFaP8]
def nobody : Int := -1099511627776
def askErr (v : Farm) (plot eo : Int) : Int := if (check v).2.2 = 0 then (if plot ≠ nobody ∧ inR plot 0 ((v.plots.length : Int) - 1) = false then 4 else eo) else (check v).2.2
theorem look_len (σ τ : St) (v : Farm) (b : Nat) (ts : List Truth) (m : Nat) (hm : m = σ.length + 1) : lenAV 2 (σ ++ (.cells (farmCells v) :: .map (ts.map kvT) :: τ)) (.map m) = some ts.length := by
 subst hm
 have : (σ ++ (ABlk.cells (farmCells v) :: .map (ts.map kvT) :: τ))[σ.length + 1]? = some (.map (ts.map kvT)) := by rw [st_get]; rfl
 simp only [lenAV, this, List.length_map]
def EnterQ (E : Int) (σ σ' : St) (a b : AV) (σ1 : St) : Prop := (E ≠ 0 ∧ a = .nilPtr ∧ b = .int .i64 E ∧ ∃ τ, σ1 = σ ++ τ) ∨ (E = 0 ∧ a = .ptr (σ.length + 3) 0 ∧ b = .int .i64 0 ∧ σ1 = σ')
theorem enter_run (v : Farm) (hf : Fits v) (plot eo : Int) (F : AV) (σ : St) (hF : ∀ τ, Same T F [] (σ ++ τ) (.int .i64 eo)) :
  Run T (.callv (.func 70 [] []) [encFarm v, .int .i64 plot, F] σ) fun o =>
   (errKnown v (askErr v plot eo) ≠ 0 ∧ o.v = .tuple [.nilPtr, .int .i64 (errKnown v (askErr v plot eo))] ∧ o.σ = σ) ∨
   (errKnown v (askErr v plot eo) = 0 ∧ o.v = .tuple [.ptr (σ.length + 3) 0, .int .i64 0] ∧ o.σ = lookS (σ ++ [.cells (farmCells v)]) v 0 (truths v [])) := by
 have hfp := hf.plots
 obtain ⟨E, hE⟩ : ∃ E, errKnown v (askErr v plot eo) = E := ⟨_, rfl⟩
 rw [hE]
 refine .callf (.call (af := a70) rfl (by simp [a70]) (run_wp (K := fun j e σ1 => (j = none ∨ j = some .ret) ∧ EnterQ E σ (lookS (σ ++ [.cells (farmCells v)]) v 0 (truths v [])) (Env.get e 6) (Env.get e 7) σ1) ?_ fun o ho => ho) fun o ho => ?_)
 ·have hws : IntKind.i64.wrap ((v.plots.length : Int) - 1) = (v.plots.length : Int) - 1 := wrap64 ⟨by omega, by omega⟩
  (repeat (first | simp only [↓QA, QB, Nat.reduceLT, reduceIte, Nat.reduceEqDiff, Nat.reduceAdd, Nat.reduceLeDiff, Nat.reduceMul, Nat.reduceBEq, QXFFaP8, a70] | refine rd0 rfl ?_))
  ((first | refine callK_d (check_ok v hf) rfl dd ?_ | refine callD_d (check_ok v hf) rfl dd ?_); (repeat (first | simp only [↓QA, QB, Nat.reduceLT, reduceIte, Nat.reduceEqDiff, Nat.reduceAdd, Nat.reduceLeDiff, Nat.reduceMul, Nat.reduceBEq, QXFFaP8, enc3] | refine rd0 rfl ?_)))
  cases h0 : ((check v).2.2 == 0)
  ·have h0' : (check v).2.2 ≠ 0 := by simpa using h0
   have : E = (check v).2.2 := by rw [← hE, askErr, if_neg h0', errKnown, if_neg h0']
   (repeat (first | simp only [↓QA, QB, Nat.reduceLT, reduceIte, Nat.reduceEqDiff, Nat.reduceAdd, Nat.reduceLeDiff, Nat.reduceMul, Nat.reduceBEq, QXFFaP8, h0] | refine rd0 rfl ?_))
   exact .inl ⟨by rw [this]; exact h0', rfl, by rw [this], _, rfl⟩
  ·have h0' : (check v).2.2 = 0 := by simpa using h0
   have hv := vd_of_check h0'
   (repeat (first | simp only [↓QA, QB, Nat.reduceLT, reduceIte, Nat.reduceEqDiff, Nat.reduceAdd, Nat.reduceLeDiff, Nat.reduceMul, Nat.reduceBEq, QXFFaP8, h0] | refine rd0 rfl ?_))
   by_cases hb : plot ≠ nobody ∧ inR plot 0 ((v.plots.length : Int) - 1) = false
   ·have : E = 4 := by rw [← hE, askErr, if_pos h0', if_pos hb]; rfl
    have h1 : (plot == -1099511627776) = false := by have := hb.1; simpa [nobody] using this
    (repeat (first | simp only [↓QA, QB, Nat.reduceLT, reduceIte, Nat.reduceEqDiff, Nat.reduceAdd, Nat.reduceLeDiff, Nat.reduceMul, Nat.reduceBEq, QXFFaP8, h1, hws] | refine rd0 rfl ?_))
    ((first | refine callK_v (beyond_ok 0 ((v.plots.length : Int) - 1) [plot] (by simp)) (by simp [clr, clrs, ints]) (by simp [okV, okVs]) ?_ | refine callD_v (beyond_ok 0 ((v.plots.length : Int) - 1) [plot] (by simp)) (by simp [clr, clrs, ints]) (by simp [okV, okVs]) ?_); (repeat (first | simp only [↓QA, QB, Nat.reduceLT, reduceIte, Nat.reduceEqDiff, Nat.reduceAdd, Nat.reduceLeDiff, Nat.reduceMul, Nat.reduceBEq, QXFFaP8, beyond1, hb.2, h1] | refine rd0 rfl ?_)))
    exact .inl ⟨by omega, rfl, by rw [this], _, rfl⟩
   have ha : askErr v plot eo = eo := by rw [askErr, if_pos h0', if_neg hb]
   cases h1 : (plot == -1099511627776)
   case' true =>
    (repeat (first | simp only [↓QA, QB, Nat.reduceLT, reduceIte, Nat.reduceEqDiff, Nat.reduceAdd, Nat.reduceLeDiff, Nat.reduceMul, Nat.reduceBEq, QXFFaP8, h1] | refine rd0 rfl ?_))
   case' false =>
    have h1' : plot ≠ nobody := by simpa [nobody] using h1
    have h2 : inR plot 0 ((v.plots.length : Int) - 1) = true := by
     cases h : inR plot 0 ((v.plots.length : Int) - 1)
     ·exact absurd ⟨h1', h⟩ hb
     ·rfl
    (repeat (first | simp only [↓QA, QB, Nat.reduceLT, reduceIte, Nat.reduceEqDiff, Nat.reduceAdd, Nat.reduceLeDiff, Nat.reduceMul, Nat.reduceBEq, QXFFaP8, h1, hws] | refine rd0 rfl ?_))
    ((first | refine callK_v (beyond_ok 0 ((v.plots.length : Int) - 1) [plot] (by simp)) (by simp [clr, clrs, ints]) (by simp [okV, okVs]) ?_ | refine callD_v (beyond_ok 0 ((v.plots.length : Int) - 1) [plot] (by simp)) (by simp [clr, clrs, ints]) (by simp [okV, okVs]) ?_); (repeat (first | simp only [↓QA, QB, Nat.reduceLT, reduceIte, Nat.reduceEqDiff, Nat.reduceAdd, Nat.reduceLeDiff, Nat.reduceMul, Nat.reduceBEq, QXFFaP8, beyond1, h2, h1] | refine rd0 rfl ?_)))
   all_goals
    rw [ha] at hE
    refine callK_same (hF _) ?_
    cases h3 : (eo == 0)
    ·have h3' : eo ≠ 0 := by simpa using h3
     have : E = eo := by rw [← hE, errKnown, if_neg h3']
     (repeat (first | simp only [↓QA, QB, Nat.reduceLT, reduceIte, Nat.reduceEqDiff, Nat.reduceAdd, Nat.reduceLeDiff, Nat.reduceMul, Nat.reduceBEq, QXFFaP8, h3] | refine rd0 rfl ?_))
     exact .inl ⟨by rw [this]; exact h3', rfl, by rw [this], _, rfl⟩
    ·have h3' : eo = 0 := by simpa using h3
     subst h3'
     have hlk := fun σ' => look_does σ' v 0 [] hv but0
     (repeat (first | simp only [↓QA, QB, Nat.reduceLT, reduceIte, Nat.reduceEqDiff, Nat.reduceAdd, Nat.reduceLeDiff, Nat.reduceMul, Nat.reduceBEq, QXFFaP8, h3] | refine rd0 rfl ?_))
     refine callK_do (hlk _) ?_
     rw [lookS]
     have hn1 : σ.length + 1 + 2 = σ.length + 3 := rfl
     have hn2 : σ.length + 1 + 1 = σ.length + 2 := rfl
     have hll := look_len (σ ++ [.cells (farmCells v)]) [.cells (db v 0 (σ.length + 1 + 1))] v 0 (truths v []) (σ.length + 1 + 1) (by simp)
     simp only [farmCells_eq, List.append_assoc, List.cons_append, List.nil_append, hn2] at hll
     cases hg : (((truths v []).length : Int) == 0)
     ·have hne : (truths v []).isEmpty = false := by
       cases h : truths v [] with
       | nil => rw [h] at hg; cases hg
       | cons a b => rfl
      have : E = 0 := by rw [← hE, errKnown, if_pos rfl, hne]; rfl
      (repeat (first | simp only [↓QA, QB, Nat.reduceLT, reduceIte, Nat.reduceEqDiff, Nat.reduceAdd, Nat.reduceLeDiff, Nat.reduceMul, Nat.reduceBEq, QXFFaP8, hn1, hn2, hll, hg] | refine rd0 rfl ?_))
      exact .inr ⟨this, rfl, rfl, by simp [lookS, farmCells_eq]⟩
     ·have hne : (truths v []).isEmpty = true := by
       cases h : truths v [] with
       | nil => rfl
       | cons a b => rw [h] at hg; simp at hg; omega
      have : E = 8 := by rw [← hE, errKnown, if_pos rfl, hne]; rfl
      (repeat (first | simp only [↓QA, QB, Nat.reduceLT, reduceIte, Nat.reduceEqDiff, Nat.reduceAdd, Nat.reduceLeDiff, Nat.reduceMul, Nat.reduceBEq, QXFFaP8, hn1, hn2, hll, hg] | refine rd0 rfl ?_))
      exact .inl ⟨by omega, rfl, by rw [this], _, rfl⟩
 ·obtain ⟨hj, hq⟩ := ho
  rcases hq with ⟨h1, h2, h3, τ, h4⟩ | ⟨h1, h2, h3, h4⟩
  ·refine ⟨hj, .tuple [.nilPtr, .int .i64 E], ?_, ?_⟩
   ·show some (AV.tuple [_, _]) = _
    rw [h2, h3]
   ·refine .inr ⟨20, .tuple [.nilPtr, .int .i64 E], .tuple [.nilPtr, .int .i64 E], by simp [snap, snaps], .inl rfl, fun i hi => .inl ?_, by rw [h4]; simp, .inl ⟨h1, rfl, by simp [h4]⟩⟩
    rw [h4, List.getElem?_append_left hi]
  ·refine ⟨hj, .tuple [.ptr (σ.length + 3) 0, .int .i64 0], ?_, .inl (.inr ⟨h1, rfl, h4⟩)⟩
   show some (AV.tuple [_, _]) = _
   rw [h2, h3]
def vMrange (σ : St) : AV → Option (AV × St)
 | .map id => match σ[id]? with | some (.map es) => some (.ptr σ.length 0, σ ++ [.miter id es.length (List.range es.length) none]) | _ => none
 | _ => none
def vEntry (σ : St) : AV → Option AV
 | .ptr id 0 =>
  match σ[id]? with
  | some (.miter m n _ (some i)) =>
   match σ[m]? with
   | some (.map es) => if es.length = n then (es[i]?).map fun p => .tuple [p.1, p.2] else none
   | _ => none
  | _ => none
 | _ => none
theorem A_mrange (x : AOpd) (e : Env) (σ : St) : aop (.mrange x) e σ = vMrange σ (x.ev e) := by
 simp only [aop, vMrange]; cases x.ev e <;> rfl
theorem W_mrange (x : AOpd) (d : Option Nat) (os : List AOper) (e : Env) (σ : St) (K : Env → St → Prop) : wpOps T (⟨d, .mrange x, none⟩ :: os) e σ K = bO (K := ⟨fun v σ' => wpOps T os (Env.put e d v) σ' K⟩) (aop (.mrange x) e σ) := by simp only [wpOps, wpOp, bO]
theorem V_mrange {σ : St} {m : Nat} {es : List (AV × AV)} (h : σ[m]? = some (.map es)) : vMrange σ (.map m) = some (.ptr σ.length 0, σ ++ [.miter m es.length (List.range es.length) none]) := by simp only [vMrange, h]
theorem A_entry (x : AOpd) (e : Env) (σ : St) : aop (.entry x) e σ = (vEntry σ (x.ev e)).map (·, σ) := by
 simp only [aop, vEntry]
 cases x.ev e <;> try rfl
 rename_i id off
 cases off with
 | succ o => rfl
 | zero =>
  simp only
  cases σ[id]? with
  | none => rfl
  | some b =>
   cases b <;> try rfl
   rename_i m n left last
   cases last with
   | none => rfl
   | some i =>
    simp only
    cases σ[m]? with
    | none => rfl
    | some b =>
     cases b <;> try rfl
     rename_i es
     simp only
     by_cases h : es.length = n
     ·simp only [h, if_true]
      cases es[i]? <;> rfl
     ·simp only [h, if_false]
      rfl
theorem W_entry (x : AOpd) (d : Option Nat) (os : List AOper) (e : Env) (σ : St) (K : Env → St → Prop) : wpOps T (⟨d, .entry x, none⟩ :: os) e σ K = bO (K := ⟨fun v σ' => wpOps T os (Env.put e d v) σ' K⟩) (aop (.entry x) e σ) := by simp only [wpOps, wpOp, bO]
theorem V_entry {σ : St} {id m n i : Nat} {left : List Nat} {es : List (AV × AV)} {k v : AV} (h1 : σ[id]? = some (.miter m n left (some i))) (h2 : σ[m]? = some (.map es)) (h3 : es.length = n) (h4 : es[i]? = some (k, v)) : vEntry σ (.ptr id 0) = some (.tuple [k, v]) := by
 simp only [vEntry, h1, h2, h3, h4, if_true, Option.map_some]
section
variable {S A : Type} (ts : List A) (kv : A → AV × AV) (m N : Nat) (P : List A → S → Prop) (IE : S → Env) (B : S → St)
def MapK (t : A) (done : List A) (s : S) (left : List Nat) (i : Nat) (K : KJ) : KJ :=
 BackK (S := Bool × S) (fun a => a.1 = false ∧ P (t :: done) a.2) (fun a => if a.1 = true then 1 else 0) (fun a => IE a.2) (fun a => B a.2 ++ [.miter m ts.length left (some i)]) (true, s) K
def mapB (d d2 x j : Nat) (body : ACode) : ACode := .seq (.reg [⟨some d, .mnext (.t x), none⟩, ⟨some d2, .ext (.t d) 0, none⟩]) (.seq (.cond (.t d2) .skip (.jump (.exit j))) body)
theorem mapX {d d2 x j : Nat} {body : ACode} {K : KJ} (hN : ∀ s, (B s).length = N) (hm : ∀ s, (B s)[m]? = some (.map (ts.map kv))) (hx : ∀ s, Env.get (IE s) x = .ptr N 0)
  (step : ∀ done s t i left, P done s → t ∈ ts → ts[i]? = some t → wp T body ((d2, .bool true) :: (d, .tuple [.bool true, (kv t).1, (kv t).2]) :: IE s) (B s ++ [.miter m ts.length left (some i)]) (MapK ts m P IE B t done s left i K))
  (fin : ∀ done s left last, P done s → (∀ t, t ∈ done ↔ t ∈ ts) → K (some (.exit j)) ((d2, .bool false) :: (d, .tuple [.bool false]) :: IE s) (B s ++ [.miter m ts.length left last])) :
  ∀ n left last done s, left.length = n → (∀ t ∈ done, t ∈ ts) → (∀ i t, ts[i]? = some t → i ∈ left ∨ t ∈ done) → P done s →
   RunK T (.loop (mapB d d2 x j body)) (IE s) (B s ++ [.miter m ts.length left last]) K := by
 intro n
 induction n using Nat.strongRecOn with
 | _ n ih =>
  intro left last done s hl hdone hcov hP
  have hml : m < N := by
   have := hm s
   rw [← hN s]
   by_cases h : m < (B s).length
   ·exact h
   ·rw [List.getElem?_eq_none (by omega)] at this; cases this
  have hmap : ∀ (b : ABlk), (B s ++ [b])[m]? = some (.map (ts.map kv)) := fun b => by
   rw [List.getElem?_append_left (by rw [hN]; exact hml)]; exact hm s
  have hit : ∀ (b : ABlk), (B s ++ [b])[N]? = some b := fun b => by
   rw [List.getElem?_append_right (by rw [hN]; exact Nat.le_refl _), hN, Nat.sub_self]; rfl
  have hset : ∀ (b c : ABlk), (B s ++ [b]).set N c = B s ++ [c] := fun b c => by
   rw [List.set_append_right _ _ (by rw [hN]; exact Nat.le_refl _), hN, Nat.sub_self]; rfl
  have hgx : AOpd.ev (IE s) (.t x) = .ptr N 0 := by rw [q_evt]; exact hx s
  have h1 : Run T (.code (mapB d d2 x j body) (IE s) (B s ++ [.miter m ts.length left last])) fun o =>
    (o.j = none ∧ ∃ i t s', i ∈ left ∧ ts[i]? = some t ∧ P (t :: done) s' ∧ o.env = IE s' ∧ o.σ = B s' ++ [.miter m ts.length (left.filter (· ≠ i)) (some i)]) ∨ (o.j ≠ none ∧ K o.j o.env o.σ) := by
   refine .seq (R := fun o => o.j = none ∧ ((left = [] ∧ o.env = (d2, .bool false) :: (d, .tuple [.bool false]) :: IE s ∧ o.σ = B s ++ [.miter m ts.length left last]) ∨
     ∃ i t, i ∈ left ∧ ts[i]? = some t ∧ o.env = (d2, .bool true) :: (d, .tuple [.bool true, (kv t).1, (kv t).2]) :: IE s ∧ o.σ = B s ++ [.miter m ts.length (left.filter (· ≠ i)) (some i)]))
    (.reg (.stepm (x := .t x) rfl rfl hgx (hit _) (hmap _) (by simp) (fun h0 => ?_) fun i k v hi hk => ?_)) (fun o ho _ => ?_) (fun o ho hj => absurd ho.1 hj)
   ·refine .step (v := .bool false) (σ' := B s ++ [.miter m ts.length left last]) rfl (by simp [aop, AOpd.ev, Env.put, Env.get]) (.nil ⟨rfl, .inl ⟨h0, rfl, rfl⟩⟩)
   ·rw [hset]
    rw [List.getElem?_map] at hk
    cases ht : ts[i]? with
    | none => rw [ht] at hk; cases hk
    | some t =>
     rw [ht] at hk
     simp only [Option.map_some, Option.some.injEq] at hk
     refine .step (v := .bool true) (σ' := B s ++ [.miter m ts.length (left.filter (· ≠ i)) (some i)]) rfl (by simp [aop, AOpd.ev, Env.put, Env.get]) (.nil ⟨rfl, .inr ⟨i, t, hi, ht, ?_, rfl⟩⟩)
     rw [hk]
     rfl
   ·obtain ⟨hj, ⟨h0, he, hs⟩ | ⟨i, t, hi, ht, he, hs⟩⟩ := ho
    ·rw [he, hs]
     refine .seq (R := fun o => o.j = some (.exit j) ∧ K o.j o.env o.σ) (.cond false (by simp [AOpd.ev, Env.get]) (.jump ⟨rfl, ?_⟩)) (fun o ho hn => by rw [ho.1] at hn; cases hn) fun o ho hj => .inr ⟨hj, ho.2⟩
     refine fin done s left last hP fun t => ⟨hdone t, fun htm => ?_⟩
     obtain ⟨i, hi, rfl⟩ := List.getElem_of_mem htm
     rcases hcov i ts[i] (List.getElem?_eq_getElem hi) with h | h
     ·rw [h0] at h; cases h
     ·exact h
    ·rw [he, hs]
     refine .seq (R := fun o => o.j = none ∧ o.env = (d2, .bool true) :: (d, .tuple [.bool true, (kv t).1, (kv t).2]) :: IE s ∧ o.σ = B s ++ [.miter m ts.length (left.filter (· ≠ i)) (some i)]) (.cond true (by simp [AOpd.ev, Env.get]) (.skip ⟨rfl, rfl, rfl⟩)) (fun o ho _ => ?_) fun o ho hj => absurd ho.1 hj
     rw [ho.2.1, ho.2.2]
     have hst := step done s t i (left.filter (· ≠ i)) hP (List.mem_of_getElem? ht) ht
     refine .trim2 (run_wp hst fun o ho => ho) fun o ho => ?_
     cases hj : o.j with
     | none =>
      rw [hj, MapK, T_back] at ho
      obtain ⟨⟨b, s'⟩, ⟨h1, h2⟩, _, h3⟩ := ho
      exact .inr ⟨_, _, trims_of h3, .inl ⟨rfl, i, t, s', hi, ht, h2, rfl, rfl⟩⟩
     | some j =>
      rw [hj, MapK, T_out] at ho
      exact .inl (.inr ⟨by simp, ho⟩)
  refine .loop h1 (fun o ho hj => ?_) fun o ho hj => ?_
  ·rcases ho with ⟨_, i, t, s', hi, ht, hP', q3, q4⟩ | ⟨q1, _⟩
   ·rw [q3, q4]
    refine ih (left.filter (· ≠ i)).length ?_ _ _ (t :: done) s' rfl ?_ ?_ hP'
    ·rw [← hl]
     refine List.length_filter_lt_length_iff_exists.2 ⟨i, hi, by simp⟩
    ·intro u hu
     rcases List.mem_cons.1 hu with rfl | hu
     ·exact List.mem_of_getElem? ht
     ·exact hdone u hu
    ·intro k u hk
     by_cases e : k = i
     ·subst e
      rw [ht] at hk
      cases hk
      exact .inr (by simp)
     ·rcases hcov k u hk with h | h
      ·exact .inl (by rw [List.mem_filter]; exact ⟨h, by simpa using e⟩)
      ·exact .inr (List.mem_cons_of_mem _ h)
   ·exact absurd hj q1
  ·rcases ho with ⟨q, _⟩ | ⟨_, q⟩
   ·exact absurd q hj
   ·exact q
theorem mapE {d d2 x j : Nat} {body : ACode} {e : Env} {σ : St} {K : KJ} (s0 : S) (hN : ∀ s, (B s).length = N) (hm : ∀ s, (B s)[m]? = some (.map (ts.map kv))) (hx : ∀ s, Env.get (IE s) x = .ptr N 0)
  (hP : P [] s0) (hσ : σ = B s0 ++ [.miter m ts.length (List.range ts.length) none]) (hE : EqW e (IE s0))
  (step : ∀ done s t i left, P done s → t ∈ ts → ts[i]? = some t → wp T body ((d2, .bool true) :: (d, .tuple [.bool true, (kv t).1, (kv t).2]) :: IE s) (B s ++ [.miter m ts.length left (some i)]) (MapK ts m P IE B t done s left i K))
  (fin : ∀ done s left last, P done s → (∀ t, t ∈ done ↔ t ∈ ts) → K (some (.exit j)) ((d2, .bool false) :: (d, .tuple [.bool false]) :: IE s) (B s ++ [.miter m ts.length left last])) :
  rK (K := ⟨K⟩) T (.loop (mapB d d2 x j body)) e σ := by
 subst hσ
 refine .weak (eqW_spec hE) (mapX ts kv m N P IE B hN hm hx step fin _ _ _ [] s0 rfl (by simp) (fun i t ht => .inl ?_) hP)
 rw [List.mem_range]
 by_cases h : i < ts.length
 ·exact h
 ·rw [List.getElem?_eq_none (by omega)] at ht; cases ht
end
end Go.Am.Room
set_option maxRecDepth 8000
namespace Go.Am.Room
def QXFFaP9 := And.intro @encFarm_eq (And.intro @farmCells_eq (And.intro @encPlot_eq (And.intro @encLook_eq (And.intro @encSpan_eq (And.intro @S_mapPlot (And.intro @S_mapLook (And.intro @S_mapSpan (And.intro @List.length_append.{0} (And.intro @Nat.mul_one (And.intro @Int.toNat_natCast (And.intro @T_sapp (And.intro @T_sapp0 (And.intro @db_0 (And.intro @db_1 (And.intro @db_2 (And.intro @db_3 (And.intro @db_4 (And.intro @db_5 (And.intro @db_6 (And.intro @db_7 (And.intro @db_8 (And.intro @A_mrange (And.intro @W_mrange (And.intro @A_entry (And.intro @W_entry (And.intro @arrA_len (And.intro @arrA_take (And.intro @arrA_drop (And.intro @S_arrA (And.intro @arrA_cell (And.intro @V_min2 (@V_max2))))))))))))))))))))))))))))))))
def mmIs (z s : Span) (l : List Int) : Prop := (l = [] → s = z) ∧ (l ≠ [] → s.lo ∈ l ∧ s.hi ∈ l ∧ ∀ x ∈ l, s.lo ≤ x ∧ x ≤ s.hi)
def mm (s : Span) (x : Int) : Span := ⟨min s.lo x, max s.hi x⟩
theorem mm_step {z s : Span} {l : List Int} {x : Int} (h : mmIs z s l) (hx : x ≤ z.lo ∧ z.hi ≤ x) : mmIs z (mm s x) (x :: l) := by
 refine ⟨fun h => (by cases h), fun _ => ?_⟩
 by_cases hl : l = []
 ·have := h.1 hl
  subst this
  subst hl
  have e1 : min s.lo x = x := by omega
  have e2 : max s.hi x = x := by omega
  simp only [mm, e1, e2]
  refine ⟨by simp, by simp, fun y hy => ?_⟩
  simp at hy
  omega
 ·obtain ⟨a, b, c⟩ := h.2 hl
  simp only [mm]
  refine ⟨?_, ?_, fun y hy => ?_⟩
  ·by_cases h1 : s.lo ≤ x
   ·rw [show min s.lo x = s.lo by omega]; exact List.mem_cons_of_mem _ a
   ·rw [show min s.lo x = x by omega]; simp
  ·by_cases h1 : x ≤ s.hi
   ·rw [show max s.hi x = s.hi by omega]; exact List.mem_cons_of_mem _ b
   ·rw [show max s.hi x = x by omega]; simp
  ·rcases List.mem_cons.1 hy with rfl | hy
   ·omega
   ·have := c y hy; omega
theorem mm_congr {z s : Span} {l k : List Int} (h : mmIs z s l) (hk : ∀ x, x ∈ l ↔ x ∈ k) : mmIs z s k := by
 have hn : l = [] ↔ k = [] := by
  constructor
  ·intro e
   cases k with
   | nil => rfl
   | cons a b => have := (hk a).2 (by simp); rw [e] at this; cases this
  ·intro e
   cases l with
   | nil => rfl
   | cons a b => have := (hk a).1 (by simp); rw [e] at this; cases this
 refine ⟨fun e => h.1 (hn.2 e), fun e => ?_⟩
 obtain ⟨a, b, c⟩ := h.2 fun e2 => e (hn.1 e2)
 exact ⟨(hk _).1 a, (hk _).1 b, fun x hx => c x ((hk x).2 hx)⟩
theorem mm_span {z s : Span} {l : List Int} (h : mmIs z s l) (hl : l ≠ []) : s = spanL l := by
 obtain ⟨a, b, c⟩ := h.2 hl
 obtain ⟨d, e, f⟩ := spanL_spec hl
 have h1 := c _ d
 have h2 := c _ e
 have h3 := f _ a
 have h4 := f _ b
 cases s
 cases hs : spanL l
 rw [hs] at h1 h2 h3 h4
 simp only at h1 h2 h3 h4
 congr <;> omega
theorem mm_nil (z : Span) : mmIs z z [] := ⟨fun _ => rfl, fun h => absurd rfl h⟩
structure KOk (v : Farm) (t : Truth) : Prop where
 tok : TOk v t
 lst : ∀ p, p < v.plots.length → lst v.rain.length (setB (flAt t p)) = flAt t p
theorem kok_of {v : Farm} (hv : Vd v) {but : List Int} {t : Truth} (h : t ∈ truths v but) : KOk v t := by
 refine ⟨tok_of hv h, fun p hp => ?_⟩
 have e : flAt t p = flowersOf v p t.rain but := by simp [flAt, (mem_truths.1 h).2.1, hp]
 rw [e]
 exact lst_flowers hv hp _ _
structure KnownAt (σ : St) (v : Farm) (b m p : Nat) (ts : List Truth) : Prop where
 obj : cellsAt σ p = some (db v b m)
 map : σ[m]? = some (.map (ts.map kvT))
theorem KnownAt.pl {σ : St} {v : Farm} {b m p : Nat} {ts : List Truth} (h : KnownAt σ v b m p ts) : p < σ.length := cells_lt h.obj
theorem KnownAt.ml {σ : St} {v : Farm} {b m p : Nat} {ts : List Truth} (h : KnownAt σ v b m p ts) : m < σ.length := by
 by_cases hm : m < σ.length
 ·exact hm
 ·have := h.map; rw [List.getElem?_eq_none (by omega)] at this; cases this
theorem KnownAt.map1 {σ : St} {v : Farm} {b m p : Nat} {ts : List Truth} (h : KnownAt σ v b m p ts) (τ : St) : (σ ++ τ)[m]? = some (.map (ts.map kvT)) := by rw [List.getElem?_append_left h.ml]; exact h.map
theorem known_entry {σ : St} {v : Farm} {b m p : Nat} {ts : List Truth} (h : KnownAt σ v b m p ts) {t : Truth} {i : Nat} (ht : ts[i]? = some t) (left : List Nat) (a : ABlk) (τ : St) :
  vEntry (σ ++ (a :: .miter m ts.length left (some i) :: τ)) (.ptr (σ.length + 1) 0) = some (.tuple [tKey t, tVal t]) := by
 refine V_entry (es := ts.map kvT) (by rw [st_get]; rfl) (h.map1 _) (by simp) ?_
 rw [List.getElem?_map, ht]
 rfl
theorem grown_same (v : Farm) (hv : Vd v) (ts : List Truth) (hts : ∀ t ∈ ts, KOk v t) (hne : ts ≠ []) (b m p : Nat) (σ : St) (hK : KnownAt σ v b m p ts) (P d : Nat) (hP : P < v.plots.length) (hd : d ≤ v.rain.length) :
  Same T (.func 72 [] []) [.ptr p 0, .int .i64 P, .int .i64 d] σ (encSpan (fullS ts P d)) := by
 refine same_fn (af := a72) rfl (by simp [a72]) ?_
 have hnr := hv.nra
 have hnp := hv.npl
 have hpl := hK.pl
 have hml := hK.ml
 have h0 := fun τ => cells_app hK.obj τ
 have hmr := fun τ => V_mrange (hK.map1 τ)
 simp only [List.length_map] at hmr
 have hp2 : p < σ.length + 2 := by omega
 have hm2 : m < σ.length + 2 := by omega
 have i4 : (0 : Int) ≤ (P : Int) ∧ (P : Int) < ((4 : Nat) : Int) := ⟨by omega, by omega⟩
 (repeat (first | simp only [↓QA, QB, Nat.reduceLT, reduceIte, Nat.reduceEqDiff, Nat.reduceAdd, Nat.reduceLeDiff, Nat.reduceMul, Nat.reduceBEq, QXFFaP9, a72, h0, hmr] | refine rd0 rfl ?_))
 refine mapE (S := Span) ts kvT m (σ.length + 1) (fun done s => mmIs ⟨31, -1⟩ s (fullIn done P d)) (fun _ => [(0, .ptr p 0), (1, .int .i64 P), (2, .int .i64 d), (6, .ptr σ.length 0), (17, .ptr (σ.length + 1) 0)])
  (fun s => σ ++ [.cells [.int .i64 s.lo, .int .i64 s.hi]]) ⟨31, -1⟩ (fun s => by simp) (fun s => hK.map1 _) (fun s => by simp [Env.get]) (mm_nil _) (by simp) ?_ (fun done s t i left hs ht hti => ?_) fun done s left last hs hdone => ?_
 ·try simp only [TrimX, QE, Nat.reduceLT, reduceIte, Nat.reduceEqDiff, Nat.reduceAdd, Nat.reduceLeDiff, Nat.reduceMul, Nat.reduceBEq, QXFFaP9]
  try simp
 ·have hent := known_entry hK hti left
  unfold MapK
  obtain ⟨htk, hlst⟩ := hts t ht
  have hfl := htk.fl P hP
  have hlst := hlst P hP
  have hsb : setB (flAt t P) < 2 ^ 7 := setB_lt fun x hx => by have := hfl.2.2 x hx; omega
  have hge := arrA_get 4 (fun q => (setB (flAt t q) : Int)) (show P < 4 by omega)
  have hnum := numbers_ok (setB (flAt t P)) v.rain.length (by omega) (by omega)
  rw [hlst] at hnum
  have hfull := fun (H : Nat) (τ : St) => full_same (.ptr p 0) (rl t.rain) H d (rain_bd hv htk.rain) (by omega) τ
  have hst : ∀ x, x ∈ fullIn (t :: done) P d ↔ x ∈ (flAt t P).map (ptsT t d) ∨ x ∈ fullIn done P d := fun x => by
   rw [fullIn, List.flatMap_cons, List.mem_append]; rfl
  obtain ⟨F, hF⟩ : ∃ F, flAt t P = F := ⟨_, rfl⟩
  rw [hF] at hfl hnum hst
  simp only [hF] at hge
  obtain ⟨bb, hbb⟩ : ∃ bb : Nat, setB F = bb := ⟨_, rfl⟩
  rw [hbb] at hnum
  simp only [hbb] at hge
  (repeat (first | simp only [↓QA, QB, Nat.reduceLT, reduceIte, Nat.reduceEqDiff, Nat.reduceAdd, Nat.reduceLeDiff, Nat.reduceMul, Nat.reduceBEq, QXFFaP9, hent, h0, kvT, tKey, tVal, i4, Nat.zero_add, hge] | refine rd0 rfl ?_))
  ((first | refine callK_d (hnum) rfl dd ?_ | refine callD_d (hnum) rfl dd ?_); (repeat (first | simp only [↓QA, QB, Nat.reduceLT, reduceIte, Nat.reduceEqDiff, Nat.reduceAdd, Nat.reduceLeDiff, Nat.reduceMul, Nat.reduceBEq, QXFFaP9, hent, h0, kvT, tKey, tVal, i4, Nat.zero_add, hge, ints] | refine rd0 rfl ?_)))
  refine loopE (S := Nat × Span) (0, s) (fun a => a.1 ≤ F.length ∧ mmIs ⟨31, -1⟩ a.2 ((F.take a.1).map (ptsT t d) ++ fullIn done P d)) (fun a => F.length - a.1)
   (fun a => [(0, .ptr p 0), (1, .int .i64 P), (2, .int .i64 d), (6, .ptr σ.length 0), (7, .ptr (σ.length + 2) 0), (17, .ptr (σ.length + 1) 0), (32, ints F), (33, .int .i64 F.length), (34, .int .i64 a.1)])
   (fun a => σ ++ [.cells [.int .i64 a.2.lo, .int .i64 a.2.hi], .miter m ts.length left (some i), .cells (arrA 7 (rl t.rain)), .cells (arrA 4 (fun q => (setB (flAt t q) : Int)))]) ⟨Nat.zero_le _, by simpa using hs⟩ (by simp) ?_ fun a ha => ?_
  ·try simp only [TrimX, QE, Nat.reduceLT, reduceIte, Nat.reduceEqDiff, Nat.reduceAdd, Nat.reduceLeDiff, Nat.reduceMul, Nat.reduceBEq, QXFFaP9, ints]
   try simp
  ·obtain ⟨k, s⟩ := a
   obtain ⟨hk, hmm⟩ := ha
   simp only at hk hmm
   (repeat (first | simp only [↓QA, QB, Nat.reduceLT, reduceIte, Nat.reduceEqDiff, Nat.reduceAdd, Nat.reduceLeDiff, Nat.reduceMul, Nat.reduceBEq, QXFFaP9, L72_2, ints] | refine rd0 rfl ?_))
   refine iteP_intro (fun h => ?_) fun h => ?_
   ·have hk1 : k < F.length := by simpa using h
    have hwk := wrapN hk1 (by omega)
    have hm := hfl.2.2 _ (List.getElem_mem hk1)
    obtain ⟨H, hH⟩ : ∃ H : Nat, F[k] = (H : Int) := ⟨F[k].toNat, by omega⟩
    have hfu := hfull H
    have hx : pts (rl t.rain) H d = ptsT t d H := by simp [ptsT, ptsL]
    have hxb := ptsT_bd hv htk hd (H : Int)
    rw [hx] at hfu
    obtain ⟨x, hxe⟩ : ∃ x, ptsT t d H = x := ⟨_, rfl⟩
    rw [hxe] at hxb
    simp only [hxe] at hfu
    have hnx : mmIs ⟨31, -1⟩ (mm s x) ((F.take (k + 1)).map (ptsT t d) ++ fullIn done P d) := by
     refine mm_congr (mm_step hmm (by simp only; omega)) fun y => ?_
     rw [List.take_succ_eq_append_getElem hk1, List.map_append, List.map_cons, List.map_nil, hH, hxe]
     simp only [List.mem_cons, List.mem_append, List.not_mem_nil, or_false]
     constructor
     ·rintro (h | h | h)
      ·exact .inl (.inr h)
      ·exact .inl (.inl h)
      ·exact .inr h
     ·rintro ((h | h) | h)
      ·exact .inr (.inl h)
      ·exact .inl h
      ·exact .inr (.inr h)
    (repeat (first | simp only [↓QA, QB, Nat.reduceLT, reduceIte, Nat.reduceEqDiff, Nat.reduceAdd, Nat.reduceLeDiff, Nat.reduceMul, Nat.reduceBEq, QXFFaP9, hk1, hH, ints] | refine rd0 rfl ?_))
    refine callK_same (hfu _) ?_
    (repeat (first | simp only [↓QA, QB, Nat.reduceLT, reduceIte, Nat.reduceEqDiff, Nat.reduceAdd, Nat.reduceLeDiff, Nat.reduceMul, Nat.reduceBEq, QXFFaP9, hwk] | refine rd0 rfl ?_))
    refine ⟨(k + 1, mm s x), ⟨by simp only; omega, hnx⟩, by simp only; omega, ?_⟩
    try simp only [TrimX, QE, Nat.reduceLT, reduceIte, Nat.reduceEqDiff, Nat.reduceAdd, Nat.reduceLeDiff, Nat.reduceMul, Nat.reduceBEq, QXFFaP9, hwk, ints, mm, hp2]
    try simp [okBlk, okVs, okV, arrA_ok]
    try omega
   ·have hk1 : k = F.length := by simp at h; omega
    rw [hk1, List.take_length] at hmm
    (repeat (first | simp only [↓QA, QB, Nat.reduceLT, reduceIte, Nat.reduceEqDiff, Nat.reduceAdd, Nat.reduceLeDiff, Nat.reduceMul, Nat.reduceBEq, QXFFaP9] | refine rd0 rfl ?_))
    refine ⟨(false, s), ⟨rfl, mm_congr hmm fun x => ?_⟩, by simp, ?_⟩
    ·rw [hst, List.mem_append]
    ·try simp only [TrimX, QE, Nat.reduceLT, reduceIte, Nat.reduceEqDiff, Nat.reduceAdd, Nat.reduceLeDiff, Nat.reduceMul, Nat.reduceBEq, QXFFaP9, hp2]
     try simp [okBlk, okVs, okV]
     try omega
 ·have hsp : fullS ts P d = s := by
   have hc : mmIs ⟨31, -1⟩ s (fullIn ts P d) := mm_congr hs fun x => by simp only [fullIn, List.mem_flatMap, hdone]
   exact (mm_span hc (fullIn_ne (fun t ht => (hts t ht).tok) hne hP d)).symm
  rw [hsp]
  (repeat (first | simp only [↓QA, QB, Nat.reduceLT, reduceIte, Nat.reduceEqDiff, Nat.reduceAdd, Nat.reduceLeDiff, Nat.reduceMul, Nat.reduceBEq, QXFFaP9] | refine rd0 rfl ?_))
  refine baseR [.cells [.int .i64 s.lo, .int .i64 s.hi], .miter m ts.length left last] (by first | rfl | simp) ?_
  try simp only [QS, QC, Nat.reduceLT, reduceIte, Nat.reduceEqDiff, Nat.reduceAdd, Nat.reduceLeDiff, Nat.reduceMul, Nat.reduceBEq, QXFFaP9]
end Go.Am.Room
set_option maxRecDepth 8000
namespace Go.Am.Room
def QXFFaPA := And.intro @encFarm_eq (And.intro @farmCells_eq (And.intro @encPlot_eq (And.intro @encLook_eq (And.intro @encSpan_eq (And.intro @S_mapPlot (And.intro @S_mapLook (And.intro @S_mapSpan (And.intro @List.length_append.{0} (And.intro @Nat.mul_one (And.intro @Int.toNat_natCast (And.intro @T_sapp (And.intro @T_sapp0 (And.intro @db_0 (And.intro @db_1 (And.intro @db_2 (And.intro @db_3 (And.intro @db_4 (And.intro @db_5 (And.intro @db_6 (And.intro @db_7 (And.intro @db_8 (And.intro @A_mrange (And.intro @W_mrange (And.intro @A_entry (And.intro @W_entry (And.intro @arrA_len (And.intro @arrA_take (And.intro @arrA_drop (And.intro @S_arrA (And.intro @arrA_cell (And.intro @V_min2 (@V_max2))))))))))))))))))))))))))))))))
theorem enter_err {v : Farm} (hf : Fits v) {plot eo : Int} {F : AV} {σ : St} (hF : ∀ τ, Same T F [] (σ ++ τ) (.int .i64 eo)) {E : Int} (hE : errKnown v (askErr v plot eo) = E) (h0 : E ≠ 0) : Same T (.func 70 [] []) [encFarm v, .int .i64 plot, F] σ (.tuple [.nilPtr, .int .i64 E]) := by
 subst hE
 refine .mono (enter_run v hf plot eo F σ hF) fun o ho => ?_
 rcases ho with h | h
 ·exact h.2
 ·exact absurd h.1 h0
theorem enter_ok {v : Farm} (hf : Fits v) {plot eo : Int} {F : AV} {σ : St} (hF : ∀ τ, Same T F [] (σ ++ τ) (.int .i64 eo)) (hE : errKnown v (askErr v plot eo) = 0) : Does T (.func 70 [] []) [encFarm v, .int .i64 plot, F] σ (.tuple [.ptr (σ.length + 3) 0, .int .i64 0]) (lookS (σ ++ [.cells (farmCells v)]) v 0 (truths v [])) := by
 refine .mono (enter_run v hf plot eo F σ hF) fun o ho => ?_
 rcases ho with h | h
 ·exact absurd hE h.1
 ·exact h.2
theorem inR_max (n k : Int) (hk : k < 9223372036854775807) : inR (max n (-1099511627775)) 0 k = inR n 0 k := by
 rw [Bool.eq_iff_iff, inR_iff, inR_iff]; omega
theorem ask_plot (v : Farm) (hf : Fits v) (n : Int) (eo : Int) : askErr v (max n (-1099511627775)) eo = if (check v).2.2 = 0 then (if inR n 0 ((v.plots.length : Int) - 1) then eo else 4) else (check v).2.2 := by
 have hfp := hf.plots
 have hn : max n (-1099511627775) ≠ nobody := by unfold nobody; omega
 rw [askErr, inR_max n _ (by omega)]
 congr 1
 cases inR n 0 ((v.plots.length : Int) - 1)
 ·simp [hn]
 ·simp
theorem until2 (d G : Int) : untilE [d, G] = if inR d 0 G then 0 else 7 := rfl
theorem ask_grown (v : Farm) (hf : Fits v) (n d : Int) : errKnown v (askErr v (max n (-1099511627775)) (untilE [d, (v.rain.length : Int)])) = grownErr v n d := by
 rw [grownErr]
 congr 1
 rw [ask_plot v hf, until2, within, errAsk]
 by_cases h : (check v).2.2 = 0
 ·simp only [h, if_true]
  by_cases h2 : inR n 0 ((v.plots.length : Int) - 1) = true
  ·rw [if_pos h2, if_pos h2]; rfl
  ·rw [if_neg h2, if_neg h2]; rfl
 ·simp [h]
theorem ask_fine (v : Farm) (hf : Fits v) (n : Int) : errKnown v (askErr v (max n (-1099511627775)) 0) = plotErr v n := by
 rw [plotErr]
 congr 1
 rw [ask_plot v hf, errAsk]
theorem ask_nobody (v : Farm) (eo : Int) : askErr v (-1099511627776) eo = if (check v).2.2 = 0 then eo else (check v).2.2 := by
 simp [askErr, nobody]
theorem ask_rain (v : Farm) (d : Int) : errKnown v (askErr v (-1099511627776) (untilE [d, (v.rain.length : Int) - 1])) = rainErr v d := by
 rw [rainErr, ask_nobody]
 rfl
theorem ask_early (v : Farm) (d h : Int) : errKnown v (askErr v (-1099511627776) (untilE [d, (v.rain.length : Int), h, 400])) = earlyErr v d h := by
 rw [earlyErr]
 congr 1
 rw [ask_nobody]
 have : untilE [d, (v.rain.length : Int), h, 400] = if inR d 0 (v.rain.length : Int) then (if inR h 0 400 then 0 else 7) else 7 := rfl
 rw [this, within, within]
 by_cases hc : (check v).2.2 = 0
 ·simp only [hc, if_true, endOf]
  by_cases h2 : inR d 0 (v.rain.length : Int) = true
  ·simp [h2]
  ·simp [h2]
 ·simp [hc]
theorem pgrown_ok (v : Farm) (n d : Int) (hf : Fits v) : Pure T 17 [encFarm v, .int .i64 n, .int .i64 d] (encSE (grownOf v n d)) := by
 refine pure_fn (af := a17) rfl (by simp [a17]) dd ?_
 obtain ⟨E, hE⟩ : ∃ E, grownErr v n d = E := ⟨_, rfl⟩
 have hask := ask_grown v hf n d
 rw [hE] at hask
 have hun := fun σ => until_does [d, (v.rain.length : Int)] σ
 have hu1 := fun (q : Nat) (σ : St) hq => until1_same [d, (v.rain.length : Int)] (by simp) q σ hq
 simp only [litI_eq, List.map_cons, List.map_nil] at hun hu1
 (repeat (first | simp only [↓QA, QB, Nat.reduceLT, reduceIte, Nat.reduceEqDiff, Nat.reduceAdd, Nat.reduceLeDiff, Nat.reduceMul, Nat.reduceBEq, QXFFaPA, a17] | refine rd0 rfl ?_))
 refine callD_do (hun _) ?_
 (repeat (first | simp only [↓QA, QB, Nat.reduceLT, reduceIte, Nat.reduceEqDiff, Nat.reduceAdd, Nat.reduceLeDiff, Nat.reduceMul, Nat.reduceBEq, QXFFaPA] | refine rd0 rfl ?_))
 by_cases h0' : E = 0
 ·subst h0'
  have hE2 := hE
  obtain ⟨hw, hne⟩ := errKnown_ok hE2
  obtain ⟨ha, hd0, hd1⟩ := within_ok hw
  obtain ⟨hv, hn0, hn1⟩ := errAsk_ok ha
  have hm : grownOf v n d = (fullS (truths v []) n.toNat d.toNat, 0) := by rw [grownOf, hE, if_pos rfl]
  rw [hm]
  simp only [endOf] at hd1
  obtain ⟨N, rfl⟩ : ∃ N : Nat, n = N := ⟨n.toNat, by omega⟩
  obtain ⟨D, rfl⟩ : ∃ D : Nat, d = D := ⟨d.toNat, by omega⟩
  rw [Int.toNat_natCast, Int.toNat_natCast]
  have hen := enter_ok hf (plot := max (N : Int) (-1099511627775)) (eo := untilE [(D : Int), (v.rain.length : Int)]) (F := .func 96 [] [.ptr 2 0]) (σ := [.cells (farmCells v), .cells [.int .i64 0, .int .i64 0], .cells [.lit [.int .i64 D, .int .i64 v.rain.length] true none]]) (fun τ => hu1 _ _ rfl) hask
  have hgr := grown_same v hv (truths v []) (fun t ht => kok_of hv ht) hne 0 5 6 (lookS ([.cells (farmCells v), .cells [.int .i64 0, .int .i64 0], .cells [.lit [.int .i64 D, .int .i64 v.rain.length] true none]] ++ [.cells (farmCells v)]) v 0 (truths v [])) ⟨rfl, rfl⟩ N D (by omega) (by omega)
  try simp only [↓QA, QB, Nat.reduceLT, reduceIte, Nat.reduceEqDiff, Nat.reduceAdd, Nat.reduceLeDiff, Nat.reduceMul, Nat.reduceBEq, QXFFaPA, lookS, List.cons_append, List.nil_append, List.length_cons, List.length_nil] at hen
  try simp only [↓QA, QB, Nat.reduceLT, reduceIte, Nat.reduceEqDiff, Nat.reduceAdd, Nat.reduceLeDiff, Nat.reduceMul, Nat.reduceBEq, QXFFaPA, lookS, List.cons_append, List.nil_append, List.length_cons, List.length_nil] at hgr
  refine callD_do hen ?_
  (repeat (first | simp only [↓QA, QB, Nat.reduceLT, reduceIte, Nat.reduceEqDiff, Nat.reduceAdd, Nat.reduceLeDiff, Nat.reduceMul, Nat.reduceBEq, QXFFaPA] | refine rd0 rfl ?_))
  refine callK_same hgr ?_
  (repeat (first | simp only [↓QA, QB, Nat.reduceLT, reduceIte, Nat.reduceEqDiff, Nat.reduceAdd, Nat.reduceLeDiff, Nat.reduceMul, Nat.reduceBEq, QXFFaPA, encSE] | refine rd0 rfl ?_))
 ·have hm : grownOf v n d = (⟨0, 0⟩, E) := by rw [grownOf, hE, if_neg h0']
  have hg : (E == 0) = false := by simpa using h0'
  rw [hm]
  refine callD_same (enter_err hf (fun τ => hu1 _ _ rfl) hask h0') ?_
  (repeat (first | simp only [↓QA, QB, Nat.reduceLT, reduceIte, Nat.reduceEqDiff, Nat.reduceAdd, Nat.reduceLeDiff, Nat.reduceMul, Nat.reduceBEq, QXFFaPA, hg, encSE] | refine rd0 rfl ?_))
theorem prained_ok (v : Farm) (d : Int) (hf : Fits v) : Pure T 29 [encFarm v, .int .i64 d] (encSE (rainedOf v d)) := by
 refine pure_fn (af := a29) rfl (by simp [a29]) dd ?_
 have hfr := hf.rain
 have hwe : IntKind.i64.wrap ((v.rain.length : Int) - 1) = (v.rain.length : Int) - 1 := wrap64 ⟨by omega, by omega⟩
 obtain ⟨E, hE⟩ : ∃ E, rainErr v d = E := ⟨_, rfl⟩
 have hask := ask_rain v d
 rw [hE] at hask
 obtain ⟨G1, hG1⟩ : ∃ G1, (v.rain.length : Int) - 1 = G1 := ⟨_, rfl⟩
 rw [hG1] at hask hwe
 have hun := fun σ => until_does [d, G1] σ
 have hu1 := fun (q : Nat) (σ : St) hq => until1_same [d, G1] (by simp) q σ hq
 simp only [litI_eq, List.map_cons, List.map_nil] at hun hu1
 (repeat (first | simp only [↓QA, QB, Nat.reduceLT, reduceIte, Nat.reduceEqDiff, Nat.reduceAdd, Nat.reduceLeDiff, Nat.reduceMul, Nat.reduceBEq, QXFFaPA, a29, hG1, hwe] | refine rd0 rfl ?_))
 refine callD_do (hun _) ?_
 (repeat (first | simp only [↓QA, QB, Nat.reduceLT, reduceIte, Nat.reduceEqDiff, Nat.reduceAdd, Nat.reduceLeDiff, Nat.reduceMul, Nat.reduceBEq, QXFFaPA] | refine rd0 rfl ?_))
 by_cases h0' : E = 0
 ·subst h0'
  have hE2 := hE
  obtain ⟨hw, hne⟩ := errKnown_ok hE2
  obtain ⟨ha, hd0, hd1⟩ := within_ok hw
  have hv := vd_of_check ha
  have hnr := hv.nra
  have hm : rainedOf v d = (spanL (rainedIn (truths v []) d.toNat), 0) := by rw [rainedOf, hE, if_pos rfl]
  rw [hm]
  simp only [endOf] at hd1
  obtain ⟨D, rfl⟩ : ∃ D : Nat, d = D := ⟨d.toNat, by omega⟩
  rw [Int.toNat_natCast]
  have hen := enter_ok hf (plot := -1099511627776) (eo := untilE [(D : Int), G1]) (F := .func 96 [] [.ptr 2 0]) (σ := [.cells (farmCells v), .cells [.int .i64 0, .int .i64 0], .cells [.lit [.int .i64 D, .int .i64 G1] true none]]) (fun τ => hu1 _ _ rfl) hask
  try simp only [↓QA, QB, Nat.reduceLT, reduceIte, Nat.reduceEqDiff, Nat.reduceAdd, Nat.reduceLeDiff, Nat.reduceMul, Nat.reduceBEq, QXFFaPA, lookS, List.cons_append, List.nil_append, List.length_cons, List.length_nil] at hen
  refine callD_do hen ?_
  have htsk : ∀ t ∈ truths v [], TOk v t := fun t ht => tok_of hv ht
  obtain ⟨ts, hts⟩ : ∃ ts, truths v [] = ts := ⟨_, rfl⟩
  rw [hts] at hne ⊢
  simp only [hts] at htsk
  obtain ⟨σ, hσ⟩ : ∃ σ : St, [ABlk.cells (farmCells v), .cells [.int .i64 0, .int .i64 0], .cells [.lit [.int .i64 D, .int .i64 G1] true none], .cells (farmCells v), .cells (farmCells v), .map (ts.map kvT), .cells (db v 0 5)] = σ := ⟨_, rfl⟩
  have hmr : vMrange [ABlk.cells (farmCells v), .cells [.int .i64 2, .int .i64 0], .cells [.lit [.int .i64 D, .int .i64 G1] true none], .cells (farmCells v), .cells (farmCells v), .map (ts.map kvT), .cells (db v 0 5)] (.map 5) = some (.ptr 7 0, [ABlk.cells (farmCells v), .cells [.int .i64 2, .int .i64 0], .cells [.lit [.int .i64 D, .int .i64 G1] true none], .cells (farmCells v), .cells (farmCells v), .map (ts.map kvT), .cells (db v 0 5), .miter 5 ts.length (List.range ts.length) none]) := by
   have := V_mrange (σ := [ABlk.cells (farmCells v), .cells [.int .i64 2, .int .i64 0], .cells [.lit [.int .i64 D, .int .i64 G1] true none], .cells (farmCells v), .cells (farmCells v), .map (ts.map kvT), .cells (db v 0 5)]) (m := 5) (es := ts.map kvT) rfl
   simpa using this
  simp only [farmCells_eq] at hmr
  (repeat (first | simp only [↓QA, QB, Nat.reduceLT, reduceIte, Nat.reduceEqDiff, Nat.reduceAdd, Nat.reduceLeDiff, Nat.reduceMul, Nat.reduceBEq, QXFFaPA, hmr] | refine rd0 rfl ?_))
  refine mapE (S := Span) ts kvT 5 7 (fun done s => mmIs ⟨2, 0⟩ s (rainedIn done D)) (fun _ => [(1, .int .i64 D), (4, .ptr 1 0), (29, .ptr 7 0)])
   (fun s => [.cells (farmCells v), .cells [.int .i64 s.lo, .int .i64 s.hi], .cells [.lit [.int .i64 D, .int .i64 G1] true none], .cells (farmCells v), .cells (farmCells v), .map (ts.map kvT), .cells (db v 0 5)]) ⟨2, 0⟩ (fun s => rfl) (fun s => rfl) (fun s => by simp [Env.get]) (mm_nil _) (by simp [farmCells_eq]) ?_ (fun done s t i left hs ht hti => ?_) fun done s left last hs hdone => ?_
  ·try simp only [TrimX, QE, Nat.reduceLT, reduceIte, Nat.reduceEqDiff, Nat.reduceAdd, Nat.reduceLeDiff, Nat.reduceMul, Nat.reduceBEq, QXFFaPA]
   try simp
  ·have htk := htsk t ht
   have hent : ∀ τ, vEntry (.cells (farmCells v) :: .cells [.int .i64 s.lo, .int .i64 s.hi] :: .cells [.lit [.int .i64 D, .int .i64 G1] true none] :: .cells (farmCells v) :: .cells (farmCells v) :: .map (ts.map kvT) :: .cells (db v 0 5) :: .miter 5 ts.length left (some i) :: τ) (.ptr 7 0) = some (.tuple [tKey t, tVal t]) := fun τ => by
    refine V_entry (es := ts.map kvT) rfl rfl (by simp) ?_
    rw [List.getElem?_map, hti]; rfl
   simp only [farmCells_eq] at hent
   unfold MapK
   have hge := arrA_get 7 (rl t.rain) (show D < 7 by omega)
   have hrb := rain_bd hv htk.rain D
   obtain ⟨x, hx⟩ : ∃ x, rl t.rain D = x := ⟨_, rfl⟩
   rw [hx] at hge hrb
   have i7 : (0 : Int) ≤ (D : Int) ∧ (D : Int) < ((7 : Nat) : Int) := ⟨by omega, by omega⟩
   have hnx : mmIs ⟨2, 0⟩ (mm s x) (rainedIn (t :: done) D) := by
    rw [rainedIn, List.map_cons, hx]
    exact mm_step hs (by simp only; omega)
   (repeat (first | simp only [↓QA, QB, Nat.reduceLT, reduceIte, Nat.reduceEqDiff, Nat.reduceAdd, Nat.reduceLeDiff, Nat.reduceMul, Nat.reduceBEq, QXFFaPA, hent, kvT, tKey, tVal, i7, Nat.zero_add, hge, List.cons_append, List.nil_append] | refine rd0 rfl ?_))
   refine ⟨(false, mm s x), ⟨rfl, hnx⟩, by simp, ?_⟩
   try simp only [TrimX, QE, Nat.reduceLT, reduceIte, Nat.reduceEqDiff, Nat.reduceAdd, Nat.reduceLeDiff, Nat.reduceMul, Nat.reduceBEq, QXFFaPA, mm, List.cons_append, List.nil_append]
   try simp [okBlk, okVs, okV]
  ·have hsp : spanL (rainedIn ts D) = s := by
    have hc : mmIs ⟨2, 0⟩ s (rainedIn ts D) := mm_congr hs fun x => by simp only [rainedIn, List.mem_map, hdone]
    refine (mm_span hc ?_).symm
    cases ts with
    | nil => exact absurd rfl hne
    | cons a b => simp [rainedIn]
   rw [hsp]
   (repeat (first | simp only [↓QA, QB, Nat.reduceLT, reduceIte, Nat.reduceEqDiff, Nat.reduceAdd, Nat.reduceLeDiff, Nat.reduceMul, Nat.reduceBEq, QXFFaPA, encSE] | refine rd0 rfl ?_))
   try try simp only [QS, QC, Nat.reduceLT, reduceIte, Nat.reduceEqDiff, Nat.reduceAdd, Nat.reduceLeDiff, Nat.reduceMul, Nat.reduceBEq, QXFFaPA]
 ·have hm : rainedOf v d = (⟨0, 0⟩, E) := by rw [rainedOf, hE, if_neg h0']
  have hg : (E == 0) = false := by simpa using h0'
  rw [hm]
  refine callD_same (enter_err hf (fun τ => hu1 _ _ rfl) hask h0') ?_
  (repeat (first | simp only [↓QA, QB, Nat.reduceLT, reduceIte, Nat.reduceEqDiff, Nat.reduceAdd, Nat.reduceLeDiff, Nat.reduceMul, Nat.reduceBEq, QXFFaPA, hg, encSE] | refine rd0 rfl ?_))
end Go.Am.Room
set_option maxRecDepth 8000
namespace Go.Am.Room
def QXFFaPB := And.intro @encFarm_eq (And.intro @farmCells_eq (And.intro @encPlot_eq (And.intro @encLook_eq (And.intro @encSpan_eq (And.intro @S_mapPlot (And.intro @S_mapLook (And.intro @S_mapSpan (And.intro @List.length_append.{0} (And.intro @Nat.mul_one (And.intro @Int.toNat_natCast (And.intro @T_sapp (And.intro @T_sapp0 (And.intro @db_0 (And.intro @db_1 (And.intro @db_2 (And.intro @db_3 (And.intro @db_4 (And.intro @db_5 (And.intro @db_6 (And.intro @db_7 (And.intro @db_8 (And.intro @A_mrange (And.intro @W_mrange (And.intro @A_entry (And.intro @W_entry (And.intro @arrA_len (And.intro @arrA_take (And.intro @arrA_drop (And.intro @S_arrA (And.intro @arrA_cell (And.intro @V_min2 (@V_max2))))))))))))))))))))))))))))))))
theorem fine_same (σ : St) : Same T (.func 77 [] []) [] σ (.int .i64 0) := same_pure fine_ok rfl trivial
theorem isFl_cons (t : Truth) (l : List Truth) (p : Nat) (d : Int) : isFl (t :: l) p d = ((flAt t p).contains d || isFl l p d) := by simp [isFl]
theorem isFl_congr {l k : List Truth} (h : ∀ t, t ∈ l ↔ t ∈ k) (p : Nat) (d : Int) : isFl l p d = isFl k p d := by
 rw [Bool.eq_iff_iff, isFl, isFl, List.any_eq_true, List.any_eq_true]
 constructor
 ·rintro ⟨t, a, b⟩; exact ⟨t, (h t).1 a, b⟩
 ·rintro ⟨t, a, b⟩; exact ⟨t, (h t).2 a, b⟩
theorem pflowered_ok (v : Farm) (n : Int) (hf : Fits v) : Pure T 19 [encFarm v, .int .i64 n] (encLE (floweredOf v n)) := by
 refine pure_fn (af := a19) rfl (by simp [a19]) dd ?_
 obtain ⟨E, hE⟩ : ∃ E, plotErr v n = E := ⟨_, rfl⟩
 have hask := ask_fine v hf n
 rw [hE] at hask
 (repeat (first | simp only [↓QA, QB, Nat.reduceLT, reduceIte, Nat.reduceEqDiff, Nat.reduceAdd, Nat.reduceLeDiff, Nat.reduceMul, Nat.reduceBEq, QXFFaPB, a19] | refine rd0 rfl ?_))
 by_cases h0' : E = 0
 ·subst h0'
  have hE2 := hE
  obtain ⟨hw, hne⟩ := errKnown_ok hE2
  obtain ⟨hv, hn0, hn1⟩ := errAsk_ok hw
  have hnr := hv.nra
  have hnp := hv.npl
  have hm : floweredOf v n = (floweredIn v (truths v []) n.toNat, 0) := by rw [floweredOf, hE, if_pos rfl]
  rw [hm]
  obtain ⟨N, rfl⟩ : ∃ N : Nat, n = N := ⟨n.toNat, by omega⟩
  rw [Int.toNat_natCast]
  have hen := enter_ok hf (plot := max (N : Int) (-1099511627775)) (eo := 0) (F := .func 77 [] []) (σ := [.cells (farmCells v)]) (fun τ => fine_same _) hask
  try simp only [↓QA, QB, Nat.reduceLT, reduceIte, Nat.reduceEqDiff, Nat.reduceAdd, Nat.reduceLeDiff, Nat.reduceMul, Nat.reduceBEq, QXFFaPB, lookS, List.cons_append, List.nil_append, List.length_cons, List.length_nil] at hen
  refine callK_do hen ?_
  have htsk : ∀ t ∈ truths v [], TOk v t := fun t ht => tok_of hv ht
  obtain ⟨ts, hts⟩ : ∃ ts, truths v [] = ts := ⟨_, rfl⟩
  rw [hts] at hne ⊢
  simp only [hts] at htsk
  have hmr : vMrange [ABlk.cells (farmCells v), .cells (farmCells v), .cells (farmCells v), .map (ts.map kvT), .cells (db v 0 3)] (.map 3) = some (.ptr 5 0, [ABlk.cells (farmCells v), .cells (farmCells v), .cells (farmCells v), .map (ts.map kvT), .cells (db v 0 3), .miter 3 ts.length (List.range ts.length) none]) := by
   have := V_mrange (σ := [ABlk.cells (farmCells v), .cells (farmCells v), .cells (farmCells v), .map (ts.map kvT), .cells (db v 0 3)]) (m := 3) (es := ts.map kvT) rfl
   simpa using this
  simp only [farmCells_eq] at hmr
  (repeat (first | simp only [↓QA, QB, Nat.reduceLT, reduceIte, Nat.reduceEqDiff, Nat.reduceAdd, Nat.reduceLeDiff, Nat.reduceMul, Nat.reduceBEq, QXFFaPB, hmr] | refine rd0 rfl ?_))
  refine mapE (S := Nat) ts kvT 3 5 (fun done s => s < 2 ^ 7 ∧ ∀ i : Nat, s.testBit i = isFl done N (i : Int)) (fun s => [(1, .int .i64 N), (2, .ptr 0 0), (8, .int .i64 s), (25, .ptr 5 0)])
   (fun s => [.cells (farmCells v), .cells (farmCells v), .cells (farmCells v), .map (ts.map kvT), .cells (db v 0 3)]) 0 (fun s => rfl) (fun s => rfl) (fun s => by simp [Env.get]) ⟨by omega, fun i => by simp [isFl]⟩ (by simp [farmCells_eq]) ?_ (fun done s t i left hs ht hti => ?_) fun done s left last hs hdone => ?_
  ·try simp only [TrimX, QE, Nat.reduceLT, reduceIte, Nat.reduceEqDiff, Nat.reduceAdd, Nat.reduceLeDiff, Nat.reduceMul, Nat.reduceBEq, QXFFaPB]
   try simp
  ·obtain ⟨hs1, hs2⟩ := hs
   have htk := htsk t ht
   have hfl := htk.fl N (by omega)
   have hent : ∀ τ, vEntry (.cells (farmCells v) :: .cells (farmCells v) :: .cells (farmCells v) :: .map (ts.map kvT) :: .cells (db v 0 3) :: .miter 3 ts.length left (some i) :: τ) (.ptr 5 0) = some (.tuple [tKey t, tVal t]) := fun τ => by
    refine V_entry (es := ts.map kvT) rfl rfl (by simp) ?_
    rw [List.getElem?_map, hti]; rfl
   simp only [farmCells_eq] at hent
   unfold MapK
   have hge := arrA_get 4 (fun q => (setB (flAt t q) : Int)) (show N < 4 by omega)
   have hsb : setB (flAt t N) < 2 ^ 7 := setB_lt fun x hx => by have := hfl.2.2 x hx; omega
   have hbit := fun i => setB_bit (fun x hx => (hfl.2.2 x hx).1) i
   have vor := V_or s (setB (flAt t N)) (by omega) (by omega)
   have i4 : (0 : Int) ≤ (N : Int) ∧ (N : Int) < ((4 : Nat) : Int) := ⟨by omega, by omega⟩
   have hnx : s ||| setB (flAt t N) < 2 ^ 7 ∧ ∀ i : Nat, (s ||| setB (flAt t N)).testBit i = isFl (t :: done) N (i : Int) := by
    refine ⟨Nat.or_lt_two_pow hs1 hsb, fun i => ?_⟩
    rw [Nat.testBit_or, hs2, hbit, isFl_cons, Bool.or_comm]
   (repeat (first | simp only [↓QA, QB, Nat.reduceLT, reduceIte, Nat.reduceEqDiff, Nat.reduceAdd, Nat.reduceLeDiff, Nat.reduceMul, Nat.reduceBEq, QXFFaPB, hent, kvT, tKey, tVal, i4, Nat.zero_add, hge, vor, List.cons_append, List.nil_append] | refine rd0 rfl ?_))
   refine ⟨(false, s ||| setB (flAt t N)), ⟨rfl, hnx⟩, by simp, ?_⟩
   try simp only [TrimX, QE, Nat.reduceLT, reduceIte, Nat.reduceEqDiff, Nat.reduceAdd, Nat.reduceLeDiff, Nat.reduceMul, Nat.reduceBEq, QXFFaPB, List.cons_append, List.nil_append]
   try simp [okBlk, okVs, okV]
  ·obtain ⟨hs1, hs2⟩ := hs
   have hsp : lst v.rain.length s = floweredIn v ts N := by
    rw [lst, floweredIn]
    refine List.filter_congr fun x hx => ?_
    have hx0 := (numbers_mem _ _ _).1 hx
    rw [← bit_div, hs2, show ((x.toNat : Nat) : Int) = x by omega, isFl_congr hdone]
   have hnum := numbers_ok s v.rain.length (by omega) (by omega)
   rw [hsp] at hnum
   obtain ⟨F, hF⟩ : ∃ F, floweredIn v ts N = F := ⟨_, rfl⟩
   rw [hF] at hnum ⊢
   (repeat (first | simp only [↓QA, QB, Nat.reduceLT, reduceIte, Nat.reduceEqDiff, Nat.reduceAdd, Nat.reduceLeDiff, Nat.reduceMul, Nat.reduceBEq, QXFFaPB, encLE] | refine rd0 rfl ?_))
   ((first | refine callK_d (hnum) rfl dd ?_ | refine callD_d (hnum) rfl dd ?_); (repeat (first | simp only [↓QA, QB, Nat.reduceLT, reduceIte, Nat.reduceEqDiff, Nat.reduceAdd, Nat.reduceLeDiff, Nat.reduceMul, Nat.reduceBEq, QXFFaPB, encLE] | refine rd0 rfl ?_)))
   try try simp only [QS, QC, Nat.reduceLT, reduceIte, Nat.reduceEqDiff, Nat.reduceAdd, Nat.reduceLeDiff, Nat.reduceMul, Nat.reduceBEq, QXFFaPB]
 ·have hm : floweredOf v n = ([], E) := by rw [floweredOf, hE, if_neg h0']
  have hg : (E == 0) = false := by simpa using h0'
  rw [hm]
  refine callK_same (enter_err hf (fun τ => fine_same _) hask h0') ?_
  (repeat (first | simp only [↓QA, QB, Nat.reduceLT, reduceIte, Nat.reduceEqDiff, Nat.reduceAdd, Nat.reduceLeDiff, Nat.reduceMul, Nat.reduceBEq, QXFFaPB, hg, encLE] | refine rd0 rfl ?_))
  try rfl
def cutS (v : Farm) (s : Span) (some : Bool) : Int :=
 if toldB (decide (v.full ≤ s.lo)) (decide (s.hi < v.full)) = 2 then 2 else if toldB (decide (s.hi + v.way.hi ≤ v.ripe)) (decide (v.ripe < s.lo + v.way.lo)) = 2 then 2
 else if toldB (decide (v.full ≤ s.lo)) (decide (s.hi < v.full)) = 1 ∧ toldB (decide (s.hi + v.way.hi ≤ v.ripe)) (decide (v.ripe < s.lo + v.way.lo)) = 1 then 1 else if some then 0 else 2
def canB (v : Farm) (n : Int) : Bool := decide (v.full ≤ n) && decide (n + v.way.lo ≤ v.ripe)
theorem cut_good {v : Farm} (hv : Vd v) {ts : List Truth} (hts : ∀ t ∈ ts, TOk v t) (hne : ts ≠ []) {P d : Nat} (hP : P < v.plots.length) (hd : d ≤ v.rain.length) :
  goodOf v ts P d = cutS v (fullS ts P d) ((fullIn ts P d).any (canB v)) := by
 have hfn := fullIn_ne hts hne hP d
 obtain ⟨h1, h2, h3⟩ := spanL_spec hfn
 have hwy := hv.way
 have hgne : goodsIn v ts P d ≠ [] := by
  rw [goodsIn]
  cases hfi : fullIn ts P d with
  | nil => exact absurd hfi hfn
  | cons a b =>
   have : waysIn v.way ≠ [] := List.ne_nil_of_mem (waysIn_mem.2 ⟨Int.le_refl _, hwy.2.1⟩)
   simp [goodsOf, this]
 have hall : goodOf v ts P d = 1 ↔ ∀ n ∈ fullIn ts P d, ∀ w, v.way.lo ≤ w → w ≤ v.way.hi → v.full ≤ n ∧ n + w ≤ v.ripe := by
  rw [goodOf, settled_one]
  simp only [goodsIn, goodsOf, List.mem_flatMap, List.mem_map, waysIn_mem]
  constructor
  ·intro h n hn w hw0 hw1
   have := h (goodAt v n w) ⟨n, hn, w, ⟨hw0, hw1⟩, rfl⟩
   simpa [goodAt] using this
  ·rintro h _ ⟨n, hn, w, ⟨hw0, hw1⟩, rfl⟩
   have := h n hn w hw0 hw1
   simpa [goodAt] using this
 have hnone : goodOf v ts P d = 2 ↔ ∀ n ∈ fullIn ts P d, ∀ w, v.way.lo ≤ w → w ≤ v.way.hi → ¬ (v.full ≤ n ∧ n + w ≤ v.ripe) := by
  rw [goodOf, settled_two]
  simp only [goodsIn, goodsOf, List.mem_flatMap, List.mem_map, waysIn_mem]
  constructor
  ·rintro ⟨_, h⟩ n hn w hw0 hw1 hc
   have := h (goodAt v n w) ⟨n, hn, w, ⟨hw0, hw1⟩, rfl⟩
   simp [goodAt, hc.1, hc.2] at this
  ·intro h
   refine ⟨hgne, ?_⟩
   rintro _ ⟨n, hn, w, ⟨hw0, hw1⟩, rfl⟩
   have := h n hn w hw0 hw1
   rw [id, Bool.eq_false_iff]
   intro hc
   simp [goodAt] at hc
   exact this hc
 have hcases := settled_cases ((goodsIn v ts P d).filter id).length (goodsIn v ts P d).length
 have hg : goodOf v ts P d = settled ((goodsIn v ts P d).filter id).length (goodsIn v ts P d).length := rfl
 rw [← hg] at hcases
 have hany : (fullIn ts P d).any (canB v) = true ↔ ∃ n ∈ fullIn ts P d, v.full ≤ n ∧ n + v.way.lo ≤ v.ripe := by
  simp [List.any_eq_true, canB]
 have hS : spanL (fullIn ts P d) = fullS ts P d := rfl
 rw [hS] at h1 h2 h3
 obtain ⟨s, hs⟩ : ∃ s, fullS ts P d = s := ⟨_, rfl⟩
 rw [hs] at h1 h2 h3 ⊢
 simp only [cutS, toldB]
 by_cases a1 : v.full ≤ s.lo
 ·by_cases a2 : s.hi + v.way.hi ≤ v.ripe
  ·have : goodOf v ts P d = 1 := hall.2 fun n hn w hw0 hw1 => by have := h3 n hn; omega
   simp [a1, a2, this]
  ·by_cases a3 : v.ripe < s.lo + v.way.lo
   ·have : goodOf v ts P d = 2 := hnone.2 fun n hn w hw0 hw1 => by have := h3 n hn; omega
    simp [a1, a2, a3, this]
   ·have hn1 : goodOf v ts P d ≠ 1 := fun e => by have := hall.1 e _ h2 _ (hwy.2.1) (Int.le_refl _); omega
    have hn2 : goodOf v ts P d ≠ 2 := fun e => hnone.1 e _ h1 _ (Int.le_refl _) hwy.2.1 ⟨a1, by omega⟩
    have h0 : goodOf v ts P d = 0 := by rcases hcases with h | h | h <;> first | exact h | exact absurd h hn1 | exact absurd h hn2
    have : (fullIn ts P d).any (canB v) = true := hany.2 ⟨_, h1, a1, by omega⟩
    simp [a1, a2, a3, h0, this]
 ·by_cases a4 : s.hi < v.full
  ·have : goodOf v ts P d = 2 := hnone.2 fun n hn w hw0 hw1 => by have := h3 n hn; omega
   simp [a1, a4, this]
  ·have hn1 : goodOf v ts P d ≠ 1 := fun e => by have := hall.1 e _ h1 _ (Int.le_refl _) hwy.2.1; omega
   by_cases hc : (fullIn ts P d).any (canB v) = true
   ·obtain ⟨n, hn, c1, c2⟩ := hany.1 hc
    have hn2 : goodOf v ts P d ≠ 2 := fun e => hnone.1 e n hn _ (Int.le_refl _) hwy.2.1 ⟨c1, c2⟩
    have h0 : goodOf v ts P d = 0 := by rcases hcases with h | h | h <;> first | exact h | exact absurd h hn1 | exact absurd h hn2
    have hnn := h3 n hn
    have a3 : ¬ v.ripe < s.lo + v.way.lo := by omega
    by_cases a2 : s.hi + v.way.hi ≤ v.ripe
    ·simp [a1, a4, a2, h0, hc]
    ·simp [a1, a4, a2, a3, h0, hc]
   ·have h2' : goodOf v ts P d = 2 := hnone.2 fun n hn w hw0 hw1 hcc => hc (hany.2 ⟨n, hn, hcc.1, by omega⟩)
    have hcf : (fullIn ts P d).any (canB v) = false := by simpa using hc
    rw [h2', hcf]
    by_cases a2 : s.hi + v.way.hi ≤ v.ripe
    ·simp [a1, a4, a2]
    ·by_cases a3 : v.ripe < s.lo + v.way.lo
     ·simp [a1, a4, a2, a3]
     ·simp [a1, a4, a2, a3]
end Go.Am.Room
set_option maxRecDepth 8000
namespace Go.Am.Room
def QXFFaPC := And.intro @encFarm_eq (And.intro @farmCells_eq (And.intro @encPlot_eq (And.intro @encLook_eq (And.intro @encSpan_eq (And.intro @S_mapPlot (And.intro @S_mapLook (And.intro @S_mapSpan (And.intro @List.length_append.{0} (And.intro @Nat.mul_one (And.intro @Int.toNat_natCast (And.intro @T_sapp (And.intro @T_sapp0 (And.intro @db_0 (And.intro @db_1 (And.intro @db_2 (And.intro @db_3 (And.intro @db_4 (And.intro @db_5 (And.intro @db_6 (And.intro @db_7 (And.intro @db_8 (And.intro @A_mrange (And.intro @W_mrange (And.intro @A_entry (And.intro @W_entry (And.intro @arrA_len (And.intro @arrA_take (And.intro @arrA_drop (And.intro @S_arrA (And.intro @arrA_cell (And.intro @V_min2 (@V_max2))))))))))))))))))))))))))))))))
def ruleIds : List Nat := [105, 107]
def encRule (i : Nat) : AV := .agg [.func i [] []]
theorem encRule_eq (i : Nat) : encRule i = .agg [.func i [] []] := by simp only [encRule]
theorem data_rule (i : Nat) : Data (encRule i) := ⟨by simp [encRule, okV, okVs], by simp [encRule, clr, clrs]⟩
theorem S_mapRule (σ : St) (m d : Nat) (l : List Nat) : snapMs σ m d (l.map encRule) = some (l.map encRule) := S_datas (datas_map data_rule l) σ m d
theorem rules_ok : Pure T 98 [] (.lit (ruleIds.map encRule) false none) := by
 refine pure_fn (af := a98) rfl (by simp [a98]) datas_nil ?_
 (repeat (first | simp only [↓QA, QB, Nat.reduceLT, reduceIte, Nat.reduceEqDiff, Nat.reduceAdd, Nat.reduceLeDiff, Nat.reduceMul, Nat.reduceBEq, QXFFaPC, a98, ruleIds, encRule_eq, List.map_cons, List.map_nil] | refine rd0 rfl ?_))
 try simp [snapM, snapMs, snap, snaps, clr, clrs]
def rule1 (v : Farm) (s : Span) : Int := toldB (decide (v.full ≤ s.lo)) (decide (s.hi < v.full))
def rule2 (v : Farm) (s : Span) : Int := toldB (decide (s.hi + v.way.hi ≤ v.ripe)) (decide (v.ripe < s.lo + v.way.lo))
theorem rule1_same (v : Farm) (b m p : Nat) (s : Span) (σ : St) (hp : cellsAt σ p = some (db v b m)) : Same T (.func 105 [] []) [.ptr p 0, encSpan s] σ (.int .i64 (rule1 v s)) := by
 refine same_fn (af := a105) rfl (by simp [a105]) ?_
 have h0 := fun τ => cells_app hp τ
 (repeat (first | simp only [↓QA, QB, Nat.reduceLT, reduceIte, Nat.reduceEqDiff, Nat.reduceAdd, Nat.reduceLeDiff, Nat.reduceMul, Nat.reduceBEq, QXFFaPC, a105, h0] | refine rd0 rfl ?_))
 ((first | refine callK_d (told_ok (decide (v.full ≤ s.lo)) (decide (s.hi < v.full))) rfl dd ?_ | refine callD_d (told_ok (decide (v.full ≤ s.lo)) (decide (s.hi < v.full))) rfl dd ?_); (repeat (first | simp only [↓QA, QB, Nat.reduceLT, reduceIte, Nat.reduceEqDiff, Nat.reduceAdd, Nat.reduceLeDiff, Nat.reduceMul, Nat.reduceBEq, QXFFaPC, h0] | refine rd0 rfl ?_)))
 refine baseR [.cells [.int .i64 s.lo, .int .i64 s.hi]] (by first | rfl | simp) ?_
 try simp only [QS, QC, Nat.reduceLT, reduceIte, Nat.reduceEqDiff, Nat.reduceAdd, Nat.reduceLeDiff, Nat.reduceMul, Nat.reduceBEq, QXFFaPC, rule1]
theorem rule2_same (v : Farm) (hv : Vd v) (b m p : Nat) (s : Span) (hs : 0 ≤ s.lo ∧ s.lo ≤ s.hi ∧ s.hi ≤ 21) (σ : St) (hp : cellsAt σ p = some (db v b m)) : Same T (.func 107 [] []) [.ptr p 0, encSpan s] σ (.int .i64 (rule2 v s)) := by
 refine same_fn (af := a107) rfl (by simp [a107]) ?_
 have h0 := fun τ => cells_app hp τ
 have hwy := hv.way
 have w1 : IntKind.i64.wrap (s.hi + v.way.hi) = s.hi + v.way.hi := wrap64 ⟨by omega, by omega⟩
 have w2 : IntKind.i64.wrap (s.lo + v.way.lo) = s.lo + v.way.lo := wrap64 ⟨by omega, by omega⟩
 (repeat (first | simp only [↓QA, QB, Nat.reduceLT, reduceIte, Nat.reduceEqDiff, Nat.reduceAdd, Nat.reduceLeDiff, Nat.reduceMul, Nat.reduceBEq, QXFFaPC, a107, h0, w1, w2] | refine rd0 rfl ?_))
 ((first | refine callK_d (told_ok (decide (s.hi + v.way.hi ≤ v.ripe)) (decide (v.ripe < s.lo + v.way.lo))) rfl dd ?_ | refine callD_d (told_ok (decide (s.hi + v.way.hi ≤ v.ripe)) (decide (v.ripe < s.lo + v.way.lo))) rfl dd ?_); (repeat (first | simp only [↓QA, QB, Nat.reduceLT, reduceIte, Nat.reduceEqDiff, Nat.reduceAdd, Nat.reduceLeDiff, Nat.reduceMul, Nat.reduceBEq, QXFFaPC, h0] | refine rd0 rfl ?_)))
 refine baseR [.cells [.int .i64 s.lo, .int .i64 s.hi]] (by first | rfl | simp) ?_
 try simp only [QS, QC, Nat.reduceLT, reduceIte, Nat.reduceEqDiff, Nat.reduceAdd, Nat.reduceLeDiff, Nat.reduceMul, Nat.reduceBEq, QXFFaPC, rule2]
theorem toldB_cases (a b : Bool) : toldB a b = 0 ∨ toldB a b = 1 ∨ toldB a b = 2 := by cases a <;> cases b <;> simp [toldB]
set_option maxHeartbeats 1000000 in
theorem cut_same (v : Farm) (hv : Vd v) (ts : List Truth) (hts : ∀ t ∈ ts, KOk v t) (hne : ts ≠ []) (b m p : Nat) (σ : St) (hK : KnownAt σ v b m p ts) (P d : Nat) (hP : P < v.plots.length) (hd : d ≤ v.rain.length) :
  Same T (.func 80 [] []) [.ptr p 0, .int .i64 P, .int .i64 d] σ (.int .i64 (goodOf v ts P d)) := by
 refine same_fn (af := a80) rfl (by simp [a80]) ?_
 have hnr := hv.nra
 have hnp := hv.npl
 have hwy := hv.way
 have hpl := hK.pl
 have hml := hK.ml
 have h0 := fun τ => cells_app hK.obj τ
 have hmr := fun τ => V_mrange (hK.map1 τ)
 simp only [List.length_map] at hmr
 have hp1 : p < σ.length + 1 := by omega
 have hp2 : p < σ.length + 2 := by omega
 have hm2 : m < σ.length + 2 := by omega
 have i4 : (0 : Int) ≤ (P : Int) ∧ (P : Int) < ((4 : Nat) : Int) := ⟨by omega, by omega⟩
 have hgr := grown_same v hv ts hts hne b m p σ hK P d hP hd
 have hgood := cut_good hv (fun t ht => (hts t ht).tok) hne hP hd
 have hsb := fullS_bd hv (fun t ht => (hts t ht).tok) hne hP hd
 obtain ⟨s, hs⟩ : ∃ s, fullS ts P d = s := ⟨_, rfl⟩
 rw [hs] at hgr hgood hsb
 obtain ⟨G, hG⟩ : ∃ G, goodOf v ts P d = G := ⟨_, rfl⟩
 rw [hG] at hgood ⊢
 have hr1 := fun τ => rule1_same v b m p s (σ ++ τ) (h0 τ)
 have hr2 := fun τ => rule2_same v hv b m p s hsb (σ ++ τ) (h0 τ)
 obtain ⟨K1, hK1⟩ : ∃ K1, rule1 v s = K1 := ⟨_, rfl⟩
 obtain ⟨K2, hK2⟩ : ∃ K2, rule2 v s = K2 := ⟨_, rfl⟩
 have c1 : K1 = 0 ∨ K1 = 1 ∨ K1 = 2 := by rw [← hK1]; exact toldB_cases _ _
 have c2 : K2 = 0 ∨ K2 = 1 ∨ K2 = 2 := by rw [← hK2]; exact toldB_cases _ _
 have hgd : G = if K1 = 2 then 2 else if K2 = 2 then 2 else if K1 = 1 ∧ K2 = 1 then 1 else if (fullIn ts P d).any (canB v) then 0 else 2 := by
  rw [hgood, ← hK1, ← hK2]; rfl
 simp only [hK1] at hr1
 simp only [hK2] at hr2
 have hrl : (ruleIds.map encRule).length = 2 := rfl
 have hrl2 : ruleIds.length = 2 := rfl
 (repeat (first | simp only [↓QA, QB, Nat.reduceLT, reduceIte, Nat.reduceEqDiff, Nat.reduceAdd, Nat.reduceLeDiff, Nat.reduceMul, Nat.reduceBEq, QXFFaPC, a80] | refine rd0 rfl ?_))
 refine callK_same hgr ?_
 (repeat (first | simp only [↓QA, QB, Nat.reduceLT, reduceIte, Nat.reduceEqDiff, Nat.reduceAdd, Nat.reduceLeDiff, Nat.reduceMul, Nat.reduceBEq, QXFFaPC] | refine rd0 rfl ?_))
 refine callK_d rules_ok rfl datas_nil ?_
 (repeat (first | simp only [↓QA, QB, Nat.reduceLT, reduceIte, Nat.reduceEqDiff, Nat.reduceAdd, Nat.reduceLeDiff, Nat.reduceMul, Nat.reduceBEq, QXFFaPC, hrl, hrl2] | refine rd0 rfl ?_))
 refine loopE (S := Nat × Bool) (0, true) (fun a => a.1 ≤ 2 ∧ (a.1 = 0 → a.2 = true) ∧ (1 ≤ a.1 → K1 ≠ 2) ∧ (a.1 = 1 → a.2 = (K1 == 1)) ∧ (2 ≤ a.1 → K2 ≠ 2 ∧ a.2 = ((K1 == 1) && (K2 == 1)))) (fun a => 2 - a.1)
  (fun a => [(0, .ptr p 0), (1, .int .i64 P), (2, .int .i64 d), (7, .ptr σ.length 0), (8, .bool a.2), (20, .lit (ruleIds.map encRule) false none), (21, .int .i64 2), (22, .int .i64 a.1)])
  (fun a => σ ++ [.cells [.int .i64 s.lo, .int .i64 s.hi]]) ⟨by omega, fun _ => rfl, fun h => absurd h (by simp), fun h => by simp at h, fun h => absurd h (by simp)⟩ (by simp) ?_ fun a ha => ?_
 ·try simp only [TrimX, QE, Nat.reduceLT, reduceIte, Nat.reduceEqDiff, Nat.reduceAdd, Nat.reduceLeDiff, Nat.reduceMul, Nat.reduceBEq, QXFFaPC]
  try simp
 ·obtain ⟨k, bb⟩ := a
  obtain ⟨hk, q0, q1, q2, q3⟩ := ha
  simp only at hk q0 q1 q2 q3
  (repeat (first | simp only [↓QA, QB, Nat.reduceLT, reduceIte, Nat.reduceEqDiff, Nat.reduceAdd, Nat.reduceLeDiff, Nat.reduceMul, Nat.reduceBEq, QXFFaPC, L80_0] | refine rd0 rfl ?_))
  refine iteP_intro (fun h => ?_) fun h => ?_
  ·have hk2 : k = 0 ∨ k = 1 := by
    have h0 : (k : Int) < 2 := by simpa using h
    omega
   have hw := wrapN (show k < 2 by omega) (by omega)
   have hlk : k < ruleIds.length := by rw [hrl2]; omega
   obtain ⟨id, hid, X, hcall, hX⟩ : ∃ id, ruleIds[k] = id ∧ ∃ X, (∀ τ, Same T (.func id [] []) [.ptr p 0, encSpan s] (σ ++ τ) (.int .i64 X)) ∧ ((k = 0 ∧ X = K1) ∨ (k = 1 ∧ X = K2)) := by
    rcases hk2 with rfl | rfl
    ·exact ⟨_, rfl, K1, hr1, .inl ⟨rfl, rfl⟩⟩
    ·exact ⟨_, rfl, K2, hr2, .inr ⟨rfl, rfl⟩⟩
   have hcl : cellsOk 1 (.agg [.func id [] []]) = true := by simp [cellsOk, AV.cells, AV.cell]
   (repeat (first | simp only [↓QA, QB, Nat.reduceLT, reduceIte, Nat.reduceEqDiff, Nat.reduceAdd, Nat.reduceLeDiff, Nat.reduceMul, Nat.reduceBEq, QXFFaPC, hlk, hid, hcl, encRule_eq] | refine rd0 rfl ?_))
   refine callK_same (hcall _) ?_
   cases hx2 : (X == 2)
   ·have hx2' : X ≠ 2 := by simpa using hx2
    cases hx0 : (X == 0)
    ·have hx0' : X ≠ 0 := by simpa using hx0
     (repeat (first | simp only [↓QA, QB, Nat.reduceLT, reduceIte, Nat.reduceEqDiff, Nat.reduceAdd, Nat.reduceLeDiff, Nat.reduceMul, Nat.reduceBEq, QXFFaPC, hx2, hx0, hw] | refine rd0 rfl ?_))
     refine ⟨(k + 1, bb), ⟨by simp only; omega, fun h => by simp at h, ?_, ?_, ?_⟩, by simp only; omega, ?_⟩
     ·intro _
      rcases hX with ⟨e1, e2⟩ | ⟨e1, e2⟩
      ·rw [← e2]; exact hx2'
      ·exact q1 (by omega)
     ·intro e
      simp only at e
      have e0 : k = 0 := by omega
      have hb := q0 e0
      rcases hX with ⟨e1, e2⟩ | ⟨e1, e2⟩
      ·simp only [hb]
       have : K1 = 1 := by omega
       simp [this]
      ·omega
     ·intro e
      simp only at e
      rcases hX with ⟨e1, e2⟩ | ⟨e1, e2⟩
      ·omega
      ·refine ⟨by rw [← e2]; exact hx2', ?_⟩
       simp only [q2 e1]
       have : K2 = 1 := by omega
       simp [this]
     ·try simp only [TrimX, QE, Nat.reduceLT, reduceIte, Nat.reduceEqDiff, Nat.reduceAdd, Nat.reduceLeDiff, Nat.reduceMul, Nat.reduceBEq, QXFFaPC, hw, hp1, S_mapRule]
      try simp [okBlk, okVs, okV]
    ·have hx0' : X = 0 := by simpa using hx0
     (repeat (first | simp only [↓QA, QB, Nat.reduceLT, reduceIte, Nat.reduceEqDiff, Nat.reduceAdd, Nat.reduceLeDiff, Nat.reduceMul, Nat.reduceBEq, QXFFaPC, hx2, hx0, hw] | refine rd0 rfl ?_))
     refine ⟨(k + 1, false), ⟨by simp only; omega, fun h => by simp at h, ?_, ?_, ?_⟩, by simp only; omega, ?_⟩
     ·intro _
      rcases hX with ⟨e1, e2⟩ | ⟨e1, e2⟩
      ·rw [← e2]; exact hx2'
      ·exact q1 (by omega)
     ·intro e
      simp only at e
      rcases hX with ⟨e1, e2⟩ | ⟨e1, e2⟩
      ·have : K1 = 0 := by omega
       simp [this]
      ·omega
     ·intro e
      simp only at e
      rcases hX with ⟨e1, e2⟩ | ⟨e1, e2⟩
      ·omega
      ·refine ⟨by rw [← e2]; exact hx2', ?_⟩
       have : K2 = 0 := by omega
       simp [this]
     ·try simp only [TrimX, QE, Nat.reduceLT, reduceIte, Nat.reduceEqDiff, Nat.reduceAdd, Nat.reduceLeDiff, Nat.reduceMul, Nat.reduceBEq, QXFFaPC, hw, hp1, S_mapRule]
      try simp [okBlk, okVs, okV]
   ·have hx2' : X = 2 := by simpa using hx2
    have hG2 : G = 2 := by
     rcases hX with ⟨e1, e2⟩ | ⟨e1, e2⟩
     ·rw [hgd, if_pos (by omega)]
     ·rw [hgd]
      split
      ·rfl
      ·rw [if_pos (by omega)]
    rw [hG2]
    (repeat (first | simp only [↓QA, QB, Nat.reduceLT, reduceIte, Nat.reduceEqDiff, Nat.reduceAdd, Nat.reduceLeDiff, Nat.reduceMul, Nat.reduceBEq, QXFFaPC, hx2] | refine rd0 rfl ?_))
    refine baseR [.cells [.int .i64 s.lo, .int .i64 s.hi], .cells [.func id [] []]] (by first | rfl | simp) ?_
    try simp only [QS, QC, Nat.reduceLT, reduceIte, Nat.reduceEqDiff, Nat.reduceAdd, Nat.reduceLeDiff, Nat.reduceMul, Nat.reduceBEq, QXFFaPC]
  ·have hk2 : k = 2 := by
    have h0 : ¬ (k : Int) < 2 := by simpa using h
    omega
   obtain ⟨q4, q5⟩ := q3 (by omega)
   have q6 := q1 (by omega)
   clear q0 q1 q2 q3
   cases bb
   ·have h11 : ¬ (K1 = 1 ∧ K2 = 1) := by
     rintro ⟨e1, e2⟩
     rw [e1, e2] at q5
     simp at q5
    rw [if_neg q6, if_neg q4, if_neg h11] at hgd
    (repeat (first | simp only [↓QA, QB, Nat.reduceLT, reduceIte, Nat.reduceEqDiff, Nat.reduceAdd, Nat.reduceLeDiff, Nat.reduceMul, Nat.reduceBEq, QXFFaPC, h0, hmr] | refine rd0 rfl ?_))
    refine mapE (S := Unit) ts kvT m (σ.length + 1) (fun done _ => ∀ n ∈ fullIn done P d, canB v n = false) (fun _ => [(0, .ptr p 0), (1, .int .i64 P), (2, .int .i64 d), (41, .ptr (σ.length + 1) 0)])
     (fun _ => σ ++ [.cells [.int .i64 s.lo, .int .i64 s.hi]]) () (fun s => by simp) (fun s => hK.map1 _) (fun s => by simp [Env.get]) (fun n hn => by simp [fullIn] at hn) (by simp) ?_ (fun done _ t i left hcan ht hti => ?_) fun done _ left last hcan hdone => ?_
    ·try simp only [TrimX, QE, Nat.reduceLT, reduceIte, Nat.reduceEqDiff, Nat.reduceAdd, Nat.reduceLeDiff, Nat.reduceMul, Nat.reduceBEq, QXFFaPC]
     try simp
    ·have hent := known_entry hK hti left
     unfold MapK
     obtain ⟨htk, hlst⟩ := hts t ht
     have hfl := htk.fl P hP
     have hlst := hlst P hP
     have hsb2 : setB (flAt t P) < 2 ^ 7 := setB_lt fun x hx => by have := hfl.2.2 x hx; omega
     have hge := arrA_get 4 (fun q => (setB (flAt t q) : Int)) (show P < 4 by omega)
     have hnum := numbers_ok (setB (flAt t P)) v.rain.length (by omega) (by omega)
     rw [hlst] at hnum
     have hfull := fun (H : Nat) (τ : St) => full_same (.ptr p 0) (rl t.rain) H d (rain_bd hv htk.rain) (by omega) τ
     have hmem : ∀ x ∈ flAt t P, (∃ y ∈ fullIn ts P d, y = ptsT t d x) := fun x hx => ⟨_, by simp only [fullIn, List.mem_flatMap, List.mem_map]; exact ⟨t, ht, x, hx, rfl⟩, rfl⟩
     have hst : ∀ x, x ∈ fullIn (t :: done) P d → x ∈ (flAt t P).map (ptsT t d) ∨ x ∈ fullIn done P d := fun x => by
      rw [fullIn, List.flatMap_cons, List.mem_append]; exact id
     obtain ⟨F, hF⟩ : ∃ F, flAt t P = F := ⟨_, rfl⟩
     rw [hF] at hfl hnum hst hmem
     simp only [hF] at hge
     obtain ⟨bb, hbb⟩ : ∃ bb : Nat, setB F = bb := ⟨_, rfl⟩
     rw [hbb] at hnum
     simp only [hbb] at hge
     (repeat (first | simp only [↓QA, QB, Nat.reduceLT, reduceIte, Nat.reduceEqDiff, Nat.reduceAdd, Nat.reduceLeDiff, Nat.reduceMul, Nat.reduceBEq, QXFFaPC, hent, h0, kvT, tKey, tVal, i4, Nat.zero_add, hge] | refine rd0 rfl ?_))
     ((first | refine callK_d (hnum) rfl dd ?_ | refine callD_d (hnum) rfl dd ?_); (repeat (first | simp only [↓QA, QB, Nat.reduceLT, reduceIte, Nat.reduceEqDiff, Nat.reduceAdd, Nat.reduceLeDiff, Nat.reduceMul, Nat.reduceBEq, QXFFaPC, hent, h0, kvT, tKey, tVal, i4, Nat.zero_add, hge, ints] | refine rd0 rfl ?_)))
     refine loopE (S := Nat) 0 (fun k => k ≤ F.length ∧ ∀ x ∈ (F.take k).map (ptsT t d), canB v x = false) (fun k => F.length - k)
      (fun k => [(0, .ptr p 0), (1, .int .i64 P), (2, .int .i64 d), (11, .ptr (σ.length + 2) 0), (41, .ptr (σ.length + 1) 0), (56, ints F), (57, .int .i64 F.length), (58, .int .i64 k)])
      (fun k => σ ++ [.cells [.int .i64 s.lo, .int .i64 s.hi], .miter m ts.length left (some i), .cells (arrA 7 (rl t.rain)), .cells (arrA 4 (fun q => (setB (flAt t q) : Int)))]) ⟨Nat.zero_le _, by simp⟩ (by simp) ?_ fun k hk => ?_
     ·try simp only [TrimX, QE, Nat.reduceLT, reduceIte, Nat.reduceEqDiff, Nat.reduceAdd, Nat.reduceLeDiff, Nat.reduceMul, Nat.reduceBEq, QXFFaPC, ints]
      try simp
     ·obtain ⟨hk, hmm⟩ := hk
      (repeat (first | simp only [↓QA, QB, Nat.reduceLT, reduceIte, Nat.reduceEqDiff, Nat.reduceAdd, Nat.reduceLeDiff, Nat.reduceMul, Nat.reduceBEq, QXFFaPC, L80_5, ints] | refine rd0 rfl ?_))
      refine iteP_intro (fun h => ?_) fun h => ?_
      ·have hk1 : k < F.length := by simpa using h
       have hwk := wrapN hk1 (by omega)
       have hm := hfl.2.2 _ (List.getElem_mem hk1)
       have hme := hmem _ (List.getElem_mem hk1)
       obtain ⟨H, hH⟩ : ∃ H : Nat, F[k] = (H : Int) := ⟨F[k].toNat, by omega⟩
       rw [hH] at hme
       have hfu := hfull H
       have hx : pts (rl t.rain) H d = ptsT t d H := by simp [ptsT, ptsL]
       have hxb := ptsT_bd hv htk hd (H : Int)
       rw [hx] at hfu
       obtain ⟨x, hxe⟩ : ∃ x, ptsT t d H = x := ⟨_, rfl⟩
       rw [hxe] at hxb hme
       simp only [hxe] at hfu
       have hnx : canB v x = false → ∀ y ∈ (F.take (k + 1)).map (ptsT t d), canB v y = false := fun hc y hy => by
        rw [List.take_succ_eq_append_getElem hk1, List.map_append, List.map_cons, List.map_nil, hH, hxe] at hy
        rcases List.mem_append.1 hy with hy | hy
        ·exact hmm y hy
        ·simp at hy; rw [hy]; exact hc
       have hwx : IntKind.i64.wrap (x + v.way.lo) = x + v.way.lo := wrap64 ⟨by omega, by omega⟩
       have hcb : canB v x = (decide (v.full ≤ x) && decide (x + v.way.lo ≤ v.ripe)) := rfl
       (repeat (first | simp only [↓QA, QB, Nat.reduceLT, reduceIte, Nat.reduceEqDiff, Nat.reduceAdd, Nat.reduceLeDiff, Nat.reduceMul, Nat.reduceBEq, QXFFaPC, hk1, hH, ints] | refine rd0 rfl ?_))
       refine callK_same (hfu _) ?_
       (repeat (first | simp only [↓QA, QB, Nat.reduceLT, reduceIte, Nat.reduceEqDiff, Nat.reduceAdd, Nat.reduceLeDiff, Nat.reduceMul, Nat.reduceBEq, QXFFaPC, h0] | refine rd0 rfl ?_))
       cases h5 : decide (v.full ≤ x)
       ·have hc : canB v x = false := by rw [hcb, h5]; rfl
        (repeat (first | simp only [↓QA, QB, Nat.reduceLT, reduceIte, Nat.reduceEqDiff, Nat.reduceAdd, Nat.reduceLeDiff, Nat.reduceMul, Nat.reduceBEq, QXFFaPC, h5, h0, hwk] | refine rd0 rfl ?_))
        refine ⟨k + 1, ⟨by omega, hnx hc⟩, by omega, ?_⟩
        try simp only [TrimX, QE, Nat.reduceLT, reduceIte, Nat.reduceEqDiff, Nat.reduceAdd, Nat.reduceLeDiff, Nat.reduceMul, Nat.reduceBEq, QXFFaPC, hwk, ints, hp2]
        try simp [okBlk, okVs, okV, arrA_ok]
        try omega
       ·cases h6 : decide (x + v.way.lo ≤ v.ripe)
        ·have hc : canB v x = false := by rw [hcb, h5, h6]; rfl
         (repeat (first | simp only [↓QA, QB, Nat.reduceLT, reduceIte, Nat.reduceEqDiff, Nat.reduceAdd, Nat.reduceLeDiff, Nat.reduceMul, Nat.reduceBEq, QXFFaPC, h5, h0, hwx, h6, hwk] | refine rd0 rfl ?_))
         refine ⟨k + 1, ⟨by omega, hnx hc⟩, by omega, ?_⟩
         try simp only [TrimX, QE, Nat.reduceLT, reduceIte, Nat.reduceEqDiff, Nat.reduceAdd, Nat.reduceLeDiff, Nat.reduceMul, Nat.reduceBEq, QXFFaPC, hwk, ints, hp2]
         try simp [okBlk, okVs, okV, arrA_ok]
         try omega
        ·have hc : canB v x = true := by rw [hcb, h5, h6]; rfl
         have hany : (fullIn ts P d).any (canB v) = true := by
          obtain ⟨y, hy, rfl⟩ := hme
          exact List.any_eq_true.2 ⟨_, hy, hc⟩
         have hG0 : G = 0 := by rw [hgd, hany]; rfl
         rw [hG0]
         (repeat (first | simp only [↓QA, QB, Nat.reduceLT, reduceIte, Nat.reduceEqDiff, Nat.reduceAdd, Nat.reduceLeDiff, Nat.reduceMul, Nat.reduceBEq, QXFFaPC, h5, h0, hwx, h6] | refine rd0 rfl ?_))
         refine baseR [.cells [.int .i64 s.lo, .int .i64 s.hi], .miter m ts.length left (some i), .cells (arrA 7 (rl t.rain)), .cells (arrA 4 (fun q => (setB (flAt t q) : Int)))] (by first | rfl | simp) ?_
         try simp only [QS, QC, Nat.reduceLT, reduceIte, Nat.reduceEqDiff, Nat.reduceAdd, Nat.reduceLeDiff, Nat.reduceMul, Nat.reduceBEq, QXFFaPC]
      ·have hk1 : k = F.length := by simp at h; omega
       rw [hk1, List.take_length] at hmm
       (repeat (first | simp only [↓QA, QB, Nat.reduceLT, reduceIte, Nat.reduceEqDiff, Nat.reduceAdd, Nat.reduceLeDiff, Nat.reduceMul, Nat.reduceBEq, QXFFaPC] | refine rd0 rfl ?_))
       refine ⟨(false, ()), ⟨rfl, fun x hx => ?_⟩, by simp, ?_⟩
       ·rcases hst x hx with h | h
        ·exact hmm x h
        ·exact hcan x h
       ·try simp only [TrimX, QE, Nat.reduceLT, reduceIte, Nat.reduceEqDiff, Nat.reduceAdd, Nat.reduceLeDiff, Nat.reduceMul, Nat.reduceBEq, QXFFaPC, hp2]
        try simp [okBlk, okVs, okV]
        try omega
    ·have hany : (fullIn ts P d).any (canB v) = false := by
      rw [Bool.eq_false_iff]
      intro hc
      obtain ⟨n, hn, hcn⟩ := List.any_eq_true.1 hc
      have : n ∈ fullIn done P d := by simp only [fullIn, List.mem_flatMap, hdone] at hn ⊢; exact hn
      rw [hcan n this] at hcn
      cases hcn
     have hG2 : G = 2 := by rw [hgd, hany]; rfl
     rw [hG2]
     (repeat (first | simp only [↓QA, QB, Nat.reduceLT, reduceIte, Nat.reduceEqDiff, Nat.reduceAdd, Nat.reduceLeDiff, Nat.reduceMul, Nat.reduceBEq, QXFFaPC] | refine rd0 rfl ?_))
     refine baseR [.cells [.int .i64 s.lo, .int .i64 s.hi], .miter m ts.length left last] (by first | rfl | simp) ?_
     try simp only [QS, QC, Nat.reduceLT, reduceIte, Nat.reduceEqDiff, Nat.reduceAdd, Nat.reduceLeDiff, Nat.reduceMul, Nat.reduceBEq, QXFFaPC]
   ·have h11 : K1 = 1 ∧ K2 = 1 := by
     have := q5.symm
     simpa using this
    have hG1 : G = 1 := by rw [hgd, if_neg q6, if_neg q4, if_pos h11]
    rw [hG1]
    (repeat (first | simp only [↓QA, QB, Nat.reduceLT, reduceIte, Nat.reduceEqDiff, Nat.reduceAdd, Nat.reduceLeDiff, Nat.reduceMul, Nat.reduceBEq, QXFFaPC] | refine rd0 rfl ?_))
    refine baseR [.cells [.int .i64 s.lo, .int .i64 s.hi]] (by first | rfl | simp) ?_
    try simp only [QS, QC, Nat.reduceLT, reduceIte, Nat.reduceEqDiff, Nat.reduceAdd, Nat.reduceLeDiff, Nat.reduceMul, Nat.reduceBEq, QXFFaPC]
end Go.Am.Room
set_option maxRecDepth 8000
namespace Go.Am.Room
def QXFFaPD := And.intro @encFarm_eq (And.intro @farmCells_eq (And.intro @encPlot_eq (And.intro @encLook_eq (And.intro @encSpan_eq (And.intro @S_mapPlot (And.intro @S_mapLook (And.intro @S_mapSpan (And.intro @List.length_append.{0} (And.intro @Nat.mul_one (And.intro @Int.toNat_natCast (And.intro @T_sapp (And.intro @T_sapp0 (And.intro @db_0 (And.intro @db_1 (And.intro @db_2 (And.intro @db_3 (And.intro @db_4 (And.intro @db_5 (And.intro @db_6 (And.intro @db_7 (And.intro @db_8 (And.intro @V_min2 (@V_max2)))))))))))))))))))))))
theorem pcut_ok (v : Farm) (n d : Int) (hf : Fits v) : Pure T 23 [encFarm v, .int .i64 n, .int .i64 d] (encIE (cutOf v n d)) := by
 refine pure_fn (af := a23) rfl (by simp [a23]) dd ?_
 obtain ⟨E, hE⟩ : ∃ E, grownErr v n d = E := ⟨_, rfl⟩
 have hask := ask_grown v hf n d
 rw [hE] at hask
 have hun := fun σ => until_does [d, (v.rain.length : Int)] σ
 have hu1 := fun (q : Nat) (σ : St) hq => until1_same [d, (v.rain.length : Int)] (by simp) q σ hq
 simp only [litI_eq, List.map_cons, List.map_nil] at hun hu1
 (repeat (first | simp only [↓QA, QB, Nat.reduceLT, reduceIte, Nat.reduceEqDiff, Nat.reduceAdd, Nat.reduceLeDiff, Nat.reduceMul, Nat.reduceBEq, QXFFaPD, a23] | refine rd0 rfl ?_))
 refine callD_do (hun _) ?_
 (repeat (first | simp only [↓QA, QB, Nat.reduceLT, reduceIte, Nat.reduceEqDiff, Nat.reduceAdd, Nat.reduceLeDiff, Nat.reduceMul, Nat.reduceBEq, QXFFaPD] | refine rd0 rfl ?_))
 by_cases h0' : E = 0
 ·subst h0'
  have hE2 := hE
  obtain ⟨hw, hne⟩ := errKnown_ok hE2
  obtain ⟨ha, hd0, hd1⟩ := within_ok hw
  obtain ⟨hv, hn0, hn1⟩ := errAsk_ok ha
  have hm : cutOf v n d = (goodOf v (truths v []) n.toNat d.toNat, 0) := by rw [cutOf, hE, if_pos rfl]
  rw [hm]
  simp only [endOf] at hd1
  obtain ⟨N, rfl⟩ : ∃ N : Nat, n = N := ⟨n.toNat, by omega⟩
  obtain ⟨D, rfl⟩ : ∃ D : Nat, d = D := ⟨d.toNat, by omega⟩
  rw [Int.toNat_natCast, Int.toNat_natCast]
  have hen := enter_ok hf (plot := max (N : Int) (-1099511627775)) (eo := untilE [(D : Int), (v.rain.length : Int)]) (F := .func 96 [] [.ptr 1 0]) (σ := [.cells (farmCells v), .cells [.lit [.int .i64 D, .int .i64 v.rain.length] true none]]) (fun τ => hu1 _ _ rfl) hask
  have hgr := cut_same v hv (truths v []) (fun t ht => kok_of hv ht) hne 0 4 5 (lookS ([.cells (farmCells v), .cells [.lit [.int .i64 D, .int .i64 v.rain.length] true none]] ++ [.cells (farmCells v)]) v 0 (truths v [])) ⟨rfl, rfl⟩ N D (by omega) (by omega)
  try simp only [↓QA, QB, Nat.reduceLT, reduceIte, Nat.reduceEqDiff, Nat.reduceAdd, Nat.reduceLeDiff, Nat.reduceMul, Nat.reduceBEq, QXFFaPD, lookS, List.cons_append, List.nil_append, List.length_cons, List.length_nil] at hen
  try simp only [↓QA, QB, Nat.reduceLT, reduceIte, Nat.reduceEqDiff, Nat.reduceAdd, Nat.reduceLeDiff, Nat.reduceMul, Nat.reduceBEq, QXFFaPD, lookS, List.cons_append, List.nil_append, List.length_cons, List.length_nil] at hgr
  refine callD_do hen ?_
  (repeat (first | simp only [↓QA, QB, Nat.reduceLT, reduceIte, Nat.reduceEqDiff, Nat.reduceAdd, Nat.reduceLeDiff, Nat.reduceMul, Nat.reduceBEq, QXFFaPD] | refine rd0 rfl ?_))
  refine callK_same hgr ?_
  (repeat (first | simp only [↓QA, QB, Nat.reduceLT, reduceIte, Nat.reduceEqDiff, Nat.reduceAdd, Nat.reduceLeDiff, Nat.reduceMul, Nat.reduceBEq, QXFFaPD, encIE] | refine rd0 rfl ?_))
 ·have hm : cutOf v n d = (0, E) := by rw [cutOf, hE, if_neg h0']
  have hg : (E == 0) = false := by simpa using h0'
  rw [hm]
  refine callD_same (enter_err hf (fun τ => hu1 _ _ rfl) hask h0') ?_
  (repeat (first | simp only [↓QA, QB, Nat.reduceLT, reduceIte, Nat.reduceEqDiff, Nat.reduceAdd, Nat.reduceLeDiff, Nat.reduceMul, Nat.reduceBEq, QXFFaPD, hg, encIE] | refine rd0 rfl ?_))
theorem pdays_ok (v : Farm) (n : Int) (hf : Fits v) : Pure T 25 [encFarm v, .int .i64 n] (encLLE (daysOf v n)) := by
 refine pure_fn (af := a25) rfl (by simp [a25]) dd ?_
 obtain ⟨E, hE⟩ : ∃ E, plotErr v n = E := ⟨_, rfl⟩
 have hask := ask_fine v hf n
 rw [hE] at hask
 (repeat (first | simp only [↓QA, QB, Nat.reduceLT, reduceIte, Nat.reduceEqDiff, Nat.reduceAdd, Nat.reduceLeDiff, Nat.reduceMul, Nat.reduceBEq, QXFFaPD, a25] | refine rd0 rfl ?_))
 by_cases h0' : E = 0
 ·subst h0'
  have hE2 := hE
  obtain ⟨hw, hne⟩ := errKnown_ok hE2
  obtain ⟨hv, hn0, hn1⟩ := errAsk_ok hw
  have hnr := hv.nra
  have hm : daysOf v n = (sureDays v (truths v []) n.toNat, mayDays v (truths v []) n.toNat, 0) := by rw [daysOf, hE, if_pos rfl]
  rw [hm]
  obtain ⟨N, rfl⟩ : ∃ N : Nat, n = N := ⟨n.toNat, by omega⟩
  rw [Int.toNat_natCast]
  have hen := enter_ok hf (plot := max (N : Int) (-1099511627775)) (eo := 0) (F := .func 77 [] []) (σ := [.cells (farmCells v)]) (fun τ => fine_same _) hask
  have hgo := fun (D : Nat) (hD : D ≤ v.rain.length) (τ : St) => cut_same v hv (truths v []) (fun t ht => kok_of hv ht) hne 0 3 4 ([.cells (farmCells v), .cells (farmCells v), .cells (farmCells v), .map ((truths v []).map kvT), .cells (db v 0 3)] ++ τ) ⟨rfl, rfl⟩ N D (by omega) hD
  try simp only [↓QA, QB, Nat.reduceLT, reduceIte, Nat.reduceEqDiff, Nat.reduceAdd, Nat.reduceLeDiff, Nat.reduceMul, Nat.reduceBEq, QXFFaPD, lookS, List.cons_append, List.nil_append, List.length_cons, List.length_nil] at hen
  refine callK_do hen ?_
  obtain ⟨ts, hts⟩ : ∃ ts, truths v [] = ts := ⟨_, rfl⟩
  rw [hts] at hne ⊢
  simp only [hts, farmCells_eq, List.cons_append, List.nil_append] at hgo
  obtain ⟨G, hG⟩ : ∃ G, v.rain.length = G := ⟨_, rfl⟩
  obtain ⟨R1, hR1⟩ : ∃ R, sureDays v ts N = R := ⟨_, rfl⟩
  obtain ⟨R2, hR2⟩ : ∃ R, mayDays v ts N = R := ⟨_, rfl⟩
  obtain ⟨p1, hp1⟩ : ∃ p : Int → Bool, (fun d => goodOf v ts N d.toNat == 1) = p := ⟨_, rfl⟩
  obtain ⟨p2, hp2⟩ : ∃ p : Int → Bool, (fun d => !(goodOf v ts N d.toNat == 2)) = p := ⟨_, rfl⟩
  have hR1' : (numbers 0 (G + 1)).filter p1 = R1 := by rw [← hR1, ← hG, ← hp1]; rfl
  have hR2' : (numbers 0 (G + 1)).filter p2 = R2 := by rw [← hR2, ← hG, ← hp2]; rfl
  have hl1 : R1.length ≤ 8 := by rw [← hR1']; exact Nat.le_trans (List.length_filter_le _ _) (by rw [numbers_len]; omega)
  have hl2 : R2.length ≤ 8 := by rw [← hR2']; exact Nat.le_trans (List.length_filter_le _ _) (by rw [numbers_len]; omega)
  rw [hR1, hR2]
  rw [hG] at hgo
  have hwG : IntKind.i64.wrap ((G : Int) + 1) = ((G + 1 : Nat) : Int) := by rw [wrap64 ⟨by omega, by omega⟩]; omega
  (repeat (first | simp only [↓QA, QB, Nat.reduceLT, reduceIte, Nat.reduceEqDiff, Nat.reduceAdd, Nat.reduceLeDiff, Nat.reduceMul, Nat.reduceBEq, QXFFaPD, hG, hwG] | refine rd0 rfl ?_))
  refine ghostK 4 1 [] rfl ?_
  refine ghostK 5 1 [] rfl ?_
  refine loopE (S := Nat × List Int × Bool × List Int × Bool) (0, [], false, [], false) (fun a => a.1 ≤ G + 1 ∧ a.2.1 ++ (numbers (a.1 : Int) (G + 1 - a.1)).filter p1 = R1 ∧ a.2.2.2.1 ++ (numbers (a.1 : Int) (G + 1 - a.1)).filter p2 = R2) (fun a => G + 1 - a.1)
   (fun a => [(1, .int .i64 N), (4, .lit (a.2.1.map (.int .i64)) false (some 5)), (5, .lit (a.2.2.2.1.map (.int .i64)) false (some 6)), (7, .ptr 4 0), (23, .int .i64 ((G + 1 : Nat) : Int)), (24, .int .i64 a.1)])
   (fun a => [.cells (farmCells v), .cells (farmCells v), .cells (farmCells v), .map (ts.map kvT), .cells (db v 0 3), .tok 1 a.2.1.length a.2.2.1, .tok 1 a.2.2.2.1.length a.2.2.2.2]) ⟨Nat.zero_le _, by simpa using hR1', by simpa using hR2'⟩ (by simp [farmCells_eq]) ?_ fun a ha => ?_
  ·try simp only [TrimX, QE, Nat.reduceLT, reduceIte, Nat.reduceEqDiff, Nat.reduceAdd, Nat.reduceLeDiff, Nat.reduceMul, Nat.reduceBEq, QXFFaPD]
   try simp
  ·obtain ⟨d, ac1, ex1, ac2, ex2⟩ := a
   obtain ⟨hd, hc1, hc2⟩ := ha
   simp only at hd hc1 hc2
   (repeat (first | simp only [↓QA, QB, Nat.reduceLT, reduceIte, Nat.reduceEqDiff, Nat.reduceAdd, Nat.reduceLeDiff, Nat.reduceMul, Nat.reduceBEq, QXFFaPD, L25_0] | refine rd0 rfl ?_))
   refine iteP_intro (fun h => ?_) fun h => ?_
   ·have hd1 : d < G + 1 := by
     have h0 : (d : Int) < ((G + 1 : Nat) : Int) := by simpa using h
     omega
    have hw := wrapN hd1 (by omega)
    rw [show G + 1 - d = (G + 1 - (d + 1)) + 1 by omega] at hc1 hc2
    simp only [numbers, List.filter_cons] at hc1 hc2
    rw [show ((d : Int) + 1) = ((d + 1 : Nat) : Int) by omega] at hc1 hc2
    have ha1 : ac1.length ≤ 8 := by
     have := congrArg List.length hc1
     simp only [List.length_append] at this
     omega
    have ha2 : ac2.length ≤ 8 := by
     have := congrArg List.length hc2
     simp only [List.length_append] at this
     omega
    have hgd := hgo d (by omega)
    have e1 : p1 (d : Int) = (goodOf v ts N d == 1) := by rw [← hp1]; simp only [Int.toNat_natCast]
    have e2 : p2 (d : Int) = !(goodOf v ts N d == 2) := by rw [← hp2]; simp only [Int.toNat_natCast]
    obtain ⟨g, hg⟩ : ∃ g, goodOf v ts N d = g := ⟨_, rfl⟩
    rw [hg] at e1 e2
    simp only [hg] at hgd
    rw [e1] at hc1
    rw [e2] at hc2
    have hap1 := fun (b0 b1 b2 b3 b4 : ABlk) (τ : St) => append_intT (σ := b0 :: b1 :: b2 :: b3 :: b4 :: .tok 1 ac1.length ex1 :: τ) (l := ac1) (a := (d : Int)) (ex := ex1) (t := 5) (by omega) rfl
    have hap2 := fun (b0 b1 b2 b3 b4 b5 : ABlk) (τ : St) => append_intT (σ := b0 :: b1 :: b2 :: b3 :: b4 :: b5 :: .tok 1 ac2.length ex2 :: τ) (l := ac2) (a := (d : Int)) (ex := ex2) (t := 6) (by omega) rfl
    (repeat (first | simp only [↓QA, QB, Nat.reduceLT, reduceIte, Nat.reduceEqDiff, Nat.reduceAdd, Nat.reduceLeDiff, Nat.reduceMul, Nat.reduceBEq, QXFFaPD] | refine rd0 rfl ?_))
    refine callK_same (hgd _) ?_
    cases h1 : (g == 1)
    ·rw [h1] at hc1
     simp only [Bool.false_eq_true, if_false] at hc1
     cases h2 : (g == 2)
     ·rw [h2] at hc2
      simp only [Bool.not_false, if_true] at hc2
      (repeat (first | simp only [↓QA, QB, Nat.reduceLT, reduceIte, Nat.reduceEqDiff, Nat.reduceAdd, Nat.reduceLeDiff, Nat.reduceMul, Nat.reduceBEq, QXFFaPD, h1, h2, hap2, hw] | refine rd0 rfl ?_))
      refine ⟨(d + 1, ac1, ex1, ac2 ++ [(d : Int)], true), ⟨by simp only; omega, hc1, by rw [← hc2]; simp⟩, by simp only; omega, ?_⟩
      try simp only [TrimX, QE, Nat.reduceLT, reduceIte, Nat.reduceEqDiff, Nat.reduceAdd, Nat.reduceLeDiff, Nat.reduceMul, Nat.reduceBEq, QXFFaPD, hw, S_mapI, List.map_append, List.map_cons, List.map_nil]
      try simp [okBlk]
     ·rw [h2] at hc2
      simp only [Bool.not_true, Bool.false_eq_true, if_false] at hc2
      (repeat (first | simp only [↓QA, QB, Nat.reduceLT, reduceIte, Nat.reduceEqDiff, Nat.reduceAdd, Nat.reduceLeDiff, Nat.reduceMul, Nat.reduceBEq, QXFFaPD, h1, h2, hw] | refine rd0 rfl ?_))
      refine ⟨(d + 1, ac1, ex1, ac2, ex2), ⟨by simp only; omega, hc1, hc2⟩, by simp only; omega, ?_⟩
      try simp only [TrimX, QE, Nat.reduceLT, reduceIte, Nat.reduceEqDiff, Nat.reduceAdd, Nat.reduceLeDiff, Nat.reduceMul, Nat.reduceBEq, QXFFaPD, hw]
      try simp [okBlk]
    ·rw [h1] at hc1
     simp only [if_true] at hc1
     have hg1 : g = 1 := by simpa using h1
     have h2 : (g == 2) = false := by rw [hg1]; rfl
     rw [h2] at hc2
     simp only [Bool.not_false, if_true] at hc2
     (repeat (first | simp only [↓QA, QB, Nat.reduceLT, reduceIte, Nat.reduceEqDiff, Nat.reduceAdd, Nat.reduceLeDiff, Nat.reduceMul, Nat.reduceBEq, QXFFaPD, h1, hap1] | refine rd0 rfl ?_))
     (repeat (first | simp only [↓QA, QB, Nat.reduceLT, reduceIte, Nat.reduceEqDiff, Nat.reduceAdd, Nat.reduceLeDiff, Nat.reduceMul, Nat.reduceBEq, QXFFaPD, h2, hap2, hw] | refine rd0 rfl ?_))
     refine ⟨(d + 1, ac1 ++ [(d : Int)], true, ac2 ++ [(d : Int)], true), ⟨by simp only; omega, by rw [← hc1]; simp, by rw [← hc2]; simp⟩, by simp only; omega, ?_⟩
     try simp only [TrimX, QE, Nat.reduceLT, reduceIte, Nat.reduceEqDiff, Nat.reduceAdd, Nat.reduceLeDiff, Nat.reduceMul, Nat.reduceBEq, QXFFaPD, hw, S_mapI, List.map_append, List.map_cons, List.map_nil]
     try simp [okBlk]
   ·have hd1 : d = G + 1 := by
     have h0 : ¬ (d : Int) < ((G + 1 : Nat) : Int) := by simpa using h
     omega
    rw [hd1, Nat.sub_self] at hc1 hc2
    simp only [numbers, List.filter_nil, List.append_nil] at hc1 hc2
    subst hc1
    subst hc2
    (repeat (first | simp only [↓QA, QB, Nat.reduceLT, reduceIte, Nat.reduceEqDiff, Nat.reduceAdd, Nat.reduceLeDiff, Nat.reduceMul, Nat.reduceBEq, QXFFaPD, encLLE] | refine rd0 rfl ?_))
    try try simp only [QS, QC, Nat.reduceLT, reduceIte, Nat.reduceEqDiff, Nat.reduceAdd, Nat.reduceLeDiff, Nat.reduceMul, Nat.reduceBEq, QXFFaPD]
 ·have hm : daysOf v n = ([], [], E) := by rw [daysOf, hE, if_neg h0']
  have hg : (E == 0) = false := by simpa using h0'
  rw [hm]
  refine callK_same (enter_err hf (fun τ => fine_same _) hask h0') ?_
  (repeat (first | simp only [↓QA, QB, Nat.reduceLT, reduceIte, Nat.reduceEqDiff, Nat.reduceAdd, Nat.reduceLeDiff, Nat.reduceMul, Nat.reduceBEq, QXFFaPD, hg, encLLE] | refine rd0 rfl ?_))
  try rfl
theorem lastTo_up (q : Nat → Bool) (k : Nat) : lastTo q (k + 1) = if q k = true then (k : Int) else lastTo q k := rfl
theorem lastTo_bd (q : Nat → Bool) : ∀ k, -1 ≤ lastTo q k ∧ lastTo q k < k
 | 0 => by simp [lastTo]
 | k + 1 => by
  have := lastTo_bd q k
  simp only [lastTo]
  split <;> omega
theorem plast_ok (v : Farm) (n : Int) (hf : Fits v) : Pure T 27 [encFarm v, .int .i64 n] (encIE (lastOf v n)) := by
 refine pure_fn (af := a27) rfl (by simp [a27]) dd ?_
 obtain ⟨E, hE⟩ : ∃ E, plotErr v n = E := ⟨_, rfl⟩
 have hask := ask_fine v hf n
 rw [hE] at hask
 (repeat (first | simp only [↓QA, QB, Nat.reduceLT, reduceIte, Nat.reduceEqDiff, Nat.reduceAdd, Nat.reduceLeDiff, Nat.reduceMul, Nat.reduceBEq, QXFFaPD, a27] | refine rd0 rfl ?_))
 by_cases h0' : E = 0
 ·subst h0'
  have hE2 := hE
  obtain ⟨hw, hne⟩ := errKnown_ok hE2
  obtain ⟨hv, hn0, hn1⟩ := errAsk_ok hw
  have hnr := hv.nra
  have hwy := hv.way
  have hm : lastOf v n = if lastIn v (truths v []) n.toNat = -1 then (0, 9) else (lastIn v (truths v []) n.toNat, 0) := by rw [lastOf, hE, if_pos rfl]
  rw [hm]
  obtain ⟨N, rfl⟩ : ∃ N : Nat, n = N := ⟨n.toNat, by omega⟩
  rw [Int.toNat_natCast]
  have hen := enter_ok hf (plot := max (N : Int) (-1099511627775)) (eo := 0) (F := .func 77 [] []) (σ := [.cells (farmCells v)]) (fun τ => fine_same _) hask
  have hgo := fun (D : Nat) (hD : D ≤ v.rain.length) (τ : St) => grown_same v hv (truths v []) (fun t ht => kok_of hv ht) hne 0 3 4 ([.cells (farmCells v), .cells (farmCells v), .cells (farmCells v), .map ((truths v []).map kvT), .cells (db v 0 3)] ++ τ) ⟨rfl, rfl⟩ N D (by omega) hD
  have hsb := fun (D : Nat) (hD : D ≤ v.rain.length) => fullS_bd hv (fun t ht => tok_of hv (but := []) ht) hne (show N < v.plots.length by omega) hD
  try simp only [↓QA, QB, Nat.reduceLT, reduceIte, Nat.reduceEqDiff, Nat.reduceAdd, Nat.reduceLeDiff, Nat.reduceMul, Nat.reduceBEq, QXFFaPD, lookS, List.cons_append, List.nil_append, List.length_cons, List.length_nil] at hen
  refine callK_do hen ?_
  obtain ⟨ts, hts⟩ : ∃ ts, truths v [] = ts := ⟨_, rfl⟩
  rw [hts] at hne ⊢
  simp only [hts, farmCells_eq, List.cons_append, List.nil_append] at hgo
  simp only [hts] at hsb
  obtain ⟨G, hG⟩ : ∃ G, v.rain.length = G := ⟨_, rfl⟩
  obtain ⟨L, hL⟩ : ∃ L, lastIn v ts N = L := ⟨_, rfl⟩
  have hL' : lastTo (greenB v ts N) (G + 1) = L := by rw [← hL, ← hG]; rfl
  have hLb := lastTo_bd (greenB v ts N) (G + 1)
  rw [hL'] at hLb
  rw [hL]
  rw [hG] at hgo hsb
  have hwG : IntKind.i64.wrap ((G : Int) + 1) = ((G + 1 : Nat) : Int) := by rw [wrap64 ⟨by omega, by omega⟩]; omega
  (repeat (first | simp only [↓QA, QB, Nat.reduceLT, reduceIte, Nat.reduceEqDiff, Nat.reduceAdd, Nat.reduceLeDiff, Nat.reduceMul, Nat.reduceBEq, QXFFaPD, hG, hwG] | refine rd0 rfl ?_))
  refine loopE (S := Nat) 0 (fun k => k ≤ G + 1) (fun k => G + 1 - k)
   (fun k => [(1, .int .i64 N), (2, .ptr 0 0), (6, .ptr 4 0), (8, .int .i64 (lastTo (greenB v ts N) k)), (23, .int .i64 ((G + 1 : Nat) : Int)), (24, .int .i64 k)])
   (fun _ => [.cells (farmCells v), .cells (farmCells v), .cells (farmCells v), .map (ts.map kvT), .cells (db v 0 3)]) (Nat.zero_le _) (by simp [farmCells_eq]) ?_ fun d hd => ?_
  ·try simp only [TrimX, QE, Nat.reduceLT, reduceIte, Nat.reduceEqDiff, Nat.reduceAdd, Nat.reduceLeDiff, Nat.reduceMul, Nat.reduceBEq, QXFFaPD]
   try simp [lastTo]
  ·(repeat (first | simp only [↓QA, QB, Nat.reduceLT, reduceIte, Nat.reduceEqDiff, Nat.reduceAdd, Nat.reduceLeDiff, Nat.reduceMul, Nat.reduceBEq, QXFFaPD, L27_0] | refine rd0 rfl ?_))
   refine iteP_intro (fun h => ?_) fun h => ?_
   ·have hd1 : d < G + 1 := by
     have h0 : (d : Int) < ((G + 1 : Nat) : Int) := by simpa using h
     omega
    have hw := wrapN hd1 (by omega)
    have hgd := hgo d (by omega)
    have hb := hsb d (by omega)
    have hup := lastTo_up (greenB v ts N) d
    have hge : greenB v ts N d = decide ((fullS ts N d).hi + v.way.hi ≤ v.ripe) := rfl
    rw [hge] at hup
    obtain ⟨s, hs⟩ : ∃ s, fullS ts N d = s := ⟨_, rfl⟩
    simp only [hs] at hgd hb hup
    have hwx : IntKind.i64.wrap (s.hi + v.way.hi) = s.hi + v.way.hi := wrap64 ⟨by omega, by omega⟩
    (repeat (first | simp only [↓QA, QB, Nat.reduceLT, reduceIte, Nat.reduceEqDiff, Nat.reduceAdd, Nat.reduceLeDiff, Nat.reduceMul, Nat.reduceBEq, QXFFaPD] | refine rd0 rfl ?_))
    refine callD_same (hgd _) ?_
    cases h5 : decide (s.hi + v.way.hi ≤ v.ripe)
    ·rw [h5] at hup
     simp only [Bool.false_eq_true, if_false] at hup
     (repeat (first | simp only [↓QA, QB, Nat.reduceLT, reduceIte, Nat.reduceEqDiff, Nat.reduceAdd, Nat.reduceLeDiff, Nat.reduceMul, Nat.reduceBEq, QXFFaPD, hwx, h5, hw] | refine rd0 rfl ?_))
     refine ⟨d + 1, by omega, by omega, ?_⟩
     try simp only [TrimX, QE, Nat.reduceLT, reduceIte, Nat.reduceEqDiff, Nat.reduceAdd, Nat.reduceLeDiff, Nat.reduceMul, Nat.reduceBEq, QXFFaPD, hw, hup]
     try simp [okBlk]
    ·rw [h5] at hup
     simp only [if_true] at hup
     (repeat (first | simp only [↓QA, QB, Nat.reduceLT, reduceIte, Nat.reduceEqDiff, Nat.reduceAdd, Nat.reduceLeDiff, Nat.reduceMul, Nat.reduceBEq, QXFFaPD, hwx, h5, hw] | refine rd0 rfl ?_))
     refine ⟨d + 1, by omega, by omega, ?_⟩
     try simp only [TrimX, QE, Nat.reduceLT, reduceIte, Nat.reduceEqDiff, Nat.reduceAdd, Nat.reduceLeDiff, Nat.reduceMul, Nat.reduceBEq, QXFFaPD, hw, hup]
     try simp [okBlk]
   ·have hd1 : d = G + 1 := by
     have h0 : ¬ (d : Int) < ((G + 1 : Nat) : Int) := by simpa using h
     omega
    subst hd1
    rw [hL']
    by_cases h9 : L = -1
    ·subst h9
     rw [if_pos rfl]
     (repeat (first | simp only [↓QA, QB, Nat.reduceLT, reduceIte, Nat.reduceEqDiff, Nat.reduceAdd, Nat.reduceLeDiff, Nat.reduceMul, Nat.reduceBEq, QXFFaPD, show decide ((-1 : Int) < 0) = true from rfl, encIE] | refine rd0 rfl ?_))
    ·have hlt : decide (L < 0) = false := by simp; omega
     rw [if_neg h9]
     (repeat (first | simp only [↓QA, QB, Nat.reduceLT, reduceIte, Nat.reduceEqDiff, Nat.reduceAdd, Nat.reduceLeDiff, Nat.reduceMul, Nat.reduceBEq, QXFFaPD, hlt, encIE] | refine rd0 rfl ?_))
 ·have hm : lastOf v n = (0, E) := by rw [lastOf, hE, if_neg h0']
  have hg : (E == 0) = false := by simpa using h0'
  rw [hm]
  refine callK_same (enter_err hf (fun τ => fine_same _) hask h0') ?_
  (repeat (first | simp only [↓QA, QB, Nat.reduceLT, reduceIte, Nat.reduceEqDiff, Nat.reduceAdd, Nat.reduceLeDiff, Nat.reduceMul, Nat.reduceBEq, QXFFaPD, hg, encIE] | refine rd0 rfl ?_))
def BestIs (q : List Int → Bool) (sh : List Int → Nat) (L : List (List Int)) : Option (List Int) → Prop
 | none => ∀ c ∈ L, q c = false
 | some b => b ∈ L ∧ q b = true ∧ ∀ c ∈ L, q c = true → sh b < sh c ∨ (sh b = sh c ∧ (c = b ∨ fewer b c = true))
def stepR (q : List Int → Bool) (sh : List Int → Nat) (o : Option (List Int)) (c : List Int) : Option (List Int) :=
 if q c then (match o with | none => some c | some b => if sh c < sh b then some c else some b) else o
def stepP (q : List Int → Bool) (sh : List Int → Nat) (o : Option (List Int)) (c : List Int) : Option (List Int) :=
 if q c then (match o with | none => some c | some b => if sh c < sh b ∨ (sh c = sh b ∧ fewer c b = true) then some c else some b) else o
theorem stepR_is (q : List Int → Bool) (sh : List Int → Nat) : ∀ (L2 L1 : List (List Int)) (o : Option (List Int)), (L1 ++ L2).Pairwise (fun a b => fewer a b = true) → BestIs q sh L1 o → BestIs q sh (L1 ++ L2) (L2.foldl (stepR q sh) o)
 | [], L1, o, _, h => by simpa using h
 | c :: L2, L1, o, hp, h => by
  have e : L1 ++ c :: L2 = (L1 ++ [c]) ++ L2 := by simp
  rw [e] at hp ⊢
  rw [List.foldl_cons]
  refine stepR_is q sh L2 (L1 ++ [c]) _ hp ?_
  have hlast : ∀ a ∈ L1, fewer a c = true := fun a ha => (List.pairwise_append.1 (List.pairwise_append.1 hp).1).2.2 a ha c (by simp)
  cases hq : q c
  ·simp only [stepR, hq, Bool.false_eq_true, if_false]
   cases o with
   | none =>
    intro d hd
    rcases List.mem_append.1 hd with hd | hd
    ·exact h d hd
    ·simp at hd; rw [hd]; exact hq
   | some b =>
    refine ⟨List.mem_append_left _ h.1, h.2.1, fun d hd hqd => ?_⟩
    rcases List.mem_append.1 hd with hd | hd
    ·exact h.2.2 d hd hqd
    ·simp at hd; rw [hd, hq] at hqd; cases hqd
  ·simp only [stepR, hq, if_true]
   cases o with
   | none =>
    refine ⟨by simp, hq, fun d hd hqd => ?_⟩
    rcases List.mem_append.1 hd with hd | hd
    ·rw [h d hd] at hqd; cases hqd
    ·simp at hd; exact .inr ⟨by rw [hd], .inl hd⟩
   | some b =>
    simp only
    split
    ·rename_i hlt
     refine ⟨by simp, hq, fun d hd hqd => ?_⟩
     rcases List.mem_append.1 hd with hd | hd
     ·rcases h.2.2 d hd hqd with h3 | ⟨h3, _⟩
      ·exact .inl (by omega)
      ·exact .inl (by omega)
     ·simp at hd; exact .inr ⟨by rw [hd], .inl hd⟩
    ·rename_i hlt
     refine ⟨List.mem_append_left _ h.1, h.2.1, fun d hd hqd => ?_⟩
     rcases List.mem_append.1 hd with hd | hd
     ·exact h.2.2 d hd hqd
     ·simp at hd
      subst hd
      by_cases he : sh b = sh d
      ·exact .inr ⟨he, .inr (hlast b h.1)⟩
      ·exact .inl (by omega)
theorem stepP_is (q : List Int → Bool) (sh : List Int → Nat) : ∀ (L2 L1 : List (List Int)) (o : Option (List Int)), BestIs q sh L1 o → BestIs q sh (L1 ++ L2) (L2.foldl (stepP q sh) o)
 | [], L1, o, h => by simpa using h
 | c :: L2, L1, o, h => by
  have e : L1 ++ c :: L2 = (L1 ++ [c]) ++ L2 := by simp
  rw [e, List.foldl_cons]
  refine stepP_is q sh L2 (L1 ++ [c]) _ ?_
  cases hq : q c
  ·simp only [stepP, hq, Bool.false_eq_true, if_false]
   cases o with
   | none =>
    intro d hd
    rcases List.mem_append.1 hd with hd | hd
    ·exact h d hd
    ·simp at hd; rw [hd]; exact hq
   | some b =>
    refine ⟨List.mem_append_left _ h.1, h.2.1, fun d hd hqd => ?_⟩
    rcases List.mem_append.1 hd with hd | hd
    ·exact h.2.2 d hd hqd
    ·simp at hd; rw [hd, hq] at hqd; cases hqd
  ·simp only [stepP, hq, if_true]
   cases o with
   | none =>
    refine ⟨by simp, hq, fun d hd hqd => ?_⟩
    rcases List.mem_append.1 hd with hd | hd
    ·rw [h d hd] at hqd; cases hqd
    ·simp at hd; exact .inr ⟨by rw [hd], .inl hd⟩
   | some b =>
    simp only
    split
    ·rename_i hlt
     refine ⟨by simp, hq, fun d hd hqd => ?_⟩
     rcases List.mem_append.1 hd with hd | hd
     ·rcases h.2.2 d hd hqd with h3 | ⟨h3, h4⟩
      ·rcases hlt with hl | ⟨hl, _⟩
       ·exact .inl (by omega)
       ·exact .inl (by omega)
      ·rcases hlt with hl | ⟨hl, hf⟩
       ·exact .inl (by omega)
       ·refine .inr ⟨by omega, .inr ?_⟩
        rcases h4 with h4 | h4
        ·rw [h4]; exact hf
        ·exact fewer_trans hf h4
     ·simp at hd; exact .inr ⟨by rw [hd], .inl hd⟩
    ·rename_i hlt
     refine ⟨List.mem_append_left _ h.1, h.2.1, fun d hd hqd => ?_⟩
     rcases List.mem_append.1 hd with hd | hd
     ·exact h.2.2 d hd hqd
     ·simp at hd
      subst hd
      rw [not_or] at hlt
      by_cases he : sh b = sh d
      ·refine .inr ⟨he, ?_⟩
       have hnf : fewer d b = false := by
        cases hf : fewer d b
        ·rfl
        ·exact absurd ⟨he.symm, hf⟩ hlt.2
       by_cases hbf : fewer b d = true
       ·exact .inr hbf
       ·exact .inl (fewer_tri hnf (by simpa using hbf))
      ·exact .inl (by omega)
theorem best_one {q : List Int → Bool} {sh : List Int → Nat} {L K : List (List Int)} (hLK : ∀ c, c ∈ L ↔ c ∈ K) {a b : Option (List Int)} (ha : BestIs q sh L a) (hb : BestIs q sh K b) : a = b := by
 cases a with
 | none =>
  cases b with
  | none => rfl
  | some b => have := ha b ((hLK b).2 hb.1); rw [hb.2.1] at this; cases this
 | some a =>
  cases b with
  | none => have := hb a ((hLK a).1 ha.1); rw [ha.2.1] at this; cases this
  | some b =>
   have h1 := ha.2.2 b ((hLK b).2 hb.1) hb.2.1
   have h2 := hb.2.2 a ((hLK a).1 ha.1) ha.2.1
   rcases h1 with h1 | ⟨h1, h3⟩
   ·rcases h2 with h2 | ⟨h2, _⟩ <;> omega
   ·rcases h2 with h2 | ⟨h2, h4⟩
    ·omega
    ·rcases h3 with h3 | h3
     ·rw [h3]
     ·rcases h4 with h4 | h4
      ·rw [h4]
      ·have := fewer_trans h3 h4
       rw [fewer_irr] at this
       cases this
theorem chFrom_mem {n : Nat} : ∀ {k m : Nat} {c : List Int}, c ∈ chFrom n k m ↔ ∃ i, m ≤ i ∧ i < m + k ∧ c ∈ choices n i
 | 0, m, c => by simp [chFrom]; intro i a b; omega
 | k + 1, m, c => by
  rw [chFrom, List.mem_append, chFrom_mem (k := k)]
  constructor
  ·rintro (h | ⟨i, a, b, h⟩)
   ·exact ⟨m, Nat.le_refl _, by omega, h⟩
   ·exact ⟨i, by omega, by omega, h⟩
  ·rintro ⟨i, a, b, h⟩
   by_cases e : i = m
   ·subst e; exact .inl h
   ·exact .inr ⟨i, by omega, by omega, h⟩
theorem chFrom_sorted {n : Nat} (hn : n ≤ 6) : ∀ (k m : Nat), m + k ≤ 7 → (chFrom n k m).Pairwise fun a b => fewer a b = true
 | 0, m, _ => List.Pairwise.nil
 | k + 1, m, h => by
  rw [chFrom, List.pairwise_append]
  refine ⟨?_, chFrom_sorted hn k (m + 1) (by omega), fun a ha b hb => ?_⟩
  ·have := choices_sorted ⟨n, by omega⟩ ⟨m, by omega⟩
   simp only at this
   refine (List.pairwise_iff_forall_sublist.2 fun {a b} hab => ?_)
   have h1 := (List.pairwise_iff_forall_sublist.1 this) hab
   have ha := (choices_spec n m a (hab.subset (by simp))).1
   have hb := (choices_spec n m b (hab.subset (by simp))).1
   simp [fewer, ha, hb, h1]
  ·obtain ⟨i, hi, _, hbi⟩ := chFrom_mem.1 hb
   have h1 := (choices_spec n m a ha).1
   have h2 := (choices_spec n i b hbi).1
   have : a.length < b.length := by omega
   rw [fewer, if_neg (by omega)]
   simpa using this
def setsAll (n : Nat) : List (List Int) := (List.range (2 ^ n)).map (lst n)
theorem all_sets {n : Nat} (hn : n ≤ 6) (c : List Int) : c ∈ allChoices n ↔ c ∈ setsAll n := by
 rw [allChoices, chFrom_mem, setsAll, List.mem_map]
 constructor
 ·rintro ⟨i, _, hi, hc⟩
  obtain ⟨s, hs, he⟩ := in_lst ⟨n, by omega⟩ ⟨i, by omega⟩ c hc
  exact ⟨s.val, by simpa using hs, he⟩
 ·rintro ⟨s, hs, rfl⟩
  have hs2 : s < 2 ^ n := by simpa using hs
  have hp : 2 ^ n ≤ 2 ^ 6 := Nat.pow_le_pow_right (by omega) hn
  have := lst_in ⟨n, by omega⟩ ⟨s, by omega⟩ hs2
  exact ⟨(lst n s).length, Nat.zero_le _, by have := lst_len n s; omega, this⟩
theorem early_eq {q : List Int → Bool} {sh : List Int → Nat} {n : Nat} (hn : n ≤ 6) : (allChoices n).foldl (stepR q sh) none = (setsAll n).foldl (stepP q sh) none := by
 have h1 := stepR_is q sh (allChoices n) [] none (by rw [List.nil_append]; exact chFrom_sorted hn (n + 1) 0 (by omega)) (fun c hc => by cases hc)
 have h2 := stepP_is q sh (setsAll n) [] none (fun c hc => by cases hc)
 exact best_one (all_sets hn) h1 h2
theorem early_step (v : Farm) (l : List Truth) (d : Nat) (hands : Int) : earlyStep v l d hands = stepR (fun c => doesB v l c d hands) (fun c => (shrinksOf v l c d).length) := by
 funext o c
 rfl
theorem weather_ne {v : Farm} (hv : Vd v) : weather v ≠ [] := by
 have : RainOk v (v.rain.map fun s => s.lo) := ⟨by simp, fun i h => by
  have h2 := hv.ra _ (List.getElem_mem h)
  have e : rl (v.rain.map fun s => s.lo) i = v.rain[i].lo := by simp [rl, h]
  rw [e]
  omega⟩
 exact List.ne_nil_of_mem (weather_mem.2 this)
theorem some_all {v : Farm} (hv : Vd v) {but : List Int} (h : ∀ k, k < v.looks.length → but.contains (k : Int) = true) : someB v but = true := by
 obtain ⟨c, hc⟩ := List.exists_mem_of_ne_nil _ (weather_ne hv)
 have ht : (⟨c, (List.range v.plots.length).map (fun p => flowersOf v p c but)⟩ : Truth) ∈ truths v but := by
  refine mem_truths.2 ⟨weather_mem.1 hc, rfl, fun x hx e => ?_⟩
  simp only [List.mem_map, List.mem_range] at hx
  obtain ⟨p, hp, rfl⟩ := hx
  have hpl := (pl_ok hv hp).1
  have : v.plots[p].flower.lo ∈ flowersOf v p c but := by
   rw [flowersOf, flower_at hp, List.mem_filter, waysIn_mem]
   refine ⟨by omega, ?_⟩
   rw [flowerOk, List.all_eq_true]
   intro k hk
   have hk2 : k < v.looks.length := by simpa using hk
   rw [List.getElem?_eq_getElem hk2]
   simp only [lookOk, h k hk2, Bool.or_true, Bool.true_or]
  rw [e] at this
  cases this
 rw [someB]
 cases hh : truths v but with
 | nil => rw [hh] at ht; cases ht
 | cons a b => rfl
theorem some_full {v : Farm} (hv : Vd v) : ∀ c ∈ choices v.looks.length v.looks.length, someB v c = true := fun c hc => by
 have hl := hv.nlk
 exact some_all hv fun k hk => all_contains ⟨v.looks.length, by omega⟩ c hc ⟨k, by omega⟩ hk
theorem firstFrom_snoc (f : List Int → Bool) (n : Nat) : ∀ k m, firstFrom f n (k + 1) m = (firstFrom f n k m).or ((choices n (m + k)).find? f)
 | 0, m => by simp only [firstFrom, Nat.add_zero]; cases (choices n m).find? f <;> rfl
 | k + 1, m => by
  rw [firstFrom, firstFrom_snoc f n k (m + 1)]
  rw [show firstFrom f n (k + 1) m = (match (choices n m).find? f with | some l => some l | none => firstFrom f n k (m + 1)) from rfl]
  rw [show m + 1 + k = m + (k + 1) by omega]
  cases (choices n m).find? f <;> rfl
theorem wrong_first {v : Farm} (hv : Vd v) : firstFrom (someB v) v.looks.length (v.looks.length + 1) 0 = some (wrongL v) := by
 have hl := hv.nlk
 have h1 := choices_one ⟨v.looks.length, by omega⟩
 simp only at h1
 obtain ⟨w, hw⟩ := List.length_eq_one_iff.1 h1
 have hs := some_full hv w (by rw [hw]; simp)
 rw [firstFrom_snoc, wrongL, Nat.zero_add, hw]
 cases firstFrom (someB v) v.looks.length v.looks.length 0 with
 | some l => rfl
 | none => simp [hs]
end Go.Am.Room
set_option maxRecDepth 8000
namespace Go.Am.Room
def QXFFaPE := And.intro @encFarm_eq (And.intro @farmCells_eq (And.intro @encPlot_eq (And.intro @encLook_eq (And.intro @encSpan_eq (And.intro @S_mapPlot (And.intro @S_mapLook (And.intro @S_mapSpan (And.intro @List.length_append.{0} (And.intro @Nat.mul_one (And.intro @Int.toNat_natCast (And.intro @T_sapp (And.intro @T_sapp0 (And.intro @db_0 (And.intro @db_1 (And.intro @db_2 (And.intro @db_3 (And.intro @db_4 (And.intro @db_5 (And.intro @db_6 (And.intro @db_7 (And.intro @db_8 (@S_mapI))))))))))))))))))))))
theorem pwrong_ok (v : Farm) (hf : Fits v) : Pure T 33 [encFarm v] (encLE (wrongOf v)) := by
 refine pure_fn (af := a33) rfl (by simp [a33]) dd ?_
 (repeat (first | simp only [↓QA, QB, Nat.reduceLT, reduceIte, Nat.reduceEqDiff, Nat.reduceAdd, Nat.reduceLeDiff, Nat.reduceMul, Nat.reduceBEq, QXFFaPE, a33] | refine rd0 rfl ?_))
 ((first | refine callK_d (check_ok v hf) rfl dd ?_ | refine callD_d (check_ok v hf) rfl dd ?_); (repeat (first | simp only [↓QA, QB, Nat.reduceLT, reduceIte, Nat.reduceEqDiff, Nat.reduceAdd, Nat.reduceLeDiff, Nat.reduceMul, Nat.reduceBEq, QXFFaPE, enc3] | refine rd0 rfl ?_)))
 cases h0 : ((check v).2.2 == 0)
 ·have h0' : (check v).2.2 ≠ 0 := by simpa using h0
  have hwo : wrongOf v = ([], (check v).2.2) := if_neg h0'
  rw [hwo]
  (repeat (first | simp only [↓QA, QB, Nat.reduceLT, reduceIte, Nat.reduceEqDiff, Nat.reduceAdd, Nat.reduceLeDiff, Nat.reduceMul, Nat.reduceBEq, QXFFaPE, h0, encLE] | refine rd0 rfl ?_))
  try rfl
 ·have h0' : (check v).2.2 = 0 := by simpa using h0
  have hwo : wrongOf v = (wrongL v, 0) := if_pos h0'
  have hv := vd_of_check h0'
  have hnl := hv.nlk
  have hwf := wrong_first hv
  rw [← few_eq _ _ (by omega)] at hwf
  rw [hwo]
  obtain ⟨W, hW⟩ : ∃ W, wrongL v = W := ⟨_, rfl⟩
  rw [hW] at hwf ⊢
  obtain ⟨n, hn⟩ : ∃ n, v.looks.length = n := ⟨_, rfl⟩
  rw [hn] at hwf hnl
  have hp : 2 ^ n ≤ 2 ^ 4 := Nat.pow_le_pow_right (by omega) hnl
  have hshl := V_shl1 n (by omega)
  obtain ⟨P, hP⟩ : ∃ P, 2 ^ n = P := ⟨_, rfl⟩
  have hbl : ∀ s, s < P → ButIs s (lst n s) := fun s hs => but_lst (by omega) (by omega)
  rw [hP] at hp hshl hwf
  obtain ⟨q, hq⟩ : ∃ q, someB v = q := ⟨_, rfl⟩
  have hqd : ∀ l, decide ((0 : Int) < ((truths v l).length : Int)) = q l := fun l => by
   rw [← hq, someB]; cases truths v l <;> simp
  rw [hq] at hwf
  (repeat (first | simp only [↓QA, QB, Nat.reduceLT, reduceIte, Nat.reduceEqDiff, Nat.reduceAdd, Nat.reduceLeDiff, Nat.reduceMul, Nat.reduceBEq, QXFFaPE, h0, hn, hshl] | refine rd0 rfl ?_))
  refine loopE (S := Nat × Option (List Int)) (0, none) (fun x => x.1 ≤ P ∧ fewFold q n (P - x.1) x.1 x.2 = some W ∧ (x.2.getD []).length ≤ n) (fun x => P - x.1)
   (fun x => [(1, .ptr 0 0), (2, ints (x.2.getD [])), (4, .bool x.2.isSome), (19, .int .i64 P), (20, .int .i64 x.1)])
   (fun x => [.cells (farmCells v)]) ⟨by simp, by simpa using hwf, by simp⟩ (by simp [farmCells, ints]) ?_ fun x hx => ?_
  ·try simp only [TrimX, QE, Nat.reduceLT, reduceIte, Nat.reduceEqDiff, Nat.reduceAdd, Nat.reduceLeDiff, Nat.reduceMul, Nat.reduceBEq, QXFFaPE, ints, Option.getD_none, Option.isSome_none]
   try simp [clr, clrs]
  ·obtain ⟨s, o⟩ := x
   obtain ⟨hs, hfo, hol⟩ := hx
   simp only at hs hfo hol
   (repeat (first | simp only [↓QA, QB, Nat.reduceLT, reduceIte, Nat.reduceEqDiff, Nat.reduceAdd, Nat.reduceLeDiff, Nat.reduceMul, Nat.reduceBEq, QXFFaPE, L33_0] | refine rd0 rfl ?_))
   refine iteP_intro (fun h => ?_) fun h => ?_
   ·have hs1 : s < P := by simpa using h
    have hw := wrapN hs1 (by omega)
    have hll := lst_len n s
    have hlk := look_does [.cells (farmCells v)] v s (lst n s) hv (hbl s hs1)
    have hlo := numbers_ok s n (by omega) (by omega)
    have hlen := look_len [.cells (farmCells v)] [.cells (db v s 2)] v s (truths v (lst n s)) 2 rfl
    rw [show P - s = (P - (s + 1)) + 1 by omega] at hfo
    simp only [fewFold] at hfo
    obtain ⟨L, hL⟩ : ∃ L, lst n s = L := ⟨_, rfl⟩
    rw [hL] at hfo hll hlk hlo hlen
    have hqL := hqd L
    try simp only [↓QA, QB, Nat.reduceLT, reduceIte, Nat.reduceEqDiff, Nat.reduceAdd, Nat.reduceLeDiff, Nat.reduceMul, Nat.reduceBEq, QXFFaPE, lookS, List.cons_append, List.nil_append, List.length_cons, List.length_nil] at hlk hlen
    (repeat (first | simp only [↓QA, QB, Nat.reduceLT, reduceIte, Nat.reduceEqDiff, Nat.reduceAdd, Nat.reduceLeDiff, Nat.reduceMul, Nat.reduceBEq, QXFFaPE, hn, Option.getD_some] | refine rd0 rfl ?_))
    ((first | refine callK_d (hlo) rfl dd ?_ | refine callD_d (hlo) rfl dd ?_); (repeat (first | simp only [↓QA, QB, Nat.reduceLT, reduceIte, Nat.reduceEqDiff, Nat.reduceAdd, Nat.reduceLeDiff, Nat.reduceMul, Nat.reduceBEq, QXFFaPE] | refine rd0 rfl ?_)))
    cases o with
    | none =>
     have hst : fewStep q none L = if q L = true then some L else none := rfl
     (repeat (first | simp only [↓QA, QB, Nat.reduceLT, reduceIte, Nat.reduceEqDiff, Nat.reduceAdd, Nat.reduceLeDiff, Nat.reduceMul, Nat.reduceBEq, QXFFaPE, Option.isSome_none, Option.getD_none] | refine rd0 rfl ?_))
     refine callK_do hlk ?_
     (repeat (first | simp only [↓QA, QB, Nat.reduceLT, reduceIte, Nat.reduceEqDiff, Nat.reduceAdd, Nat.reduceLeDiff, Nat.reduceMul, Nat.reduceBEq, QXFFaPE, hlen, hqL] | refine rd0 rfl ?_))
     cases hsm : q L
     ·rw [hsm] at hst
      simp only [Bool.false_eq_true, if_false] at hst
      rw [hst] at hfo
      (repeat (first | simp only [↓QA, QB, Nat.reduceLT, reduceIte, Nat.reduceEqDiff, Nat.reduceAdd, Nat.reduceLeDiff, Nat.reduceMul, Nat.reduceBEq, QXFFaPE, hw] | refine rd0 rfl ?_))
      refine ⟨(s + 1, none), ⟨by simp only; omega, hfo, by simp⟩, by simp only; omega, ?_⟩
      try simp only [TrimX, QE, Nat.reduceLT, reduceIte, Nat.reduceEqDiff, Nat.reduceAdd, Nat.reduceLeDiff, Nat.reduceMul, Nat.reduceBEq, QXFFaPE, hw, Option.isSome_none, Option.getD_none]
      try simp [ints, okBlk]
     ·rw [hsm] at hst
      simp only [if_true] at hst
      rw [hst] at hfo
      (repeat (first | simp only [↓QA, QB, Nat.reduceLT, reduceIte, Nat.reduceEqDiff, Nat.reduceAdd, Nat.reduceLeDiff, Nat.reduceMul, Nat.reduceBEq, QXFFaPE, hw] | refine rd0 rfl ?_))
      refine ⟨(s + 1, some L), ⟨by simp only; omega, hfo, by simpa using hll⟩, by simp only; omega, ?_⟩
      try simp only [TrimX, QE, Nat.reduceLT, reduceIte, Nat.reduceEqDiff, Nat.reduceAdd, Nat.reduceLeDiff, Nat.reduceMul, Nat.reduceBEq, QXFFaPE, hw, Option.isSome_some, Option.getD_some]
      try simp [ints, okBlk]
    | some b =>
     simp only [Option.getD_some] at hol
     simp only [Option.isSome_some, iteP_true]
     (repeat (first | simp only [↓QA, QB, Nat.reduceLT, reduceIte, Nat.reduceEqDiff, Nat.reduceAdd, Nat.reduceLeDiff, Nat.reduceMul, Nat.reduceBEq, QXFFaPE, Option.isSome_some, Option.getD_some] | refine rd0 rfl ?_))
     have fin : ∀ (hfw : fewer b L = false), fewStep q (some b) L = if q L = true then some L else some b := fun hfw => by simp only [fewStep, hfw]; rfl
     cases h1 : decide ((b.length : Int) < (L.length : Int))
     ·have h1' : ¬ b.length < L.length := by simpa using h1
      (repeat (first | simp only [↓QA, QB, Nat.reduceLT, reduceIte, Nat.reduceEqDiff, Nat.reduceAdd, Nat.reduceLeDiff, Nat.reduceMul, Nat.reduceBEq, QXFFaPE, Option.getD_some, h1] | refine rd0 rfl ?_))
      cases h2 : ((L.length : Int) == (b.length : Int))
      ·have h2' : ¬ b.length = L.length := by intro h; rw [h] at h2; simp at h2
       have hst := fin (by simp [fewer, h1', h2'])
       (repeat (first | simp only [↓QA, QB, Nat.reduceLT, reduceIte, Nat.reduceEqDiff, Nat.reduceAdd, Nat.reduceLeDiff, Nat.reduceMul, Nat.reduceBEq, QXFFaPE, h2] | refine rd0 rfl ?_))
       refine callK_do hlk ?_
       (repeat (first | simp only [↓QA, QB, Nat.reduceLT, reduceIte, Nat.reduceEqDiff, Nat.reduceAdd, Nat.reduceLeDiff, Nat.reduceMul, Nat.reduceBEq, QXFFaPE, hlen, hqL] | refine rd0 rfl ?_))
       cases hsm : q L
       ·rw [hsm] at hst
        simp only [Bool.false_eq_true, if_false] at hst
        rw [hst] at hfo
        (repeat (first | simp only [↓QA, QB, Nat.reduceLT, reduceIte, Nat.reduceEqDiff, Nat.reduceAdd, Nat.reduceLeDiff, Nat.reduceMul, Nat.reduceBEq, QXFFaPE, hw] | refine rd0 rfl ?_))
        refine ⟨(s + 1, some b), ⟨by simp only; omega, hfo, by simpa using hol⟩, by simp only; omega, ?_⟩
        try simp only [TrimX, QE, Nat.reduceLT, reduceIte, Nat.reduceEqDiff, Nat.reduceAdd, Nat.reduceLeDiff, Nat.reduceMul, Nat.reduceBEq, QXFFaPE, hw, Option.isSome_some, Option.getD_some]
        try simp [ints, okBlk]
       ·rw [hsm] at hst
        simp only [if_true] at hst
        rw [hst] at hfo
        (repeat (first | simp only [↓QA, QB, Nat.reduceLT, reduceIte, Nat.reduceEqDiff, Nat.reduceAdd, Nat.reduceLeDiff, Nat.reduceMul, Nat.reduceBEq, QXFFaPE, hw] | refine rd0 rfl ?_))
        refine ⟨(s + 1, some L), ⟨by simp only; omega, hfo, by simpa using hll⟩, by simp only; omega, ?_⟩
        try simp only [TrimX, QE, Nat.reduceLT, reduceIte, Nat.reduceEqDiff, Nat.reduceAdd, Nat.reduceLeDiff, Nat.reduceMul, Nat.reduceBEq, QXFFaPE, hw, Option.isSome_some, Option.getD_some]
        try simp [ints, okBlk]
      ·have h2' : b.length = L.length := by simp at h2; omega
       (repeat (first | simp only [↓QA, QB, Nat.reduceLT, reduceIte, Nat.reduceEqDiff, Nat.reduceAdd, Nat.reduceLeDiff, Nat.reduceMul, Nat.reduceBEq, QXFFaPE, Option.getD_some, h2] | refine rd0 rfl ?_))
       ((first | refine callK_d (scmp_ok L b (by omega) (by omega)) rfl dd ?_ | refine callD_d (scmp_ok L b (by omega) (by omega)) rfl dd ?_); (repeat (first | simp only [↓QA, QB, Nat.reduceLT, reduceIte, Nat.reduceEqDiff, Nat.reduceAdd, Nat.reduceLeDiff, Nat.reduceMul, Nat.reduceBEq, QXFFaPE, cmpL_less, Option.getD_some] | refine rd0 rfl ?_)))
       cases h3 : less b L
       ·have hst := fin (by simp [fewer, h2', h3])
        (repeat (first | simp only [↓QA, QB, Nat.reduceLT, reduceIte, Nat.reduceEqDiff, Nat.reduceAdd, Nat.reduceLeDiff, Nat.reduceMul, Nat.reduceBEq, QXFFaPE, h3] | refine rd0 rfl ?_))
        refine callK_do hlk ?_
        (repeat (first | simp only [↓QA, QB, Nat.reduceLT, reduceIte, Nat.reduceEqDiff, Nat.reduceAdd, Nat.reduceLeDiff, Nat.reduceMul, Nat.reduceBEq, QXFFaPE, hlen, hqL] | refine rd0 rfl ?_))
        cases hsm : q L
        ·rw [hsm] at hst
         simp only [Bool.false_eq_true, if_false] at hst
         rw [hst] at hfo
         (repeat (first | simp only [↓QA, QB, Nat.reduceLT, reduceIte, Nat.reduceEqDiff, Nat.reduceAdd, Nat.reduceLeDiff, Nat.reduceMul, Nat.reduceBEq, QXFFaPE, hw] | refine rd0 rfl ?_))
         refine ⟨(s + 1, some b), ⟨by simp only; omega, hfo, by simpa using hol⟩, by simp only; omega, ?_⟩
         try simp only [TrimX, QE, Nat.reduceLT, reduceIte, Nat.reduceEqDiff, Nat.reduceAdd, Nat.reduceLeDiff, Nat.reduceMul, Nat.reduceBEq, QXFFaPE, hw, Option.isSome_some, Option.getD_some]
         try simp [ints, okBlk]
        ·rw [hsm] at hst
         simp only [if_true] at hst
         rw [hst] at hfo
         (repeat (first | simp only [↓QA, QB, Nat.reduceLT, reduceIte, Nat.reduceEqDiff, Nat.reduceAdd, Nat.reduceLeDiff, Nat.reduceMul, Nat.reduceBEq, QXFFaPE, hw] | refine rd0 rfl ?_))
         refine ⟨(s + 1, some L), ⟨by simp only; omega, hfo, by simpa using hll⟩, by simp only; omega, ?_⟩
         try simp only [TrimX, QE, Nat.reduceLT, reduceIte, Nat.reduceEqDiff, Nat.reduceAdd, Nat.reduceLeDiff, Nat.reduceMul, Nat.reduceBEq, QXFFaPE, hw, Option.isSome_some, Option.getD_some]
         try simp [ints, okBlk]
       ·have hfw : fewer b L = true := by simp [fewer, h2', h3]
        have hst : fewStep q (some b) L = some b := by simp only [fewStep, hfw, if_true]
        rw [hst] at hfo
        (repeat (first | simp only [↓QA, QB, Nat.reduceLT, reduceIte, Nat.reduceEqDiff, Nat.reduceAdd, Nat.reduceLeDiff, Nat.reduceMul, Nat.reduceBEq, QXFFaPE, h3, hw] | refine rd0 rfl ?_))
        refine ⟨(s + 1, some b), ⟨by simp only; omega, hfo, by simpa using hol⟩, by simp only; omega, ?_⟩
        try simp only [TrimX, QE, Nat.reduceLT, reduceIte, Nat.reduceEqDiff, Nat.reduceAdd, Nat.reduceLeDiff, Nat.reduceMul, Nat.reduceBEq, QXFFaPE, hw, Option.isSome_some, Option.getD_some]
        try simp [ints, okBlk]
     ·have h1' : b.length < L.length := by simpa using h1
      have h2' : ¬ b.length = L.length := by omega
      have hfw : fewer b L = true := by simp [fewer, h1', h2']
      have hst : fewStep q (some b) L = some b := by simp only [fewStep, hfw, if_true]
      rw [hst] at hfo
      (repeat (first | simp only [↓QA, QB, Nat.reduceLT, reduceIte, Nat.reduceEqDiff, Nat.reduceAdd, Nat.reduceLeDiff, Nat.reduceMul, Nat.reduceBEq, QXFFaPE, h1, hw] | refine rd0 rfl ?_))
      refine ⟨(s + 1, some b), ⟨by simp only; omega, hfo, by simpa using hol⟩, by simp only; omega, ?_⟩
      try simp only [TrimX, QE, Nat.reduceLT, reduceIte, Nat.reduceEqDiff, Nat.reduceAdd, Nat.reduceLeDiff, Nat.reduceMul, Nat.reduceBEq, QXFFaPE, hw, Option.isSome_some, Option.getD_some]
      try simp [ints, okBlk]
   ·have hs1 : s = P := by simp at h; omega
    rw [hs1, Nat.sub_self] at hfo
    simp only [fewFold] at hfo
    subst hfo
    (repeat (first | simp only [↓QA, QB, Nat.reduceLT, reduceIte, Nat.reduceEqDiff, Nat.reduceAdd, Nat.reduceLeDiff, Nat.reduceMul, Nat.reduceBEq, QXFFaPE, encLE, Option.getD_some] | refine rd0 rfl ?_))
    try try simp only [QS, QC, Nat.reduceLT, reduceIte, Nat.reduceEqDiff, Nat.reduceAdd, Nat.reduceLeDiff, Nat.reduceMul, Nat.reduceBEq, QXFFaPE]
variable {α : Type}
def flatC (c : α → List AV) : List α → List AV
 | [] => []
 | y :: l => c y ++ flatC c l
structure Cells (enc : α → AV) (c : α → List AV) (sz : Nat) : Prop where
 agg : ∀ x, enc x = .agg (c x)
 len : ∀ x, (c x).length = sz
 one : sz ≠ 1 ∧ sz ≠ 0
 cell : ∀ x, (c x).all (·.cell) = true
 data : ∀ x, Data (enc x)
variable {enc : α → AV} {c : α → List AV} {sz : Nat}
theorem flatC_len (h : Cells enc c sz) : ∀ l, (flatC c l).length = l.length * sz
 | [] => by simp [flatC]
 | y :: l => by simp only [flatC, List.length_append, h.len, List.length_cons, flatC_len h l, Nat.add_mul]; omega
theorem flatC_map (h : Cells enc c sz) : ∀ l : List α, (l.map enc).flatMap AV.cells = flatC c l
 | [] => rfl
 | y :: l => by rw [List.map_cons, List.flatMap_cons, flatC_map h l, h.agg]; rfl
theorem flatC_all (h : Cells enc c sz) (l : List α) : allCells sz (l.map enc) = true := L_allM sz enc l fun y => by
 rw [h.agg]
 simp only [cellsOk, AV.cells, h.len, beq_self_eq_true, Bool.true_and]
 exact h.cell y
theorem flatC_okVs (h : Cells enc c sz) (m : Nat) (hc : ∀ x, okVs m (c x)) : ∀ l, okVs m (flatC c l)
 | [] => trivial
 | y :: l => okVs_app (hc y) (flatC_okVs h m hc l)
end Go.Am.Room
namespace Go.Am.Room
theorem cmpL_neg : ∀ a b : List Int, decide (cmpL a b < 0) = less a b
 | [], [] => rfl
 | [], b :: bs => rfl
 | a :: az, [] => rfl
 | a :: az, b :: bs => by
  have ih := cmpL_neg az bs
  simp only [cmpL, less, cmpI]
  by_cases h1 : a < b
  ·simp [h1, show ¬ a = b by omega]
  ·by_cases h2 : b < a
   ·simp [h1, h2, show ¬ a = b by omega] <;> omega
   ·have : a = b := by omega
    subst this
    simp [ih]
def plotC (x : Plot) : List AV := [.str x.name, .int .i64 x.flower.lo, .int .i64 x.flower.hi, .int .i64 x.hands]
theorem plotC_ok : Cells encPlot plotC 4 := ⟨fun x => by simp only [encPlot, plotC], fun x => rfl, by decide, fun x => rfl, data_plot⟩
theorem plotC_okV (m : Nat) (x : Plot) : okVs m (plotC x) := ⟨trivial, trivial, trivial, trivial, trivial⟩
def zero4 : List AV := [.str ⟨#[]⟩, .int .i64 0, .int .i64 0, .int .i64 0]
theorem copy_plots (b0 b1 b2 b3 b4 b5 : ABlk) (l : List Plot) : copyAV 4 [b0, b1, b2, b3, b4, b5, .cells (List.replicate l.length zero4).flatten] (.ref 6 0 l.length 4) (.lit (l.map encPlot) false none) = some (.int .i64 l.length, [b0, b1, b2, b3, b4, b5, .cells (flatC plotC l)]) := by
 have h1 : allCells 4 (l.map encPlot) = true := flatC_all plotC_ok l
 have h2 : (l.map encPlot).take l.length = l.map encPlot := List.take_of_length_le (by simp)
 have h3 := flatC_len plotC_ok l
 have h4 : ((List.replicate l.length zero4).flatten).length = l.length * 4 := by simp [zero4]
 have h5 : setCells (List.replicate l.length zero4).flatten 0 (flatC plotC l) = some (flatC plotC l) := by
  simp only [setCells]
  rw [if_pos (by omega), List.drop_of_length_le (by omega)]
  simp
 have h6 := flatC_map plotC_ok l
 simp [copyAV, view, sized, h1, cellsAt, h2, h5, h6]
theorem flat_hands : ∀ (l : List Plot) (k : Nat) (hk : k < l.length), (flatC plotC l)[k * 4 + 3]? = some (.int .i64 l[k].hands)
 | [], k, hk => by simp at hk
 | y :: l, 0, hk => rfl
 | y :: l, k + 1, hk => by
  have := flat_hands l k (by simpa using hk)
  have e : (k + 1) * 4 + 3 = (plotC y).length + (k * 4 + 3) := by simp only [plotC, List.length_cons, List.length_nil]; omega
  simp only [flatC, List.getElem_cons_succ]
  rw [e, List.getElem?_append_right (by omega), Nat.add_sub_cancel_left]
  exact this
def BitsOf (n : Nat) (p : Nat → Bool) (g : Nat) : Prop := g < 2 ^ n ∧ ∀ i, g.testBit i = (decide (i < n) && p i)
theorem bits_next {k : Nat} {p : Nat → Bool} {g : Nat} (h : BitsOf k p g) : (p k = true → BitsOf (k + 1) p (g ||| 2 ^ k)) ∧ (p k = false → BitsOf (k + 1) p g) := by
 obtain ⟨h1, h2⟩ := h
 have hlt : 2 ^ k < 2 ^ (k + 1) := Nat.pow_lt_pow_right (by omega) (by omega)
 constructor
 ·intro hp
  refine ⟨Nat.or_lt_two_pow (by omega) hlt, fun i => ?_⟩
  rw [Nat.testBit_or, h2, Nat.testBit_two_pow]
  by_cases e : k = i
  ·subst e; simp [hp]
  ·rw [Bool.eq_iff_iff]
   simp [e]
   intro _
   omega
 ·intro hp
  refine ⟨by omega, fun i => ?_⟩
  rw [h2]
  by_cases e : i = k
  ·subst e; simp [hp]
  ·rw [Bool.eq_iff_iff]
   simp
   intro _
   omega
theorem and_none {n s g : Nat} {p : Nat → Bool} (hs : s < 2 ^ n) (hn : n ≤ 60) (hg : BitsOf n p g) : (andN s g = 0) ↔ ∀ x ∈ lst n s, p x.toNat = true := by
 have hp := pow_small hn
 have hb := fun i => andN_bit (b := g) (by have := hg.1; omega) s i (by omega)
 constructor
 ·intro h x hx
  obtain ⟨h1, h2⟩ := mem_lst.1 hx
  have := hb x.toNat
  rw [h, Nat.zero_testBit, h2, hg.2] at this
  simp at this
  exact this.2
 ·intro h
  refine Nat.eq_of_testBit_eq fun i => ?_
  rw [hb, Nat.zero_testBit, hg.2]
  cases hsi : s.testBit i
  ·rfl
  ·by_cases hi : i < n
   ·have := h (i : Int) (mem_lst.2 ⟨by omega, by simpa using hsi⟩)
    rw [Int.toNat_natCast] at this
    simp [hi, this]
   ·rw [Nat.testBit_lt_two_pow (Nat.lt_of_lt_of_le hs (Nat.pow_le_pow_right (by omega) (by omega)))] at hsi
    cases hsi
theorem lst_and {n s g : Nat} {p : Nat → Bool} (hg : BitsOf n p g) : lst n (s &&& g) = (lst n s).filter fun x => p x.toNat := by
 simp only [lst]
 rw [List.filter_filter]
 refine List.filter_congr fun x hx => ?_
 have hx0 := (numbers_mem _ _ _).1 hx
 rw [← bit_div, ← bit_div, Nat.testBit_and, hg.2]
 have : decide (x.toNat < n) = true := by simp; omega
 rw [this, Bool.true_and, Bool.and_comm]
end Go.Am.Room
set_option maxRecDepth 8000
namespace Go.Am.Room
def QXFFaPG := And.intro @encFarm_eq (And.intro @farmCells_eq (And.intro @encPlot_eq (And.intro @encLook_eq (And.intro @encSpan_eq (And.intro @S_mapPlot (And.intro @S_mapLook (And.intro @S_mapSpan (And.intro @List.length_append.{0} (And.intro @Nat.mul_one (And.intro @Int.toNat_natCast (And.intro @T_sapp (And.intro @T_sapp0 (And.intro @db_0 (And.intro @db_1 (And.intro @db_2 (And.intro @db_3 (And.intro @db_4 (And.intro @db_5 (And.intro @db_6 (And.intro @db_7 (And.intro @db_8 (@S_mapI))))))))))))))))))))))
set_option maxHeartbeats 2000000 in
theorem pearly_ok (v : Farm) (da hands : Int) (hf : Fits v) : Pure T 31 [encFarm v, .int .i64 da, .int .i64 hands] (encLLE (earlyOf v da hands)) := by
 refine pure_fn (af := a31) rfl (by simp [a31]) dd ?_
 obtain ⟨E, hE⟩ : ∃ E, earlyErr v da hands = E := ⟨_, rfl⟩
 have hask := ask_early v da hands
 rw [hE] at hask
 have hun := fun σ => until_does [da, (v.rain.length : Int), hands, 400] σ
 have hu1 := fun (q : Nat) (σ : St) hq => until1_same [da, (v.rain.length : Int), hands, 400] (by simp) q σ hq
 simp only [litI_eq, List.map_cons, List.map_nil] at hun hu1
 (repeat (first | simp only [↓QA, QB, Nat.reduceLT, reduceIte, Nat.reduceEqDiff, Nat.reduceAdd, Nat.reduceLeDiff, Nat.reduceMul, Nat.reduceBEq, QXFFaPG, a31] | refine rd0 rfl ?_))
 refine callD_do (hun _) ?_
 (repeat (first | simp only [↓QA, QB, Nat.reduceLT, reduceIte, Nat.reduceEqDiff, Nat.reduceAdd, Nat.reduceLeDiff, Nat.reduceMul, Nat.reduceBEq, QXFFaPG] | refine rd0 rfl ?_))
 by_cases h0' : E = 0
 ·subst h0'
  have hE2 := hE
  obtain ⟨hw, hne⟩ := errKnown_ok hE2
  obtain ⟨hw2, hh0, hh1⟩ := within_ok hw
  obtain ⟨ha, hd0, hd1⟩ := within_ok hw2
  have hv := vd_of_check ha
  have hnr := hv.nra
  have hnp := hv.npl
  have hwy := hv.way
  have hm : earlyOf v da hands = earlyR v (truths v []) da.toNat (earlyIn v (truths v []) da.toNat hands) := by rw [earlyOf, hE, if_pos rfl]
  rw [hm]
  simp only [endOf] at hd1
  obtain ⟨d, rfl⟩ : ∃ d : Nat, da = d := ⟨da.toNat, by omega⟩
  rw [Int.toNat_natCast]
  have hen := enter_ok hf (plot := -1099511627776) (eo := untilE [(d : Int), (v.rain.length : Int), hands, 400]) (F := .func 96 [] [.ptr 1 0]) (σ := [.cells (farmCells v), .cells [.lit [.int .i64 d, .int .i64 v.rain.length, .int .i64 hands, .int .i64 400] true none]]) (fun τ => hu1 _ _ rfl) hask
  have hgo := fun (P : Nat) (hP : P < v.plots.length) (τ : St) => grown_same v hv (truths v []) (fun t ht => kok_of hv ht) hne 0 4 5 ([.cells (farmCells v), .cells [.lit [.int .i64 d, .int .i64 v.rain.length, .int .i64 hands, .int .i64 400] true none], .cells (farmCells v), .cells (farmCells v), .map ((truths v []).map kvT), .cells (db v 0 4)] ++ τ) ⟨rfl, rfl⟩ P d hP (by omega)
  have hsb := fun (P : Nat) (hP : P < v.plots.length) => fullS_bd hv (fun t ht => tok_of hv (but := []) ht) hne hP (show d ≤ v.rain.length by omega)
  try simp only [↓QA, QB, Nat.reduceLT, reduceIte, Nat.reduceEqDiff, Nat.reduceAdd, Nat.reduceLeDiff, Nat.reduceMul, Nat.reduceBEq, QXFFaPG, lookS, List.cons_append, List.nil_append, List.length_cons, List.length_nil] at hen
  refine callD_do hen ?_
  have hee := early_eq (q := fun c => doesB v (truths v []) c d hands) (sh := fun c => (shrinksOf v (truths v []) c d).length) (show v.plots.length ≤ 6 by omega)
  rw [← early_step] at hee
  have hei : earlyIn v (truths v []) d hands = (setsAll v.plots.length).foldl (stepP (fun c => doesB v (truths v []) c d hands) (fun c => (shrinksOf v (truths v []) c d).length)) none := hee
  have hhands := fun (p : Nat) (hp : p < v.plots.length) => (pl_ok hv hp).2
  obtain ⟨ts, hts⟩ : ∃ ts, truths v [] = ts := ⟨_, rfl⟩
  rw [hts] at hne ⊢
  simp only [hts] at hei
  simp only [hts, farmCells_eq, List.cons_append, List.nil_append] at hgo
  simp only [hts] at hsb
  obtain ⟨R, hR⟩ : ∃ R, earlyIn v ts d hands = R := ⟨_, rfl⟩
  rw [hR] at hei ⊢
  obtain ⟨f, hfe⟩ : ∃ f, stepP (fun c => doesB v ts c d hands) (fun c => (shrinksOf v ts c d).length) = f := ⟨_, rfl⟩
  rw [hfe, setsAll] at hei
  have hfst : ∀ o c, f o c = stepP (fun c => doesB v ts c d hands) (fun c => (shrinksOf v ts c d).length) o c := fun o c => by rw [hfe]
  have hcp := fun b0 b1 b2 b3 b4 b5 => copy_plots b0 b1 b2 b3 b4 b5 v.plots
  have hfh := fun (k : Nat) (hk : k < v.plots.length) => flat_hands v.plots k hk
  have hPCo : ∀ k, okVs k (flatC plotC v.plots) := fun k => flatC_okVs plotC_ok k (plotC_okV k) v.plots
  have hPCl := flatC_len plotC_ok v.plots
  obtain ⟨PC, hPC⟩ : ∃ PC, flatC plotC v.plots = PC := ⟨_, rfl⟩
  rw [hPC] at hPCl
  simp only [hPC] at hcp hfh hPCo
  obtain ⟨n, hn⟩ : ∃ n, v.plots.length = n := ⟨_, rfl⟩
  have hmk : vMkslice 40 (.int .i64 n) (.int .i64 n) = some n := by simp [vMkslice, room]; omega
  simp only [zero4, hn] at hcp
  rw [hn] at hnp hei hPCl
  have hp : 2 ^ n ≤ 2 ^ 4 := Nat.pow_le_pow_right (by omega) hnp
  have hshl := V_shl1 n (by omega)
  obtain ⟨Q, hQ⟩ : ∃ Q, 2 ^ n = Q := ⟨_, rfl⟩
  rw [hQ] at hp hshl hei
  (repeat (first | simp only [↓QA, QB, Nat.reduceLT, reduceIte, Nat.reduceEqDiff, Nat.reduceAdd, Nat.reduceLeDiff, Nat.reduceMul, Nat.reduceBEq, QXFFaPG, hn, hmk, hcp] | refine rd0 rfl ?_))
  refine loopE (S := Nat × Nat × Nat) (0, 0, 0) (fun a => a.1 ≤ n ∧ BitsOf a.1 (fun p => greenB v ts p d) a.2.1 ∧ BitsOf a.1 (fun p => !wholeB v ts p d) a.2.2) (fun a => n - a.1)
   (fun a => [(1, .int .i64 d), (2, .int .i64 hands), (3, .ptr 0 0), (6, .lit [] false none), (7, .lit [] false none), (9, .ptr 5 0), (10, .int .i64 a.2.1), (11, .int .i64 a.2.2), (12, .ref 6 0 n 4), (47, .int .i64 n), (48, .int .i64 a.1)])
   (fun a => [.cells (farmCells v), .cells [.lit [.int .i64 d, .int .i64 v.rain.length, .int .i64 hands, .int .i64 400] true none], .cells (farmCells v), .cells (farmCells v), .map (ts.map kvT), .cells (db v 0 4), .cells PC]) ⟨Nat.zero_le _, ⟨by simp, fun i => by simp⟩, ⟨by simp, fun i => by simp⟩⟩ (by simp [farmCells_eq]) ?_ fun a ha => ?_
  ·try simp only [TrimX, QE, Nat.reduceLT, reduceIte, Nat.reduceEqDiff, Nat.reduceAdd, Nat.reduceLeDiff, Nat.reduceMul, Nat.reduceBEq, QXFFaPG, S_refK (show 6 < 7 by omega)]
   try simp [clr, clrs]
  ·obtain ⟨k, g, th⟩ := a
   obtain ⟨hk, hg, hth⟩ := ha
   simp only at hk hg hth
   (repeat (first | simp only [↓QA, QB, Nat.reduceLT, reduceIte, Nat.reduceEqDiff, Nat.reduceAdd, Nat.reduceLeDiff, Nat.reduceMul, Nat.reduceBEq, QXFFaPG, L31_0] | refine rd0 rfl ?_))
   refine iteP_intro (fun h => ?_) fun h => ?_
   ·have hk1 : k < n := by simpa using h
    have hw := wrapN hk1 (by omega)
    have hgk := hgo k (by omega)
    have hb := hsb k (by omega)
    obtain ⟨g1, g2⟩ := bits_next hg
    obtain ⟨t1, t2⟩ := bits_next hth
    have hge : greenB v ts k d = decide ((fullS ts k d).hi + v.way.hi ≤ v.ripe) := rfl
    have hwe : (!wholeB v ts k d) = decide ((fullS ts k d).lo < v.full) := by
     rw [wholeB, Bool.eq_iff_iff]; simp
    simp only [hge] at g1 g2
    simp only [hwe] at t1 t2
    obtain ⟨s, hs⟩ : ∃ s, fullS ts k d = s := ⟨_, rfl⟩
    simp only [hs] at hgk hb g1 g2 t1 t2
    have hwx : IntKind.i64.wrap (s.hi + v.way.hi) = s.hi + v.way.hi := wrap64 ⟨by omega, by omega⟩
    have hg4 : g < 16 := Nat.lt_of_lt_of_le hg.1 (show 2 ^ k ≤ 2 ^ 4 from Nat.pow_le_pow_right (by omega) (by omega))
    have ht4 : th < 16 := Nat.lt_of_lt_of_le hth.1 (show 2 ^ k ≤ 2 ^ 4 from Nat.pow_le_pow_right (by omega) (by omega))
    have hk4 : 2 ^ k ≤ 2 ^ 4 := Nat.pow_le_pow_right (by omega) (by omega)
    have vsh := V_shl1 k (by omega)
    have vog := V_or g (2 ^ k) (by omega) (by omega)
    have vot := V_or th (2 ^ k) (by omega) (by omega)
    (repeat (first | simp only [↓QA, QB, Nat.reduceLT, reduceIte, Nat.reduceEqDiff, Nat.reduceAdd, Nat.reduceLeDiff, Nat.reduceMul, Nat.reduceBEq, QXFFaPG] | refine rd0 rfl ?_))
    refine callK_same (hgk _) ?_
    cases h5 : decide (s.hi + v.way.hi ≤ v.ripe)
    ·cases h6 : decide (s.lo < v.full)
     ·(repeat (first | simp only [↓QA, QB, Nat.reduceLT, reduceIte, Nat.reduceEqDiff, Nat.reduceAdd, Nat.reduceLeDiff, Nat.reduceMul, Nat.reduceBEq, QXFFaPG, hwx, h5, h6, hw] | refine rd0 rfl ?_))
      refine ⟨(k + 1, g, th), ⟨by simp only; omega, g2 h5, t2 h6⟩, by simp only; omega, ?_⟩
      try simp only [TrimX, QE, Nat.reduceLT, reduceIte, Nat.reduceEqDiff, Nat.reduceAdd, Nat.reduceLeDiff, Nat.reduceMul, Nat.reduceBEq, QXFFaPG, hw, S_refK (show 6 < 7 by omega)]
      try simp [okBlk]
     ·(repeat (first | simp only [↓QA, QB, Nat.reduceLT, reduceIte, Nat.reduceEqDiff, Nat.reduceAdd, Nat.reduceLeDiff, Nat.reduceMul, Nat.reduceBEq, QXFFaPG, hwx, h5, h6, vsh, vot, hw] | refine rd0 rfl ?_))
      refine ⟨(k + 1, g, th ||| 2 ^ k), ⟨by simp only; omega, g2 h5, t1 h6⟩, by simp only; omega, ?_⟩
      try simp only [TrimX, QE, Nat.reduceLT, reduceIte, Nat.reduceEqDiff, Nat.reduceAdd, Nat.reduceLeDiff, Nat.reduceMul, Nat.reduceBEq, QXFFaPG, hw, S_refK (show 6 < 7 by omega)]
      try simp [okBlk]
    ·cases h6 : decide (s.lo < v.full)
     ·(repeat (first | simp only [↓QA, QB, Nat.reduceLT, reduceIte, Nat.reduceEqDiff, Nat.reduceAdd, Nat.reduceLeDiff, Nat.reduceMul, Nat.reduceBEq, QXFFaPG, hwx, h5, h6, vsh, vog, hw] | refine rd0 rfl ?_))
      refine ⟨(k + 1, g ||| 2 ^ k, th), ⟨by simp only; omega, g1 h5, t2 h6⟩, by simp only; omega, ?_⟩
      try simp only [TrimX, QE, Nat.reduceLT, reduceIte, Nat.reduceEqDiff, Nat.reduceAdd, Nat.reduceLeDiff, Nat.reduceMul, Nat.reduceBEq, QXFFaPG, hw, S_refK (show 6 < 7 by omega)]
      try simp [okBlk]
     ·(repeat (first | simp only [↓QA, QB, Nat.reduceLT, reduceIte, Nat.reduceEqDiff, Nat.reduceAdd, Nat.reduceLeDiff, Nat.reduceMul, Nat.reduceBEq, QXFFaPG, hwx, h5, h6, vsh, vog, vot, hw] | refine rd0 rfl ?_))
      refine ⟨(k + 1, g ||| 2 ^ k, th ||| 2 ^ k), ⟨by simp only; omega, g1 h5, t1 h6⟩, by simp only; omega, ?_⟩
      try simp only [TrimX, QE, Nat.reduceLT, reduceIte, Nat.reduceEqDiff, Nat.reduceAdd, Nat.reduceLeDiff, Nat.reduceMul, Nat.reduceBEq, QXFFaPG, hw, S_refK (show 6 < 7 by omega)]
      try simp [okBlk]
   ·have hk1 : k = n := by simp at h; omega
    rw [hk1] at hg hth
    have hg4 : g < 16 := Nat.lt_of_lt_of_le hg.1 (by omega)
    have ht4 : th < 16 := Nat.lt_of_lt_of_le hth.1 (by omega)
    (repeat (first | simp only [↓QA, QB, Nat.reduceLT, reduceIte, Nat.reduceEqDiff, Nat.reduceAdd, Nat.reduceLeDiff, Nat.reduceMul, Nat.reduceBEq, QXFFaPG, hshl] | refine rd0 rfl ?_))
    refine loopE (S := Nat × Option (List Int)) (0, none) (fun a => a.1 ≤ Q ∧ (((List.range Q).drop a.1).map (lst n)).foldl f a.2 = R ∧ (a.2.getD []).length ≤ n) (fun a => Q - a.1)
     (fun a => [(2, .int .i64 hands), (6, ints (a.2.getD [])), (7, ints (shrinksOf v ts (a.2.getD []) d)), (10, .int .i64 g), (11, .int .i64 th), (12, .ref 6 0 n 4), (15, .bool a.2.isSome), (80, .int .i64 Q), (81, .int .i64 a.1)])
     (fun a => [.cells (farmCells v), .cells [.lit [.int .i64 d, .int .i64 v.rain.length, .int .i64 hands, .int .i64 400] true none], .cells (farmCells v), .cells (farmCells v), .map (ts.map kvT), .cells (db v 0 4), .cells PC]) ⟨Nat.zero_le _, by simpa using hei.symm, by simp⟩ (by simp [farmCells_eq]) ?_ fun a ha => ?_
    ·have hso : shrinksOf v ts [] d = [] := rfl
     try simp only [TrimX, QE, Nat.reduceLT, reduceIte, Nat.reduceEqDiff, Nat.reduceAdd, Nat.reduceLeDiff, Nat.reduceMul, Nat.reduceBEq, QXFFaPG, S_refK (show 6 < 7 by omega), Option.getD_none, Option.isSome_none, hso, ints, hk1]
     try simp [clr, clrs]
    ·obtain ⟨s, o⟩ := a
     obtain ⟨hs, hq, hol⟩ := ha
     simp only at hs hq hol
     (repeat (first | simp only [↓QA, QB, Nat.reduceLT, reduceIte, Nat.reduceEqDiff, Nat.reduceAdd, Nat.reduceLeDiff, Nat.reduceMul, Nat.reduceBEq, QXFFaPG, L31_2] | refine rd0 rfl ?_))
     refine iteP_intro (fun h2 => ?_) fun h2 => ?_
     ·have hs1 : s < Q := by simpa using h2
      have hw := wrapN hs1 (by omega)
      have hs2 : s < 2 ^ n := by omega
      have hr1 : s < (List.range Q).length := by simpa using hs1
      rw [List.drop_eq_getElem_cons hr1, List.getElem_range, List.map_cons, List.foldl_cons, hfst] at hq
      have hll := lst_len n s
      have hlr : ∀ x ∈ lst n s, 0 ≤ x ∧ x < n := fun x hx => by have := (mem_lst.1 hx).1; omega
      have hn1 := numbers_ok s n (by omega) (by omega)
      have hn2 := numbers_ok (s &&& th) n (Nat.lt_of_le_of_lt Nat.and_le_left (by omega)) (by omega)
      have hla : lst n (s &&& th) = shrinksOf v ts (lst n s) d := lst_and hth
      rw [hla] at hn2
      have vand := V_and s th (by omega) (by omega)
      have vann := V_andNot s g (by omega) (by omega)
      have hzi := and_none hs2 (by omega) hg
      have hslen : (shrinksOf v ts (lst n s) d).length ≤ n := Nat.le_trans (List.length_filter_le _ _) hll
      obtain ⟨L, hL⟩ : ∃ L, lst n s = L := ⟨_, rfl⟩
      rw [hL] at hq hll hlr hn1 hn2 hzi hslen
      have hzb : (((andN s g : Nat) : Int) == 0) = L.all (fun p => greenB v ts p.toNat d) := by
       rw [Bool.eq_iff_iff, List.all_eq_true, ← hzi]
       simp
      obtain ⟨SL, hSL⟩ : ∃ SL, shrinksOf v ts L d = SL := ⟨_, rfl⟩
      rw [hSL] at hn2 hslen
      obtain ⟨H, hH⟩ : ∃ H, handsOf v L = H := ⟨_, rfl⟩
      have hdo : doesB v ts L d hands = (decide (hands ≤ H) && L.all fun p => greenB v ts p.toNat d) := by rw [doesB, hH]
      (repeat (first | simp only [↓QA, QB, Nat.reduceLT, reduceIte, Nat.reduceEqDiff, Nat.reduceAdd, Nat.reduceLeDiff, Nat.reduceMul, Nat.reduceBEq, QXFFaPG] | refine rd0 rfl ?_))
      ((first | refine callK_d (hn1) rfl dd ?_ | refine callD_d (hn1) rfl dd ?_); (repeat (first | simp only [↓QA, QB, Nat.reduceLT, reduceIte, Nat.reduceEqDiff, Nat.reduceAdd, Nat.reduceLeDiff, Nat.reduceMul, Nat.reduceBEq, QXFFaPG, vand] | refine rd0 rfl ?_)))
      ((first | refine callK_d (hn2) rfl dd ?_ | refine callD_d (hn2) rfl dd ?_); (repeat (first | simp only [↓QA, QB, Nat.reduceLT, reduceIte, Nat.reduceEqDiff, Nat.reduceAdd, Nat.reduceLeDiff, Nat.reduceMul, Nat.reduceBEq, QXFFaPG, ints] | refine rd0 rfl ?_)))
      refine loopE (S := Nat × Int) (0, 0) (fun a => a.1 ≤ L.length ∧ a.2 + handsOf v (L.drop a.1) = H ∧ 0 ≤ a.2 ∧ a.2 ≤ 99 * a.1) (fun a => L.length - a.1)
       (fun a => [(2, .int .i64 hands), (6, ints (o.getD [])), (7, ints (shrinksOf v ts (o.getD []) d)), (10, .int .i64 g), (11, .int .i64 th), (12, .ref 6 0 n 4), (15, .bool o.isSome), (16, .int .i64 s), (17, ints L), (18, ints SL), (19, .int .i64 a.2), (80, .int .i64 Q), (81, .int .i64 s), (94, ints L), (95, .int .i64 L.length), (96, .int .i64 a.1)])
       (fun a => [.cells (farmCells v), .cells [.lit [.int .i64 d, .int .i64 v.rain.length, .int .i64 hands, .int .i64 400] true none], .cells (farmCells v), .cells (farmCells v), .map (ts.map kvT), .cells (db v 0 4), .cells PC]) ⟨Nat.zero_le _, by simpa using hH, Int.le_refl _, by simp⟩ (by simp [farmCells_eq]) ?_ fun a ha => ?_
      ·try simp only [TrimX, QE, Nat.reduceLT, reduceIte, Nat.reduceEqDiff, Nat.reduceAdd, Nat.reduceLeDiff, Nat.reduceMul, Nat.reduceBEq, QXFFaPG, S_refK (show 6 < 7 by omega), ints]
       try simp
      ·obtain ⟨j, sum⟩ := a
       obtain ⟨hj, hsum, hs0, hs9⟩ := ha
       simp only at hj hsum hs0 hs9
       (repeat (first | simp only [↓QA, QB, Nat.reduceLT, reduceIte, Nat.reduceEqDiff, Nat.reduceAdd, Nat.reduceLeDiff, Nat.reduceMul, Nat.reduceBEq, QXFFaPG, L31_4, ints] | refine rd0 rfl ?_))
       refine iteP_intro (fun h3 => ?_) fun h3 => ?_
       ·have hj1 : j < L.length := by simpa using h3
        have hwj := wrapN hj1 (by omega)
        have hpr := hlr _ (List.getElem_mem hj1)
        obtain ⟨p, hpe⟩ : ∃ p : Nat, L[j] = (p : Int) := ⟨L[j].toNat, by omega⟩
        have hpp : p < v.plots.length := by omega
        have hfp := hfh p hpp
        have hhp := hhands p hpp
        rw [List.drop_eq_getElem_cons hj1, handsOf, hpe, hands_at hpp] at hsum
        obtain ⟨y, hy⟩ : ∃ y, v.plots[p].hands = y := ⟨_, rfl⟩
        rw [hy] at hhp hsum hfp
        have hwn : IntKind.i64.wrap (sum + y) = sum + y := wrap64 ⟨by omega, by omega⟩
        have i1 : (0 : Int) ≤ (p : Int) ∧ (p : Int) < ((n : Nat) : Int) ∧ 4 = 4 := ⟨by omega, by omega, rfl⟩
        (repeat (first | simp only [↓QA, QB, Nat.reduceLT, reduceIte, Nat.reduceEqDiff, Nat.reduceAdd, Nat.reduceLeDiff, Nat.reduceMul, Nat.reduceBEq, QXFFaPG, hj1, hpe, i1, Nat.zero_add, hfp, hwn, hwj, ints] | refine rd0 rfl ?_))
        refine ⟨(j + 1, sum + y), ⟨by simp only; omega, by simp only; omega, by simp only; omega, by simp only; omega⟩, by simp only; omega, ?_⟩
        try simp only [TrimX, QE, Nat.reduceLT, reduceIte, Nat.reduceEqDiff, Nat.reduceAdd, Nat.reduceLeDiff, Nat.reduceMul, Nat.reduceBEq, QXFFaPG, hwj, hwn, S_refK (show 6 < 7 by omega), ints]
        try simp [okBlk]
       ·have hj1 : j = L.length := by simp at h3; omega
        rw [hj1, List.drop_length] at hsum
        simp only [handsOf, Int.add_zero] at hsum
        subst hsum
        cases hga : L.all (fun p => greenB v ts p.toNat d)
        ·have hst : stepP (fun c => doesB v ts c d hands) (fun c => (shrinksOf v ts c d).length) o L = o := by
          have hd0 : doesB v ts L d hands = false := by rw [hdo, hga, Bool.and_false]
          simp [stepP, hd0]
         rw [hst] at hq
         (repeat (first | simp only [↓QA, QB, Nat.reduceLT, reduceIte, Nat.reduceEqDiff, Nat.reduceAdd, Nat.reduceLeDiff, Nat.reduceMul, Nat.reduceBEq, QXFFaPG, vann, hzb, hga, hw, ints] | refine rd0 rfl ?_))
         refine ⟨(s + 1, o), ⟨by simp only; omega, hq, hol⟩, by simp only; omega, ?_⟩
         try simp only [TrimX, QE, Nat.reduceLT, reduceIte, Nat.reduceEqDiff, Nat.reduceAdd, Nat.reduceLeDiff, Nat.reduceMul, Nat.reduceBEq, QXFFaPG, hw, S_refK (show 6 < 7 by omega), ints]
         try simp [okBlk]
        ·cases hlt : decide (sum < hands)
         ·have hd1 : doesB v ts L d hands = true := by
           have : ¬ sum < hands := by simpa using hlt
           have e : decide (hands ≤ sum) = true := by simp; omega
           rw [hdo, hga, e]; rfl
          have hsN : stepP (fun c => doesB v ts c d hands) (fun c => (shrinksOf v ts c d).length) none L = some L := by simp [stepP, hd1]
          have hsS : ∀ b, stepP (fun c => doesB v ts c d hands) (fun c => (shrinksOf v ts c d).length) (some b) L = if SL.length < (shrinksOf v ts b d).length ∨ (SL.length = (shrinksOf v ts b d).length ∧ fewer L b = true) then some L else some b := fun b => by simp only [stepP, hd1, if_true, hSL]
          (repeat (first | simp only [↓QA, QB, Nat.reduceLT, reduceIte, Nat.reduceEqDiff, Nat.reduceAdd, Nat.reduceLeDiff, Nat.reduceMul, Nat.reduceBEq, QXFFaPG, vann, hzb, hga, hlt, ints] | refine rd0 rfl ?_))
          cases h1 : decide (((SL.length : Nat) : Int) < ((shrinksOf v ts (o.getD []) d).length : Int))
          ·have h1' : ¬ SL.length < (shrinksOf v ts (o.getD []) d).length := by simpa using h1
           (repeat (first | simp only [↓QA, QB, Nat.reduceLT, reduceIte, Nat.reduceEqDiff, Nat.reduceAdd, Nat.reduceLeDiff, Nat.reduceMul, Nat.reduceBEq, QXFFaPG, h1, ints] | refine rd0 rfl ?_))
           cases h2 : (((SL.length : Nat) : Int) == ((shrinksOf v ts (o.getD []) d).length : Int))
           ·have h2' : ¬ SL.length = (shrinksOf v ts (o.getD []) d).length := by intro h; rw [h] at h2; simp at h2
            have hb : ¬ (SL.length < (shrinksOf v ts (o.getD []) d).length ∨ (SL.length = (shrinksOf v ts (o.getD []) d).length ∧ fewer L (o.getD []) = true)) := by rintro (h | ⟨h, _⟩); exact h1' h; exact h2' h
            (repeat (first | simp only [↓QA, QB, Nat.reduceLT, reduceIte, Nat.reduceEqDiff, Nat.reduceAdd, Nat.reduceLeDiff, Nat.reduceMul, Nat.reduceBEq, QXFFaPG, h1, h2, ints] | refine rd0 rfl ?_))
            cases o with
            | none =>
             rw [hsN] at hq
             (repeat (first | simp only [↓QA, QB, Nat.reduceLT, reduceIte, Nat.reduceEqDiff, Nat.reduceAdd, Nat.reduceLeDiff, Nat.reduceMul, Nat.reduceBEq, QXFFaPG, Option.isSome_none, hw, ints] | refine rd0 rfl ?_))
             refine ⟨(s + 1, some L), ⟨by simp only; omega, hq, by simpa using hll⟩, by simp only; omega, ?_⟩
             try simp only [TrimX, QE, Nat.reduceLT, reduceIte, Nat.reduceEqDiff, Nat.reduceAdd, Nat.reduceLeDiff, Nat.reduceMul, Nat.reduceBEq, QXFFaPG, hw, S_refK (show 6 < 7 by omega), ints, Option.isSome_some, Option.getD_some, hSL]
             try simp [okBlk]
            | some b =>
             simp only [Option.getD_some] at hol hb
             rw [hsS, if_neg hb] at hq
             (repeat (first | simp only [↓QA, QB, Nat.reduceLT, reduceIte, Nat.reduceEqDiff, Nat.reduceAdd, Nat.reduceLeDiff, Nat.reduceMul, Nat.reduceBEq, QXFFaPG, Option.isSome_some, Option.getD_some, hw, ints] | refine rd0 rfl ?_))
             refine ⟨(s + 1, some b), ⟨by simp only; omega, hq, by simpa using hol⟩, by simp only; omega, ?_⟩
             try simp only [TrimX, QE, Nat.reduceLT, reduceIte, Nat.reduceEqDiff, Nat.reduceAdd, Nat.reduceLeDiff, Nat.reduceMul, Nat.reduceBEq, QXFFaPG, hw, S_refK (show 6 < 7 by omega), ints, Option.isSome_some, Option.getD_some]
             try simp [okBlk]
           ·have h2' : SL.length = (shrinksOf v ts (o.getD []) d).length := by simp at h2; omega
            (repeat (first | simp only [↓QA, QB, Nat.reduceLT, reduceIte, Nat.reduceEqDiff, Nat.reduceAdd, Nat.reduceLeDiff, Nat.reduceMul, Nat.reduceBEq, QXFFaPG, h1, h2, ints] | refine rd0 rfl ?_))
            cases h3 : decide (((L.length : Nat) : Int) < ((o.getD []).length : Int))
            ·have h3' : ¬ L.length < (o.getD []).length := by simpa using h3
             (repeat (first | simp only [↓QA, QB, Nat.reduceLT, reduceIte, Nat.reduceEqDiff, Nat.reduceAdd, Nat.reduceLeDiff, Nat.reduceMul, Nat.reduceBEq, QXFFaPG, h3, ints] | refine rd0 rfl ?_))
             cases h4 : (((L.length : Nat) : Int) == ((o.getD []).length : Int))
             ·have h4' : ¬ L.length = (o.getD []).length := by intro h; rw [h] at h4; simp at h4
              have hb : ¬ (SL.length < (shrinksOf v ts (o.getD []) d).length ∨ (SL.length = (shrinksOf v ts (o.getD []) d).length ∧ fewer L (o.getD []) = true)) := by
               rintro (h | ⟨_, h⟩)
               ·exact h1' h
               ·rw [fewer, if_neg h4'] at h
                exact h3' (by simpa using h)
              (repeat (first | simp only [↓QA, QB, Nat.reduceLT, reduceIte, Nat.reduceEqDiff, Nat.reduceAdd, Nat.reduceLeDiff, Nat.reduceMul, Nat.reduceBEq, QXFFaPG, h3, h4, ints] | refine rd0 rfl ?_))
              cases o with
              | none =>
               rw [hsN] at hq
               (repeat (first | simp only [↓QA, QB, Nat.reduceLT, reduceIte, Nat.reduceEqDiff, Nat.reduceAdd, Nat.reduceLeDiff, Nat.reduceMul, Nat.reduceBEq, QXFFaPG, Option.isSome_none, hw, ints] | refine rd0 rfl ?_))
               refine ⟨(s + 1, some L), ⟨by simp only; omega, hq, by simpa using hll⟩, by simp only; omega, ?_⟩
               try simp only [TrimX, QE, Nat.reduceLT, reduceIte, Nat.reduceEqDiff, Nat.reduceAdd, Nat.reduceLeDiff, Nat.reduceMul, Nat.reduceBEq, QXFFaPG, hw, S_refK (show 6 < 7 by omega), ints, Option.isSome_some, Option.getD_some, hSL]
               try simp [okBlk]
              | some b =>
               simp only [Option.getD_some] at hol hb
               rw [hsS, if_neg hb] at hq
               (repeat (first | simp only [↓QA, QB, Nat.reduceLT, reduceIte, Nat.reduceEqDiff, Nat.reduceAdd, Nat.reduceLeDiff, Nat.reduceMul, Nat.reduceBEq, QXFFaPG, Option.isSome_some, Option.getD_some, hw, ints] | refine rd0 rfl ?_))
               refine ⟨(s + 1, some b), ⟨by simp only; omega, hq, by simpa using hol⟩, by simp only; omega, ?_⟩
               try simp only [TrimX, QE, Nat.reduceLT, reduceIte, Nat.reduceEqDiff, Nat.reduceAdd, Nat.reduceLeDiff, Nat.reduceMul, Nat.reduceBEq, QXFFaPG, hw, S_refK (show 6 < 7 by omega), ints, Option.isSome_some, Option.getD_some]
               try simp [okBlk]
             ·have h4' : L.length = (o.getD []).length := by simp at h4; omega
              (repeat (first | simp only [↓QA, QB, Nat.reduceLT, reduceIte, Nat.reduceEqDiff, Nat.reduceAdd, Nat.reduceLeDiff, Nat.reduceMul, Nat.reduceBEq, QXFFaPG, h3, h4, ints] | refine rd0 rfl ?_))
              ((first | refine callK_d (scmp_ok L (o.getD []) (by omega) (by omega)) rfl dd ?_ | refine callD_d (scmp_ok L (o.getD []) (by omega) (by omega)) rfl dd ?_); (repeat (first | simp only [↓QA, QB, Nat.reduceLT, reduceIte, Nat.reduceEqDiff, Nat.reduceAdd, Nat.reduceLeDiff, Nat.reduceMul, Nat.reduceBEq, QXFFaPG, cmpL_neg, h3, h4, ints] | refine rd0 rfl ?_)))
              cases h5 : less L (o.getD [])
              ·have hb : ¬ (SL.length < (shrinksOf v ts (o.getD []) d).length ∨ (SL.length = (shrinksOf v ts (o.getD []) d).length ∧ fewer L (o.getD []) = true)) := by
                rintro (h | ⟨_, h⟩)
                ·exact h1' h
                ·rw [fewer, if_pos h4', h5] at h
                 cases h
               (repeat (first | simp only [↓QA, QB, Nat.reduceLT, reduceIte, Nat.reduceEqDiff, Nat.reduceAdd, Nat.reduceLeDiff, Nat.reduceMul, Nat.reduceBEq, QXFFaPG, h5, ints] | refine rd0 rfl ?_))
               cases o with
               | none =>
                rw [hsN] at hq
                (repeat (first | simp only [↓QA, QB, Nat.reduceLT, reduceIte, Nat.reduceEqDiff, Nat.reduceAdd, Nat.reduceLeDiff, Nat.reduceMul, Nat.reduceBEq, QXFFaPG, Option.isSome_none, hw, ints] | refine rd0 rfl ?_))
                refine ⟨(s + 1, some L), ⟨by simp only; omega, hq, by simpa using hll⟩, by simp only; omega, ?_⟩
                try simp only [TrimX, QE, Nat.reduceLT, reduceIte, Nat.reduceEqDiff, Nat.reduceAdd, Nat.reduceLeDiff, Nat.reduceMul, Nat.reduceBEq, QXFFaPG, hw, S_refK (show 6 < 7 by omega), ints, Option.isSome_some, Option.getD_some, hSL]
                try simp [okBlk]
               | some b =>
                simp only [Option.getD_some] at hol hb
                rw [hsS, if_neg hb] at hq
                (repeat (first | simp only [↓QA, QB, Nat.reduceLT, reduceIte, Nat.reduceEqDiff, Nat.reduceAdd, Nat.reduceLeDiff, Nat.reduceMul, Nat.reduceBEq, QXFFaPG, Option.isSome_some, Option.getD_some, hw, ints] | refine rd0 rfl ?_))
                refine ⟨(s + 1, some b), ⟨by simp only; omega, hq, by simpa using hol⟩, by simp only; omega, ?_⟩
                try simp only [TrimX, QE, Nat.reduceLT, reduceIte, Nat.reduceEqDiff, Nat.reduceAdd, Nat.reduceLeDiff, Nat.reduceMul, Nat.reduceBEq, QXFFaPG, hw, S_refK (show 6 < 7 by omega), ints, Option.isSome_some, Option.getD_some]
                try simp [okBlk]
              ·have hb : (SL.length < (shrinksOf v ts (o.getD []) d).length ∨ (SL.length = (shrinksOf v ts (o.getD []) d).length ∧ fewer L (o.getD []) = true)) := .inr ⟨h2', by rw [fewer, if_pos h4', h5]⟩
               (repeat (first | simp only [↓QA, QB, Nat.reduceLT, reduceIte, Nat.reduceEqDiff, Nat.reduceAdd, Nat.reduceLeDiff, Nat.reduceMul, Nat.reduceBEq, QXFFaPG, h5, ints] | refine rd0 rfl ?_))
               cases o with
               | none =>
                rw [hsN] at hq
                (repeat (first | simp only [↓QA, QB, Nat.reduceLT, reduceIte, Nat.reduceEqDiff, Nat.reduceAdd, Nat.reduceLeDiff, Nat.reduceMul, Nat.reduceBEq, QXFFaPG, Option.isSome_none, hw, ints] | refine rd0 rfl ?_))
                refine ⟨(s + 1, some L), ⟨by simp only; omega, hq, by simpa using hll⟩, by simp only; omega, ?_⟩
                try simp only [TrimX, QE, Nat.reduceLT, reduceIte, Nat.reduceEqDiff, Nat.reduceAdd, Nat.reduceLeDiff, Nat.reduceMul, Nat.reduceBEq, QXFFaPG, hw, S_refK (show 6 < 7 by omega), ints, Option.isSome_some, Option.getD_some, hSL]
                try simp [okBlk]
               | some b =>
                simp only [Option.getD_some] at hol hb
                rw [hsS, if_pos hb] at hq
                (repeat (first | simp only [↓QA, QB, Nat.reduceLT, reduceIte, Nat.reduceEqDiff, Nat.reduceAdd, Nat.reduceLeDiff, Nat.reduceMul, Nat.reduceBEq, QXFFaPG, Option.isSome_some, Option.getD_some, hw, ints] | refine rd0 rfl ?_))
                refine ⟨(s + 1, some L), ⟨by simp only; omega, hq, by simpa using hll⟩, by simp only; omega, ?_⟩
                try simp only [TrimX, QE, Nat.reduceLT, reduceIte, Nat.reduceEqDiff, Nat.reduceAdd, Nat.reduceLeDiff, Nat.reduceMul, Nat.reduceBEq, QXFFaPG, hw, S_refK (show 6 < 7 by omega), ints, Option.isSome_some, Option.getD_some, hSL]
                try simp [okBlk]
            ·have h3' : L.length < (o.getD []).length := by simpa using h3
             have hb : (SL.length < (shrinksOf v ts (o.getD []) d).length ∨ (SL.length = (shrinksOf v ts (o.getD []) d).length ∧ fewer L (o.getD []) = true)) := .inr ⟨h2', by rw [fewer, if_neg (by omega)]; simpa using h3'⟩
             (repeat (first | simp only [↓QA, QB, Nat.reduceLT, reduceIte, Nat.reduceEqDiff, Nat.reduceAdd, Nat.reduceLeDiff, Nat.reduceMul, Nat.reduceBEq, QXFFaPG, h3, ints] | refine rd0 rfl ?_))
             cases o with
             | none =>
              rw [hsN] at hq
              (repeat (first | simp only [↓QA, QB, Nat.reduceLT, reduceIte, Nat.reduceEqDiff, Nat.reduceAdd, Nat.reduceLeDiff, Nat.reduceMul, Nat.reduceBEq, QXFFaPG, Option.isSome_none, hw, ints] | refine rd0 rfl ?_))
              refine ⟨(s + 1, some L), ⟨by simp only; omega, hq, by simpa using hll⟩, by simp only; omega, ?_⟩
              try simp only [TrimX, QE, Nat.reduceLT, reduceIte, Nat.reduceEqDiff, Nat.reduceAdd, Nat.reduceLeDiff, Nat.reduceMul, Nat.reduceBEq, QXFFaPG, hw, S_refK (show 6 < 7 by omega), ints, Option.isSome_some, Option.getD_some, hSL]
              try simp [okBlk]
             | some b =>
              simp only [Option.getD_some] at hol hb
              rw [hsS, if_pos hb] at hq
              (repeat (first | simp only [↓QA, QB, Nat.reduceLT, reduceIte, Nat.reduceEqDiff, Nat.reduceAdd, Nat.reduceLeDiff, Nat.reduceMul, Nat.reduceBEq, QXFFaPG, Option.isSome_some, Option.getD_some, hw, ints] | refine rd0 rfl ?_))
              refine ⟨(s + 1, some L), ⟨by simp only; omega, hq, by simpa using hll⟩, by simp only; omega, ?_⟩
              try simp only [TrimX, QE, Nat.reduceLT, reduceIte, Nat.reduceEqDiff, Nat.reduceAdd, Nat.reduceLeDiff, Nat.reduceMul, Nat.reduceBEq, QXFFaPG, hw, S_refK (show 6 < 7 by omega), ints, Option.isSome_some, Option.getD_some, hSL]
              try simp [okBlk]
          ·have h1' : SL.length < (shrinksOf v ts (o.getD []) d).length := by simpa using h1
           have hb : (SL.length < (shrinksOf v ts (o.getD []) d).length ∨ (SL.length = (shrinksOf v ts (o.getD []) d).length ∧ fewer L (o.getD []) = true)) := .inl h1'
           (repeat (first | simp only [↓QA, QB, Nat.reduceLT, reduceIte, Nat.reduceEqDiff, Nat.reduceAdd, Nat.reduceLeDiff, Nat.reduceMul, Nat.reduceBEq, QXFFaPG, h1, ints] | refine rd0 rfl ?_))
           cases o with
           | none =>
            rw [hsN] at hq
            (repeat (first | simp only [↓QA, QB, Nat.reduceLT, reduceIte, Nat.reduceEqDiff, Nat.reduceAdd, Nat.reduceLeDiff, Nat.reduceMul, Nat.reduceBEq, QXFFaPG, Option.isSome_none, hw, ints] | refine rd0 rfl ?_))
            refine ⟨(s + 1, some L), ⟨by simp only; omega, hq, by simpa using hll⟩, by simp only; omega, ?_⟩
            try simp only [TrimX, QE, Nat.reduceLT, reduceIte, Nat.reduceEqDiff, Nat.reduceAdd, Nat.reduceLeDiff, Nat.reduceMul, Nat.reduceBEq, QXFFaPG, hw, S_refK (show 6 < 7 by omega), ints, Option.isSome_some, Option.getD_some, hSL]
            try simp [okBlk]
           | some b =>
            simp only [Option.getD_some] at hol hb
            rw [hsS, if_pos hb] at hq
            (repeat (first | simp only [↓QA, QB, Nat.reduceLT, reduceIte, Nat.reduceEqDiff, Nat.reduceAdd, Nat.reduceLeDiff, Nat.reduceMul, Nat.reduceBEq, QXFFaPG, Option.isSome_some, Option.getD_some, hw, ints] | refine rd0 rfl ?_))
            refine ⟨(s + 1, some L), ⟨by simp only; omega, hq, by simpa using hll⟩, by simp only; omega, ?_⟩
            try simp only [TrimX, QE, Nat.reduceLT, reduceIte, Nat.reduceEqDiff, Nat.reduceAdd, Nat.reduceLeDiff, Nat.reduceMul, Nat.reduceBEq, QXFFaPG, hw, S_refK (show 6 < 7 by omega), ints, Option.isSome_some, Option.getD_some, hSL]
            try simp [okBlk]
         ·have hst : stepP (fun c => doesB v ts c d hands) (fun c => (shrinksOf v ts c d).length) o L = o := by
           have : sum < hands := by simpa using hlt
           have e : decide (hands ≤ sum) = false := by simp; omega
           have hd0 : doesB v ts L d hands = false := by rw [hdo, e, Bool.false_and]
           simp [stepP, hd0]
          rw [hst] at hq
          (repeat (first | simp only [↓QA, QB, Nat.reduceLT, reduceIte, Nat.reduceEqDiff, Nat.reduceAdd, Nat.reduceLeDiff, Nat.reduceMul, Nat.reduceBEq, QXFFaPG, vann, hzb, hga, hlt, hw, ints] | refine rd0 rfl ?_))
          refine ⟨(s + 1, o), ⟨by simp only; omega, hq, hol⟩, by simp only; omega, ?_⟩
          try simp only [TrimX, QE, Nat.reduceLT, reduceIte, Nat.reduceEqDiff, Nat.reduceAdd, Nat.reduceLeDiff, Nat.reduceMul, Nat.reduceBEq, QXFFaPG, hw, S_refK (show 6 < 7 by omega), ints]
          try simp [okBlk]
     ·have hs1 : s = Q := by simp at h2; omega
      have hdr : (List.range Q).drop s = [] := by rw [List.drop_eq_nil_iff]; simp; omega
      rw [hdr] at hq
      simp only [List.map_nil, List.foldl_nil] at hq
      subst hq
      cases o with
      | none =>
       (repeat (first | simp only [↓QA, QB, Nat.reduceLT, reduceIte, Nat.reduceEqDiff, Nat.reduceAdd, Nat.reduceLeDiff, Nat.reduceMul, Nat.reduceBEq, QXFFaPG, Option.isSome_none, Option.getD_none, earlyR, encLLE, ints, List.map_nil] | refine rd0 rfl ?_))
       try rfl
      | some b =>
       (repeat (first | simp only [↓QA, QB, Nat.reduceLT, reduceIte, Nat.reduceEqDiff, Nat.reduceAdd, Nat.reduceLeDiff, Nat.reduceMul, Nat.reduceBEq, QXFFaPG, Option.isSome_some, Option.getD_some, earlyR, encLLE] | refine rd0 rfl ?_))
       try try simp only [QS, QC, Nat.reduceLT, reduceIte, Nat.reduceEqDiff, Nat.reduceAdd, Nat.reduceLeDiff, Nat.reduceMul, Nat.reduceBEq, QXFFaPG]
 ·have hm : earlyOf v da hands = ([], [], E) := by rw [earlyOf, hE, if_neg h0']
  have hg : (E == 0) = false := by simpa using h0'
  rw [hm]
  refine callD_same (enter_err hf (fun τ => hu1 _ _ rfl) hask h0') ?_
  (repeat (first | simp only [↓QA, QB, Nat.reduceLT, reduceIte, Nat.reduceEqDiff, Nat.reduceAdd, Nat.reduceLeDiff, Nat.reduceMul, Nat.reduceBEq, QXFFaPG, hg, encLLE] | refine rd0 rfl ?_))
  try rfl
end Go.Am.Room
set_option maxRecDepth 8000
namespace Go.Am.Room
def QXFLawC := And.intro @encSpan_eq (@List.length_append.{0})
theorem span_ok (a b : Int) : Pure T 37 [.int .i64 a, .int .i64 b] (encSpan ⟨a, b⟩) := by
 refine pure_fn (af := a37) rfl (by simp [a37]) dd ?_
 (repeat (first | simp only [↓QA, QB, Nat.reduceLT, reduceIte, Nat.reduceEqDiff, Nat.reduceAdd, Nat.reduceLeDiff, Nat.reduceMul, Nat.reduceBEq, QXFLawC, a37] | refine rd0 rfl ?_))
def u8s (l : List Int) : AV := .lit (l.map (.int .u8)) false none
theorem data_u8s (l : List Int) : Data (u8s l) := data_list (data_int .u8) l
instance (l : List Int) : Dat (u8s l) := ⟨data_u8s l⟩
end Go.Am.Room
set_option maxRecDepth 8000
namespace Go.Am.Room
def QXFFaQ1 := And.intro @encFarm_eq (And.intro @farmCells_eq (And.intro @encPlot_eq (And.intro @encLook_eq (And.intro @encSpan_eq (And.intro @S_mapPlot (And.intro @S_mapLook (And.intro @S_mapSpan (And.intro @T_sapp (@List.length_append.{0})))))))))
theorem seen_ok (p d n : Int) : Pure T 36 [.int .i64 p, .int .i64 d, .int .i64 n] (encLook ⟨p, d, n⟩) := by
 refine pure_fn (af := a36) rfl (by simp [a36]) dd ?_
 (repeat (first | simp only [↓QA, QB, Nat.reduceLT, reduceIte, Nat.reduceEqDiff, Nat.reduceAdd, Nat.reduceLeDiff, Nat.reduceMul, Nat.reduceBEq, QXFFaQ1, a36] | refine rd0 rfl ?_))
theorem exfarm_ok (l : List Look) : Pure T 35 [.lit (l.map encLook) false none] (encFarm (exF l)) := by
 refine pure_fn (af := a35) rfl (by simp [a35]) dd ?_
 (repeat (first | simp only [↓QA, QB, Nat.reduceLT, reduceIte, Nat.reduceEqDiff, Nat.reduceAdd, Nat.reduceLeDiff, Nat.reduceMul, Nat.reduceBEq, QXFFaQ1, a35] | refine rd0 rfl ?_))
 ((first | refine callK_d (span_ok 1 1) rfl dd ?_ | refine callD_d (span_ok 1 1) rfl dd ?_); (repeat (first | simp only [↓QA, QB, Nat.reduceLT, reduceIte, Nat.reduceEqDiff, Nat.reduceAdd, Nat.reduceLeDiff, Nat.reduceMul, Nat.reduceBEq, QXFFaQ1] | refine rd0 rfl ?_)))
 ((first | refine callK_d (span_ok 0 1) rfl dd ?_ | refine callD_d (span_ok 0 1) rfl dd ?_); (repeat (first | simp only [↓QA, QB, Nat.reduceLT, reduceIte, Nat.reduceEqDiff, Nat.reduceAdd, Nat.reduceLeDiff, Nat.reduceMul, Nat.reduceBEq, QXFFaQ1] | refine rd0 rfl ?_)))
 ((first | refine callK_d (span_ok 0 0) rfl dd ?_ | refine callD_d (span_ok 0 0) rfl dd ?_); (repeat (first | simp only [↓QA, QB, Nat.reduceLT, reduceIte, Nat.reduceEqDiff, Nat.reduceAdd, Nat.reduceLeDiff, Nat.reduceMul, Nat.reduceBEq, QXFFaQ1] | refine rd0 rfl ?_)))
 ((first | refine callK_d (span_ok 1 2) rfl dd ?_ | refine callD_d (span_ok 1 2) rfl dd ?_); (repeat (first | simp only [↓QA, QB, Nat.reduceLT, reduceIte, Nat.reduceEqDiff, Nat.reduceAdd, Nat.reduceLeDiff, Nat.reduceMul, Nat.reduceBEq, QXFFaQ1] | refine rd0 rfl ?_)))
 ((first | refine callK_d (span_ok 0 1) rfl dd ?_ | refine callD_d (span_ok 0 1) rfl dd ?_); (repeat (first | simp only [↓QA, QB, Nat.reduceLT, reduceIte, Nat.reduceEqDiff, Nat.reduceAdd, Nat.reduceLeDiff, Nat.reduceMul, Nat.reduceBEq, QXFFaQ1] | refine rd0 rfl ?_)))
 ((first | refine callK_d (span_ok 2 3) rfl dd ?_ | refine callD_d (span_ok 2 3) rfl dd ?_); (repeat (first | simp only [↓QA, QB, Nat.reduceLT, reduceIte, Nat.reduceEqDiff, Nat.reduceAdd, Nat.reduceLeDiff, Nat.reduceMul, Nat.reduceBEq, QXFFaQ1] | refine rd0 rfl ?_)))
 ((first | refine callK_d (span_ok 1 2) rfl dd ?_ | refine callD_d (span_ok 1 2) rfl dd ?_); (repeat (first | simp only [↓QA, QB, Nat.reduceLT, reduceIte, Nat.reduceEqDiff, Nat.reduceAdd, Nat.reduceLeDiff, Nat.reduceMul, Nat.reduceBEq, QXFFaQ1] | refine rd0 rfl ?_)))
 ((first | refine callK_d (span_ok 0 1) rfl dd ?_ | refine callD_d (span_ok 0 1) rfl dd ?_); (repeat (first | simp only [↓QA, QB, Nat.reduceLT, reduceIte, Nat.reduceEqDiff, Nat.reduceAdd, Nat.reduceLeDiff, Nat.reduceMul, Nat.reduceBEq, QXFFaQ1, exF, nmHill, nmBank, nmBend, List.map_cons, List.map_nil] | refine rd0 rfl ?_)))
theorem fits_ex (l : List Look) (h : l.length ≤ 100 := by decide) : Fits (exF l) := ⟨by simp [exF], by simp [exF], by simp [exF]; omega, fun k hk => by
 simp only [exF, List.mem_cons, List.not_mem_nil, or_false] at hk
 rcases hk with rfl | rfl | rfl <;> decide⟩
theorem valid_ok (v : Farm) (hf : Fits v) : Pure T 38 [encFarm v] (.bool (decide ((check v).2.2 = 0))) := by
 refine pure_fn (af := a38) rfl (by simp [a38]) dd ?_
 (repeat (first | simp only [↓QA, QB, Nat.reduceLT, reduceIte, Nat.reduceEqDiff, Nat.reduceAdd, Nat.reduceLeDiff, Nat.reduceMul, Nat.reduceBEq, QXFFaQ1, a38] | refine rd0 rfl ?_))
 ((first | refine callK_d (refcheck_ok v hf) rfl dd ?_ | refine callD_d (refcheck_ok v hf) rfl dd ?_); (repeat (first | simp only [↓QA, QB, Nat.reduceLT, reduceIte, Nat.reduceEqDiff, Nat.reduceAdd, Nat.reduceLeDiff, Nat.reduceMul, Nat.reduceBEq, QXFFaQ1, enc3] | refine rd0 rfl ?_)))
 try rfl
 try (simp; rfl)
end Go.Am.Room
set_option maxRecDepth 8000
namespace Go.Am.Room
def QXFFaQ2 := And.intro @encFarm_eq (And.intro @farmCells_eq (And.intro @encPlot_eq (And.intro @encLook_eq (And.intro @encSpan_eq (And.intro @S_mapPlot (And.intro @S_mapLook (And.intro @S_mapSpan (And.intro @T_sapp (@List.length_append.{0})))))))))
set_option maxHeartbeats 1000000 in
theorem awake_ok : Pure T 22 [] (.bool true) := by
 refine pure_fn (af := a22) rfl (by simp [a22]) datas_nil ?_
 (repeat (first | simp only [↓QA, QB, Nat.reduceLT, reduceIte, Nat.reduceEqDiff, Nat.reduceAdd, Nat.reduceLeDiff, Nat.reduceMul, Nat.reduceBEq, QXFFaQ2, a22] | refine rd0 rfl ?_))
 refine callK_v (exfarm_ok []) (by simp [clr, clrs]) (by simp [okV, okVs]) ?_
 (repeat (first | simp only [↓QA, QB, Nat.reduceLT, reduceIte, Nat.reduceEqDiff, Nat.reduceAdd, Nat.reduceLeDiff, Nat.reduceMul, Nat.reduceBEq, QXFFaQ2] | refine rd0 rfl ?_))
 ((first | refine callK_d (seen_ok 1 3 2) rfl dd ?_ | refine callD_d (seen_ok 1 3 2) rfl dd ?_); (repeat (first | simp only [↓QA, QB, Nat.reduceLT, reduceIte, Nat.reduceEqDiff, Nat.reduceAdd, Nat.reduceLeDiff, Nat.reduceMul, Nat.reduceBEq, QXFFaQ2] | refine rd0 rfl ?_)))
 refine callK_v (exfarm_ok [⟨1, 3, 2⟩]) (by simp [clr, clrs, encLook]) (by simp [okV, okVs]) ?_
 (repeat (first | simp only [↓QA, QB, Nat.reduceLT, reduceIte, Nat.reduceEqDiff, Nat.reduceAdd, Nat.reduceLeDiff, Nat.reduceMul, Nat.reduceBEq, QXFFaQ2] | refine rd0 rfl ?_))
 ((first | refine callK_d (seen_ok 1 3 2) rfl dd ?_ | refine callD_d (seen_ok 1 3 2) rfl dd ?_); (repeat (first | simp only [↓QA, QB, Nat.reduceLT, reduceIte, Nat.reduceEqDiff, Nat.reduceAdd, Nat.reduceLeDiff, Nat.reduceMul, Nat.reduceBEq, QXFFaQ2] | refine rd0 rfl ?_)))
 ((first | refine callK_d (seen_ok 0 1 3) rfl dd ?_ | refine callD_d (seen_ok 0 1 3) rfl dd ?_); (repeat (first | simp only [↓QA, QB, Nat.reduceLT, reduceIte, Nat.reduceEqDiff, Nat.reduceAdd, Nat.reduceLeDiff, Nat.reduceMul, Nat.reduceBEq, QXFFaQ2] | refine rd0 rfl ?_)))
 refine callK_v (exfarm_ok [⟨1, 3, 2⟩, ⟨0, 1, 3⟩]) (by simp [clr, clrs, encLook]) (by simp [okV, okVs]) ?_
 (repeat (first | simp only [↓QA, QB, Nat.reduceLT, reduceIte, Nat.reduceEqDiff, Nat.reduceAdd, Nat.reduceLeDiff, Nat.reduceMul, Nat.reduceBEq, QXFFaQ2] | refine rd0 rfl ?_))
 ((first | refine callK_d (pgrown_ok (exF []) 1 4 (fits_ex _)) rfl dd ?_ | refine callD_d (pgrown_ok (exF []) 1 4 (fits_ex _)) rfl dd ?_); (repeat (first | simp only [↓QA, QB, Nat.reduceLT, reduceIte, Nat.reduceEqDiff, Nat.reduceAdd, Nat.reduceLeDiff, Nat.reduceMul, Nat.reduceBEq, QXFFaQ2, x1, encSE] | refine rd0 rfl ?_)))
 ((first | refine callK_d (pgrown_ok exL 1 4 (fits_ex _)) rfl dd ?_ | refine callD_d (pgrown_ok exL 1 4 (fits_ex _)) rfl dd ?_); (repeat (first | simp only [↓QA, QB, Nat.reduceLT, reduceIte, Nat.reduceEqDiff, Nat.reduceAdd, Nat.reduceLeDiff, Nat.reduceMul, Nat.reduceBEq, QXFFaQ2, x2, encSE] | refine rd0 rfl ?_)))
 ((first | refine callK_d (pcut_ok (exF []) 0 4 (fits_ex _)) rfl dd ?_ | refine callD_d (pcut_ok (exF []) 0 4 (fits_ex _)) rfl dd ?_); (repeat (first | simp only [↓QA, QB, Nat.reduceLT, reduceIte, Nat.reduceEqDiff, Nat.reduceAdd, Nat.reduceLeDiff, Nat.reduceMul, Nat.reduceBEq, QXFFaQ2, x3, encIE] | refine rd0 rfl ?_)))
 ((first | refine callK_d (pcut_ok (exF []) 0 3 (fits_ex _)) rfl dd ?_ | refine callD_d (pcut_ok (exF []) 0 3 (fits_ex _)) rfl dd ?_); (repeat (first | simp only [↓QA, QB, Nat.reduceLT, reduceIte, Nat.reduceEqDiff, Nat.reduceAdd, Nat.reduceLeDiff, Nat.reduceMul, Nat.reduceBEq, QXFFaQ2, x4, encIE] | refine rd0 rfl ?_)))
 ((first | refine callK_d (pdays_ok (exF []) 0 (fits_ex _)) rfl dd ?_ | refine callD_d (pdays_ok (exF []) 0 (fits_ex _)) rfl dd ?_); (repeat (first | simp only [↓QA, QB, Nat.reduceLT, reduceIte, Nat.reduceEqDiff, Nat.reduceAdd, Nat.reduceLeDiff, Nat.reduceMul, Nat.reduceBEq, QXFFaQ2, x5, encLLE] | refine rd0 rfl ?_)))
 ((first | refine callK_d (plast_ok (exF []) 0 (fits_ex _)) rfl dd ?_ | refine callD_d (plast_ok (exF []) 0 (fits_ex _)) rfl dd ?_); (repeat (first | simp only [↓QA, QB, Nat.reduceLT, reduceIte, Nat.reduceEqDiff, Nat.reduceAdd, Nat.reduceLeDiff, Nat.reduceMul, Nat.reduceBEq, QXFFaQ2, x6, encIE] | refine rd0 rfl ?_)))
 ((first | refine callK_d (pearly_ok (exF []) 4 50 (fits_ex _)) rfl dd ?_ | refine callD_d (pearly_ok (exF []) 4 50 (fits_ex _)) rfl dd ?_); (repeat (first | simp only [↓QA, QB, Nat.reduceLT, reduceIte, Nat.reduceEqDiff, Nat.reduceAdd, Nat.reduceLeDiff, Nat.reduceMul, Nat.reduceBEq, QXFFaQ2, x7, encLLE] | refine rd0 rfl ?_)))
 ((first | refine callK_d (pearly_ok (exF []) 4 80 (fits_ex _)) rfl dd ?_ | refine callD_d (pearly_ok (exF []) 4 80 (fits_ex _)) rfl dd ?_); (repeat (first | simp only [↓QA, QB, Nat.reduceLT, reduceIte, Nat.reduceEqDiff, Nat.reduceAdd, Nat.reduceLeDiff, Nat.reduceMul, Nat.reduceBEq, QXFFaQ2, x8, encLLE] | refine rd0 rfl ?_)))
 ((first | refine callK_d (prained_ok exL 1 (fits_ex _)) rfl dd ?_ | refine callD_d (prained_ok exL 1 (fits_ex _)) rfl dd ?_); (repeat (first | simp only [↓QA, QB, Nat.reduceLT, reduceIte, Nat.reduceEqDiff, Nat.reduceAdd, Nat.reduceLeDiff, Nat.reduceMul, Nat.reduceBEq, QXFFaQ2, x9, encSE] | refine rd0 rfl ?_)))
 ((first | refine callK_d (pflowered_ok exL 1 (fits_ex _)) rfl dd ?_ | refine callD_d (pflowered_ok exL 1 (fits_ex _)) rfl dd ?_); (repeat (first | simp only [↓QA, QB, Nat.reduceLT, reduceIte, Nat.reduceEqDiff, Nat.reduceAdd, Nat.reduceLeDiff, Nat.reduceMul, Nat.reduceBEq, QXFFaQ2, x10, encLE] | refine rd0 rfl ?_)))
 ((first | refine callK_d (pwrong_ok exW (fits_ex _)) rfl dd ?_ | refine callD_d (pwrong_ok exW (fits_ex _)) rfl dd ?_); (repeat (first | simp only [↓QA, QB, Nat.reduceLT, reduceIte, Nat.reduceEqDiff, Nat.reduceAdd, Nat.reduceLeDiff, Nat.reduceMul, Nat.reduceBEq, QXFFaQ2, x11, encLE] | refine rd0 rfl ?_)))
 ((first | refine callK_d (plast_ok exW 0 (fits_ex _)) rfl dd ?_ | refine callD_d (plast_ok exW 0 (fits_ex _)) rfl dd ?_); (repeat (first | simp only [↓QA, QB, Nat.reduceLT, reduceIte, Nat.reduceEqDiff, Nat.reduceAdd, Nat.reduceLeDiff, Nat.reduceMul, Nat.reduceBEq, QXFFaQ2, x12, encIE] | refine rd0 rfl ?_)))
 ((first | refine callK_d (span_ok 3 6) rfl dd ?_ | refine callD_d (span_ok 3 6) rfl dd ?_); (repeat (first | simp only [↓QA, QB, Nat.reduceLT, reduceIte, Nat.reduceEqDiff, Nat.reduceAdd, Nat.reduceLeDiff, Nat.reduceMul, Nat.reduceBEq, QXFFaQ2] | refine rd0 rfl ?_)))
 ((first | refine callK_d (span_ok 4 5) rfl dd ?_ | refine callD_d (span_ok 4 5) rfl dd ?_); (repeat (first | simp only [↓QA, QB, Nat.reduceLT, reduceIte, Nat.reduceEqDiff, Nat.reduceAdd, Nat.reduceLeDiff, Nat.reduceMul, Nat.reduceBEq, QXFFaQ2] | refine rd0 rfl ?_)))
 ((first | refine callK_v (ints_ok [4] [4] (by simp) (by simp)) (by simp [clr, clrs, ints]) (by simp [okV, okVs]) ?_ | refine callD_v (ints_ok [4] [4] (by simp) (by simp)) (by simp [clr, clrs, ints]) (by simp [okV, okVs]) ?_); (repeat (first | simp only [↓QA, QB, Nat.reduceLT, reduceIte, Nat.reduceEqDiff, Nat.reduceAdd, Nat.reduceLeDiff, Nat.reduceMul, Nat.reduceBEq, QXFFaQ2, eq_self] | refine rd0 rfl ?_)))
 ((first | refine callK_v (ints_ok [4, 5] [4, 5] (by simp) (by simp)) (by simp [clr, clrs, ints]) (by simp [okV, okVs]) ?_ | refine callD_v (ints_ok [4, 5] [4, 5] (by simp) (by simp)) (by simp [clr, clrs, ints]) (by simp [okV, okVs]) ?_); (repeat (first | simp only [↓QA, QB, Nat.reduceLT, reduceIte, Nat.reduceEqDiff, Nat.reduceAdd, Nat.reduceLeDiff, Nat.reduceMul, Nat.reduceBEq, QXFFaQ2, eq_self] | refine rd0 rfl ?_)))
 ((first | refine callK_v (ints_ok [0, 1] [0, 1] (by simp) (by simp)) (by simp [clr, clrs, ints]) (by simp [okV, okVs]) ?_ | refine callD_v (ints_ok [0, 1] [0, 1] (by simp) (by simp)) (by simp [clr, clrs, ints]) (by simp [okV, okVs]) ?_); (repeat (first | simp only [↓QA, QB, Nat.reduceLT, reduceIte, Nat.reduceEqDiff, Nat.reduceAdd, Nat.reduceLeDiff, Nat.reduceMul, Nat.reduceBEq, QXFFaQ2, eq_self] | refine rd0 rfl ?_)))
 ((first | refine callK_v (ints_ok [1] [1] (by simp) (by simp)) (by simp [clr, clrs, ints]) (by simp [okV, okVs]) ?_ | refine callD_v (ints_ok [1] [1] (by simp) (by simp)) (by simp [clr, clrs, ints]) (by simp [okV, okVs]) ?_); (repeat (first | simp only [↓QA, QB, Nat.reduceLT, reduceIte, Nat.reduceEqDiff, Nat.reduceAdd, Nat.reduceLeDiff, Nat.reduceMul, Nat.reduceBEq, QXFFaQ2, eq_self] | refine rd0 rfl ?_)))
 ((first | refine callK_d (span_ok 0 0) rfl dd ?_ | refine callD_d (span_ok 0 0) rfl dd ?_); (repeat (first | simp only [↓QA, QB, Nat.reduceLT, reduceIte, Nat.reduceEqDiff, Nat.reduceAdd, Nat.reduceLeDiff, Nat.reduceMul, Nat.reduceBEq, QXFFaQ2] | refine rd0 rfl ?_)))
 ((first | refine callK_v (ints_ok [1] [1] (by simp) (by simp)) (by simp [clr, clrs, ints]) (by simp [okV, okVs]) ?_ | refine callD_v (ints_ok [1] [1] (by simp) (by simp)) (by simp [clr, clrs, ints]) (by simp [okV, okVs]) ?_); (repeat (first | simp only [↓QA, QB, Nat.reduceLT, reduceIte, Nat.reduceEqDiff, Nat.reduceAdd, Nat.reduceLeDiff, Nat.reduceMul, Nat.reduceBEq, QXFFaQ2, eq_self] | refine rd0 rfl ?_)))
 ((first | refine callK_v (ints_ok [1] [1] (by simp) (by simp)) (by simp [clr, clrs, ints]) (by simp [okV, okVs]) ?_ | refine callD_v (ints_ok [1] [1] (by simp) (by simp)) (by simp [clr, clrs, ints]) (by simp [okV, okVs]) ?_); (repeat (first | simp only [↓QA, QB, Nat.reduceLT, reduceIte, Nat.reduceEqDiff, Nat.reduceAdd, Nat.reduceLeDiff, Nat.reduceMul, Nat.reduceBEq, QXFFaQ2, eq_self] | refine rd0 rfl ?_)))
end Go.Am.Room
