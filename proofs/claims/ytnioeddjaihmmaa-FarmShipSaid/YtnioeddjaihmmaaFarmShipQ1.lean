/- A part of the proof of FarmShip: an abstract machine, or what functions come to on it. -/
import Derived.Test.YtnioeddjaihmmaaOutQ6
import Derived.ChangeArms
import Derived.SizedLaws
import Derived.ChangeBears
import Derived.ChangeShapes
import Derived.WideShapes
import Derived.ProofKit
import Derived.OpenShut
import Derived.Lib.Strings
set_option linter.unusedVariables false
set_option linter.unusedSimpArgs false
set_option linter.defProp false
namespace Go.Am
open Go.ChangeShapes Go.WideShapes Go.ChangeAt Go.RowKit
variable {P : Program} {hh : String → Bool} {H : Type} {enc : TypeId × Value → H} {w : World} {sp : Nat → Bool} {held : Bool}
theorem mkV_one {t : TypeId} {a : AV} (hu : ∀ fs, P.underlying t ≠ some (.struct fs)) (hu2 : ∀ k e, P.underlying t ≠ some (.array k e)) : mkV P t [a] = a := by
 unfold mkV
 split
 ·rename_i fs h; exact absurd h (hu fs)
 ·rename_i k e h; exact absurd h (hu2 k e)
 ·rfl
end Go.Am
namespace Go.Am
variable {T : FuncId → Option AFunc}
theorem app_full {sz b : Nat} {σ : St} {xs ys : List AV} {tk t : Option Nat} {f : Bool} (h : AppOk sz b xs ys) (h0 : ys.length ≠ 0) :
  appendAV sz b σ (.lit xs true tk) (.lit ys f t) = some (.lit (xs ++ ys) false (some σ.length), σ ++ [.tok sz (xs.length + ys.length) true]) := by
 obtain ⟨h1, h2, h3, h4⟩ := h
 simp [appendAV, view, sized, h0, h1, h2, h3, h4]
theorem app_nil {sz b : Nat} {σ : St} {xs : List AV} {tk t : Option Nat} {f f' : Bool} : appendAV sz b σ (.lit xs f' tk) (.lit [] f t) = some (.lit xs f' tk, σ) := by
 simp [appendAV, view]
end Go.Am
namespace Go.Am
variable {T : FuncId → Option AFunc}
def intss (l : List (List Int)) : AV := .lit (l.map ints) false none
theorem data_intss (l : List (List Int)) : Data (intss l) := data_list data_ints l
end Go.Am
namespace Go.Am
instance (l : List (List Int)) : Dat (intss l) := ⟨data_intss l⟩
end Go.Am
namespace Go.Am.Room
def rising (below : Int) : Int → List Int → Bool
 | _, [] => true
 | last, x :: xs => decide (last < x) && decide (x < below) && rising below x xs
theorem rising_ok (l : List Int) (below : Int) (hl : l.length < 9223372036854775808) : Pure T 46 [ints l, .int .i64 below] (.bool (rising below (-1) l)) := by
 refine pure_fn (af := a46) rfl (by simp [a46]) dd ?_
 (repeat (first | simp only [↓QA, QB, Nat.reduceLT, reduceIte, Nat.reduceEqDiff, Nat.reduceAdd, Nat.reduceLeDiff, Nat.reduceMul, Nat.reduceBEq, a46] | refine rd0 rfl ?_))
 refine loopE (S := Nat × Int) (0, -1) (fun s => s.1 ≤ l.length ∧ rising below s.2 (l.drop s.1) = rising below (-1) l) (fun s => l.length - s.1) (fun s => [(0, ints l), (1, .int .i64 below), (4, .bool false), (5, .int .i64 s.2), (6, .int .i64 s.1)]) (fun _ => []) ⟨Nat.zero_le _, rfl⟩ rfl ?_ fun s hs => ?_
 ·try simp only [TrimX, QE, Nat.reduceLT, reduceIte, Nat.reduceEqDiff, Nat.reduceAdd, Nat.reduceLeDiff, Nat.reduceMul, Nat.reduceBEq]
  try simp
 ·obtain ⟨k, last⟩ := s
  obtain ⟨hk, hl2⟩ := hs
  simp only at hk hl2
  (repeat (first | simp only [↓QA, QB, Nat.reduceLT, reduceIte, Nat.reduceEqDiff, Nat.reduceAdd, Nat.reduceLeDiff, Nat.reduceMul, Nat.reduceBEq, L46_0] | refine rd0 rfl ?_))
  refine iteP_intro (fun h => ?_) fun h => ?_
  ·have hk1 : k < l.length := by simpa using h
   rw [List.drop_eq_getElem_cons hk1] at hl2
   simp only [rising] at hl2
   (repeat (first | simp only [↓QA, QB, Nat.reduceLT, reduceIte, Nat.reduceEqDiff, Nat.reduceAdd, Nat.reduceLeDiff, Nat.reduceMul, Nat.reduceBEq, hk1] | refine rd0 rfl ?_))
   refine iteP_intro (fun h2 => ?_) fun h2 => ?_
   ·have h2' : ¬ last < l[k] := by simp at h2; omega
    (repeat (first | simp only [↓QA, QB, Nat.reduceLT, reduceIte, Nat.reduceEqDiff, Nat.reduceAdd, Nat.reduceLeDiff, Nat.reduceMul, Nat.reduceBEq, h2] | refine rd0 rfl ?_))
    rw [← hl2]; simp [h2']
   ·have h2' : last < l[k] := by simp at h2; omega
    (repeat (first | simp only [↓QA, QB, Nat.reduceLT, reduceIte, Nat.reduceEqDiff, Nat.reduceAdd, Nat.reduceLeDiff, Nat.reduceMul, Nat.reduceBEq, h2, hk1] | refine rd0 rfl ?_))
    refine iteP_intro (fun h3 => ?_) fun h3 => ?_
    ·have h3' : ¬ l[k] < below := by simp at h3; omega
     (repeat (first | simp only [↓QA, QB, Nat.reduceLT, reduceIte, Nat.reduceEqDiff, Nat.reduceAdd, Nat.reduceLeDiff, Nat.reduceMul, Nat.reduceBEq, h3] | refine rd0 rfl ?_))
     rw [← hl2]; simp [h3']
    ·have h3' : l[k] < below := by simp at h3; omega
     (repeat (first | simp only [↓QA, QB, Nat.reduceLT, reduceIte, Nat.reduceEqDiff, Nat.reduceAdd, Nat.reduceLeDiff, Nat.reduceMul, Nat.reduceBEq, h3, hk1] | refine rd0 rfl ?_))
     refine ⟨(k + 1, l[k]), ⟨by simp; omega, by rw [← hl2]; simp [h2', h3']⟩, by simp; omega, ?_⟩
     try simp only [TrimX, QE, Nat.reduceLT, reduceIte, Nat.reduceEqDiff, Nat.reduceAdd, Nat.reduceLeDiff, Nat.reduceMul, Nat.reduceBEq, wrapN hk1 hl]
  ·have hk1 : k = l.length := by simp at h; omega
   (repeat (first | simp only [↓QA, QB, Nat.reduceLT, reduceIte, Nat.reduceEqDiff, Nat.reduceAdd, Nat.reduceLeDiff, Nat.reduceMul, Nat.reduceBEq] | refine rd0 rfl ?_))
   rw [← hl2, hk1, List.drop_length]; simp [rising]
theorem flat_le {α β : Type} (f : α → List β) (b : Nat) : ∀ l : List α, (∀ x ∈ l, (f x).length ≤ b) → (l.flatMap f).length ≤ l.length * b
 | [], _ => by simp
 | x :: l, h => by
  have h1 := h x (by simp)
  have h2 := flat_le f b l fun y hy => h y (List.mem_cons_of_mem _ hy)
  simp only [List.flatMap_cons, List.length_append, List.length_cons, Nat.add_mul]
  omega
theorem allCells_ints (l : List (List Int)) : allCells 1 (l.map ints) = true := L_allM 1 ints l fun x => C_lit _ _ _
theorem allCells_int (l : List Int) : allCells 1 (l.map (.int .i64)) = true := L_allM 1 _ l fun x => C_int _ _
open Go
variable {P : Program}
theorem mkV_ne {t : TypeId} {a : AV} {d : TypeDesc} (hu : P.underlying t = some d) (hd : ∀ fs, d ≠ .struct fs := by intro fs h; cases h) (hd2 : ∀ k e, d ≠ .array k e := by intro k e h; cases h) : mkV P t [a] = a := mkV_one (by rw [hu]; intro fs e; cases e; exact hd _ rfl) (by rw [hu]; intro k e h; cases h; exact hd2 _ _ rfl)
theorem tc_u8 {n : Nat} {t : TypeId} {cs : List AV} (hi : P.underlying t = some (.int .u8)) (h : Typ P (n + 1) t cs) : ∃ x : Int, mkV P t cs = .int .u8 x ∧ (0 ≤ x ∧ x < 256) := by
 obtain ⟨x, rfl, hw⟩ := typ_int hi h
 exact ⟨x, mkV_ne hi, wf_u8 hw⟩
theorem tc_u8s {n : Nat} {t i : TypeId} {cs : List AV} (hi : P.underlying i = some (.int .u8)) (hs : P.underlying t = some (.slice i)) (h : Typ P (n + 2) t cs) : ∃ l : List Int, mkV P t cs = .lit (l.map (.int .u8)) false none ∧ (∀ x ∈ l, 0 ≤ x ∧ x < 256) ∧ l.length < 9223372036854775808 := by
 obtain ⟨l, rfl, ⟨h1, _⟩, h2⟩ := typ_slice (f := fun x : Int => AV.int .u8 x) hs h fun y hy => tc_u8 hi hy
 exact ⟨l, mkV_ne hs, h2, h1⟩
end Go.Am.Room
namespace Go.Am.Room
theorem truthsAV_eq (l : List Truth) : truthsAV l = .lit (l.map encTruth) false none := by simp only [truthsAV]
open Go
variable {P : Program}
theorem wf_u16 {x : Int} (h : (Lit.int .u16 x).wf = true) : 0 ≤ x ∧ x < 65536 := by
 simp [Lit.wf, IntKind.min, IntKind.max, IntKind.signed, IntKind.bits] at h
 omega
theorem ty_u8s {n : Nat} {cs : List AV} (T : Tys P) (h : Typ P (n + 2) 53 cs) : ∃ l : List Int, mkV P 53 cs = .lit (l.map (.int .u8)) false none ∧ (∀ x ∈ l, 0 ≤ x ∧ x < 256) ∧ l.length < 9223372036854775808 := tc_u8s T.u8 T.u8s h
theorem ty_want {n : Nat} {cs : List AV} (T : Tys P) (h : Typ P (n + 2) 65 cs) : ∃ x y : Int, mkV P 65 cs = .agg [.int .u8 x, .int .u16 y] ∧ (0 ≤ x ∧ x < 256) ∧ (0 ≤ y ∧ y < 65536) := by
 obtain ⟨e, a, b, rfl, h1, c, d, rfl, h2, rfl⟩ := typ_st T.want h
 obtain ⟨x, rfl, hx⟩ := typ_int T.u8 h1
 obtain ⟨y, rfl, hy⟩ := typ_int T.u16 h2
 exact ⟨x, y, e, wf_u8 hx, wf_u16 hy⟩
theorem ty_farm {n : Nat} {cs : List AV} (T : Tys P) (h : Typ P (n + 5) 28 cs) : ∃ s : Farm, mkV P 28 cs = encFarm s ∧ Fits s := by
 obtain ⟨r, h1, h2, _⟩ := ty_farmB T h
 exact ⟨r, h1, h2⟩
end Go.Am.Room
namespace Go.Am.Room
theorem weatherTo_len {rs : List Span} (h : ∀ s ∈ rs, 0 ≤ s.lo ∧ s.lo ≤ s.hi ∧ s.hi ≤ 2) : ∀ k, (weatherTo rs k).length ≤ 3 ^ k
 | 0 => by simp [weatherTo]
 | k + 1 => by
  have ih := weatherTo_len h k
  by_cases hk : k < rs.length
  ·rw [weatherTo_succ hk, Nat.pow_succ]
   have := h _ (List.getElem_mem hk)
   refine Nat.le_trans (flat_le (ext rs[k]) 3 _ fun c _ => ?_) (Nat.mul_le_mul_right _ ih)
   simp only [ext, List.length_map, waysIn_len]
   omega
  ·simp only [weatherTo, List.getElem?_eq_none (Nat.le_of_not_lt hk)]
   rw [Nat.pow_succ]; omega
theorem weather_len {v : Farm} (h : Vd v) : (weather v).length ≤ 2187 := by
 refine Nat.le_trans (weatherTo_len h.ra _) ?_
 have := h.nra
 exact Nat.le_trans (Nat.pow_le_pow_right (by omega) this.2) (by decide)
theorem truths_len {v : Farm} (hv : Vd v) (but : List Int) : (truths v but).length ≤ 2187 := Nat.le_trans (List.length_filterMap_le _ _) (weather_len hv)
def app0 (sz : Nat) (σ : St) (xs : List AV) : AV × St := if xs.length = 0 then (.lit [] true none, σ) else (.lit xs false (some σ.length), σ ++ [.tok sz xs.length true])
theorem app0_eq {sz b : Nat} {σ : St} {xs : List AV} {f : Bool} {tk : Option Nat} (h : AppOk sz b [] xs) : appendAV sz b σ (.lit [] true none) (.lit xs f tk) = some ((app0 sz σ xs).1, (app0 sz σ xs).2) := by
 by_cases h0 : xs.length = 0
 ·have : xs = [] := List.length_eq_zero_iff.1 h0
  subst this
  rw [app_nil]; simp [app0]
 ·rw [app_full h h0]; simp [app0, h0]
theorem app0_more {sz b : Nat} {σ : St} {xs ys : List AV} {f : Bool} {tk : Option Nat} (h : AppOk sz b xs ys) (hy : ys.length ≠ 0) : appendAV sz b (app0 sz σ xs).2 (app0 sz σ xs).1 (.lit ys f tk) = some (.lit (xs ++ ys) false (some σ.length), σ ++ [.tok sz (xs.length + ys.length) true]) := by
 by_cases h0 : xs.length = 0
 ·have : xs = [] := List.length_eq_zero_iff.1 h0
  subst this
  simp only [app0, List.length_nil, if_true]
  rw [app_full h hy]
  simp
 ·simp only [app0, h0, if_false]
  rw [app_tok (ex := true) h hy (by simp)]
  simp
theorem append_at {σ : St} {sz b : Nat} {xs ys : List AV} {ex f : Bool} {t : Nat} {tk : Option Nat} (h : AppOk sz b xs ys) (h0 : ys.length ≠ 0) (n : Nat) (hn : n = xs.length) (ht : σ[t]? = some (.tok sz n ex)) :
  appendAV sz b σ (.lit xs false (some t)) (.lit ys f tk) = some (.lit (xs ++ ys) false (some t), σ.set t (.tok sz (n + ys.length) true)) := by
 subst hn
 exact app_tok h h0 ht
end Go.Am.Room
set_option maxRecDepth 4000
namespace Go.Am.Room
theorem weather_in {rs : List Span} : ∀ k, k ≤ rs.length → ∀ c ∈ weatherTo rs k, c.length = k := fun k hk c hc => ((weatherTo_mem hk).1 hc).1
theorem rweather_ok (v : Farm) (hv : Vd v) : Pure T 87 [encFarm v] (intss (weather v)) := by
 refine pure_fn (af := a87) rfl (by simp [a87]) dd ?_
 have hno := hv.nra
 rw [show weather v = weatherTo v.rain v.rain.length from rfl]
 (repeat (first | simp only [↓QA, QB, Nat.reduceLT, reduceIte, Nat.reduceEqDiff, Nat.reduceAdd, Nat.reduceLeDiff, Nat.reduceMul, Nat.reduceBEq, QXFFaC2, a87] | refine rd0 rfl ?_))
 refine loopE (S := Nat) 0 (fun n => n ≤ v.rain.length) (fun n => v.rain.length - n) (fun n => [(1, .ptr 0 0), (3, intss (weatherTo v.rain n)), (4, .int .i64 n)]) (fun _ => [.cells (farmCells v)]) (Nat.zero_le _) (by simp [farmCells, ints]) ?_ fun n hn => ?_
 ·try simp only [TrimX, QE, Nat.reduceLT, reduceIte, Nat.reduceEqDiff, Nat.reduceAdd, Nat.reduceLeDiff, Nat.reduceMul, Nat.reduceBEq, QXFFaC2]
  simp [intss, ints, weatherTo, clr, clrs]
 ·(repeat (first | simp only [↓QA, QB, Nat.reduceLT, reduceIte, Nat.reduceEqDiff, Nat.reduceAdd, Nat.reduceLeDiff, Nat.reduceMul, Nat.reduceBEq, QXFFaC2, L87_0, intss] | refine rd0 rfl ?_))
  refine iteP_intro (fun h => ?_) fun h => ?_
  ·have hn1 : n < v.rain.length := by simpa using h
   have hwn : IntKind.i64.wrap ((n : Int) + 1) = ((n + 1 : Nat) : Int) := wrapN hn1 (by omega)
   have hwl : ∀ j, j ≤ 7 → (weatherTo v.rain j).length ≤ 2187 := fun j hj => Nat.le_trans (weatherTo_len hv.ra j) (Nat.le_trans (Nat.pow_le_pow_right (by omega) hj) (by decide))
   have hsl := hwl n (by omega)
   have hsl2 := hwl (n + 1) (by omega)
   have hin := weather_in (rs := v.rain) n hn
   have hsu := weatherTo_succ hn1
   have hra := hv.ra _ (List.getElem_mem hn1)
   obtain ⟨s, hs⟩ : ∃ s, v.rain[n] = s := ⟨_, rfl⟩
   rw [hs] at hsu hra
   rw [hsu] at hsl2
   obtain ⟨W, hW⟩ : ∃ W, weatherTo v.rain n = W := ⟨_, rfl⟩
   rw [hW] at hsl hsl2 hsu hin
   rw [hW]
   obtain ⟨X, hX⟩ : ∃ X, W.flatMap (ext s) = X := ⟨_, rfl⟩
   rw [hX] at hsl2 hsu
   (repeat (first | simp only [↓QA, QB, Nat.reduceLT, reduceIte, Nat.reduceEqDiff, Nat.reduceAdd, Nat.reduceLeDiff, Nat.reduceMul, Nat.reduceBEq, QXFFaC2] | refine rd0 rfl ?_))
   refine ghostK 5 1 [] rfl ?_
   refine loopE (S := Nat × List (List Int) × Bool) (0, [], false) (fun a => a.1 ≤ W.length ∧ a.2.1 ++ (W.drop a.1).flatMap (ext s) = X) (fun a => W.length - a.1)
    (fun a => [(1, .ptr 0 0), (3, intss W), (4, .int .i64 n), (5, .lit (a.2.1.map ints) false (some 1)), (6, .int .i64 a.1)])
    (fun a => [.cells (farmCells v), .tok 1 a.2.1.length a.2.2]) ⟨Nat.zero_le _, by simpa using hX⟩ (by simp [farmCells, ints]) ?_ fun a ha => ?_
   ·try simp only [TrimX, QE, Nat.reduceLT, reduceIte, Nat.reduceEqDiff, Nat.reduceAdd, Nat.reduceLeDiff, Nat.reduceMul, Nat.reduceBEq, QXFFaC2, intss, ints]
    try simp
   ·obtain ⟨k, acc, ex⟩ := a
    obtain ⟨hk, hacc⟩ := ha
    simp only at hk hacc
    (repeat (first | simp only [↓QA, QB, Nat.reduceLT, reduceIte, Nat.reduceEqDiff, Nat.reduceAdd, Nat.reduceLeDiff, Nat.reduceMul, Nat.reduceBEq, QXFFaC2, L87_2, intss] | refine rd0 rfl ?_))
    refine iteP_intro (fun h2 => ?_) fun h2 => ?_
    ·have hk1 : k < W.length := by simpa using h2
     have hwk := wrapN hk1 (by omega)
     obtain ⟨c, hc⟩ : ∃ c, W[k] = c := ⟨_, rfl⟩
     have hcl := hin _ (List.getElem_mem hk1)
     rw [hc] at hcl
     rw [List.drop_eq_getElem_cons hk1, hc, List.flatMap_cons, ext, waysIn] at hacc
     (repeat (first | simp only [↓QA, QB, Nat.reduceLT, reduceIte, Nat.reduceEqDiff, Nat.reduceAdd, Nat.reduceLeDiff, Nat.reduceMul, Nat.reduceBEq, QXFFaC2, hn1, hs] | refine rd0 rfl ?_))
     have hlo := hra.1
     have hhi := hra.2.2
     refine loopE (S := Int × List (List Int) × Bool × St) (s.lo, acc, ex, []) (fun a => s.lo ≤ a.1 ∧ a.1 ≤ s.hi + 1 ∧ a.2.1 ++ ((numbers a.1 (s.hi + 1 - a.1).toNat).map (fun n => c ++ [n]) ++ (W.drop (k + 1)).flatMap (ext s)) = X) (fun a => (s.hi + 1 - a.1).toNat)
      (fun a => [(1, .ptr 0 0), (3, intss W), (4, .int .i64 n), (5, .lit (a.2.1.map ints) false (some 1)), (6, .int .i64 k), (7, .int .i64 a.1)])
      (fun a => .cells (farmCells v) :: .tok 1 a.2.1.length a.2.2.1 :: a.2.2.2) ⟨Int.le_refl _, by omega, by simpa using hacc⟩ (by simp [farmCells]) ?_ fun a ha => ?_
     ·try simp only [TrimX, QE, Nat.reduceLT, reduceIte, Nat.reduceEqDiff, Nat.reduceAdd, Nat.reduceLeDiff, Nat.reduceMul, Nat.reduceBEq, QXFFaC2, intss, ints]
      try simp
     ·obtain ⟨m, acc, ex, τ⟩ := a
      obtain ⟨hm0, hm1, hacc⟩ := ha
      simp only at hm0 hm1 hacc
      (repeat (first | simp only [↓QA, QB, Nat.reduceLT, reduceIte, Nat.reduceEqDiff, Nat.reduceAdd, Nat.reduceLeDiff, Nat.reduceMul, Nat.reduceBEq, QXFFaC2, L87_4, intss, hn1, hs] | refine rd0 rfl ?_))
      refine iteP_intro (fun h3 => ?_) fun h3 => ?_
      ·have hm2 : m ≤ s.hi := by simpa using h3
       have hwm : IntKind.i64.wrap (m + 1) = m + 1 := wrap64 ⟨by omega, by omega⟩
       rw [ways_step hm2] at hacc
       have hal : acc.length ≤ 2187 := by
        have := congrArg List.length hacc
        simp only [List.length_append] at this
        omega
       have a0 : ∀ (σ : St), appendAV 1 8 σ (.lit [] true none) (.lit (c.map (.int .i64)) false none) = some ((app0 1 σ (c.map (.int .i64))).1, (app0 1 σ (c.map (.int .i64))).2) := fun σ => app0_eq ⟨rfl, allCells_int c, by simp [room]; omega, by simp [room]; omega⟩
       have a1 : ∀ (σ : St), appendAV 1 8 (app0 1 σ (c.map (.int .i64))).2 (app0 1 σ (c.map (.int .i64))).1 (.lit [.int .i64 m] true none) = some (.lit (c.map (.int .i64) ++ [.int .i64 m]) false (some σ.length), σ ++ [.tok 1 (c.length + 1) true]) := fun σ => by
        rw [app0_more ⟨allCells_int c, by simp [allCells, AV.cells, AV.cell], by simp [room]; omega, by simp [room]; omega⟩ (by simp)]
        simp
       have a2 := fun (b0 : ABlk) (τ : St) (t : Nat) => append_at (σ := b0 :: .tok 1 acc.length ex :: τ) (t := 1) (ex := ex) (sz := 1) (b := 24) (xs := acc.map ints) (ys := [.lit (c.map (.int .i64) ++ [.int .i64 m]) false (some t)]) (f := true) (tk := none) ⟨allCells_ints acc, by simp [allCells, AV.cells, AV.cell], by simp [room]; omega, by simp [room]; omega⟩ (by simp) acc.length (by simp) rfl
       (repeat (first | simp only [↓QA, QB, Nat.reduceLT, reduceIte, Nat.reduceEqDiff, Nat.reduceAdd, Nat.reduceLeDiff, Nat.reduceMul, Nat.reduceBEq, QXFFaC2, hk1, hc, ints, a0, a1, a2, hwm] | refine rd0 rfl ?_))
       refine ⟨(m + 1, acc ++ [c ++ [m]], true, τ), ⟨by simp only; omega, by simp only; omega, by rw [← hacc]; simp⟩, by simp only; omega, ?_⟩
       try simp only [TrimX, QE, Nat.reduceLT, reduceIte, Nat.reduceEqDiff, Nat.reduceAdd, Nat.reduceLeDiff, Nat.reduceMul, Nat.reduceBEq, QXFFaC2, hwm, intss, ints, List.map_append, List.map_cons, List.map_nil]
       try simp [okBlk]
      ·have hm2 : ¬ m ≤ s.hi := by simpa using h3
       rw [ways_end hm2] at hacc
       simp only [List.map_nil, List.nil_append] at hacc
       (repeat (first | simp only [↓QA, QB, Nat.reduceLT, reduceIte, Nat.reduceEqDiff, Nat.reduceAdd, Nat.reduceLeDiff, Nat.reduceMul, Nat.reduceBEq, QXFFaC2, hwk] | refine rd0 rfl ?_))
       refine ⟨(k + 1, acc, ex), ⟨by simp only; omega, hacc⟩, by simp only; omega, ?_⟩
       try simp only [TrimX, QE, Nat.reduceLT, reduceIte, Nat.reduceEqDiff, Nat.reduceAdd, Nat.reduceLeDiff, Nat.reduceMul, Nat.reduceBEq, QXFFaC2, hwk, intss, ints]
       try simp [okBlk]
    ·have hk1 : k = W.length := by simp at h2; omega
     rw [hk1, List.drop_length] at hacc
     simp only [List.flatMap_nil, List.append_nil] at hacc
     subst hacc
     (repeat (first | simp only [↓QA, QB, Nat.reduceLT, reduceIte, Nat.reduceEqDiff, Nat.reduceAdd, Nat.reduceLeDiff, Nat.reduceMul, Nat.reduceBEq, QXFFaC2, hwn] | refine rd0 rfl ?_))
     refine ⟨n + 1, by omega, by omega, ?_⟩
     try simp only [TrimX, QE, Nat.reduceLT, reduceIte, Nat.reduceEqDiff, Nat.reduceAdd, Nat.reduceLeDiff, Nat.reduceMul, Nat.reduceBEq, QXFFaC2, hwn, hsu, intss, ints]
     try simp [okBlk]
  ·have hn1 : n = v.rain.length := by simp at h; omega
   subst hn1
   (repeat (first | simp only [↓QA, QB, Nat.reduceLT, reduceIte, Nat.reduceEqDiff, Nat.reduceAdd, Nat.reduceLeDiff, Nat.reduceMul, Nat.reduceBEq, QXFFaC2, intss] | refine rd0 rfl ?_))
   try try simp only [QS, QC, Nat.reduceLT, reduceIte, Nat.reduceEqDiff, Nat.reduceAdd, Nat.reduceLeDiff, Nat.reduceMul, Nat.reduceBEq, QXFFaC2]
end Go.Am.Room
set_option maxRecDepth 4000
namespace Go.Am.Room
def QXFFaC3 := And.intro @encFarm_eq (And.intro @farmCells_eq (And.intro @encPlot_eq (And.intro @encLook_eq (And.intro @encSpan_eq (And.intro @S_mapPlot (And.intro @S_mapLook (@S_mapSpan)))))))
theorem rflowers_ok (v : Farm) (hv : Vd v) (p : Nat) (hp : p < v.plots.length) (rain but : List Int) (hr : ∀ i, 0 ≤ rl rain i ∧ rl rain i ≤ 2) (hrl : rain.length = v.rain.length) (hbu : but.length < 9223372036854775808) :
    Pure T 88 [encFarm v, .int .i64 p, ints rain, ints but] (ints (flowersOf v p rain but)) := by
  refine pure_fn (af := a88) rfl (by simp [a88]) dd ?_
  have hno := hv.nra
  have hnl := hv.nlk
  have hpl := (pl_ok hv hp).1
  obtain ⟨R, hR⟩ : ∃ R, flowersOf v p rain but = R := ⟨_, rfl⟩
  have hR' := hR
  have hRl := (flowers_bd hv hp rain but).1
  rw [hR] at hRl ⊢
  rw [flowersOf, waysIn, flower_at hp] at hR'
  obtain ⟨y, hy⟩ : ∃ y, v.plots[p] = y := ⟨_, rfl⟩
  rw [hy] at hpl hR'
  obtain ⟨L, hL⟩ : ∃ L : Nat, y.flower.lo = (L : Int) := ⟨y.flower.lo.toNat, by omega⟩
  obtain ⟨H, hH⟩ : ∃ H : Nat, y.flower.hi = (H : Int) := ⟨y.flower.hi.toNat, by omega⟩
  rw [hL, hH] at hR' hpl
  (repeat (first | simp only [↓QA, QB, Nat.reduceLT, reduceIte, Nat.reduceEqDiff, Nat.reduceAdd, Nat.reduceLeDiff, Nat.reduceMul, Nat.reduceBEq, QXFFaC3, a88, hp, hy, hL] | refine rd0 rfl ?_))
  refine ghostK 9 1 [] rfl ?_
  refine loopE (S := Nat × List Int × Bool) (L, [], false) (fun a => L ≤ a.1 ∧ a.1 ≤ H + 1 ∧ a.2.1 ++ (numbers (a.1 : Int) ((H : Int) + 1 - a.1).toNat).filter (flowerOk v p rain but) = R) (fun a => H + 1 - a.1)
    (fun a => [(1, .int .i64 p), (2, ints rain), (3, ints but), (4, .ptr 0 0), (9, .lit (a.2.1.map (.int .i64)) false (some 1)), (10, .int .i64 a.1)])
    (fun a => [.cells (farmCells v), .tok 1 a.2.1.length a.2.2]) ⟨Nat.le_refl _, by simp only; omega, by simpa using hR'⟩ (by simp [farmCells, ints]) ?_ fun a ha => ?_
  · try simp only [TrimX, QE, Nat.reduceLT, reduceIte, Nat.reduceEqDiff, Nat.reduceAdd, Nat.reduceLeDiff, Nat.reduceMul, Nat.reduceBEq, QXFFaC3, ints]
    try simp
  · obtain ⟨d, acc, ex⟩ := a
    obtain ⟨hd0, hd1, hacc⟩ := ha
    simp only at hd0 hd1 hacc
    (repeat (first | simp only [↓QA, QB, Nat.reduceLT, reduceIte, Nat.reduceEqDiff, Nat.reduceAdd, Nat.reduceLeDiff, Nat.reduceMul, Nat.reduceBEq, QXFFaC3, L88_0, hp, hy, hH] | refine rd0 rfl ?_))
    refine iteP_intro (fun h => ?_) fun h => ?_
    · have hd2 : d ≤ H := by have h0 : (d : Int) ≤ (H : Int) := by simpa using h
                             omega
      have hw := wrapN (show d < H + 1 by omega) (by omega)
      rw [ways_step (show (d : Int) ≤ (H : Int) by omega), List.filter_cons, show (d : Int) + 1 = ((d + 1 : Nat) : Int) by omega] at hacc
      have hal : acc.length ≤ 7 := by
        have := congrArg List.length hacc
        simp only [List.length_append] at this
        omega
      (repeat (first | simp only [↓QA, QB, Nat.reduceLT, reduceIte, Nat.reduceEqDiff, Nat.reduceAdd, Nat.reduceLeDiff, Nat.reduceMul, Nat.reduceBEq, QXFFaC3] | refine rd0 rfl ?_))
      refine loopE (S := Nat) 0 (fun k => k ≤ v.looks.length) (fun k => v.looks.length - k)
        (fun k => [(1, .int .i64 p), (2, ints rain), (3, ints but), (4, .ptr 0 0), (9, .lit (acc.map (.int .i64)) false (some 1)), (10, .int .i64 d), (11, .bool (flowerUpTo v p rain but d k)), (12, .int .i64 k)])
        (fun k => [.cells (farmCells v), .tok 1 acc.length ex]) (Nat.zero_le _) (by simp [farmCells, ints]) ?_ fun k hk => ?_
      · try simp only [TrimX, QE, Nat.reduceLT, reduceIte, Nat.reduceEqDiff, Nat.reduceAdd, Nat.reduceLeDiff, Nat.reduceMul, Nat.reduceBEq, QXFFaC3, ints]
        try simp [flowerUpTo]
      · (repeat (first | simp only [↓QA, QB, Nat.reduceLT, reduceIte, Nat.reduceEqDiff, Nat.reduceAdd, Nat.reduceLeDiff, Nat.reduceMul, Nat.reduceBEq, QXFFaC3, L88_2] | refine rd0 rfl ?_))
        refine iteP_intro (fun h2 => ?_) fun h2 => ?_
        · have hk1 : k < v.looks.length := by simpa using h2
          have hwk := wrapN hk1 (by omega)
          have hsu := flowerUpTo_succ hk1 p rain but d
          have hlx := hv.lk _ (List.getElem_mem hk1)
          obtain ⟨x, hx⟩ : ∃ x, v.looks[k] = x := ⟨_, rfl⟩
          rw [hx] at hsu hlx
          simp only [lookOk] at hsu
          have hxl : decide (x.plot = (p : Int)) = (x.plot == (p : Int)) := by rw [Bool.eq_iff_iff]; simp
          rw [hxl] at hsu
          obtain ⟨D, hD⟩ : ∃ D : Nat, x.day = (D : Int) := ⟨x.day.toNat, by omega⟩
          have hpt := points_ok rain d D hr (by omega) (by omega)
          have hpe : ptsL rain d x.day = pts (rl rain) d D := by rw [ptsL, hD, Int.toNat_natCast, Int.toNat_natCast]
          rw [hpe] at hsu
          obtain ⟨q, hq⟩ : ∃ q, flowerUpTo v p rain but d k = q := ⟨_, rfl⟩
          rw [hq] at hsu
          rw [hq]
          (repeat (first | simp only [↓QA, QB, Nat.reduceLT, reduceIte, Nat.reduceEqDiff, Nat.reduceAdd, Nat.reduceLeDiff, Nat.reduceMul, Nat.reduceBEq, QXFFaC3, hk1, hx] | refine rd0 rfl ?_))
          cases hl : (x.plot == (p : Int))
          · rw [hl] at hsu
            simp only [Bool.not_false, Bool.true_or, Bool.and_true] at hsu
            (repeat (first | simp only [↓QA, QB, Nat.reduceLT, reduceIte, Nat.reduceEqDiff, Nat.reduceAdd, Nat.reduceLeDiff, Nat.reduceMul, Nat.reduceBEq, QXFFaC3, hl, hwk] | refine rd0 rfl ?_))
            refine ⟨k + 1, by omega, by omega, ?_⟩
            try simp only [TrimX, QE, Nat.reduceLT, reduceIte, Nat.reduceEqDiff, Nat.reduceAdd, Nat.reduceLeDiff, Nat.reduceMul, Nat.reduceBEq, QXFFaC3, hwk, hsu, ints]
            try simp [okBlk]
          · rw [hl] at hsu
            simp only [Bool.not_true, Bool.false_or] at hsu
            (repeat (first | simp only [↓QA, QB, Nat.reduceLT, reduceIte, Nat.reduceEqDiff, Nat.reduceAdd, Nat.reduceLeDiff, Nat.reduceMul, Nat.reduceBEq, QXFFaC3, hl] | refine rd0 rfl ?_))
            ((first | refine callK_d (has_ok but (k : Int) hbu) rfl dd ?_ | refine callD_d (has_ok but (k : Int) hbu) rfl dd ?_); (repeat (first | simp only [↓QA, QB, Nat.reduceLT, reduceIte, Nat.reduceEqDiff, Nat.reduceAdd, Nat.reduceLeDiff, Nat.reduceMul, Nat.reduceBEq, QXFFaC3] | refine rd0 rfl ?_)))
            cases hb : but.contains (k : Int)
            · rw [hb, Bool.false_or] at hsu
              (repeat (first | simp only [↓QA, QB, Nat.reduceLT, reduceIte, Nat.reduceEqDiff, Nat.reduceAdd, Nat.reduceLeDiff, Nat.reduceMul, Nat.reduceBEq, QXFFaC3] | refine rd0 rfl ?_))
              cases q
              · rw [Bool.false_and] at hsu
                (repeat (first | simp only [↓QA, QB, Nat.reduceLT, reduceIte, Nat.reduceEqDiff, Nat.reduceAdd, Nat.reduceLeDiff, Nat.reduceMul, Nat.reduceBEq, QXFFaC3, hwk] | refine rd0 rfl ?_))
                refine ⟨k + 1, by omega, by omega, ?_⟩
                try simp only [TrimX, QE, Nat.reduceLT, reduceIte, Nat.reduceEqDiff, Nat.reduceAdd, Nat.reduceLeDiff, Nat.reduceMul, Nat.reduceBEq, QXFFaC3, hwk, hsu, ints]
                try simp [okBlk]
              · rw [Bool.true_and] at hsu
                (repeat (first | simp only [↓QA, QB, Nat.reduceLT, reduceIte, Nat.reduceEqDiff, Nat.reduceAdd, Nat.reduceLeDiff, Nat.reduceMul, Nat.reduceBEq, QXFFaC3, hk1, hx, hD] | refine rd0 rfl ?_))
                ((first | refine callK_d (hpt) rfl dd ?_ | refine callD_d (hpt) rfl dd ?_); (repeat (first | simp only [↓QA, QB, Nat.reduceLT, reduceIte, Nat.reduceEqDiff, Nat.reduceAdd, Nat.reduceLeDiff, Nat.reduceMul, Nat.reduceBEq, QXFFaC3, hk1, hx, hwk, hD] | refine rd0 rfl ?_)))
                refine ⟨k + 1, by omega, by omega, ?_⟩
                try simp only [TrimX, QE, Nat.reduceLT, reduceIte, Nat.reduceEqDiff, Nat.reduceAdd, Nat.reduceLeDiff, Nat.reduceMul, Nat.reduceBEq, QXFFaC3, hwk, hsu, ints]
                try simp [okBlk]
            · rw [hb, Bool.true_or, Bool.and_true] at hsu
              (repeat (first | simp only [↓QA, QB, Nat.reduceLT, reduceIte, Nat.reduceEqDiff, Nat.reduceAdd, Nat.reduceLeDiff, Nat.reduceMul, Nat.reduceBEq, QXFFaC3, hwk] | refine rd0 rfl ?_))
              refine ⟨k + 1, by omega, by omega, ?_⟩
              try simp only [TrimX, QE, Nat.reduceLT, reduceIte, Nat.reduceEqDiff, Nat.reduceAdd, Nat.reduceLeDiff, Nat.reduceMul, Nat.reduceBEq, QXFFaC3, hwk, hsu, ints]
              try simp [okBlk]
        · have hk1 : k = v.looks.length := by simp at h2; omega
          subst hk1
          have hto : flowerUpTo v p rain but d v.looks.length = flowerOk v p rain but d := rfl
          rw [hto]
          cases hc : flowerOk v p rain but d
          · rw [hc] at hacc
            simp only [Bool.false_eq_true, if_false] at hacc
            (repeat (first | simp only [↓QA, QB, Nat.reduceLT, reduceIte, Nat.reduceEqDiff, Nat.reduceAdd, Nat.reduceLeDiff, Nat.reduceMul, Nat.reduceBEq, QXFFaC3, hw] | refine rd0 rfl ?_))
            refine ⟨(d + 1, acc, ex), ⟨by simp only; omega, by simp only; omega, hacc⟩, by simp only; omega, ?_⟩
            try simp only [TrimX, QE, Nat.reduceLT, reduceIte, Nat.reduceEqDiff, Nat.reduceAdd, Nat.reduceLeDiff, Nat.reduceMul, Nat.reduceBEq, QXFFaC3, hw, ints]
            try simp [okBlk]
          · rw [hc] at hacc
            simp only [if_true] at hacc
            have hap := fun (b0 : ABlk) (τ : St) => append_intT (σ := b0 :: .tok 1 acc.length ex :: τ) (l := acc) (a := (d : Int)) (ex := ex) (t := 1) (by omega) rfl
            (repeat (first | simp only [↓QA, QB, Nat.reduceLT, reduceIte, Nat.reduceEqDiff, Nat.reduceAdd, Nat.reduceLeDiff, Nat.reduceMul, Nat.reduceBEq, QXFFaC3, hw, hap] | refine rd0 rfl ?_))
            refine ⟨(d + 1, acc ++ [(d : Int)], true), ⟨by simp only; omega, by simp only; omega, by rw [← hacc]; simp⟩, by simp only; omega, ?_⟩
            try simp only [TrimX, QE, Nat.reduceLT, reduceIte, Nat.reduceEqDiff, Nat.reduceAdd, Nat.reduceLeDiff, Nat.reduceMul, Nat.reduceBEq, QXFFaC3, hw, S_mapI, ints, List.map_append, List.map_cons, List.map_nil]
            try simp [okBlk]
    · have hd2 : d = H + 1 := by
        have h0 : ¬ (d : Int) ≤ (H : Int) := by simpa using h
        omega
      rw [ways_end (show ¬ (d : Int) ≤ (H : Int) by omega)] at hacc
      simp only [List.filter_nil, List.append_nil] at hacc
      subst hacc
      (repeat (first | simp only [↓QA, QB, Nat.reduceLT, reduceIte, Nat.reduceEqDiff, Nat.reduceAdd, Nat.reduceLeDiff, Nat.reduceMul, Nat.reduceBEq, QXFFaC3, ints] | refine rd0 rfl ?_))
      try try simp only [QS, QC, Nat.reduceLT, reduceIte, Nat.reduceEqDiff, Nat.reduceAdd, Nat.reduceLeDiff, Nat.reduceMul, Nat.reduceBEq, QXFFaC3]
end Go.Am.Room
set_option maxRecDepth 4000
namespace Go.Am.Room
def QXFFaC4 := And.intro @encFarm_eq (And.intro @farmCells_eq (And.intro @encPlot_eq (And.intro @encLook_eq (And.intro @encSpan_eq (And.intro @S_mapPlot (And.intro @S_mapLook (And.intro @S_mapSpan (And.intro @T_sapp (And.intro @T_sapp0 (@S_mapT))))))))))
theorem flTo_succ (v : Farm) (rain but : List Int) (k : Nat) : flTo v rain but (k + 1) = flTo v rain but k ++ [flowersOf v k rain but] := by simp [flTo, List.range_succ]
theorem allFl_succ (v : Farm) (rain but : List Int) (k : Nat) : allFl v rain but (k + 1) = (allFl v rain but k && !(flowersOf v k rain but).isEmpty) := by simp [allFl, flTo_succ, List.all_append]
theorem allFl_le {v : Farm} {rain but : List Int} {k : Nat} (h : allFl v rain but k = false) : ∀ j, k ≤ j → allFl v rain but j = false := by
  intro j hj
  induction j with
  | zero => have : k = 0 := by omega
            subst this; exact h
  | succ j ih =>
    by_cases hk : k = j + 1
    · subst hk; exact h
    · rw [allFl_succ, ih (by omega), Bool.false_and]
theorem truths_in (v : Farm) (hv : Vd v) (but : List Int) (hbu : but.length < 9223372036854775808) (W : List (List Int)) (bl : List Int) (hbl : bl.length = v.rain.length) (hr : ∀ i, 0 ≤ rl bl i ∧ rl bl i ≤ 2) (k : Nat) (hk : k < W.length) (hkb : W[k] = bl) (acc : List Truth) (ex : Bool) (e : Env) (K : KJ)
  (e1 : Env.get e 1 = ints but) (e2 : Env.get e 2 = .ptr 0 0) (e5 : Env.get e 5 = intss W) (e6 : Env.get e 6 = .lit (acc.map encTruth) false (some 1)) (e7 : Env.get e 7 = .int .i64 k) (e8 : Env.get e 8 = .ptr 2 0) (e9 : Env.get e 9 = .bool true) (e10 : Env.get e 10 = .int .i64 0)
  (hK : ∀ e' xs f tk τ, (∀ t, tk = some t → 2 < t) → (allFl v bl but v.plots.length = true → xs = (flTo v bl but v.plots.length).map ints) → Env.get e' 1 = ints but → Env.get e' 2 = .ptr 0 0 → Env.get e' 5 = intss W → Env.get e' 6 = .lit (acc.map encTruth) false (some 1) → Env.get e' 7 = .int .i64 k → Env.get e' 8 = .ptr 2 0 → Env.get e' 9 = .bool (allFl v bl but v.plots.length) →
   K (some (.exit 2)) e' (.cells (farmCells v) :: .tok 2 acc.length ex :: .cells [.lit (bl.map (.int .i64)) false none, .lit xs f tk] :: τ)) :
  rK (K := ⟨K⟩) T (.loop L49_2) e [.cells (farmCells v), .tok 2 acc.length ex, .cells [.lit (bl.map (.int .i64)) false none, .lit [] true none]] := by
 have hno := hv.npl
 refine loopE (S := Nat × Bool × Option Nat × St) (0, true, none, []) (fun a => a.1 ≤ v.plots.length ∧ ∀ t, a.2.2.1 = some t → 2 < t ∧ t < 3 + a.2.2.2.length) (fun a => v.plots.length - a.1)
  (fun a => [(1, ints but), (2, .ptr 0 0), (5, intss W), (6, .lit (acc.map encTruth) false (some 1)), (7, .int .i64 k), (8, .ptr 2 0), (9, .bool (allFl v bl but a.1)), (10, .int .i64 a.1)])
  (fun a => .cells (farmCells v) :: .tok 2 acc.length ex :: .cells [.lit (bl.map (.int .i64)) false none, .lit ((flTo v bl but a.1).map ints) a.2.1 a.2.2.1] :: a.2.2.2) ⟨Nat.zero_le _, fun t h => by cases h⟩ rfl ?_ fun a ha => ?_
 ·try simp only [TrimX, QE, Nat.reduceLT, reduceIte, Nat.reduceEqDiff, Nat.reduceAdd, Nat.reduceLeDiff, Nat.reduceMul, Nat.reduceBEq, QXFFaC4, e1, e2, e5, e6, e7, e8, e9, e10]
  try simp [allFl, flTo]
 ·obtain ⟨h, f, tk, τ⟩ := a
  obtain ⟨hh, htk⟩ := ha
  simp only at hh htk
  by_cases hh1 : h < v.plots.length
  ·have g : decide ((h : Int) < (v.plots.length : Int)) = true := by simp; omega
   have hw := wrapN hh1 (by omega)
   have hsucc := flTo_succ v bl but h
   have hall := allFl_succ v bl but h
   cases hc : allFl v bl but h
   ·have hfull := allFl_le hc v.plots.length hh
    (repeat (first | simp only [↓QA, QB, Nat.reduceLT, reduceIte, Nat.reduceEqDiff, Nat.reduceAdd, Nat.reduceLeDiff, Nat.reduceMul, Nat.reduceBEq, QXFFaC4, L49_2, g] | refine rd0 rfl ?_))
    have hk0 := hK
    rw [farmCells_eq, hfull] at hk0
    refine hk0 _ _ f tk τ (fun t ht => (htk t ht).1) (fun h => by cases h) ?_ ?_ ?_ ?_ ?_ ?_ ?_
    all_goals try simp only [TrimX, QE, Nat.reduceLT, reduceIte, Nat.reduceEqDiff, Nat.reduceAdd, Nat.reduceLeDiff, Nat.reduceMul, Nat.reduceBEq, QXFFaC4]
   ·rw [hc, Bool.true_and] at hall
    have hll := (flowers_bd hv hh1 bl but).1
    have hst := rflowers_ok v hv h hh1 bl but hr hbl hbu
    obtain ⟨l, hl⟩ : ∃ l, flowersOf v h bl but = l := ⟨_, rfl⟩
    rw [hl] at hst hsucc hall hll
    have hlenp : decide ((0 : Int) < (l.length : Int)) = !l.isEmpty := by cases l <;> simp
    obtain ⟨xs, hxs⟩ : ∃ xs, (flTo v bl but h).map ints = xs := ⟨_, rfl⟩
    have hxl : xs.length ≤ 4 := by rw [← hxs]; simp [flTo]; omega
    have hxa : allCells 1 xs = true := by rw [← hxs]; exact allCells_ints _
    have a0 : ∀ (σ : St), appendAV 1 24 σ (.lit [] true none) (.lit xs f tk) = some ((app0 1 σ xs).1, (app0 1 σ xs).2) := fun σ => app0_eq ⟨rfl, hxa, by simp [room]; omega, by simp [room]; omega⟩
    have a1 : ∀ (σ : St), appendAV 1 24 (app0 1 σ xs).2 (app0 1 σ xs).1 (.lit [.lit (l.map (.int .i64)) false none] true none) = some (.lit (xs ++ [.lit (l.map (.int .i64)) false none]) false (some σ.length), σ ++ [.tok 1 (xs.length + 1) true]) := fun σ => by
     rw [app0_more ⟨hxa, by simp [allCells, AV.cells, AV.cell], by simp [room]; omega, by simp [room]; omega⟩ (by simp)]
     simp
    simp only [hxs]
    (repeat (first | simp only [↓QA, QB, Nat.reduceLT, reduceIte, Nat.reduceEqDiff, Nat.reduceAdd, Nat.reduceLeDiff, Nat.reduceMul, Nat.reduceBEq, QXFFaC4, L49_2, g, hk, hkb, intss, ints] | refine rd0 rfl ?_))
    ((first | refine callK_d (hst) rfl dd ?_ | refine callD_d (hst) rfl dd ?_); (repeat (first | simp only [↓QA, QB, Nat.reduceLT, reduceIte, Nat.reduceEqDiff, Nat.reduceAdd, Nat.reduceLeDiff, Nat.reduceMul, Nat.reduceBEq, QXFFaC4, hlenp, a0, a1, hk, hkb, intss, ints] | refine rd0 rfl ?_)))
    refine ⟨(h + 1, false, some (τ.length + 1 + 1 + 1), τ ++ [.tok 1 (xs.length + 1) true]), ⟨by simp only; omega, fun t ht => by simp only [Option.some.injEq] at ht; subst ht; simp only [List.length_append, List.length_cons, List.length_nil]; omega⟩, by simp only; omega, ?_⟩
    rw [hsucc, hall, List.map_append, hxs]
    try simp only [TrimX, QE, Nat.reduceLT, reduceIte, Nat.reduceEqDiff, Nat.reduceAdd, Nat.reduceLeDiff, Nat.reduceMul, Nat.reduceBEq, QXFFaC4, hw, List.map_append, List.map_cons, List.map_nil, List.length_append, intss, ints]
    try simp [okBlk, okVs, okV]
    exact ⟨ok_datas (datas_map (data_int .i64) bl) _, okVs_app (ok_datas (by rw [← hxs]; exact datas_map data_ints _) _) (ok_datas (datas_cons (data_ints l) datas_nil) _)⟩
  ·have g : decide ((h : Int) < (v.plots.length : Int)) = false := by simp; omega
   obtain rfl : h = v.plots.length := by omega
   (repeat (first | simp only [↓QA, QB, Nat.reduceLT, reduceIte, Nat.reduceEqDiff, Nat.reduceAdd, Nat.reduceLeDiff, Nat.reduceMul, Nat.reduceBEq, QXFFaC4, L49_2, g] | refine rd0 rfl ?_))
   have hk0 := hK
   rw [farmCells_eq] at hk0
   refine hk0 _ _ f tk τ (fun t ht => (htk t ht).1) (fun _ => rfl) ?_ ?_ ?_ ?_ ?_ ?_ ?_
   all_goals try simp only [TrimX, QE, Nat.reduceLT, reduceIte, Nat.reduceEqDiff, Nat.reduceAdd, Nat.reduceLeDiff, Nat.reduceMul, Nat.reduceBEq, QXFFaC4]
theorem allCells_truths (l : List Truth) : allCells 2 (l.map encTruth) = true := L_allM 2 encTruth l fun x => by simp [cellsOk, encTruth, AV.cells, AV.cell, ints, intss]
theorem rtruths_ok (v : Farm) (hv : Vd v) (but : List Int) (hbu : but.length < 9223372036854775808) : Pure T 49 [encFarm v, ints but] (truthsAV (truths v but)) := by
 refine pure_fn (af := a49) rfl (by simp [a49]) dd ?_
 have hwl := weather_len hv
 have hwm := fun c => (weather_mem (v := v) (c := c)).1
 obtain ⟨R, hR⟩ : ∃ R, truths v but = R := ⟨_, rfl⟩
 have hRl := truths_len hv but
 have hR' : [] ++ ((weather v).drop 0).filterMap (truthOf v but) = R := hR
 rw [hR] at hRl ⊢
 have hrw := rweather_ok v hv
 obtain ⟨W, hW⟩ : ∃ W, weather v = W := ⟨_, rfl⟩
 rw [hW] at hwl hR' hrw
 simp only [hW] at hwm
 (repeat (first | simp only [↓QA, QB, Nat.reduceLT, reduceIte, Nat.reduceEqDiff, Nat.reduceAdd, Nat.reduceLeDiff, Nat.reduceMul, Nat.reduceBEq, QXFFaC4, a49] | refine rd0 rfl ?_))
 ((first | refine callK_d (hrw) rfl dd ?_ | refine callD_d (hrw) rfl dd ?_); (repeat (first | simp only [↓QA, QB, Nat.reduceLT, reduceIte, Nat.reduceEqDiff, Nat.reduceAdd, Nat.reduceLeDiff, Nat.reduceMul, Nat.reduceBEq, QXFFaC4] | refine rd0 rfl ?_)))
 refine ghostK 6 2 [] rfl ?_
 refine loopE (S := Nat × List Truth × Bool) (0, [], false) (fun a => a.1 ≤ W.length ∧ a.2.1 ++ (W.drop a.1).filterMap (truthOf v but) = R) (fun a => W.length - a.1)
  (fun a => [(1, ints but), (2, .ptr 0 0), (5, intss W), (6, .lit (a.2.1.map encTruth) false (some 1)), (7, .int .i64 a.1)])
  (fun a => [.cells (farmCells v), .tok 2 a.2.1.length a.2.2]) ⟨Nat.zero_le _, hR'⟩ (by simp [farmCells, ints]) ?_ fun a ha => ?_
 ·try simp only [TrimX, QE, Nat.reduceLT, reduceIte, Nat.reduceEqDiff, Nat.reduceAdd, Nat.reduceLeDiff, Nat.reduceMul, Nat.reduceBEq, QXFFaC4]
  try simp
 ·obtain ⟨k, acc, ex⟩ := a
  obtain ⟨hk, hacc⟩ := ha
  simp only at hk hacc
  (repeat (first | simp only [↓QA, QB, Nat.reduceLT, reduceIte, Nat.reduceEqDiff, Nat.reduceAdd, Nat.reduceLeDiff, Nat.reduceMul, Nat.reduceBEq, QXFFaC4, L49_0, intss] | refine rd0 rfl ?_))
  refine iteP_intro (fun hd => ?_) fun hd => ?_
  ·have hk1 : k < W.length := by simpa using hd
   have hw := wrapN hk1 (by omega)
   have hro := hwm _ (List.getElem_mem hk1)
   obtain ⟨bl, hbl⟩ : ∃ bl, W[k] = bl := ⟨_, rfl⟩
   rw [hbl] at hro
   rw [List.drop_eq_getElem_cons hk1, hbl, List.filterMap_cons] at hacc
   have hal : acc.length ≤ 2187 := by
    have := congrArg List.length hacc
    simp only [List.length_append] at this
    omega
   have hin := truths_in v hv but hbu W bl hro.len (rain_bd hv hro) k hk1 hbl acc ex
   rw [farmCells_eq] at hin
   have hap := fun (y : AV) (hy : allCells 2 [y] = true) (τ : St) => append_at (σ := .cells (farmCells v) :: .tok 2 acc.length ex :: τ) (t := 1) (ex := ex) (sz := 2) (b := 48) (xs := acc.map encTruth) (ys := [y]) (f := true) (tk := none) ⟨allCells_truths acc, hy, by simp [room]; omega, by simp [room]; omega⟩ (by simp) acc.length (by simp) rfl
   rw [farmCells_eq] at hap
   have hap2 := fun (l : List AV) (f : Bool) (tk : Option Nat) => hap (.agg [.lit (bl.map (.int .i64)) false none, .lit l f tk]) rfl
   (repeat (first | simp only [↓QA, QB, Nat.reduceLT, reduceIte, Nat.reduceEqDiff, Nat.reduceAdd, Nat.reduceLeDiff, Nat.reduceMul, Nat.reduceBEq, QXFFaC4, hk1, hbl, ints, intss] | refine rd0 rfl ?_))
   refine hin _ _ ?_ ?_ ?_ ?_ ?_ ?_ ?_ ?_ ?_
   all_goals try try simp only [TrimX, QE, Nat.reduceLT, reduceIte, Nat.reduceEqDiff, Nat.reduceAdd, Nat.reduceLeDiff, Nat.reduceMul, Nat.reduceBEq, QXFFaC4, intss, ints]
   intro e' xs f tk τ htk hxs q1 q2 q5 q6 q7 q8 q9
   cases hall : allFl v bl but v.plots.length
   ·rw [truthOf_eq, hall] at hacc
    rw [hall] at q9
    (repeat (first | simp only [↓QA, QB, Nat.reduceLT, reduceIte, Nat.reduceEqDiff, Nat.reduceAdd, Nat.reduceLeDiff, Nat.reduceMul, Nat.reduceBEq, QXFFaC4, q1, q2, q5, q6, q7, q8, q9, ints, intss] | refine rd0 rfl ?_))
    refine ⟨(k + 1, acc, ex), ⟨by simp only; omega, by simpa using hacc⟩, by simp only; omega, ?_⟩
    try simp only [TrimX, QE, Nat.reduceLT, reduceIte, Nat.reduceEqDiff, Nat.reduceAdd, Nat.reduceLeDiff, Nat.reduceMul, Nat.reduceBEq, QXFFaC4, q1, q2, q5, q6, q7, q8, q9, hw, ints, intss]
    try simp [okBlk]
   ·rw [truthOf_eq, hall] at hacc
    rw [hall] at q9
    rw [hxs hall]
    (repeat (first | simp only [↓QA, QB, Nat.reduceLT, reduceIte, Nat.reduceEqDiff, Nat.reduceAdd, Nat.reduceLeDiff, Nat.reduceMul, Nat.reduceBEq, QXFFaC4, q1, q2, q5, q6, q7, q8, q9, ints, intss, hap2] | refine rd0 rfl ?_))
    refine ⟨(k + 1, acc ++ [⟨bl, flTo v bl but v.plots.length⟩], true), ⟨by simp only; omega, by simpa using hacc⟩, by simp only; omega, ?_⟩
    cases tk with
    | none =>
     try simp only [TrimX, QE, Nat.reduceLT, reduceIte, Nat.reduceEqDiff, Nat.reduceAdd, Nat.reduceLeDiff, Nat.reduceMul, Nat.reduceBEq, QXFFaC4, q1, q2, q5, q6, q7, q8, q9, hw, ints, intss, List.map_append, List.map_cons, List.map_nil, List.length_append, encTruth_eq, Bool.and_false]
     try simp [okBlk]
    | some t =>
     have h2 := htk t rfl
     try simp only [TrimX, QE, Nat.reduceLT, reduceIte, Nat.reduceEqDiff, Nat.reduceAdd, Nat.reduceLeDiff, Nat.reduceMul, Nat.reduceBEq, QXFFaC4, q1, q2, q5, q6, q7, q8, q9, hw, ints, intss, List.map_append, List.map_cons, List.map_nil, List.length_append, encTruth_eq, Bool.and_false, Nat.not_lt.2 (Nat.le_of_lt h2)]
     try simp [okBlk]
  ·have hk1 : k = W.length := by simp at hd; omega
   rw [hk1, List.drop_length] at hacc
   simp only [List.filterMap_nil, List.append_nil] at hacc
   subst hacc
   (repeat (first | simp only [↓QA, QB, Nat.reduceLT, reduceIte, Nat.reduceEqDiff, Nat.reduceAdd, Nat.reduceLeDiff, Nat.reduceMul, Nat.reduceBEq, QXFFaC4, truthsAV] | refine rd0 rfl ?_))
   try try simp only [QS, QC, Nat.reduceLT, reduceIte, Nat.reduceEqDiff, Nat.reduceAdd, Nat.reduceLeDiff, Nat.reduceMul, Nat.reduceBEq, QXFFaC4]
end Go.Am.Room
set_option maxRecDepth 4000
namespace Go.Am.Room
theorem farm_nil (v : Farm) : clrs [encFarm v, .lit [] true none] = [encFarm v, ints []] := by simp [clrs, (data_farm v).2, clr, ints]
theorem farm_nil_ok (v : Farm) : okVs 0 [encFarm v, .lit [] true none] := ⟨(data_farm v).1, by simp [okV, okVs], trivial⟩
theorem flAt_get {t : Truth} {p : Nat} (h : p < t.fl.length) : flAt t p = t.fl[p] := by simp [flAt, h]
end Go.Am.Room
set_option maxRecDepth 4000
namespace Go.Am.Room
def QXFFaC8 := And.intro @encFarm_eq (And.intro @farmCells_eq (And.intro @encPlot_eq (And.intro @encLook_eq (And.intro @encSpan_eq (And.intro @S_mapPlot (And.intro @S_mapLook (And.intro @S_mapSpan (And.intro @T_sapp (And.intro @T_sapp0 (And.intro @S_mapT (And.intro @truthsAV_eq (@encTruth_eq))))))))))))
theorem rhands_ok (v : Farm) (hv : Vd v) (ps : List Int) (hps : ∀ p ∈ ps, 0 ≤ p ∧ p < v.plots.length) (hpl : ps.length ≤ 100) : Pure T 47 [encFarm v, ints ps] (.int .i64 (handsOf v ps)) := by
 refine pure_fn (af := a47) rfl (by simp [a47]) dd ?_
 obtain ⟨R, hR⟩ : ∃ R, handsOf v ps = R := ⟨_, rfl⟩
 rw [hR]
 (repeat (first | simp only [↓QA, QB, Nat.reduceLT, reduceIte, Nat.reduceEqDiff, Nat.reduceAdd, Nat.reduceLeDiff, Nat.reduceMul, Nat.reduceBEq, QXFFaC8, a47] | refine rd0 rfl ?_))
 refine loopE (S := Nat × Int) (0, 0) (fun a => a.1 ≤ ps.length ∧ a.2 + handsOf v (ps.drop a.1) = R ∧ 0 ≤ a.2 ∧ a.2 ≤ 99 * a.1) (fun a => ps.length - a.1)
  (fun a => [(1, ints ps), (2, .ptr 0 0), (5, .int .i64 a.2), (6, .int .i64 a.1)]) (fun _ => [.cells (farmCells v)]) ⟨Nat.zero_le _, by simpa using hR, Int.le_refl _, by simp⟩ (by simp [farmCells, ints]) ?_ fun a ha => ?_
 ·try simp only [TrimX, QE, Nat.reduceLT, reduceIte, Nat.reduceEqDiff, Nat.reduceAdd, Nat.reduceLeDiff, Nat.reduceMul, Nat.reduceBEq, QXFFaC8]
  try simp
 ·obtain ⟨k, n⟩ := a
  obtain ⟨hk, hq, hn0, hn1⟩ := ha
  simp only at hk hq hn0 hn1
  (repeat (first | simp only [↓QA, QB, Nat.reduceLT, reduceIte, Nat.reduceEqDiff, Nat.reduceAdd, Nat.reduceLeDiff, Nat.reduceMul, Nat.reduceBEq, QXFFaC8, L47_0] | refine rd0 rfl ?_))
  refine iteP_intro (fun h => ?_) fun h => ?_
  ·have hk1 : k < ps.length := by simpa using h
   have hw := wrapN hk1 (by omega)
   have hp := hps _ (List.getElem_mem hk1)
   obtain ⟨p, hpe⟩ : ∃ p : Nat, ps[k] = (p : Int) := ⟨ps[k].toNat, by omega⟩
   have hpp : p < v.plots.length := by omega
   have hh := (pl_ok hv hpp).2
   rw [List.drop_eq_getElem_cons hk1, handsOf, hpe, hands_at hpp] at hq
   obtain ⟨y, hy⟩ : ∃ y, v.plots[p] = y := ⟨_, rfl⟩
   rw [hy] at hh hq
   have hwn : IntKind.i64.wrap (n + y.hands) = n + y.hands := wrap64 ⟨by omega, by omega⟩
   (repeat (first | simp only [↓QA, QB, Nat.reduceLT, reduceIte, Nat.reduceEqDiff, Nat.reduceAdd, Nat.reduceLeDiff, Nat.reduceMul, Nat.reduceBEq, QXFFaC8, hk1, hpe, hpp, hy, hwn, hw] | refine rd0 rfl ?_))
   refine ⟨(k + 1, n + y.hands), ⟨by simp only; omega, by simp only; omega, by simp only; omega, by simp only; omega⟩, by simp only; omega, ?_⟩
   try simp only [TrimX, QE, Nat.reduceLT, reduceIte, Nat.reduceEqDiff, Nat.reduceAdd, Nat.reduceLeDiff, Nat.reduceMul, Nat.reduceBEq, QXFFaC8, hw, hwn]
   try simp [okBlk]
  ·have hk1 : k = ps.length := by simp at h; omega
   rw [hk1, List.drop_length] at hq
   simp only [handsOf, Int.add_zero] at hq
   subst hq
   (repeat (first | simp only [↓QA, QB, Nat.reduceLT, reduceIte, Nat.reduceEqDiff, Nat.reduceAdd, Nat.reduceLeDiff, Nat.reduceMul, Nat.reduceBEq, QXFFaC8] | refine rd0 rfl ?_))
theorem nil_choice (n : Nat) : [] ∈ choices n 0 := by simp [choices]
end Go.Am.Room
set_option maxRecDepth 8000
namespace Go.Am.Room
def turnOf (l : List Int) (n : Nat) : Int := if l.length = 0 then 0 else (l[n % l.length]?).getD 0
theorem S_u8s (σ : St) (m d : Nat) (l : List Int) : snapMs σ m d (l.map (.int .u8)) = some (l.map (.int .u8)) := S_datas (datas_map (data_int .u8) l) σ m d
def Bytes (l : List Int) : Prop := (∀ x ∈ l, 0 ≤ x ∧ x < 256) ∧ l.length < 9223372036854775808
theorem turnOf_bd {l : List Int} (h : Bytes l) (n : Nat) : 0 ≤ turnOf l n ∧ turnOf l n < 256 := by
 unfold turnOf
 split
 ·omega
 ·rename_i h0
  have hlt : n % l.length < l.length := Nat.mod_lt _ (by omega)
  rw [List.getElem?_eq_getElem hlt, Option.getD_some]
  exact h.1 _ (List.getElem_mem hlt)
theorem turn_ok (l : List Int) (n : Nat) (h : Bytes l) (hn : n < 9223372036854775808) : Pure T 41 [u8s l, .int .i64 n] (.int .i64 (turnOf l n)) := by
 refine pure_fn (af := a41) rfl (by simp [a41]) (datas_cons (data_u8s l) (datas_cons (data_int _ _) datas_nil)) ?_
 have hl := h.2
 (repeat (first | simp only [↓QA, QB, Nat.reduceLT, reduceIte, Nat.reduceEqDiff, Nat.reduceAdd, Nat.reduceLeDiff, Nat.reduceMul, Nat.reduceBEq, QXFLawC, a41, u8s] | refine rd0 rfl ?_))
 refine iteP_intro (fun h0 => ?_) fun h0 => ?_
 ·have h0' : l.length = 0 := by simp at h0; simp [h0]
  (repeat (first | simp only [↓QA, QB, Nat.reduceLT, reduceIte, Nat.reduceEqDiff, Nat.reduceAdd, Nat.reduceLeDiff, Nat.reduceMul, Nat.reduceBEq, QXFLawC, turnOf, h0'] | refine rd0 rfl ?_))
 ·have h0' : l.length ≠ 0 := by intro e; rw [e] at h0; simp at h0
  have hlt : n % l.length < l.length := Nat.mod_lt _ (by omega)
  have hb := h.1 _ (List.getElem_mem hlt)
  have hm : ((n : Int).tmod (l.length : Int)) = ((n % l.length : Nat) : Int) := by rw [Int.tmod_eq_emod_of_nonneg (by omega)]; norm_cast
  have hw : IntKind.i64.wrap l[n % l.length] = l[n % l.length] := wrap64 ⟨by omega, by omega⟩
  (repeat (first | simp only [↓QA, QB, Nat.reduceLT, reduceIte, Nat.reduceEqDiff, Nat.reduceAdd, Nat.reduceLeDiff, Nat.reduceMul, Nat.reduceBEq, QXFLawC, V_rem _ _ _ (show ((l.length : Nat) : Int) ≠ 0 by omega), hm, hlt, hw] | refine rd0 rfl ?_))
  simp [turnOf, h0', hlt]
theorem rising_filter (p : Int → Bool) (below : Int) : ∀ (k : Nat) (a last : Int), last < a → a + k ≤ below → rising below last ((numbers a k).filter p) = true
 | 0, a, last, _, _ => rfl
 | k + 1, a, last, h1, h2 => by
  simp only [numbers, List.filter_cons]
  split
  ·simp only [rising, rising_filter p below k (a + 1) a (by omega) (by omega), Bool.and_true, Bool.and_eq_true, decide_eq_true_eq]; omega
  ·exact rising_filter p below k (a + 1) last (by omega) (by omega)
end Go.Am.Room
set_option maxRecDepth 8000
namespace Go.Am.Room
def someV (v : Farm) : Bool := decide ((check v).2.2 = 0) && someB v []
theorem some2_ok (v : Farm) (hf : Fits v) : Pure T 45 [encFarm v] (.bool (someV v)) := by
 refine pure_fn (af := a45) rfl (by simp [a45]) dd ?_
 (repeat (first | simp only [↓QA, QB, Nat.reduceLT, reduceIte, Nat.reduceEqDiff, Nat.reduceAdd, Nat.reduceLeDiff, Nat.reduceMul, Nat.reduceBEq, QXFFaQ1, a45] | refine rd0 rfl ?_))
 ((first | refine callK_d (valid_ok v hf) rfl dd ?_ | refine callD_d (valid_ok v hf) rfl dd ?_); (repeat (first | simp only [↓QA, QB, Nat.reduceLT, reduceIte, Nat.reduceEqDiff, Nat.reduceAdd, Nat.reduceLeDiff, Nat.reduceMul, Nat.reduceBEq, QXFFaQ1] | refine rd0 rfl ?_)))
 cases h0 : decide ((check v).2.2 = 0)
 ·(repeat (first | simp only [↓QA, QB, Nat.reduceLT, reduceIte, Nat.reduceEqDiff, Nat.reduceAdd, Nat.reduceLeDiff, Nat.reduceMul, Nat.reduceBEq, QXFFaQ1, someV, h0, Bool.false_and] | refine rd0 rfl ?_))
 ·have hv := vd_of_check (by simpa using h0)
  have hs := rtruths_ok v hv [] (by simp)
  (repeat (first | simp only [↓QA, QB, Nat.reduceLT, reduceIte, Nat.reduceEqDiff, Nat.reduceAdd, Nat.reduceLeDiff, Nat.reduceMul, Nat.reduceBEq, QXFFaQ1] | refine rd0 rfl ?_))
  refine callK_v hs (farm_nil v) (farm_nil_ok v) ?_
  (repeat (first | simp only [↓QA, QB, Nat.reduceLT, reduceIte, Nat.reduceEqDiff, Nat.reduceAdd, Nat.reduceLeDiff, Nat.reduceMul, Nat.reduceBEq, QXFFaQ1, someV, h0, Bool.true_and, truthsAV] | refine rd0 rfl ?_))
  have e : decide ((0 : Int) < (truths v []).length) = someB v [] := by
   simp only [someB]
   cases truths v [] <;> simp
  rw [e]
end Go.Am.Room
set_option maxRecDepth 8000
namespace Go.Am.Room
theorem early_best (v : Farm) (l : List Truth) (d : Nat) (hands : Int) (hn : v.plots.length ≤ 6) : BestIs (fun c => doesB v l c d hands) (fun c => (shrinksOf v l c d).length) (allChoices v.plots.length) (earlyIn v l d hands) := by
 have h1 := stepR_is (fun c => doesB v l c d hands) (fun c => (shrinksOf v l c d).length) (allChoices v.plots.length) [] none (by rw [List.nil_append]; exact chFrom_sorted hn (v.plots.length + 1) 0 (by omega)) (fun c hc => by cases hc)
 rw [List.nil_append, ← early_step] at h1
 exact h1
theorem all_len {n : Nat} {c : List Int} (h : c ∈ allChoices n) : c.length ≤ n ∧ ∀ x ∈ c, 0 ≤ x ∧ x < n := by
 obtain ⟨i, _, hi, hc⟩ := chFrom_mem.1 h
 have := choices_spec n i c hc
 exact ⟨by omega, this.2⟩
end Go.Am.Room
set_option maxRecDepth 8000
namespace Go.Am.Room
theorem choices_rise : ∀ n m : Fin 6, ∀ c ∈ choices n m, rising n (-1) c = true := by decide +kernel
theorem someB_iff {v : Farm} {but : List Int} : someB v but = true ↔ truths v but ≠ [] := by
 rw [someB]
 cases truths v but <;> simp
theorem some_iff {v : Farm} : someV v = true ↔ (check v).2.2 = 0 ∧ truths v [] ≠ [] := by
 rw [someV, Bool.and_eq_true, decide_eq_true_eq, someB_iff]
theorem known0 {v : Farm} (h : truths v [] ≠ []) : errKnown v 0 = 0 := by
 simp [errKnown, h]
theorem ask0 {v : Farm} (hc : (check v).2.2 = 0) {p : Nat} (hp : p < v.plots.length) : errAsk v (p : Int) = 0 := by
 rw [errAsk, if_pos hc, if_pos (inR_iff.2 (by omega))]
theorem within0 {n m : Int} (h : 0 ≤ n ∧ n ≤ m) : within n m 0 = 0 := by
 rw [within, if_pos rfl, if_pos (inR_iff.2 h)]
theorem grownErr0 {v : Farm} (hs : someV v = true) {p d : Nat} (hp : p < v.plots.length) (hd : d ≤ v.rain.length) : grownErr v (p : Int) (d : Int) = 0 := by
 obtain ⟨hc, hne⟩ := some_iff.1 hs
 rw [grownErr, ask0 hc hp, within0 (by simp only [endOf]; omega), known0 hne]
theorem grown_tr {v : Farm} (hs : someV v = true) {p d : Nat} (hp : p < v.plots.length) (hd : d ≤ v.rain.length) : grownOf v (p : Int) (d : Int) = (fullS (truths v []) p d, 0) := by
 rw [grownOf, if_pos (grownErr0 hs hp hd), Int.toNat_natCast, Int.toNat_natCast]
theorem early_tr {v : Farm} (hs : someV v = true) {d : Nat} {h : Int} (hd : d ≤ v.rain.length) (hh : 0 ≤ h ∧ h ≤ 400) : earlyOf v (d : Int) h = earlyR v (truths v []) d (earlyIn v (truths v []) d h) := by
 obtain ⟨hc, hne⟩ := some_iff.1 hs
 have : earlyErr v (d : Int) h = 0 := by rw [earlyErr, hc, within0 (by simp only [endOf]; omega), within0 hh, known0 hne]
 rw [earlyOf, if_pos this, Int.toNat_natCast]
theorem early_bad {v : Farm} (hs : someV v = false) : earlyErr v 0 0 ≠ 0 := by
 intro h
 obtain ⟨h1, h2⟩ := errKnown_ok h
 have := (within_ok (within_ok h1).1).1
 rw [some_iff.2 ⟨this, h2⟩] at hs
 cases hs
theorem earlyOf_bad {v : Farm} (hs : someV v = false) : earlyOf v 0 0 = ([], [], earlyErr v 0 0) := by
 rw [earlyOf, if_neg (early_bad hs)]
theorem full_mem {l : List Truth} {p d : Nat} {n : Int} : n ∈ fullIn l p d ↔ ∃ t ∈ l, ∃ h ∈ flAt t p, n = ptsT t d h := by
 simp only [fullIn, List.mem_flatMap, List.mem_map]
 constructor
 ·rintro ⟨t, ht, h, hh, rfl⟩; exact ⟨t, ht, h, hh, rfl⟩
 ·rintro ⟨t, ht, h, hh, rfl⟩; exact ⟨t, ht, h, hh, rfl⟩
theorem pts_up {v : Farm} (hv : Vd v) {t : Truth} (ht : TOk v t) (d : Nat) (h : Int) : ptsT t d h ≤ ptsT t (d + 1) h ∧ ptsT t (d + 1) h ≤ ptsT t d h + 3 ∧ (h.toNat ≤ d → ptsT t d h + 1 ≤ ptsT t (d + 1) h) := by
 have hr := rain_bd hv ht.rain d
 have hb := pts_bd (rain_bd hv ht.rain) h.toNat d
 simp only [ptsT, ptsL, Int.toNat_natCast]
 by_cases hh : h.toNat ≤ d
 ·rw [pts_step _ hh]
  omega
 ·rw [pts_lt _ (show d + 1 ≤ h.toNat by omega), pts_lt _ (show d ≤ h.toNat by omega)]
  omega
theorem grows {v : Farm} (hv : Vd v) {ts : List Truth} (hts : ∀ t ∈ ts, TOk v t) (hne : ts ≠ []) {p d : Nat} (hp : p < v.plots.length) :
  (fullS ts p d).lo ≤ (fullS ts p (d + 1)).lo ∧ (fullS ts p d).hi ≤ (fullS ts p (d + 1)).hi ∧ (fullS ts p (d + 1)).lo ≤ (fullS ts p d).lo + 3 ∧ (fullS ts p (d + 1)).hi ≤ (fullS ts p d).hi + 3 ∧
   ((∀ t ∈ ts, ∀ h ∈ flAt t p, h.toNat ≤ d) → (fullS ts p d).lo < (fullS ts p (d + 1)).lo ∧ (fullS ts p d).hi < (fullS ts p (d + 1)).hi) := by
 obtain ⟨a1, a2, a3⟩ := spanL_spec (fullIn_ne hts hne hp d)
 obtain ⟨b1, b2, b3⟩ := spanL_spec (fullIn_ne hts hne hp (d + 1))
 have up : ∀ m ∈ fullIn ts p d, ∃ n ∈ fullIn ts p (d + 1), m ≤ n ∧ n ≤ m + 3 ∧ ((∀ t ∈ ts, ∀ h ∈ flAt t p, h.toNat ≤ d) → m + 1 ≤ n) := fun m hm => by
  obtain ⟨t, ht, h, hh, rfl⟩ := full_mem.1 hm
  have := pts_up hv (hts t ht) d h
  exact ⟨_, full_mem.2 ⟨t, ht, h, hh, rfl⟩, this.1, this.2.1, fun q => this.2.2 (q t ht h hh)⟩
 have dn : ∀ n ∈ fullIn ts p (d + 1), ∃ m ∈ fullIn ts p d, m ≤ n ∧ n ≤ m + 3 ∧ ((∀ t ∈ ts, ∀ h ∈ flAt t p, h.toNat ≤ d) → m + 1 ≤ n) := fun n hn => by
  obtain ⟨t, ht, h, hh, rfl⟩ := full_mem.1 hn
  have := pts_up hv (hts t ht) d h
  exact ⟨_, full_mem.2 ⟨t, ht, h, hh, rfl⟩, this.1, this.2.1, fun q => this.2.2 (q t ht h hh)⟩
 obtain ⟨n1, c1, c2, c3, c4⟩ := up _ a1
 obtain ⟨n2, d1, d2, d3, d4⟩ := up _ a2
 obtain ⟨m1, e1, e2, e3, e4⟩ := dn _ b1
 obtain ⟨m2, f1, f2, f3, f4⟩ := dn _ b2
 have g1 := b3 _ c1
 have g2 := b3 _ d1
 have g3 := a3 _ e1
 have g4 := a3 _ f1
 simp only [fullS]
 refine ⟨by omega, by omega, by omega, by omega, fun q => ?_⟩
 have := e4 q
 have := d4 q
 omega
end Go.Am.Room
set_option maxRecDepth 8000
namespace Go.Am.Room
theorem nat_rem {a : Int} (ha : 0 ≤ a) {n : Nat} (hn : 0 < n) : ∃ j : Nat, a.tmod (n : Int) = (j : Int) ∧ j < n := by
 obtain ⟨k, rfl⟩ : ∃ k : Nat, a = k := ⟨a.toNat, by omega⟩
 refine ⟨k % n, ?_, Nat.mod_lt _ hn⟩
 rw [Int.tmod_eq_emod_of_nonneg (by omega)]
 norm_cast
end Go.Am.Room
set_option maxRecDepth 8000
namespace Go.Am.Room
theorem early_law {v : Farm} (hn : v.plots.length ≤ 6) (ts : List Truth) (d : Nat) (h : Int) {O : List Int} (hO : O ∈ allChoices v.plots.length) :
  (earlyIn v ts d h = none ∧ doesB v ts O d h = false) ∨ ∃ b, earlyIn v ts d h = some b ∧ b ∈ allChoices v.plots.length ∧ doesB v ts b d h = true ∧
   (doesB v ts O d h = true → (shrinksOf v ts b d).length < (shrinksOf v ts O d).length ∨ ((shrinksOf v ts b d).length = (shrinksOf v ts O d).length ∧ fewer O b = false)) := by
 have hb := early_best v ts d h hn
 cases hE : earlyIn v ts d h with
 | none => rw [hE] at hb; exact .inl ⟨rfl, hb O hO⟩
 | some b =>
  rw [hE] at hb
  refine .inr ⟨b, rfl, hb.1, hb.2.1, fun hq => ?_⟩
  rcases hb.2.2 O hO hq with h1 | ⟨h1, h2⟩
  ·exact .inl h1
  ·refine .inr ⟨h1, ?_⟩
   rcases h2 with h2 | h2
   ·rw [h2]; exact fewer_irr _
   ·cases hf : fewer O b
    ·rfl
    ·have := fewer_trans h2 hf
     rw [fewer_irr] at this
     cases this
theorem all_rise {n : Nat} (hn : n < 6) {c : List Int} (h : c ∈ allChoices n) : rising n (-1) c = true := by
 obtain ⟨i, _, hi, hc⟩ := chFrom_mem.1 h
 exact choices_rise ⟨n, by omega⟩ ⟨i, by omega⟩ c hc
theorem shrinks_len (v : Farm) (ts : List Truth) (c : List Int) (d : Nat) : (shrinksOf v ts c d).length ≤ c.length := List.length_filter_le _ _
end Go.Am.Room
set_option maxRecDepth 8000
namespace Go.Am.Room
def QXFFaQ7 := And.intro @encFarm_eq (And.intro @farmCells_eq (And.intro @encPlot_eq (And.intro @encLook_eq (And.intro @encSpan_eq (And.intro @S_mapPlot (And.intro @S_mapLook (And.intro @S_mapSpan (And.intro @T_sapp (And.intro @List.length_append.{0} (And.intro @Int.toNat_natCast (And.intro @S_mapT (And.intro @truthsAV_eq (And.intro @encTruth_eq (@S_u8s))))))))))))))
def oneOf (s : Span) (n : Int) : Int := s.lo + n.tmod (s.hi - s.lo + 1)
theorem oneOf_in {s : Span} {n : Int} (hs : s.lo ≤ s.hi) (hn : 0 ≤ n) : s.lo ≤ oneOf s n ∧ oneOf s n ≤ s.hi := by
 have h1 := Int.tmod_nonneg (s.hi - s.lo + 1) hn
 have h2 := Int.tmod_lt_of_pos n (show 0 < s.hi - s.lo + 1 by omega)
 simp only [oneOf]; omega
theorem one_ok (s : Span) (n : Int) (h0 : 0 ≤ s.lo) (h1 : s.lo ≤ s.hi) (h2 : s.hi < 1000000) (hn : 0 ≤ n) (hn2 : n < 9223372036854775808) : Pure T 40 [encSpan s, .int .i64 n] (.int .i64 (oneOf s n)) := by
 refine pure_fn (af := a40) rfl (by simp [a40]) dd ?_
 have hin := oneOf_in h1 hn
 have w1 : IntKind.i64.wrap (s.hi - s.lo) = s.hi - s.lo := wrap64 ⟨by omega, by omega⟩
 have w2 : IntKind.i64.wrap (s.hi - s.lo + 1) = s.hi - s.lo + 1 := wrap64 ⟨by omega, by omega⟩
 have w3 : IntKind.i64.wrap (s.lo + n.tmod (s.hi - s.lo + 1)) = s.lo + n.tmod (s.hi - s.lo + 1) := wrap64 ⟨by simp only [oneOf] at hin; omega, by simp only [oneOf] at hin; omega⟩
 (repeat (first | simp only [↓QA, QB, Nat.reduceLT, reduceIte, Nat.reduceEqDiff, Nat.reduceAdd, Nat.reduceLeDiff, Nat.reduceMul, Nat.reduceBEq, QXFFaQ7, a40, w1, w2, V_rem _ _ _ (show (s.hi - s.lo + 1 : Int) ≠ 0 by omega), w3, oneOf] | refine rd0 rfl ?_))
def anyT (ts : List Truth) (x : List Int) : Truth := (ts[((turnOf x 0 + 251 * turnOf x 1).tmod ts.length).toNat]?).getD ⟨[], []⟩
def flOf (F : List (List Int)) (p : Nat) : List Int := (F[p]?).getD []
def anyAt (F : List (List Int)) (x : List Int) (p : Nat) : Int := ((flOf F p)[((turnOf x (2 + p)).tmod (flOf F p).length).toNat]?).getD 0
def anyF (F : List (List Int)) (x : List Int) (n : Nat) : List Int := (List.range n).map (anyAt F x)
theorem anyF_len (F : List (List Int)) (x : List Int) (n : Nat) : (anyF F x n).length = n := by simp [anyF]
theorem anyF_succ (F : List (List Int)) (x : List Int) (n : Nat) : anyF F x (n + 1) = anyF F x n ++ [anyAt F x n] := by
 simp [anyF, List.range_succ]
theorem anyT_mem {ts : List Truth} (h : ts ≠ []) {x : List Int} (hx : Bytes x) : ∃ j : Nat, (turnOf x 0 + 251 * turnOf x 1).tmod ts.length = (j : Int) ∧ ∃ hj : j < ts.length, ts[j] = anyT ts x := by
 have b0 := turnOf_bd hx 0
 have b1 := turnOf_bd hx 1
 obtain ⟨j, hj, hl⟩ := nat_rem (a := turnOf x 0 + 251 * turnOf x 1) (by omega) (List.length_pos_iff.2 h)
 refine ⟨j, hj, hl, ?_⟩
 rw [anyT, hj, Int.toNat_natCast, List.getElem?_eq_getElem hl, Option.getD_some]
theorem anyAt_mem {F : List (List Int)} {x : List Int} {p : Nat} (hx : Bytes x) (hp : p < F.length) (hne : F[p] ≠ []) : ∃ j : Nat, (turnOf x (2 + p)).tmod F[p].length = (j : Int) ∧ ∃ hj : j < F[p].length, F[p][j] = anyAt F x p := by
 have b0 := turnOf_bd hx (2 + p)
 obtain ⟨j, hj, hl⟩ := nat_rem (a := turnOf x (2 + p)) b0.1 (List.length_pos_iff.2 hne)
 refine ⟨j, hj, hl, ?_⟩
 have e : flOf F p = F[p] := by rw [flOf, List.getElem?_eq_getElem hp, Option.getD_some]
 rw [anyAt, e, hj, Int.toNat_natCast, List.getElem?_eq_getElem hl, Option.getD_some]
set_option maxHeartbeats 1000000 in
theorem any1_ok (v : Farm) (x : List Int) (hv : Vd v) (hx : Bytes x) (hne : truths v [] ≠ []) :
  Pure T 48 [encFarm v, u8s x] (.tuple [ints (anyT (truths v []) x).rain, ints (anyF (anyT (truths v []) x).fl x v.plots.length)]) := by
 refine pure_fn (af := a48) rfl (by simp [a48]) dd ?_
 have hno := hv.npl
 have hnr := hv.nra
 have hll := truths_len hv []
 have htr := rtruths_ok v hv [] (by simp)
 have hts : ∀ t ∈ truths v [], TOk v t := fun t ht => tok_of hv ht
 obtain ⟨ts, htse⟩ : ∃ ts, truths v [] = ts := ⟨_, rfl⟩
 rw [htse] at hne htr hll hts
 rw [htse]
 obtain ⟨j, hj, hjl, hje⟩ := anyT_mem hne hx
 have ht := hts _ (List.getElem_mem hjl)
 rw [hje] at ht
 obtain ⟨t, hte⟩ : ∃ t, anyT ts x = t := ⟨_, rfl⟩
 rw [hte] at hje ht
 rw [hte]
 obtain ⟨R, F⟩ := t
 have hFl : F.length = v.plots.length := ht.len
 have hFp : ∀ p (h : p < F.length), F[p] ≠ [] ∧ F[p].length ≤ 7 := fun p h => by
  have := ht.fl p (by omega)
  rw [flAt_get (t := ⟨R, F⟩) h] at this
  exact ⟨this.1, this.2.1⟩
 rw [← hFl] at hno ⊢
 obtain ⟨N, hN⟩ : ∃ N, F.length = N := ⟨_, rfl⟩
 rw [hN] at hno
 rw [hN]
 have b0 := turnOf_bd hx 0
 have b1 := turnOf_bd hx 1
 have w1 : IntKind.i64.wrap (251 * turnOf x 1) = 251 * turnOf x 1 := wrap64 ⟨by omega, by omega⟩
 have w2 : IntKind.i64.wrap (turnOf x 0 + 251 * turnOf x 1) = turnOf x 0 + 251 * turnOf x 1 := wrap64 ⟨by omega, by omega⟩
 have hlz : ((ts.length : Nat) : Int) ≠ 0 := by omega
 simp only
 (repeat (first | simp only [↓QA, QB, Nat.reduceLT, reduceIte, Nat.reduceEqDiff, Nat.reduceAdd, Nat.reduceLeDiff, Nat.reduceMul, Nat.reduceBEq, QXFFaQ7, a48, u8s] | refine rd0 rfl ?_))
 refine callK_v htr (farm_nil v) (farm_nil_ok v) ?_
 (repeat (first | simp only [↓QA, QB, Nat.reduceLT, reduceIte, Nat.reduceEqDiff, Nat.reduceAdd, Nat.reduceLeDiff, Nat.reduceMul, Nat.reduceBEq, QXFFaQ7, u8s] | refine rd0 rfl ?_))
 ((first | refine callK_d (turn_ok x 0 hx (by omega)) rfl dd ?_ | refine callD_d (turn_ok x 0 hx (by omega)) rfl dd ?_); (repeat (first | simp only [↓QA, QB, Nat.reduceLT, reduceIte, Nat.reduceEqDiff, Nat.reduceAdd, Nat.reduceLeDiff, Nat.reduceMul, Nat.reduceBEq, QXFFaQ7, u8s] | refine rd0 rfl ?_)))
 ((first | refine callK_d (turn_ok x 1 hx (by omega)) rfl dd ?_ | refine callD_d (turn_ok x 1 hx (by omega)) rfl dd ?_); (repeat (first | simp only [↓QA, QB, Nat.reduceLT, reduceIte, Nat.reduceEqDiff, Nat.reduceAdd, Nat.reduceLeDiff, Nat.reduceMul, Nat.reduceBEq, QXFFaQ7, u8s, w1, w2, V_rem _ _ _ hlz, hj, hjl, hje] | refine rd0 rfl ?_)))
 refine ghostK 8 1 [] rfl ?_
 refine loopE (S := Nat × Bool) (0, false) (fun s => s.1 ≤ N) (fun s => N - s.1)
  (fun s => [(1, u8s x), (7, .ptr 1 0), (8, .lit ((anyF F x s.1).map (.int .i64)) false (some 2)), (9, .int .i64 s.1)]) (fun s => [.cells (farmCells v), .cells [ints R, .lit (F.map ints) false none], .tok 1 s.1 s.2]) (by simp) (by simp [farmCells, ints]) ?_ fun s hs => ?_
 ·try simp only [TrimX, QE, Nat.reduceLT, reduceIte, Nat.reduceEqDiff, Nat.reduceAdd, Nat.reduceLeDiff, Nat.reduceMul, Nat.reduceBEq, QXFFaQ7, u8s]
  try simp [anyF]
 ·obtain ⟨k, ex⟩ := s
  simp only at hs
  have hl := anyF_len F x k
  (repeat (first | simp only [↓QA, QB, Nat.reduceLT, reduceIte, Nat.reduceEqDiff, Nat.reduceAdd, Nat.reduceLeDiff, Nat.reduceMul, Nat.reduceBEq, QXFFaQ7, L48_0, u8s, hN] | refine rd0 rfl ?_))
  refine iteP_intro (fun h => ?_) fun h => ?_
  ·have hk1 : k < F.length := by rw [hN]; simpa using h
   have hw := wrapN (show k < N by omega) (by omega)
   obtain ⟨hk2, hk3⟩ := hFp k hk1
   obtain ⟨i, hi, hil, hie⟩ := anyAt_mem hx hk1 hk2
   obtain ⟨S, hS⟩ : ∃ S, F[k] = S := ⟨_, rfl⟩
   simp only [hS] at hk2 hk3 hi hil hie
   have hSz : ((S.length : Nat) : Int) ≠ 0 := by have := List.length_pos_iff.2 hk2; omega
   have hw2 : IntKind.i64.wrap (2 + (k : Int)) = ((2 + k : Nat) : Int) := by rw [wrap64 ⟨by omega, by omega⟩]; omega
   have hb := turnOf_bd hx (2 + k)
   have hap := fun (b c : ABlk) (τ : St) => append_intT (σ := b :: c :: .tok 1 k ex :: τ) (l := anyF F x k) (a := anyAt F x k) (ex := ex) (t := 2) (by omega) (by rw [hl]; rfl)
   rw [hl] at hap
   (repeat (first | simp only [↓QA, QB, Nat.reduceLT, reduceIte, Nat.reduceEqDiff, Nat.reduceAdd, Nat.reduceLeDiff, Nat.reduceMul, Nat.reduceBEq, QXFFaQ7, hw2, hk1, hS] | refine rd0 rfl ?_))
   ((first | refine callK_d (turn_ok x (2 + k) hx (by omega)) rfl dd ?_ | refine callD_d (turn_ok x (2 + k) hx (by omega)) rfl dd ?_); (repeat (first | simp only [↓QA, QB, Nat.reduceLT, reduceIte, Nat.reduceEqDiff, Nat.reduceAdd, Nat.reduceLeDiff, Nat.reduceMul, Nat.reduceBEq, QXFFaQ7, V_rem _ _ _ hSz, hi, hil, hie, hap, hw, hk1, hS] | refine rd0 rfl ?_)))
   refine ⟨(k + 1, true), by simp only; omega, by simp only; omega, ?_⟩
   try simp only [TrimX, QE, Nat.reduceLT, reduceIte, Nat.reduceEqDiff, Nat.reduceAdd, Nat.reduceLeDiff, Nat.reduceMul, Nat.reduceBEq, QXFFaQ7, hw, S_mapI, anyF_succ, u8s, List.map_append, List.map_cons, List.map_nil]
   try simp [okBlk]
  ·have hk1 : k = N := by simp at h; omega
   (repeat (first | simp only [↓QA, QB, Nat.reduceLT, reduceIte, Nat.reduceEqDiff, Nat.reduceAdd, Nat.reduceLeDiff, Nat.reduceMul, Nat.reduceBEq, QXFFaQ7, hk1] | refine rd0 rfl ?_))
end Go.Am.Room
set_option maxRecDepth 8000
namespace Go.Am.Room
def QXFFaQ8 := And.intro @encFarm_eq (And.intro @farmCells_eq (And.intro @encPlot_eq (And.intro @encLook_eq (And.intro @encSpan_eq (And.intro @S_mapPlot (And.intro @S_mapLook (And.intro @S_mapSpan (And.intro @T_sapp (And.intro @List.length_append.{0} (And.intro @Int.toNat_natCast (@S_u8s)))))))))))
theorem all_lst {n : Nat} (hn : n ≤ 6) {c : List Int} (h : c ∈ allChoices n) : ∃ s, lst n s = c := by
 rw [all_sets hn, setsAll, List.mem_map] at h
 obtain ⟨s, _, h⟩ := h
 exact ⟨s, h⟩
theorem sub_rise {n : Nat} (hn : n ≤ 6) {c : List Int} (h : c ∈ allChoices n) (q : Int → Bool) : rising n (-1) (c.filter q) = true := by
 obtain ⟨s, rfl⟩ := all_lst hn h
 rw [lst, List.filter_filter]
 exact rising_filter _ _ _ _ _ (by omega) (by omega)
theorem does_iff {v : Farm} {ts : List Truth} {c : List Int} {d : Nat} {h : Int} : doesB v ts c d h = true ↔ h ≤ handsOf v c ∧ ∀ p ∈ c, greenB v ts p.toNat d = true := by
 rw [doesB, Bool.and_eq_true, decide_eq_true_eq, List.all_eq_true]
theorem ship_in {v : Farm} {ts : List Truth} (hts : ∀ t ∈ ts, TOk v t) {t : Truth} (ht : t ∈ ts) {p d : Nat} (hp : p < v.plots.length) {h : Int} (hh : h ∈ flAt t p) : (fullS ts p d).lo ≤ ptsT t d h ∧ ptsT t d h ≤ (fullS ts p d).hi :=
 (spanL_spec (fullIn_ne hts (List.ne_nil_of_mem ht) hp d)).2.2 _ (full_mem.2 ⟨t, ht, h, hh, rfl⟩)
set_option maxHeartbeats 2000000 in
theorem farmship_ok (v : Farm) (a c : Nat) (x : List Int) (hf : Fits v) (ha : a < 256) (hc' : c < 65536) (hx : Bytes x) : Pure T 8 [encFarm v, .agg [.int .u8 a, .int .u16 c], u8s x] (.bool true) := by
 refine pure_fn (af := a8) rfl (by simp [a8]) dd ?_
 have hxl := hx.2
 cases hs : someV v
 ·have e1 := earlyOf_bad hs
  have g : (earlyErr v 0 0 == 0) = false := by simpa using early_bad hs
  (repeat (first | simp only [↓QA, QB, Nat.reduceLT, reduceIte, Nat.reduceEqDiff, Nat.reduceAdd, Nat.reduceLeDiff, Nat.reduceMul, Nat.reduceBEq, QXFFaQ8, a8] | refine rd0 rfl ?_))
  ((first | refine callK_d (some2_ok v hf) rfl dd ?_ | refine callD_d (some2_ok v hf) rfl dd ?_); (repeat (first | simp only [↓QA, QB, Nat.reduceLT, reduceIte, Nat.reduceEqDiff, Nat.reduceAdd, Nat.reduceLeDiff, Nat.reduceMul, Nat.reduceBEq, QXFFaQ8, hs] | refine rd0 rfl ?_)))
  ((first | refine callK_d (pearly_ok v 0 0 hf) rfl dd ?_ | refine callD_d (pearly_ok v 0 0 hf) rfl dd ?_); (repeat (first | simp only [↓QA, QB, Nat.reduceLT, reduceIte, Nat.reduceEqDiff, Nat.reduceAdd, Nat.reduceLeDiff, Nat.reduceMul, Nat.reduceBEq, QXFFaQ8, e1, encLLE, g] | refine rd0 rfl ?_)))
  refine callK_d awake_ok rfl datas_nil ?_
  (repeat (first | simp only [↓QA, QB, Nat.reduceLT, reduceIte, Nat.reduceEqDiff, Nat.reduceAdd, Nat.reduceLeDiff, Nat.reduceMul, Nat.reduceBEq, QXFFaQ8] | refine rd0 rfl ?_))
 ·obtain ⟨hc, hne⟩ := some_iff.1 hs
  have hv := vd_of_check hc
  have hnr := hv.nra
  have hnp := hv.npl
  have hwy := hv.way
  have hri := hv.ripe
  have hfu := hv.full
  have hwa : IntKind.i64.wrap (a : Int) = a := wrap64 ⟨by omega, by omega⟩
  have hwc : IntKind.i64.wrap (c : Int) = c := wrap64 ⟨by omega, by omega⟩
  have hwr : IntKind.i64.wrap ((v.rain.length : Int) + 1) = ((v.rain.length + 1 : Nat) : Int) := wrapN (show v.rain.length < v.rain.length + 1 by omega) (by omega)
  have hrz : ((v.rain.length + 1 : Nat) : Int) ≠ 0 := by omega
  obtain ⟨d, hdj, hdl⟩ := nat_rem (a := (a : Int)) (by omega) (show 0 < v.rain.length + 1 by omega)
  obtain ⟨w, hwj, hwl⟩ := nat_rem (a := (c : Int)) (by omega) (show 0 < 401 by omega)
  have hvr := V_rem .i64 (c : Int) 401 (by omega)
  have hwj' : (c : Int).tmod 401 = (w : Int) := hwj
  have hdr : d ≤ v.rain.length := by omega
  have e1 := early_tr (h := (w : Int)) hs hdr (by omega)
  have hg := fun (p : Nat) (hp : p < v.plots.length) => grown_tr hs hp hdr
  have hany := any1_ok v x hv hx hne
  obtain ⟨j, _, hjl, hje⟩ := anyT_mem hne hx
  have ht : anyT (truths v []) x ∈ truths v [] := by rw [← hje]; exact List.getElem_mem hjl
  have hts : ∀ t ∈ truths v [], TOk v t := fun t ht => tok_of hv ht
  obtain ⟨ts, htse⟩ : ∃ ts, truths v [] = ts := ⟨_, rfl⟩
  rw [htse] at hne hany ht hts e1
  simp only [htse] at hg
  have okz : ((0 : Int) == 0) = true := rfl
  rcases early_law (v := v) (by omega) ts d w (O := []) (chFrom_mem.2 ⟨0, by omega, by omega, nil_choice _⟩) with ⟨h1, _⟩ | ⟨L, h1, h2, h3, _⟩
  ·rw [h1, earlyR] at e1
   (repeat (first | simp only [↓QA, QB, Nat.reduceLT, reduceIte, Nat.reduceEqDiff, Nat.reduceAdd, Nat.reduceLeDiff, Nat.reduceMul, Nat.reduceBEq, QXFFaQ8, a8] | refine rd0 rfl ?_))
   ((first | refine callK_d (some2_ok v hf) rfl dd ?_ | refine callD_d (some2_ok v hf) rfl dd ?_); (repeat (first | simp only [↓QA, QB, Nat.reduceLT, reduceIte, Nat.reduceEqDiff, Nat.reduceAdd, Nat.reduceLeDiff, Nat.reduceMul, Nat.reduceBEq, QXFFaQ8, hs] | refine rd0 rfl ?_)))
   (repeat (first | simp only [↓QA, QB, Nat.reduceLT, reduceIte, Nat.reduceEqDiff, Nat.reduceAdd, Nat.reduceLeDiff, Nat.reduceMul, Nat.reduceBEq, QXFFaQ8, hwa, hwc, hwr, V_rem _ _ _ hrz, hvr, hdj, hwj'] | refine rd0 rfl ?_))
   ((first | refine callK_d (pearly_ok v d w hf) rfl dd ?_ | refine callD_d (pearly_ok v d w hf) rfl dd ?_); (repeat (first | simp only [↓QA, QB, Nat.reduceLT, reduceIte, Nat.reduceEqDiff, Nat.reduceAdd, Nat.reduceLeDiff, Nat.reduceMul, Nat.reduceBEq, QXFFaQ8, encLLE, e1, show ((9 : Int) == 0) = false from rfl, show ((9 : Int) == 9) = true from rfl, List.map_nil, List.length_nil, show (((0 : Nat) : Int) == 0) = true from rfl] | refine rd0 rfl ?_)))
   refine callK_d awake_ok rfl datas_nil ?_
   (repeat (first | simp only [↓QA, QB, Nat.reduceLT, reduceIte, Nat.reduceEqDiff, Nat.reduceAdd, Nat.reduceLeDiff, Nat.reduceMul, Nat.reduceBEq, QXFFaQ8] | refine rd0 rfl ?_))
  ·rw [h1, earlyR] at e1
   obtain ⟨h4, h5⟩ := does_iff.1 h3
   obtain ⟨hLl, hLp⟩ := all_len h2
   have hr1 : rising v.plots.length (-1) L = true := all_rise (by omega) h2
   have hr2 : rising v.plots.length (-1) (shrinksOf v ts L d) = true := sub_rise (by omega) h2 _
   have hsl := shrinks_len v ts L d
   have hsm : ∀ p, p ∈ shrinksOf v ts L d ↔ p ∈ L ∧ wholeB v ts p.toNat d = false := fun p => by rw [shrinksOf, List.mem_filter, Bool.not_eq_true']
   obtain ⟨S, hS⟩ : ∃ S, shrinksOf v ts L d = S := ⟨_, rfl⟩
   rw [hS] at e1 hr2 hsl
   simp only [hS] at hsm
   have hha : decide (handsOf v L < (w : Int)) = false := by simp; omega
   obtain ⟨y, hy⟩ : ∃ y, oneOf v.way (turnOf x 6) = y := ⟨_, rfl⟩
   have ht6 := turnOf_bd hx 6
   have hyw := oneOf_in (s := v.way) (n := turnOf x 6) (by omega) ht6.1
   have hone := one_ok v.way (turnOf x 6) (by omega) (by omega) (by omega) ht6.1 (by omega)
   rw [hy] at hyw hone
   obtain ⟨t, hte⟩ : ∃ t, anyT ts x = t := ⟨_, rfl⟩
   rw [hte] at hany ht
   have htk := hts t ht
   have hFl := htk.len
   have hsi := fun {p : Nat} (hp : p < v.plots.length) {h : Int} (hh : h ∈ flAt t p) => ship_in (d := d) hts ht hp hh
   have hA : ∀ p (hp : p < v.plots.length), (anyF t.fl x v.plots.length)[p]'(by rw [anyF_len]; exact hp) ∈ flAt t p := fun p hp => by
    have h6 := htk.fl p hp
    have hpf : p < t.fl.length := by omega
    rw [flAt_get hpf] at h6 ⊢
    obtain ⟨i, _, hil, hie⟩ := anyAt_mem hx hpf h6.1
    have : (anyF t.fl x v.plots.length)[p]'(by rw [anyF_len]; exact hp) = anyAt t.fl x p := by simp [anyF]
    rw [this, ← hie]
    exact List.getElem_mem hil
   have hAl := anyF_len t.fl x v.plots.length
   obtain ⟨A, hAe⟩ : ∃ A, anyF t.fl x v.plots.length = A := ⟨_, rfl⟩
   simp only [hAe] at hany hA hAl
   have hflb := htk.fl
   have hrb := rain_bd hv htk.rain
   have hrl := htk.rain.1
   obtain ⟨R, F⟩ := t
   simp only at hany hrb hrl hFl
   (repeat (first | simp only [↓QA, QB, Nat.reduceLT, reduceIte, Nat.reduceEqDiff, Nat.reduceAdd, Nat.reduceLeDiff, Nat.reduceMul, Nat.reduceBEq, QXFFaQ8, a8, u8s] | refine rd0 rfl ?_))
   ((first | refine callK_d (some2_ok v hf) rfl dd ?_ | refine callD_d (some2_ok v hf) rfl dd ?_); (repeat (first | simp only [↓QA, QB, Nat.reduceLT, reduceIte, Nat.reduceEqDiff, Nat.reduceAdd, Nat.reduceLeDiff, Nat.reduceMul, Nat.reduceBEq, QXFFaQ8, hs, u8s] | refine rd0 rfl ?_)))
   (repeat (first | simp only [↓QA, QB, Nat.reduceLT, reduceIte, Nat.reduceEqDiff, Nat.reduceAdd, Nat.reduceLeDiff, Nat.reduceMul, Nat.reduceBEq, QXFFaQ8, hwa, hwc, hwr, V_rem _ _ _ hrz, hvr, hdj, hwj', u8s] | refine rd0 rfl ?_))
   ((first | refine callK_d (pearly_ok v d w hf) rfl dd ?_ | refine callD_d (pearly_ok v d w hf) rfl dd ?_); (repeat (first | simp only [↓QA, QB, Nat.reduceLT, reduceIte, Nat.reduceEqDiff, Nat.reduceAdd, Nat.reduceLeDiff, Nat.reduceMul, Nat.reduceBEq, QXFFaQ8, encLLE, e1, okz, u8s] | refine rd0 rfl ?_)))
   ((first | refine callK_d (rising_ok L v.plots.length (by omega)) rfl dd ?_ | refine callD_d (rising_ok L v.plots.length (by omega)) rfl dd ?_); (repeat (first | simp only [↓QA, QB, Nat.reduceLT, reduceIte, Nat.reduceEqDiff, Nat.reduceAdd, Nat.reduceLeDiff, Nat.reduceMul, Nat.reduceBEq, QXFFaQ8, hr1, u8s] | refine rd0 rfl ?_)))
   ((first | refine callK_d (rising_ok S v.plots.length (by omega)) rfl dd ?_ | refine callD_d (rising_ok S v.plots.length (by omega)) rfl dd ?_); (repeat (first | simp only [↓QA, QB, Nat.reduceLT, reduceIte, Nat.reduceEqDiff, Nat.reduceAdd, Nat.reduceLeDiff, Nat.reduceMul, Nat.reduceBEq, QXFFaQ8, hr2, u8s] | refine rd0 rfl ?_)))
   ((first | refine callK_d (rhands_ok v hv L hLp (by omega)) rfl dd ?_ | refine callD_d (rhands_ok v hv L hLp (by omega)) rfl dd ?_); (repeat (first | simp only [↓QA, QB, Nat.reduceLT, reduceIte, Nat.reduceEqDiff, Nat.reduceAdd, Nat.reduceLeDiff, Nat.reduceMul, Nat.reduceBEq, QXFFaQ8, hha, u8s] | refine rd0 rfl ?_)))
   ((first | refine callK_d (hany) rfl dd ?_ | refine callD_d (hany) rfl dd ?_); (repeat (first | simp only [↓QA, QB, Nat.reduceLT, reduceIte, Nat.reduceEqDiff, Nat.reduceAdd, Nat.reduceLeDiff, Nat.reduceMul, Nat.reduceBEq, QXFFaQ8, u8s] | refine rd0 rfl ?_)))
   ((first | refine callK_d (turn_ok x 6 hx (by omega)) rfl dd ?_ | refine callD_d (turn_ok x 6 hx (by omega)) rfl dd ?_); (repeat (first | simp only [↓QA, QB, Nat.reduceLT, reduceIte, Nat.reduceEqDiff, Nat.reduceAdd, Nat.reduceLeDiff, Nat.reduceMul, Nat.reduceBEq, QXFFaQ8, u8s] | refine rd0 rfl ?_)))
   ((first | refine callK_d (hone) rfl dd ?_ | refine callD_d (hone) rfl dd ?_); (repeat (first | simp only [↓QA, QB, Nat.reduceLT, reduceIte, Nat.reduceEqDiff, Nat.reduceAdd, Nat.reduceLeDiff, Nat.reduceMul, Nat.reduceBEq, QXFFaQ8, u8s] | refine rd0 rfl ?_)))
   refine loopE (S := Nat) 0 (fun k => k ≤ L.length) (fun k => L.length - k)
    (fun k => [(3, .ptr 0 0), (6, .bool false), (10, .int .i64 d), (12, ints L), (13, ints S), (15, ints R), (16, ints A), (17, .int .i64 y), (18, .int .i64 k)]) (fun _ => [.cells (farmCells v), .cells [.int .u8 a, .int .u16 c]]) (by simp) (by simp [farmCells, ints]) ?_ fun k hk => ?_
   ·try simp only [TrimX, QE, Nat.reduceLT, reduceIte, Nat.reduceEqDiff, Nat.reduceAdd, Nat.reduceLeDiff, Nat.reduceMul, Nat.reduceBEq, QXFFaQ8]
    try simp
   ·(repeat (first | simp only [↓QA, QB, Nat.reduceLT, reduceIte, Nat.reduceEqDiff, Nat.reduceAdd, Nat.reduceLeDiff, Nat.reduceMul, Nat.reduceBEq, QXFFaQ8, L8_0] | refine rd0 rfl ?_))
    refine iteP_intro (fun h => ?_) fun h => ?_
    ·have hk1 : k < L.length := by simpa using h
     have hw := wrapN hk1 (by omega)
     have hLm := List.getElem_mem hk1
     have hpb := hLp _ hLm
     have hgr := h5 _ hLm
     have hsmk := hsm L[k]
     obtain ⟨P, hP⟩ : ∃ P : Nat, L[k] = (P : Int) := ⟨L[k].toNat, by omega⟩
     rw [hP] at hpb hgr hLm hsmk
     simp only [Int.toNat_natCast] at hgr hsmk
     have hPl : P < v.plots.length := by omega
     have hPA : P < A.length := by omega
     have hAm := hA P hPl
     have hin := hsi hPl hAm
     have hab := (hflb P hPl).2.2 _ hAm
     obtain ⟨H, hH⟩ : ∃ H : Nat, A[P] = (H : Int) := ⟨A[P].toNat, by omega⟩
     rw [hH] at hin
     have hpo := points_ok R H d hrb (by omega) (by omega)
     simp only [ptsT, ptsL, Int.toNat_natCast] at hin
     obtain ⟨n, hn⟩ : ∃ n, pts (rl R) H d = n := ⟨_, rfl⟩
     rw [hn] at hin hpo
     have hb2 := fullS_bd hv hts hne hPl hdr
     rw [greenB, decide_eq_true_eq] at hgr
     have hwn : IntKind.i64.wrap (n + y) = n + y := wrap64 ⟨by omega, by omega⟩
     have g1 : decide (v.ripe < n + y) = false := by simp; omega
     (repeat (first | simp only [↓QA, QB, Nat.reduceLT, reduceIte, Nat.reduceEqDiff, Nat.reduceAdd, Nat.reduceLeDiff, Nat.reduceMul, Nat.reduceBEq, QXFFaQ8, hk1, hP, hPA, hH] | refine rd0 rfl ?_))
     ((first | refine callK_d (hpo) rfl dd ?_ | refine callD_d (hpo) rfl dd ?_); (repeat (first | simp only [↓QA, QB, Nat.reduceLT, reduceIte, Nat.reduceEqDiff, Nat.reduceAdd, Nat.reduceLeDiff, Nat.reduceMul, Nat.reduceBEq, QXFFaQ8, hwn, g1, hk1, hP, hPA, hH] | refine rd0 rfl ?_)))
     cases h7 : decide (n < v.full)
     ·(repeat (first | simp only [↓QA, QB, Nat.reduceLT, reduceIte, Nat.reduceEqDiff, Nat.reduceAdd, Nat.reduceLeDiff, Nat.reduceMul, Nat.reduceBEq, QXFFaQ8, h7, hw] | refine rd0 rfl ?_))
      refine ⟨k + 1, by omega, by omega, ?_⟩
      try simp only [TrimX, QE, Nat.reduceLT, reduceIte, Nat.reduceEqDiff, Nat.reduceAdd, Nat.reduceLeDiff, Nat.reduceMul, Nat.reduceBEq, QXFFaQ8, hw]
      try simp [okBlk]
     ·have h7' : n < v.full := by simpa using h7
      have h8 : S.contains (P : Int) = true := by
       rw [List.contains_iff_mem, hsmk]
       refine ⟨hLm, ?_⟩
       rw [wholeB, decide_eq_false_iff_not]
       omega
      (repeat (first | simp only [↓QA, QB, Nat.reduceLT, reduceIte, Nat.reduceEqDiff, Nat.reduceAdd, Nat.reduceLeDiff, Nat.reduceMul, Nat.reduceBEq, QXFFaQ8, h7, hk1, hP] | refine rd0 rfl ?_))
      ((first | refine callK_d (has_ok S P (by omega)) rfl dd ?_ | refine callD_d (has_ok S P (by omega)) rfl dd ?_); (repeat (first | simp only [↓QA, QB, Nat.reduceLT, reduceIte, Nat.reduceEqDiff, Nat.reduceAdd, Nat.reduceLeDiff, Nat.reduceMul, Nat.reduceBEq, QXFFaQ8, h8, hw, hk1, hP] | refine rd0 rfl ?_)))
      refine ⟨k + 1, by omega, by omega, ?_⟩
      try simp only [TrimX, QE, Nat.reduceLT, reduceIte, Nat.reduceEqDiff, Nat.reduceAdd, Nat.reduceLeDiff, Nat.reduceMul, Nat.reduceBEq, QXFFaQ8, hw]
      try simp [okBlk]
    ·(repeat (first | simp only [↓QA, QB, Nat.reduceLT, reduceIte, Nat.reduceEqDiff, Nat.reduceAdd, Nat.reduceLeDiff, Nat.reduceMul, Nat.reduceBEq, QXFFaQ8] | refine rd0 rfl ?_))
     refine loopE (S := Nat) 0 (fun k => k ≤ S.length) (fun k => S.length - k)
      (fun k => [(3, .ptr 0 0), (6, .bool false), (10, .int .i64 d), (12, ints L), (13, ints S), (20, .int .i64 k)]) (fun _ => [.cells (farmCells v), .cells [.int .u8 a, .int .u16 c]]) (by simp) (by simp [farmCells, ints]) ?_ fun k hk => ?_
     ·try simp only [TrimX, QE, Nat.reduceLT, reduceIte, Nat.reduceEqDiff, Nat.reduceAdd, Nat.reduceLeDiff, Nat.reduceMul, Nat.reduceBEq, QXFFaQ8]
      try simp
     ·(repeat (first | simp only [↓QA, QB, Nat.reduceLT, reduceIte, Nat.reduceEqDiff, Nat.reduceAdd, Nat.reduceLeDiff, Nat.reduceMul, Nat.reduceBEq, QXFFaQ8, L8_2] | refine rd0 rfl ?_))
      refine iteP_intro (fun h => ?_) fun h => ?_
      ·have hk1 : k < S.length := by simpa using h
       have hw := wrapN hk1 (by omega)
       obtain ⟨hLm, hwh⟩ := (hsm S[k]).1 (List.getElem_mem hk1)
       have hpb := hLp _ hLm
       obtain ⟨P, hP⟩ : ∃ P : Nat, S[k] = (P : Int) := ⟨S[k].toNat, by omega⟩
       rw [hP] at hpb hLm hwh
       simp only [Int.toNat_natCast] at hwh
       have hPl : P < v.plots.length := by omega
       have e2 := hg P hPl
       rw [wholeB, decide_eq_false_iff_not] at hwh
       obtain ⟨s, hse⟩ : ∃ s, fullS ts P d = s := ⟨_, rfl⟩
       rw [hse] at e2 hwh
       have g1 : decide (v.full ≤ s.lo) = false := by simpa using hwh
       have h8 : L.contains (P : Int) = true := List.contains_iff_mem.2 hLm
       (repeat (first | simp only [↓QA, QB, Nat.reduceLT, reduceIte, Nat.reduceEqDiff, Nat.reduceAdd, Nat.reduceLeDiff, Nat.reduceMul, Nat.reduceBEq, QXFFaQ8] | refine rd0 rfl ?_))
       refine rK_dreg1 [.cells [.int .i64 0, .int .i64 0]] rfl ?_
       (repeat (first | simp only [↓QA, QB, Nat.reduceLT, reduceIte, Nat.reduceEqDiff, Nat.reduceAdd, Nat.reduceLeDiff, Nat.reduceMul, Nat.reduceBEq, QXFFaQ8, hk1, hP] | refine rd0 rfl ?_))
       ((first | refine callK_d (pgrown_ok v P d hf) rfl dd ?_ | refine callD_d (pgrown_ok v P d hf) rfl dd ?_); (repeat (first | simp only [↓QA, QB, Nat.reduceLT, reduceIte, Nat.reduceEqDiff, Nat.reduceAdd, Nat.reduceLeDiff, Nat.reduceMul, Nat.reduceBEq, QXFFaQ8, e2, encSE, okz, hk1, hP] | refine rd0 rfl ?_)))
       ((first | refine callK_d (has_ok L P (by omega)) rfl dd ?_ | refine callD_d (has_ok L P (by omega)) rfl dd ?_); (repeat (first | simp only [↓QA, QB, Nat.reduceLT, reduceIte, Nat.reduceEqDiff, Nat.reduceAdd, Nat.reduceLeDiff, Nat.reduceMul, Nat.reduceBEq, QXFFaQ8, h8, g1, hw, hk1, hP] | refine rd0 rfl ?_)))
       refine ⟨k + 1, by omega, by omega, ?_⟩
       try simp only [TrimX, QE, Nat.reduceLT, reduceIte, Nat.reduceEqDiff, Nat.reduceAdd, Nat.reduceLeDiff, Nat.reduceMul, Nat.reduceBEq, QXFFaQ8, hw]
       try simp [okBlk]
      ·(repeat (first | simp only [↓QA, QB, Nat.reduceLT, reduceIte, Nat.reduceEqDiff, Nat.reduceAdd, Nat.reduceLeDiff, Nat.reduceMul, Nat.reduceBEq, QXFFaQ8] | refine rd0 rfl ?_))
       refine callK_d awake_ok rfl datas_nil ?_
       (repeat (first | simp only [↓QA, QB, Nat.reduceLT, reduceIte, Nat.reduceEqDiff, Nat.reduceAdd, Nat.reduceLeDiff, Nat.reduceMul, Nat.reduceBEq, QXFFaQ8] | refine rd0 rfl ?_))
end Go.Am.Room
