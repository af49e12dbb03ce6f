/- A part of the proof of FarmShorter: an abstract machine, or what functions come to on it. -/
import Derived.Test.YtnioeddjaihmmaaOutQ6
import Derived.ChangeArms
import Derived.SizedLaws
import Derived.ChangeBears
import Derived.ChangeShapes
import Derived.WideShapes
import Derived.ProofKit
import Derived.OpenShut
import Derived.Lib.Strings
set_option linter.unusedVariables false
set_option linter.unusedSimpArgs false
set_option linter.defProp false
namespace Go.Am
open Go.ChangeShapes Go.WideShapes Go.ChangeAt Go.RowKit
variable {P : Program} {hh : String → Bool} {H : Type} {enc : TypeId × Value → H} {w : World} {sp : Nat → Bool} {held : Bool}
theorem typ_array {n k : Nat} {t e : TypeId} {cs : List AV} (hu : P.underlying t = some (.array k e)) (h : Typ P (n + 1) t cs) : Parts P n (List.replicate k e) cs := by
 simp only [Typ, hu] at h
 obtain ⟨parts, rfl, rfl, h2⟩ := h
 have key : ∀ parts : List (List AV), (∀ p ∈ parts, Typ P n e p) → Parts P n (List.replicate parts.length e) parts.flatten := by
  intro parts
  induction parts with
  | nil => intro _; rfl
  | cons p parts ih => intro hp; exact ⟨p, parts.flatten, rfl, hp p (by simp), ih fun q hq => hp q (List.mem_cons_of_mem _ hq)⟩
 exact key parts h2
theorem mkV_array {k : Nat} {t e : TypeId} {cs : List AV} (hu : P.underlying t = some (.array k e)) : mkV P t cs = .agg cs := by simp [mkV, hu]
end Go.Am
namespace Go.Am
variable {T : FuncId → Option AFunc}
theorem app_full {sz b : Nat} {σ : St} {xs ys : List AV} {tk t : Option Nat} {f : Bool} (h : AppOk sz b xs ys) (h0 : ys.length ≠ 0) :
  appendAV sz b σ (.lit xs true tk) (.lit ys f t) = some (.lit (xs ++ ys) false (some σ.length), σ ++ [.tok sz (xs.length + ys.length) true]) := by
 obtain ⟨h1, h2, h3, h4⟩ := h
 simp [appendAV, view, sized, h0, h1, h2, h3, h4]
theorem app_nil {sz b : Nat} {σ : St} {xs : List AV} {tk t : Option Nat} {f f' : Bool} : appendAV sz b σ (.lit xs f' tk) (.lit [] f t) = some (.lit xs f' tk, σ) := by
 simp [appendAV, view]
end Go.Am
namespace Go.Am
variable {T : FuncId → Option AFunc}
def intss (l : List (List Int)) : AV := .lit (l.map ints) false none
theorem data_intss (l : List (List Int)) : Data (intss l) := data_list data_ints l
end Go.Am
namespace Go.Am
instance (l : List (List Int)) : Dat (intss l) := ⟨data_intss l⟩
end Go.Am
namespace Go.Am.Room
theorem flat_le {α β : Type} (f : α → List β) (b : Nat) : ∀ l : List α, (∀ x ∈ l, (f x).length ≤ b) → (l.flatMap f).length ≤ l.length * b
 | [], _ => by simp
 | x :: l, h => by
  have h1 := h x (by simp)
  have h2 := flat_le f b l fun y hy => h y (List.mem_cons_of_mem _ hy)
  simp only [List.flatMap_cons, List.length_append, List.length_cons, Nat.add_mul]
  omega
theorem allCells_ints (l : List (List Int)) : allCells 1 (l.map ints) = true := L_allM 1 ints l fun x => C_lit _ _ _
theorem allCells_int (l : List Int) : allCells 1 (l.map (.int .i64)) = true := L_allM 1 _ l fun x => C_int _ _
open Go
variable {P : Program}
theorem tc_a2 {n : Nat} {t i : TypeId} {cs : List AV} (hi : P.underlying i = some (.int .u8)) (hs : P.underlying t = some (.array 2 i)) (h : Typ P (n + 2) t cs) : ∃ x y : Int, mkV P t cs = .agg [.int .u8 x, .int .u8 y] ∧ (0 ≤ x ∧ x < 256) ∧ (0 ≤ y ∧ y < 256) := by
 have e := mkV_array (cs := cs) hs
 obtain ⟨a, b, rfl, h1, c, d, rfl, h2, rfl⟩ := typ_array hs h
 obtain ⟨x, rfl, hx⟩ := typ_int hi h1
 obtain ⟨y, rfl, hy⟩ := typ_int hi h2
 exact ⟨x, y, e, wf_u8 hx, wf_u8 hy⟩
end Go.Am.Room
namespace Go.Am.Room
theorem ends_of {s : Span} {lo hi : Int} (h : lo ≤ s.lo ∧ s.lo ≤ s.hi ∧ s.hi ≤ hi) : ends s lo hi = 0 := by
 unfold ends
 rw [inR_iff.2 ⟨h.1, by omega⟩, inR_iff.2 ⟨by omega, h.2.2⟩]
 simp
 omega
theorem firstBad_no {α : Type} {f : Nat → α → Int} : ∀ {l : List α} {i : Nat}, (∀ x ∈ l, ∀ k, f k x = 0) → firstBad f l i = none
 | [], _, _ => rfl
 | x :: xs, i, h => by
  simp only [firstBad]
  rw [if_pos (h x (by simp) i)]
  exact firstBad_no fun y hy => h y (by simp [hy])
theorem firstBad_noI {α : Type} {f : Nat → α → Int} : ∀ {l : List α} {i : Nat}, (∀ k (h : k < l.length), f (i + k) l[k] = 0) → firstBad f l i = none
 | [], _, _ => rfl
 | x :: xs, i, h => by
  simp only [firstBad]
  rw [if_pos (show f i x = 0 from h 0 (by simp))]
  exact firstBad_noI fun k hk => by have := h (k + 1) (by simpa using hk); simpa [Nat.add_assoc, Nat.add_comm 1 k] using this
open Go
variable {P : Program}
theorem wf_u16 {x : Int} (h : (Lit.int .u16 x).wf = true) : 0 ≤ x ∧ x < 65536 := by
 simp [Lit.wf, IntKind.min, IntKind.max, IntKind.signed, IntKind.bits] at h
 omega
theorem ty_a2 {n : Nat} {cs : List AV} (T : Tys P) (h : Typ P (n + 2) 79 cs) : ∃ x y : Int, mkV P 79 cs = .agg [.int .u8 x, .int .u8 y] ∧ (0 ≤ x ∧ x < 256) ∧ (0 ≤ y ∧ y < 256) := tc_a2 T.u8 T.a2 h
theorem ty_want {n : Nat} {cs : List AV} (T : Tys P) (h : Typ P (n + 2) 65 cs) : ∃ x y : Int, mkV P 65 cs = .agg [.int .u8 x, .int .u16 y] ∧ (0 ≤ x ∧ x < 256) ∧ (0 ≤ y ∧ y < 65536) := by
 obtain ⟨e, a, b, rfl, h1, c, d, rfl, h2, rfl⟩ := typ_st T.want h
 obtain ⟨x, rfl, hx⟩ := typ_int T.u8 h1
 obtain ⟨y, rfl, hy⟩ := typ_int T.u16 h2
 exact ⟨x, y, e, wf_u8 hx, wf_u16 hy⟩
theorem ty_farm {n : Nat} {cs : List AV} (T : Tys P) (h : Typ P (n + 5) 28 cs) : ∃ s : Farm, mkV P 28 cs = encFarm s ∧ Fits s := by
 obtain ⟨r, h1, h2, _⟩ := ty_farmB T h
 exact ⟨r, h1, h2⟩
end Go.Am.Room
namespace Go.Am.Room
theorem check_of_vd {v : Farm} (h : Vd v) : check v = (0, 0, 0) := by
 have h1 := h.nra
 have h2 := h.npl
 have h3 := h.nlk
 have g1 : firstBad raErr v.rain 0 = none := firstBad_no fun s hs k => ends_of (h.ra s hs)
 have g2 : firstBad (plErr v) v.plots 0 = none := firstBad_noI fun k hk => by simpa using h.pl k hk
 have g3 : firstBad (lkErr v) v.looks 0 = none := firstBad_no fun x hx k => by
  have := h.lk x hx
  have a : inR x.plot 0 ((v.plots.length : Int) - 1) = true := inR_iff.2 (by omega)
  have b : inR x.day 0 (endOf v) = true := inR_iff.2 (by simp only [endOf]; omega)
  simp [lkErr, a, b, inR_iff.2 this.2.2]
 have e4 : check4 v = (0, 0, 0) := by rw [check4, if_neg (by omega), g3]
 have e3 : check3 v = (0, 0, 0) := by rw [check3, if_neg (by omega), g2]; exact e4
 have e0 : ends v.way 0 9 = 0 := ends_of h.way
 have e2 : check2 v = (0, 0, 0) := by
  rw [check2, if_neg (by simp [inR_iff.2 h.full, inR_iff.2 h.ripe, e0]), if_pos e0]; exact e3
 rw [check, if_neg (by simp [inR_iff.2 (show (1 : Int) ≤ v.rain.length ∧ (v.rain.length : Int) ≤ 7 by omega)]), g1]
 exact e2
theorem weatherTo_len {rs : List Span} (h : ∀ s ∈ rs, 0 ≤ s.lo ∧ s.lo ≤ s.hi ∧ s.hi ≤ 2) : ∀ k, (weatherTo rs k).length ≤ 3 ^ k
 | 0 => by simp [weatherTo]
 | k + 1 => by
  have ih := weatherTo_len h k
  by_cases hk : k < rs.length
  ·rw [weatherTo_succ hk, Nat.pow_succ]
   have := h _ (List.getElem_mem hk)
   refine Nat.le_trans (flat_le (ext rs[k]) 3 _ fun c _ => ?_) (Nat.mul_le_mul_right _ ih)
   simp only [ext, List.length_map, waysIn_len]
   omega
  ·simp only [weatherTo, List.getElem?_eq_none (Nat.le_of_not_lt hk)]
   rw [Nat.pow_succ]; omega
theorem weather_len {v : Farm} (h : Vd v) : (weather v).length ≤ 2187 := by
 refine Nat.le_trans (weatherTo_len h.ra _) ?_
 have := h.nra
 exact Nat.le_trans (Nat.pow_le_pow_right (by omega) this.2) (by decide)
theorem truths_len {v : Farm} (hv : Vd v) (but : List Int) : (truths v but).length ≤ 2187 := Nat.le_trans (List.length_filterMap_le _ _) (weather_len hv)
def app0 (sz : Nat) (σ : St) (xs : List AV) : AV × St := if xs.length = 0 then (.lit [] true none, σ) else (.lit xs false (some σ.length), σ ++ [.tok sz xs.length true])
theorem app0_eq {sz b : Nat} {σ : St} {xs : List AV} {f : Bool} {tk : Option Nat} (h : AppOk sz b [] xs) : appendAV sz b σ (.lit [] true none) (.lit xs f tk) = some ((app0 sz σ xs).1, (app0 sz σ xs).2) := by
 by_cases h0 : xs.length = 0
 ·have : xs = [] := List.length_eq_zero_iff.1 h0
  subst this
  rw [app_nil]; simp [app0]
 ·rw [app_full h h0]; simp [app0, h0]
theorem app0_more {sz b : Nat} {σ : St} {xs ys : List AV} {f : Bool} {tk : Option Nat} (h : AppOk sz b xs ys) (hy : ys.length ≠ 0) : appendAV sz b (app0 sz σ xs).2 (app0 sz σ xs).1 (.lit ys f tk) = some (.lit (xs ++ ys) false (some σ.length), σ ++ [.tok sz (xs.length + ys.length) true]) := by
 by_cases h0 : xs.length = 0
 ·have : xs = [] := List.length_eq_zero_iff.1 h0
  subst this
  simp only [app0, List.length_nil, if_true]
  rw [app_full h hy]
  simp
 ·simp only [app0, h0, if_false]
  rw [app_tok (ex := true) h hy (by simp)]
  simp
theorem append_at {σ : St} {sz b : Nat} {xs ys : List AV} {ex f : Bool} {t : Nat} {tk : Option Nat} (h : AppOk sz b xs ys) (h0 : ys.length ≠ 0) (n : Nat) (hn : n = xs.length) (ht : σ[t]? = some (.tok sz n ex)) :
  appendAV sz b σ (.lit xs false (some t)) (.lit ys f tk) = some (.lit (xs ++ ys) false (some t), σ.set t (.tok sz (n + ys.length) true)) := by
 subst hn
 exact app_tok h h0 ht
end Go.Am.Room
set_option maxRecDepth 4000
namespace Go.Am.Room
theorem weather_in {rs : List Span} : ∀ k, k ≤ rs.length → ∀ c ∈ weatherTo rs k, c.length = k := fun k hk c hc => ((weatherTo_mem hk).1 hc).1
theorem rweather_ok (v : Farm) (hv : Vd v) : Pure T 87 [encFarm v] (intss (weather v)) := by
 refine pure_fn (af := a87) rfl (by simp [a87]) dd ?_
 have hno := hv.nra
 rw [show weather v = weatherTo v.rain v.rain.length from rfl]
 (repeat (first | simp only [↓QA, QB, Nat.reduceLT, reduceIte, Nat.reduceEqDiff, Nat.reduceAdd, Nat.reduceLeDiff, Nat.reduceMul, Nat.reduceBEq, QXFFaC2, a87] | refine rd0 rfl ?_))
 refine loopE (S := Nat) 0 (fun n => n ≤ v.rain.length) (fun n => v.rain.length - n) (fun n => [(1, .ptr 0 0), (3, intss (weatherTo v.rain n)), (4, .int .i64 n)]) (fun _ => [.cells (farmCells v)]) (Nat.zero_le _) (by simp [farmCells, ints]) ?_ fun n hn => ?_
 ·try simp only [TrimX, QE, Nat.reduceLT, reduceIte, Nat.reduceEqDiff, Nat.reduceAdd, Nat.reduceLeDiff, Nat.reduceMul, Nat.reduceBEq, QXFFaC2]
  simp [intss, ints, weatherTo, clr, clrs]
 ·(repeat (first | simp only [↓QA, QB, Nat.reduceLT, reduceIte, Nat.reduceEqDiff, Nat.reduceAdd, Nat.reduceLeDiff, Nat.reduceMul, Nat.reduceBEq, QXFFaC2, L87_0, intss] | refine rd0 rfl ?_))
  refine iteP_intro (fun h => ?_) fun h => ?_
  ·have hn1 : n < v.rain.length := by simpa using h
   have hwn : IntKind.i64.wrap ((n : Int) + 1) = ((n + 1 : Nat) : Int) := wrapN hn1 (by omega)
   have hwl : ∀ j, j ≤ 7 → (weatherTo v.rain j).length ≤ 2187 := fun j hj => Nat.le_trans (weatherTo_len hv.ra j) (Nat.le_trans (Nat.pow_le_pow_right (by omega) hj) (by decide))
   have hsl := hwl n (by omega)
   have hsl2 := hwl (n + 1) (by omega)
   have hin := weather_in (rs := v.rain) n hn
   have hsu := weatherTo_succ hn1
   have hra := hv.ra _ (List.getElem_mem hn1)
   obtain ⟨s, hs⟩ : ∃ s, v.rain[n] = s := ⟨_, rfl⟩
   rw [hs] at hsu hra
   rw [hsu] at hsl2
   obtain ⟨W, hW⟩ : ∃ W, weatherTo v.rain n = W := ⟨_, rfl⟩
   rw [hW] at hsl hsl2 hsu hin
   rw [hW]
   obtain ⟨X, hX⟩ : ∃ X, W.flatMap (ext s) = X := ⟨_, rfl⟩
   rw [hX] at hsl2 hsu
   (repeat (first | simp only [↓QA, QB, Nat.reduceLT, reduceIte, Nat.reduceEqDiff, Nat.reduceAdd, Nat.reduceLeDiff, Nat.reduceMul, Nat.reduceBEq, QXFFaC2] | refine rd0 rfl ?_))
   refine ghostK 5 1 [] rfl ?_
   refine loopE (S := Nat × List (List Int) × Bool) (0, [], false) (fun a => a.1 ≤ W.length ∧ a.2.1 ++ (W.drop a.1).flatMap (ext s) = X) (fun a => W.length - a.1)
    (fun a => [(1, .ptr 0 0), (3, intss W), (4, .int .i64 n), (5, .lit (a.2.1.map ints) false (some 1)), (6, .int .i64 a.1)])
    (fun a => [.cells (farmCells v), .tok 1 a.2.1.length a.2.2]) ⟨Nat.zero_le _, by simpa using hX⟩ (by simp [farmCells, ints]) ?_ fun a ha => ?_
   ·try simp only [TrimX, QE, Nat.reduceLT, reduceIte, Nat.reduceEqDiff, Nat.reduceAdd, Nat.reduceLeDiff, Nat.reduceMul, Nat.reduceBEq, QXFFaC2, intss, ints]
    try simp
   ·obtain ⟨k, acc, ex⟩ := a
    obtain ⟨hk, hacc⟩ := ha
    simp only at hk hacc
    (repeat (first | simp only [↓QA, QB, Nat.reduceLT, reduceIte, Nat.reduceEqDiff, Nat.reduceAdd, Nat.reduceLeDiff, Nat.reduceMul, Nat.reduceBEq, QXFFaC2, L87_2, intss] | refine rd0 rfl ?_))
    refine iteP_intro (fun h2 => ?_) fun h2 => ?_
    ·have hk1 : k < W.length := by simpa using h2
     have hwk := wrapN hk1 (by omega)
     obtain ⟨c, hc⟩ : ∃ c, W[k] = c := ⟨_, rfl⟩
     have hcl := hin _ (List.getElem_mem hk1)
     rw [hc] at hcl
     rw [List.drop_eq_getElem_cons hk1, hc, List.flatMap_cons, ext, waysIn] at hacc
     (repeat (first | simp only [↓QA, QB, Nat.reduceLT, reduceIte, Nat.reduceEqDiff, Nat.reduceAdd, Nat.reduceLeDiff, Nat.reduceMul, Nat.reduceBEq, QXFFaC2, hn1, hs] | refine rd0 rfl ?_))
     have hlo := hra.1
     have hhi := hra.2.2
     refine loopE (S := Int × List (List Int) × Bool × St) (s.lo, acc, ex, []) (fun a => s.lo ≤ a.1 ∧ a.1 ≤ s.hi + 1 ∧ a.2.1 ++ ((numbers a.1 (s.hi + 1 - a.1).toNat).map (fun n => c ++ [n]) ++ (W.drop (k + 1)).flatMap (ext s)) = X) (fun a => (s.hi + 1 - a.1).toNat)
      (fun a => [(1, .ptr 0 0), (3, intss W), (4, .int .i64 n), (5, .lit (a.2.1.map ints) false (some 1)), (6, .int .i64 k), (7, .int .i64 a.1)])
      (fun a => .cells (farmCells v) :: .tok 1 a.2.1.length a.2.2.1 :: a.2.2.2) ⟨Int.le_refl _, by omega, by simpa using hacc⟩ (by simp [farmCells]) ?_ fun a ha => ?_
     ·try simp only [TrimX, QE, Nat.reduceLT, reduceIte, Nat.reduceEqDiff, Nat.reduceAdd, Nat.reduceLeDiff, Nat.reduceMul, Nat.reduceBEq, QXFFaC2, intss, ints]
      try simp
     ·obtain ⟨m, acc, ex, τ⟩ := a
      obtain ⟨hm0, hm1, hacc⟩ := ha
      simp only at hm0 hm1 hacc
      (repeat (first | simp only [↓QA, QB, Nat.reduceLT, reduceIte, Nat.reduceEqDiff, Nat.reduceAdd, Nat.reduceLeDiff, Nat.reduceMul, Nat.reduceBEq, QXFFaC2, L87_4, intss, hn1, hs] | refine rd0 rfl ?_))
      refine iteP_intro (fun h3 => ?_) fun h3 => ?_
      ·have hm2 : m ≤ s.hi := by simpa using h3
       have hwm : IntKind.i64.wrap (m + 1) = m + 1 := wrap64 ⟨by omega, by omega⟩
       rw [ways_step hm2] at hacc
       have hal : acc.length ≤ 2187 := by
        have := congrArg List.length hacc
        simp only [List.length_append] at this
        omega
       have a0 : ∀ (σ : St), appendAV 1 8 σ (.lit [] true none) (.lit (c.map (.int .i64)) false none) = some ((app0 1 σ (c.map (.int .i64))).1, (app0 1 σ (c.map (.int .i64))).2) := fun σ => app0_eq ⟨rfl, allCells_int c, by simp [room]; omega, by simp [room]; omega⟩
       have a1 : ∀ (σ : St), appendAV 1 8 (app0 1 σ (c.map (.int .i64))).2 (app0 1 σ (c.map (.int .i64))).1 (.lit [.int .i64 m] true none) = some (.lit (c.map (.int .i64) ++ [.int .i64 m]) false (some σ.length), σ ++ [.tok 1 (c.length + 1) true]) := fun σ => by
        rw [app0_more ⟨allCells_int c, by simp [allCells, AV.cells, AV.cell], by simp [room]; omega, by simp [room]; omega⟩ (by simp)]
        simp
       have a2 := fun (b0 : ABlk) (τ : St) (t : Nat) => append_at (σ := b0 :: .tok 1 acc.length ex :: τ) (t := 1) (ex := ex) (sz := 1) (b := 24) (xs := acc.map ints) (ys := [.lit (c.map (.int .i64) ++ [.int .i64 m]) false (some t)]) (f := true) (tk := none) ⟨allCells_ints acc, by simp [allCells, AV.cells, AV.cell], by simp [room]; omega, by simp [room]; omega⟩ (by simp) acc.length (by simp) rfl
       (repeat (first | simp only [↓QA, QB, Nat.reduceLT, reduceIte, Nat.reduceEqDiff, Nat.reduceAdd, Nat.reduceLeDiff, Nat.reduceMul, Nat.reduceBEq, QXFFaC2, hk1, hc, ints, a0, a1, a2, hwm] | refine rd0 rfl ?_))
       refine ⟨(m + 1, acc ++ [c ++ [m]], true, τ), ⟨by simp only; omega, by simp only; omega, by rw [← hacc]; simp⟩, by simp only; omega, ?_⟩
       try simp only [TrimX, QE, Nat.reduceLT, reduceIte, Nat.reduceEqDiff, Nat.reduceAdd, Nat.reduceLeDiff, Nat.reduceMul, Nat.reduceBEq, QXFFaC2, hwm, intss, ints, List.map_append, List.map_cons, List.map_nil]
       try simp [okBlk]
      ·have hm2 : ¬ m ≤ s.hi := by simpa using h3
       rw [ways_end hm2] at hacc
       simp only [List.map_nil, List.nil_append] at hacc
       (repeat (first | simp only [↓QA, QB, Nat.reduceLT, reduceIte, Nat.reduceEqDiff, Nat.reduceAdd, Nat.reduceLeDiff, Nat.reduceMul, Nat.reduceBEq, QXFFaC2, hwk] | refine rd0 rfl ?_))
       refine ⟨(k + 1, acc, ex), ⟨by simp only; omega, hacc⟩, by simp only; omega, ?_⟩
       try simp only [TrimX, QE, Nat.reduceLT, reduceIte, Nat.reduceEqDiff, Nat.reduceAdd, Nat.reduceLeDiff, Nat.reduceMul, Nat.reduceBEq, QXFFaC2, hwk, intss, ints]
       try simp [okBlk]
    ·have hk1 : k = W.length := by simp at h2; omega
     rw [hk1, List.drop_length] at hacc
     simp only [List.flatMap_nil, List.append_nil] at hacc
     subst hacc
     (repeat (first | simp only [↓QA, QB, Nat.reduceLT, reduceIte, Nat.reduceEqDiff, Nat.reduceAdd, Nat.reduceLeDiff, Nat.reduceMul, Nat.reduceBEq, QXFFaC2, hwn] | refine rd0 rfl ?_))
     refine ⟨n + 1, by omega, by omega, ?_⟩
     try simp only [TrimX, QE, Nat.reduceLT, reduceIte, Nat.reduceEqDiff, Nat.reduceAdd, Nat.reduceLeDiff, Nat.reduceMul, Nat.reduceBEq, QXFFaC2, hwn, hsu, intss, ints]
     try simp [okBlk]
  ·have hn1 : n = v.rain.length := by simp at h; omega
   subst hn1
   (repeat (first | simp only [↓QA, QB, Nat.reduceLT, reduceIte, Nat.reduceEqDiff, Nat.reduceAdd, Nat.reduceLeDiff, Nat.reduceMul, Nat.reduceBEq, QXFFaC2, intss] | refine rd0 rfl ?_))
   try try simp only [QS, QC, Nat.reduceLT, reduceIte, Nat.reduceEqDiff, Nat.reduceAdd, Nat.reduceLeDiff, Nat.reduceMul, Nat.reduceBEq, QXFFaC2]
end Go.Am.Room
set_option maxRecDepth 4000
namespace Go.Am.Room
def QXFFaC3 := And.intro @encFarm_eq (And.intro @farmCells_eq (And.intro @encPlot_eq (And.intro @encLook_eq (And.intro @encSpan_eq (And.intro @S_mapPlot (And.intro @S_mapLook (@S_mapSpan)))))))
theorem rflowers_ok (v : Farm) (hv : Vd v) (p : Nat) (hp : p < v.plots.length) (rain but : List Int) (hr : ∀ i, 0 ≤ rl rain i ∧ rl rain i ≤ 2) (hrl : rain.length = v.rain.length) (hbu : but.length < 9223372036854775808) :
    Pure T 88 [encFarm v, .int .i64 p, ints rain, ints but] (ints (flowersOf v p rain but)) := by
  refine pure_fn (af := a88) rfl (by simp [a88]) dd ?_
  have hno := hv.nra
  have hnl := hv.nlk
  have hpl := (pl_ok hv hp).1
  obtain ⟨R, hR⟩ : ∃ R, flowersOf v p rain but = R := ⟨_, rfl⟩
  have hR' := hR
  have hRl := (flowers_bd hv hp rain but).1
  rw [hR] at hRl ⊢
  rw [flowersOf, waysIn, flower_at hp] at hR'
  obtain ⟨y, hy⟩ : ∃ y, v.plots[p] = y := ⟨_, rfl⟩
  rw [hy] at hpl hR'
  obtain ⟨L, hL⟩ : ∃ L : Nat, y.flower.lo = (L : Int) := ⟨y.flower.lo.toNat, by omega⟩
  obtain ⟨H, hH⟩ : ∃ H : Nat, y.flower.hi = (H : Int) := ⟨y.flower.hi.toNat, by omega⟩
  rw [hL, hH] at hR' hpl
  (repeat (first | simp only [↓QA, QB, Nat.reduceLT, reduceIte, Nat.reduceEqDiff, Nat.reduceAdd, Nat.reduceLeDiff, Nat.reduceMul, Nat.reduceBEq, QXFFaC3, a88, hp, hy, hL] | refine rd0 rfl ?_))
  refine ghostK 9 1 [] rfl ?_
  refine loopE (S := Nat × List Int × Bool) (L, [], false) (fun a => L ≤ a.1 ∧ a.1 ≤ H + 1 ∧ a.2.1 ++ (numbers (a.1 : Int) ((H : Int) + 1 - a.1).toNat).filter (flowerOk v p rain but) = R) (fun a => H + 1 - a.1)
    (fun a => [(1, .int .i64 p), (2, ints rain), (3, ints but), (4, .ptr 0 0), (9, .lit (a.2.1.map (.int .i64)) false (some 1)), (10, .int .i64 a.1)])
    (fun a => [.cells (farmCells v), .tok 1 a.2.1.length a.2.2]) ⟨Nat.le_refl _, by simp only; omega, by simpa using hR'⟩ (by simp [farmCells, ints]) ?_ fun a ha => ?_
  · try simp only [TrimX, QE, Nat.reduceLT, reduceIte, Nat.reduceEqDiff, Nat.reduceAdd, Nat.reduceLeDiff, Nat.reduceMul, Nat.reduceBEq, QXFFaC3, ints]
    try simp
  · obtain ⟨d, acc, ex⟩ := a
    obtain ⟨hd0, hd1, hacc⟩ := ha
    simp only at hd0 hd1 hacc
    (repeat (first | simp only [↓QA, QB, Nat.reduceLT, reduceIte, Nat.reduceEqDiff, Nat.reduceAdd, Nat.reduceLeDiff, Nat.reduceMul, Nat.reduceBEq, QXFFaC3, L88_0, hp, hy, hH] | refine rd0 rfl ?_))
    refine iteP_intro (fun h => ?_) fun h => ?_
    · have hd2 : d ≤ H := by have h0 : (d : Int) ≤ (H : Int) := by simpa using h
                             omega
      have hw := wrapN (show d < H + 1 by omega) (by omega)
      rw [ways_step (show (d : Int) ≤ (H : Int) by omega), List.filter_cons, show (d : Int) + 1 = ((d + 1 : Nat) : Int) by omega] at hacc
      have hal : acc.length ≤ 7 := by
        have := congrArg List.length hacc
        simp only [List.length_append] at this
        omega
      (repeat (first | simp only [↓QA, QB, Nat.reduceLT, reduceIte, Nat.reduceEqDiff, Nat.reduceAdd, Nat.reduceLeDiff, Nat.reduceMul, Nat.reduceBEq, QXFFaC3] | refine rd0 rfl ?_))
      refine loopE (S := Nat) 0 (fun k => k ≤ v.looks.length) (fun k => v.looks.length - k)
        (fun k => [(1, .int .i64 p), (2, ints rain), (3, ints but), (4, .ptr 0 0), (9, .lit (acc.map (.int .i64)) false (some 1)), (10, .int .i64 d), (11, .bool (flowerUpTo v p rain but d k)), (12, .int .i64 k)])
        (fun k => [.cells (farmCells v), .tok 1 acc.length ex]) (Nat.zero_le _) (by simp [farmCells, ints]) ?_ fun k hk => ?_
      · try simp only [TrimX, QE, Nat.reduceLT, reduceIte, Nat.reduceEqDiff, Nat.reduceAdd, Nat.reduceLeDiff, Nat.reduceMul, Nat.reduceBEq, QXFFaC3, ints]
        try simp [flowerUpTo]
      · (repeat (first | simp only [↓QA, QB, Nat.reduceLT, reduceIte, Nat.reduceEqDiff, Nat.reduceAdd, Nat.reduceLeDiff, Nat.reduceMul, Nat.reduceBEq, QXFFaC3, L88_2] | refine rd0 rfl ?_))
        refine iteP_intro (fun h2 => ?_) fun h2 => ?_
        · have hk1 : k < v.looks.length := by simpa using h2
          have hwk := wrapN hk1 (by omega)
          have hsu := flowerUpTo_succ hk1 p rain but d
          have hlx := hv.lk _ (List.getElem_mem hk1)
          obtain ⟨x, hx⟩ : ∃ x, v.looks[k] = x := ⟨_, rfl⟩
          rw [hx] at hsu hlx
          simp only [lookOk] at hsu
          have hxl : decide (x.plot = (p : Int)) = (x.plot == (p : Int)) := by rw [Bool.eq_iff_iff]; simp
          rw [hxl] at hsu
          obtain ⟨D, hD⟩ : ∃ D : Nat, x.day = (D : Int) := ⟨x.day.toNat, by omega⟩
          have hpt := points_ok rain d D hr (by omega) (by omega)
          have hpe : ptsL rain d x.day = pts (rl rain) d D := by rw [ptsL, hD, Int.toNat_natCast, Int.toNat_natCast]
          rw [hpe] at hsu
          obtain ⟨q, hq⟩ : ∃ q, flowerUpTo v p rain but d k = q := ⟨_, rfl⟩
          rw [hq] at hsu
          rw [hq]
          (repeat (first | simp only [↓QA, QB, Nat.reduceLT, reduceIte, Nat.reduceEqDiff, Nat.reduceAdd, Nat.reduceLeDiff, Nat.reduceMul, Nat.reduceBEq, QXFFaC3, hk1, hx] | refine rd0 rfl ?_))
          cases hl : (x.plot == (p : Int))
          · rw [hl] at hsu
            simp only [Bool.not_false, Bool.true_or, Bool.and_true] at hsu
            (repeat (first | simp only [↓QA, QB, Nat.reduceLT, reduceIte, Nat.reduceEqDiff, Nat.reduceAdd, Nat.reduceLeDiff, Nat.reduceMul, Nat.reduceBEq, QXFFaC3, hl, hwk] | refine rd0 rfl ?_))
            refine ⟨k + 1, by omega, by omega, ?_⟩
            try simp only [TrimX, QE, Nat.reduceLT, reduceIte, Nat.reduceEqDiff, Nat.reduceAdd, Nat.reduceLeDiff, Nat.reduceMul, Nat.reduceBEq, QXFFaC3, hwk, hsu, ints]
            try simp [okBlk]
          · rw [hl] at hsu
            simp only [Bool.not_true, Bool.false_or] at hsu
            (repeat (first | simp only [↓QA, QB, Nat.reduceLT, reduceIte, Nat.reduceEqDiff, Nat.reduceAdd, Nat.reduceLeDiff, Nat.reduceMul, Nat.reduceBEq, QXFFaC3, hl] | refine rd0 rfl ?_))
            ((first | refine callK_d (has_ok but (k : Int) hbu) rfl dd ?_ | refine callD_d (has_ok but (k : Int) hbu) rfl dd ?_); (repeat (first | simp only [↓QA, QB, Nat.reduceLT, reduceIte, Nat.reduceEqDiff, Nat.reduceAdd, Nat.reduceLeDiff, Nat.reduceMul, Nat.reduceBEq, QXFFaC3] | refine rd0 rfl ?_)))
            cases hb : but.contains (k : Int)
            · rw [hb, Bool.false_or] at hsu
              (repeat (first | simp only [↓QA, QB, Nat.reduceLT, reduceIte, Nat.reduceEqDiff, Nat.reduceAdd, Nat.reduceLeDiff, Nat.reduceMul, Nat.reduceBEq, QXFFaC3] | refine rd0 rfl ?_))
              cases q
              · rw [Bool.false_and] at hsu
                (repeat (first | simp only [↓QA, QB, Nat.reduceLT, reduceIte, Nat.reduceEqDiff, Nat.reduceAdd, Nat.reduceLeDiff, Nat.reduceMul, Nat.reduceBEq, QXFFaC3, hwk] | refine rd0 rfl ?_))
                refine ⟨k + 1, by omega, by omega, ?_⟩
                try simp only [TrimX, QE, Nat.reduceLT, reduceIte, Nat.reduceEqDiff, Nat.reduceAdd, Nat.reduceLeDiff, Nat.reduceMul, Nat.reduceBEq, QXFFaC3, hwk, hsu, ints]
                try simp [okBlk]
              · rw [Bool.true_and] at hsu
                (repeat (first | simp only [↓QA, QB, Nat.reduceLT, reduceIte, Nat.reduceEqDiff, Nat.reduceAdd, Nat.reduceLeDiff, Nat.reduceMul, Nat.reduceBEq, QXFFaC3, hk1, hx, hD] | refine rd0 rfl ?_))
                ((first | refine callK_d (hpt) rfl dd ?_ | refine callD_d (hpt) rfl dd ?_); (repeat (first | simp only [↓QA, QB, Nat.reduceLT, reduceIte, Nat.reduceEqDiff, Nat.reduceAdd, Nat.reduceLeDiff, Nat.reduceMul, Nat.reduceBEq, QXFFaC3, hk1, hx, hwk, hD] | refine rd0 rfl ?_)))
                refine ⟨k + 1, by omega, by omega, ?_⟩
                try simp only [TrimX, QE, Nat.reduceLT, reduceIte, Nat.reduceEqDiff, Nat.reduceAdd, Nat.reduceLeDiff, Nat.reduceMul, Nat.reduceBEq, QXFFaC3, hwk, hsu, ints]
                try simp [okBlk]
            · rw [hb, Bool.true_or, Bool.and_true] at hsu
              (repeat (first | simp only [↓QA, QB, Nat.reduceLT, reduceIte, Nat.reduceEqDiff, Nat.reduceAdd, Nat.reduceLeDiff, Nat.reduceMul, Nat.reduceBEq, QXFFaC3, hwk] | refine rd0 rfl ?_))
              refine ⟨k + 1, by omega, by omega, ?_⟩
              try simp only [TrimX, QE, Nat.reduceLT, reduceIte, Nat.reduceEqDiff, Nat.reduceAdd, Nat.reduceLeDiff, Nat.reduceMul, Nat.reduceBEq, QXFFaC3, hwk, hsu, ints]
              try simp [okBlk]
        · have hk1 : k = v.looks.length := by simp at h2; omega
          subst hk1
          have hto : flowerUpTo v p rain but d v.looks.length = flowerOk v p rain but d := rfl
          rw [hto]
          cases hc : flowerOk v p rain but d
          · rw [hc] at hacc
            simp only [Bool.false_eq_true, if_false] at hacc
            (repeat (first | simp only [↓QA, QB, Nat.reduceLT, reduceIte, Nat.reduceEqDiff, Nat.reduceAdd, Nat.reduceLeDiff, Nat.reduceMul, Nat.reduceBEq, QXFFaC3, hw] | refine rd0 rfl ?_))
            refine ⟨(d + 1, acc, ex), ⟨by simp only; omega, by simp only; omega, hacc⟩, by simp only; omega, ?_⟩
            try simp only [TrimX, QE, Nat.reduceLT, reduceIte, Nat.reduceEqDiff, Nat.reduceAdd, Nat.reduceLeDiff, Nat.reduceMul, Nat.reduceBEq, QXFFaC3, hw, ints]
            try simp [okBlk]
          · rw [hc] at hacc
            simp only [if_true] at hacc
            have hap := fun (b0 : ABlk) (τ : St) => append_intT (σ := b0 :: .tok 1 acc.length ex :: τ) (l := acc) (a := (d : Int)) (ex := ex) (t := 1) (by omega) rfl
            (repeat (first | simp only [↓QA, QB, Nat.reduceLT, reduceIte, Nat.reduceEqDiff, Nat.reduceAdd, Nat.reduceLeDiff, Nat.reduceMul, Nat.reduceBEq, QXFFaC3, hw, hap] | refine rd0 rfl ?_))
            refine ⟨(d + 1, acc ++ [(d : Int)], true), ⟨by simp only; omega, by simp only; omega, by rw [← hacc]; simp⟩, by simp only; omega, ?_⟩
            try simp only [TrimX, QE, Nat.reduceLT, reduceIte, Nat.reduceEqDiff, Nat.reduceAdd, Nat.reduceLeDiff, Nat.reduceMul, Nat.reduceBEq, QXFFaC3, hw, S_mapI, ints, List.map_append, List.map_cons, List.map_nil]
            try simp [okBlk]
    · have hd2 : d = H + 1 := by
        have h0 : ¬ (d : Int) ≤ (H : Int) := by simpa using h
        omega
      rw [ways_end (show ¬ (d : Int) ≤ (H : Int) by omega)] at hacc
      simp only [List.filter_nil, List.append_nil] at hacc
      subst hacc
      (repeat (first | simp only [↓QA, QB, Nat.reduceLT, reduceIte, Nat.reduceEqDiff, Nat.reduceAdd, Nat.reduceLeDiff, Nat.reduceMul, Nat.reduceBEq, QXFFaC3, ints] | refine rd0 rfl ?_))
      try try simp only [QS, QC, Nat.reduceLT, reduceIte, Nat.reduceEqDiff, Nat.reduceAdd, Nat.reduceLeDiff, Nat.reduceMul, Nat.reduceBEq, QXFFaC3]
end Go.Am.Room
set_option maxRecDepth 4000
namespace Go.Am.Room
def QXFFaC4 := And.intro @encFarm_eq (And.intro @farmCells_eq (And.intro @encPlot_eq (And.intro @encLook_eq (And.intro @encSpan_eq (And.intro @S_mapPlot (And.intro @S_mapLook (And.intro @S_mapSpan (And.intro @T_sapp (And.intro @T_sapp0 (@S_mapT))))))))))
theorem flTo_succ (v : Farm) (rain but : List Int) (k : Nat) : flTo v rain but (k + 1) = flTo v rain but k ++ [flowersOf v k rain but] := by simp [flTo, List.range_succ]
theorem allFl_succ (v : Farm) (rain but : List Int) (k : Nat) : allFl v rain but (k + 1) = (allFl v rain but k && !(flowersOf v k rain but).isEmpty) := by simp [allFl, flTo_succ, List.all_append]
theorem allFl_le {v : Farm} {rain but : List Int} {k : Nat} (h : allFl v rain but k = false) : ∀ j, k ≤ j → allFl v rain but j = false := by
  intro j hj
  induction j with
  | zero => have : k = 0 := by omega
            subst this; exact h
  | succ j ih =>
    by_cases hk : k = j + 1
    · subst hk; exact h
    · rw [allFl_succ, ih (by omega), Bool.false_and]
theorem truths_in (v : Farm) (hv : Vd v) (but : List Int) (hbu : but.length < 9223372036854775808) (W : List (List Int)) (bl : List Int) (hbl : bl.length = v.rain.length) (hr : ∀ i, 0 ≤ rl bl i ∧ rl bl i ≤ 2) (k : Nat) (hk : k < W.length) (hkb : W[k] = bl) (acc : List Truth) (ex : Bool) (e : Env) (K : KJ)
  (e1 : Env.get e 1 = ints but) (e2 : Env.get e 2 = .ptr 0 0) (e5 : Env.get e 5 = intss W) (e6 : Env.get e 6 = .lit (acc.map encTruth) false (some 1)) (e7 : Env.get e 7 = .int .i64 k) (e8 : Env.get e 8 = .ptr 2 0) (e9 : Env.get e 9 = .bool true) (e10 : Env.get e 10 = .int .i64 0)
  (hK : ∀ e' xs f tk τ, (∀ t, tk = some t → 2 < t) → (allFl v bl but v.plots.length = true → xs = (flTo v bl but v.plots.length).map ints) → Env.get e' 1 = ints but → Env.get e' 2 = .ptr 0 0 → Env.get e' 5 = intss W → Env.get e' 6 = .lit (acc.map encTruth) false (some 1) → Env.get e' 7 = .int .i64 k → Env.get e' 8 = .ptr 2 0 → Env.get e' 9 = .bool (allFl v bl but v.plots.length) →
   K (some (.exit 2)) e' (.cells (farmCells v) :: .tok 2 acc.length ex :: .cells [.lit (bl.map (.int .i64)) false none, .lit xs f tk] :: τ)) :
  rK (K := ⟨K⟩) T (.loop L49_2) e [.cells (farmCells v), .tok 2 acc.length ex, .cells [.lit (bl.map (.int .i64)) false none, .lit [] true none]] := by
 have hno := hv.npl
 refine loopE (S := Nat × Bool × Option Nat × St) (0, true, none, []) (fun a => a.1 ≤ v.plots.length ∧ ∀ t, a.2.2.1 = some t → 2 < t ∧ t < 3 + a.2.2.2.length) (fun a => v.plots.length - a.1)
  (fun a => [(1, ints but), (2, .ptr 0 0), (5, intss W), (6, .lit (acc.map encTruth) false (some 1)), (7, .int .i64 k), (8, .ptr 2 0), (9, .bool (allFl v bl but a.1)), (10, .int .i64 a.1)])
  (fun a => .cells (farmCells v) :: .tok 2 acc.length ex :: .cells [.lit (bl.map (.int .i64)) false none, .lit ((flTo v bl but a.1).map ints) a.2.1 a.2.2.1] :: a.2.2.2) ⟨Nat.zero_le _, fun t h => by cases h⟩ rfl ?_ fun a ha => ?_
 ·try simp only [TrimX, QE, Nat.reduceLT, reduceIte, Nat.reduceEqDiff, Nat.reduceAdd, Nat.reduceLeDiff, Nat.reduceMul, Nat.reduceBEq, QXFFaC4, e1, e2, e5, e6, e7, e8, e9, e10]
  try simp [allFl, flTo]
 ·obtain ⟨h, f, tk, τ⟩ := a
  obtain ⟨hh, htk⟩ := ha
  simp only at hh htk
  by_cases hh1 : h < v.plots.length
  ·have g : decide ((h : Int) < (v.plots.length : Int)) = true := by simp; omega
   have hw := wrapN hh1 (by omega)
   have hsucc := flTo_succ v bl but h
   have hall := allFl_succ v bl but h
   cases hc : allFl v bl but h
   ·have hfull := allFl_le hc v.plots.length hh
    (repeat (first | simp only [↓QA, QB, Nat.reduceLT, reduceIte, Nat.reduceEqDiff, Nat.reduceAdd, Nat.reduceLeDiff, Nat.reduceMul, Nat.reduceBEq, QXFFaC4, L49_2, g] | refine rd0 rfl ?_))
    have hk0 := hK
    rw [farmCells_eq, hfull] at hk0
    refine hk0 _ _ f tk τ (fun t ht => (htk t ht).1) (fun h => by cases h) ?_ ?_ ?_ ?_ ?_ ?_ ?_
    all_goals try simp only [TrimX, QE, Nat.reduceLT, reduceIte, Nat.reduceEqDiff, Nat.reduceAdd, Nat.reduceLeDiff, Nat.reduceMul, Nat.reduceBEq, QXFFaC4]
   ·rw [hc, Bool.true_and] at hall
    have hll := (flowers_bd hv hh1 bl but).1
    have hst := rflowers_ok v hv h hh1 bl but hr hbl hbu
    obtain ⟨l, hl⟩ : ∃ l, flowersOf v h bl but = l := ⟨_, rfl⟩
    rw [hl] at hst hsucc hall hll
    have hlenp : decide ((0 : Int) < (l.length : Int)) = !l.isEmpty := by cases l <;> simp
    obtain ⟨xs, hxs⟩ : ∃ xs, (flTo v bl but h).map ints = xs := ⟨_, rfl⟩
    have hxl : xs.length ≤ 4 := by rw [← hxs]; simp [flTo]; omega
    have hxa : allCells 1 xs = true := by rw [← hxs]; exact allCells_ints _
    have a0 : ∀ (σ : St), appendAV 1 24 σ (.lit [] true none) (.lit xs f tk) = some ((app0 1 σ xs).1, (app0 1 σ xs).2) := fun σ => app0_eq ⟨rfl, hxa, by simp [room]; omega, by simp [room]; omega⟩
    have a1 : ∀ (σ : St), appendAV 1 24 (app0 1 σ xs).2 (app0 1 σ xs).1 (.lit [.lit (l.map (.int .i64)) false none] true none) = some (.lit (xs ++ [.lit (l.map (.int .i64)) false none]) false (some σ.length), σ ++ [.tok 1 (xs.length + 1) true]) := fun σ => by
     rw [app0_more ⟨hxa, by simp [allCells, AV.cells, AV.cell], by simp [room]; omega, by simp [room]; omega⟩ (by simp)]
     simp
    simp only [hxs]
    (repeat (first | simp only [↓QA, QB, Nat.reduceLT, reduceIte, Nat.reduceEqDiff, Nat.reduceAdd, Nat.reduceLeDiff, Nat.reduceMul, Nat.reduceBEq, QXFFaC4, L49_2, g, hk, hkb, intss, ints] | refine rd0 rfl ?_))
    ((first | refine callK_d (hst) rfl dd ?_ | refine callD_d (hst) rfl dd ?_); (repeat (first | simp only [↓QA, QB, Nat.reduceLT, reduceIte, Nat.reduceEqDiff, Nat.reduceAdd, Nat.reduceLeDiff, Nat.reduceMul, Nat.reduceBEq, QXFFaC4, hlenp, a0, a1, hk, hkb, intss, ints] | refine rd0 rfl ?_)))
    refine ⟨(h + 1, false, some (τ.length + 1 + 1 + 1), τ ++ [.tok 1 (xs.length + 1) true]), ⟨by simp only; omega, fun t ht => by simp only [Option.some.injEq] at ht; subst ht; simp only [List.length_append, List.length_cons, List.length_nil]; omega⟩, by simp only; omega, ?_⟩
    rw [hsucc, hall, List.map_append, hxs]
    try simp only [TrimX, QE, Nat.reduceLT, reduceIte, Nat.reduceEqDiff, Nat.reduceAdd, Nat.reduceLeDiff, Nat.reduceMul, Nat.reduceBEq, QXFFaC4, hw, List.map_append, List.map_cons, List.map_nil, List.length_append, intss, ints]
    try simp [okBlk, okVs, okV]
    exact ⟨ok_datas (datas_map (data_int .i64) bl) _, okVs_app (ok_datas (by rw [← hxs]; exact datas_map data_ints _) _) (ok_datas (datas_cons (data_ints l) datas_nil) _)⟩
  ·have g : decide ((h : Int) < (v.plots.length : Int)) = false := by simp; omega
   obtain rfl : h = v.plots.length := by omega
   (repeat (first | simp only [↓QA, QB, Nat.reduceLT, reduceIte, Nat.reduceEqDiff, Nat.reduceAdd, Nat.reduceLeDiff, Nat.reduceMul, Nat.reduceBEq, QXFFaC4, L49_2, g] | refine rd0 rfl ?_))
   have hk0 := hK
   rw [farmCells_eq] at hk0
   refine hk0 _ _ f tk τ (fun t ht => (htk t ht).1) (fun _ => rfl) ?_ ?_ ?_ ?_ ?_ ?_ ?_
   all_goals try simp only [TrimX, QE, Nat.reduceLT, reduceIte, Nat.reduceEqDiff, Nat.reduceAdd, Nat.reduceLeDiff, Nat.reduceMul, Nat.reduceBEq, QXFFaC4]
theorem allCells_truths (l : List Truth) : allCells 2 (l.map encTruth) = true := L_allM 2 encTruth l fun x => by simp [cellsOk, encTruth, AV.cells, AV.cell, ints, intss]
theorem rtruths_ok (v : Farm) (hv : Vd v) (but : List Int) (hbu : but.length < 9223372036854775808) : Pure T 49 [encFarm v, ints but] (truthsAV (truths v but)) := by
 refine pure_fn (af := a49) rfl (by simp [a49]) dd ?_
 have hwl := weather_len hv
 have hwm := fun c => (weather_mem (v := v) (c := c)).1
 obtain ⟨R, hR⟩ : ∃ R, truths v but = R := ⟨_, rfl⟩
 have hRl := truths_len hv but
 have hR' : [] ++ ((weather v).drop 0).filterMap (truthOf v but) = R := hR
 rw [hR] at hRl ⊢
 have hrw := rweather_ok v hv
 obtain ⟨W, hW⟩ : ∃ W, weather v = W := ⟨_, rfl⟩
 rw [hW] at hwl hR' hrw
 simp only [hW] at hwm
 (repeat (first | simp only [↓QA, QB, Nat.reduceLT, reduceIte, Nat.reduceEqDiff, Nat.reduceAdd, Nat.reduceLeDiff, Nat.reduceMul, Nat.reduceBEq, QXFFaC4, a49] | refine rd0 rfl ?_))
 ((first | refine callK_d (hrw) rfl dd ?_ | refine callD_d (hrw) rfl dd ?_); (repeat (first | simp only [↓QA, QB, Nat.reduceLT, reduceIte, Nat.reduceEqDiff, Nat.reduceAdd, Nat.reduceLeDiff, Nat.reduceMul, Nat.reduceBEq, QXFFaC4] | refine rd0 rfl ?_)))
 refine ghostK 6 2 [] rfl ?_
 refine loopE (S := Nat × List Truth × Bool) (0, [], false) (fun a => a.1 ≤ W.length ∧ a.2.1 ++ (W.drop a.1).filterMap (truthOf v but) = R) (fun a => W.length - a.1)
  (fun a => [(1, ints but), (2, .ptr 0 0), (5, intss W), (6, .lit (a.2.1.map encTruth) false (some 1)), (7, .int .i64 a.1)])
  (fun a => [.cells (farmCells v), .tok 2 a.2.1.length a.2.2]) ⟨Nat.zero_le _, hR'⟩ (by simp [farmCells, ints]) ?_ fun a ha => ?_
 ·try simp only [TrimX, QE, Nat.reduceLT, reduceIte, Nat.reduceEqDiff, Nat.reduceAdd, Nat.reduceLeDiff, Nat.reduceMul, Nat.reduceBEq, QXFFaC4]
  try simp
 ·obtain ⟨k, acc, ex⟩ := a
  obtain ⟨hk, hacc⟩ := ha
  simp only at hk hacc
  (repeat (first | simp only [↓QA, QB, Nat.reduceLT, reduceIte, Nat.reduceEqDiff, Nat.reduceAdd, Nat.reduceLeDiff, Nat.reduceMul, Nat.reduceBEq, QXFFaC4, L49_0, intss] | refine rd0 rfl ?_))
  refine iteP_intro (fun hd => ?_) fun hd => ?_
  ·have hk1 : k < W.length := by simpa using hd
   have hw := wrapN hk1 (by omega)
   have hro := hwm _ (List.getElem_mem hk1)
   obtain ⟨bl, hbl⟩ : ∃ bl, W[k] = bl := ⟨_, rfl⟩
   rw [hbl] at hro
   rw [List.drop_eq_getElem_cons hk1, hbl, List.filterMap_cons] at hacc
   have hal : acc.length ≤ 2187 := by
    have := congrArg List.length hacc
    simp only [List.length_append] at this
    omega
   have hin := truths_in v hv but hbu W bl hro.len (rain_bd hv hro) k hk1 hbl acc ex
   rw [farmCells_eq] at hin
   have hap := fun (y : AV) (hy : allCells 2 [y] = true) (τ : St) => append_at (σ := .cells (farmCells v) :: .tok 2 acc.length ex :: τ) (t := 1) (ex := ex) (sz := 2) (b := 48) (xs := acc.map encTruth) (ys := [y]) (f := true) (tk := none) ⟨allCells_truths acc, hy, by simp [room]; omega, by simp [room]; omega⟩ (by simp) acc.length (by simp) rfl
   rw [farmCells_eq] at hap
   have hap2 := fun (l : List AV) (f : Bool) (tk : Option Nat) => hap (.agg [.lit (bl.map (.int .i64)) false none, .lit l f tk]) rfl
   (repeat (first | simp only [↓QA, QB, Nat.reduceLT, reduceIte, Nat.reduceEqDiff, Nat.reduceAdd, Nat.reduceLeDiff, Nat.reduceMul, Nat.reduceBEq, QXFFaC4, hk1, hbl, ints, intss] | refine rd0 rfl ?_))
   refine hin _ _ ?_ ?_ ?_ ?_ ?_ ?_ ?_ ?_ ?_
   all_goals try try simp only [TrimX, QE, Nat.reduceLT, reduceIte, Nat.reduceEqDiff, Nat.reduceAdd, Nat.reduceLeDiff, Nat.reduceMul, Nat.reduceBEq, QXFFaC4, intss, ints]
   intro e' xs f tk τ htk hxs q1 q2 q5 q6 q7 q8 q9
   cases hall : allFl v bl but v.plots.length
   ·rw [truthOf_eq, hall] at hacc
    rw [hall] at q9
    (repeat (first | simp only [↓QA, QB, Nat.reduceLT, reduceIte, Nat.reduceEqDiff, Nat.reduceAdd, Nat.reduceLeDiff, Nat.reduceMul, Nat.reduceBEq, QXFFaC4, q1, q2, q5, q6, q7, q8, q9, ints, intss] | refine rd0 rfl ?_))
    refine ⟨(k + 1, acc, ex), ⟨by simp only; omega, by simpa using hacc⟩, by simp only; omega, ?_⟩
    try simp only [TrimX, QE, Nat.reduceLT, reduceIte, Nat.reduceEqDiff, Nat.reduceAdd, Nat.reduceLeDiff, Nat.reduceMul, Nat.reduceBEq, QXFFaC4, q1, q2, q5, q6, q7, q8, q9, hw, ints, intss]
    try simp [okBlk]
   ·rw [truthOf_eq, hall] at hacc
    rw [hall] at q9
    rw [hxs hall]
    (repeat (first | simp only [↓QA, QB, Nat.reduceLT, reduceIte, Nat.reduceEqDiff, Nat.reduceAdd, Nat.reduceLeDiff, Nat.reduceMul, Nat.reduceBEq, QXFFaC4, q1, q2, q5, q6, q7, q8, q9, ints, intss, hap2] | refine rd0 rfl ?_))
    refine ⟨(k + 1, acc ++ [⟨bl, flTo v bl but v.plots.length⟩], true), ⟨by simp only; omega, by simpa using hacc⟩, by simp only; omega, ?_⟩
    cases tk with
    | none =>
     try simp only [TrimX, QE, Nat.reduceLT, reduceIte, Nat.reduceEqDiff, Nat.reduceAdd, Nat.reduceLeDiff, Nat.reduceMul, Nat.reduceBEq, QXFFaC4, q1, q2, q5, q6, q7, q8, q9, hw, ints, intss, List.map_append, List.map_cons, List.map_nil, List.length_append, encTruth_eq, Bool.and_false]
     try simp [okBlk]
    | some t =>
     have h2 := htk t rfl
     try simp only [TrimX, QE, Nat.reduceLT, reduceIte, Nat.reduceEqDiff, Nat.reduceAdd, Nat.reduceLeDiff, Nat.reduceMul, Nat.reduceBEq, QXFFaC4, q1, q2, q5, q6, q7, q8, q9, hw, ints, intss, List.map_append, List.map_cons, List.map_nil, List.length_append, encTruth_eq, Bool.and_false, Nat.not_lt.2 (Nat.le_of_lt h2)]
     try simp [okBlk]
  ·have hk1 : k = W.length := by simp at hd; omega
   rw [hk1, List.drop_length] at hacc
   simp only [List.filterMap_nil, List.append_nil] at hacc
   subst hacc
   (repeat (first | simp only [↓QA, QB, Nat.reduceLT, reduceIte, Nat.reduceEqDiff, Nat.reduceAdd, Nat.reduceLeDiff, Nat.reduceMul, Nat.reduceBEq, QXFFaC4, truthsAV] | refine rd0 rfl ?_))
   try try simp only [QS, QC, Nat.reduceLT, reduceIte, Nat.reduceEqDiff, Nat.reduceAdd, Nat.reduceLeDiff, Nat.reduceMul, Nat.reduceBEq, QXFFaC4]
end Go.Am.Room
set_option maxRecDepth 4000
namespace Go.Am.Room
theorem farm_nil (v : Farm) : clrs [encFarm v, .lit [] true none] = [encFarm v, ints []] := by simp [clrs, (data_farm v).2, clr, ints]
theorem farm_nil_ok (v : Farm) : okVs 0 [encFarm v, .lit [] true none] := ⟨(data_farm v).1, by simp [okV, okVs], trivial⟩
end Go.Am.Room
set_option maxRecDepth 8000
namespace Go.Am.Room
def someV (v : Farm) : Bool := decide ((check v).2.2 = 0) && someB v []
theorem some2_ok (v : Farm) (hf : Fits v) : Pure T 45 [encFarm v] (.bool (someV v)) := by
 refine pure_fn (af := a45) rfl (by simp [a45]) dd ?_
 (repeat (first | simp only [↓QA, QB, Nat.reduceLT, reduceIte, Nat.reduceEqDiff, Nat.reduceAdd, Nat.reduceLeDiff, Nat.reduceMul, Nat.reduceBEq, QXFFaQ1, a45] | refine rd0 rfl ?_))
 ((first | refine callK_d (valid_ok v hf) rfl dd ?_ | refine callD_d (valid_ok v hf) rfl dd ?_); (repeat (first | simp only [↓QA, QB, Nat.reduceLT, reduceIte, Nat.reduceEqDiff, Nat.reduceAdd, Nat.reduceLeDiff, Nat.reduceMul, Nat.reduceBEq, QXFFaQ1] | refine rd0 rfl ?_)))
 cases h0 : decide ((check v).2.2 = 0)
 ·(repeat (first | simp only [↓QA, QB, Nat.reduceLT, reduceIte, Nat.reduceEqDiff, Nat.reduceAdd, Nat.reduceLeDiff, Nat.reduceMul, Nat.reduceBEq, QXFFaQ1, someV, h0, Bool.false_and] | refine rd0 rfl ?_))
 ·have hv := vd_of_check (by simpa using h0)
  have hs := rtruths_ok v hv [] (by simp)
  (repeat (first | simp only [↓QA, QB, Nat.reduceLT, reduceIte, Nat.reduceEqDiff, Nat.reduceAdd, Nat.reduceLeDiff, Nat.reduceMul, Nat.reduceBEq, QXFFaQ1] | refine rd0 rfl ?_))
  refine callK_v hs (farm_nil v) (farm_nil_ok v) ?_
  (repeat (first | simp only [↓QA, QB, Nat.reduceLT, reduceIte, Nat.reduceEqDiff, Nat.reduceAdd, Nat.reduceLeDiff, Nat.reduceMul, Nat.reduceBEq, QXFFaQ1, someV, h0, Bool.true_and, truthsAV] | refine rd0 rfl ?_))
  have e : decide ((0 : Int) < (truths v []).length) = someB v [] := by
   simp only [someB]
   cases truths v [] <;> simp
  rw [e]
end Go.Am.Room
set_option maxRecDepth 8000
namespace Go.Am.Room
theorem early_best (v : Farm) (l : List Truth) (d : Nat) (hands : Int) (hn : v.plots.length ≤ 6) : BestIs (fun c => doesB v l c d hands) (fun c => (shrinksOf v l c d).length) (allChoices v.plots.length) (earlyIn v l d hands) := by
 have h1 := stepR_is (fun c => doesB v l c d hands) (fun c => (shrinksOf v l c d).length) (allChoices v.plots.length) [] none (by rw [List.nil_append]; exact chFrom_sorted hn (v.plots.length + 1) 0 (by omega)) (fun c hc => by cases hc)
 rw [List.nil_append, ← early_step] at h1
 exact h1
theorem all_len {n : Nat} {c : List Int} (h : c ∈ allChoices n) : c.length ≤ n ∧ ∀ x ∈ c, 0 ≤ x ∧ x < n := by
 obtain ⟨i, _, hi, hc⟩ := chFrom_mem.1 h
 have := choices_spec n i c hc
 exact ⟨by omega, this.2⟩
theorem someB_iff {v : Farm} {but : List Int} : someB v but = true ↔ truths v but ≠ [] := by
 rw [someB]
 cases truths v but <;> simp
theorem some_iff {v : Farm} : someV v = true ↔ (check v).2.2 = 0 ∧ truths v [] ≠ [] := by
 rw [someV, Bool.and_eq_true, decide_eq_true_eq, someB_iff]
theorem known0 {v : Farm} (h : truths v [] ≠ []) : errKnown v 0 = 0 := by
 simp [errKnown, h]
theorem ask0 {v : Farm} (hc : (check v).2.2 = 0) {p : Nat} (hp : p < v.plots.length) : errAsk v (p : Int) = 0 := by
 rw [errAsk, if_pos hc, if_pos (inR_iff.2 (by omega))]
theorem within0 {n m : Int} (h : 0 ≤ n ∧ n ≤ m) : within n m 0 = 0 := by
 rw [within, if_pos rfl, if_pos (inR_iff.2 h)]
theorem plotErr0 {v : Farm} (hs : someV v = true) {p : Nat} (hp : p < v.plots.length) : plotErr v (p : Int) = 0 := by
 obtain ⟨hc, hne⟩ := some_iff.1 hs
 rw [plotErr, ask0 hc hp, known0 hne]
theorem grownErr0 {v : Farm} (hs : someV v = true) {p d : Nat} (hp : p < v.plots.length) (hd : d ≤ v.rain.length) : grownErr v (p : Int) (d : Int) = 0 := by
 obtain ⟨hc, hne⟩ := some_iff.1 hs
 rw [grownErr, ask0 hc hp, within0 (by simp only [endOf]; omega), known0 hne]
theorem cut_tr {v : Farm} (hs : someV v = true) {p d : Nat} (hp : p < v.plots.length) (hd : d ≤ v.rain.length) : cutOf v (p : Int) (d : Int) = (goodOf v (truths v []) p d, 0) := by
 rw [cutOf, if_pos (grownErr0 hs hp hd), Int.toNat_natCast, Int.toNat_natCast]
theorem last_tr {v : Farm} (hs : someV v = true) {p : Nat} (hp : p < v.plots.length) : lastOf v (p : Int) = if lastIn v (truths v []) p = -1 then (0, 9) else (lastIn v (truths v []) p, 0) := by
 rw [lastOf, if_pos (plotErr0 hs hp), Int.toNat_natCast]
theorem early_tr {v : Farm} (hs : someV v = true) {d : Nat} {h : Int} (hd : d ≤ v.rain.length) (hh : 0 ≤ h ∧ h ≤ 400) : earlyOf v (d : Int) h = earlyR v (truths v []) d (earlyIn v (truths v []) d h) := by
 obtain ⟨hc, hne⟩ := some_iff.1 hs
 have : earlyErr v (d : Int) h = 0 := by rw [earlyErr, hc, within0 (by simp only [endOf]; omega), within0 hh, known0 hne]
 rw [earlyOf, if_pos this, Int.toNat_natCast]
theorem full_mem {l : List Truth} {p d : Nat} {n : Int} : n ∈ fullIn l p d ↔ ∃ t ∈ l, ∃ h ∈ flAt t p, n = ptsT t d h := by
 simp only [fullIn, List.mem_flatMap, List.mem_map]
 constructor
 ·rintro ⟨t, ht, h, hh, rfl⟩; exact ⟨t, ht, h, hh, rfl⟩
 ·rintro ⟨t, ht, h, hh, rfl⟩; exact ⟨t, ht, h, hh, rfl⟩
theorem pts_up {v : Farm} (hv : Vd v) {t : Truth} (ht : TOk v t) (d : Nat) (h : Int) : ptsT t d h ≤ ptsT t (d + 1) h ∧ ptsT t (d + 1) h ≤ ptsT t d h + 3 ∧ (h.toNat ≤ d → ptsT t d h + 1 ≤ ptsT t (d + 1) h) := by
 have hr := rain_bd hv ht.rain d
 have hb := pts_bd (rain_bd hv ht.rain) h.toNat d
 simp only [ptsT, ptsL, Int.toNat_natCast]
 by_cases hh : h.toNat ≤ d
 ·rw [pts_step _ hh]
  omega
 ·rw [pts_lt _ (show d + 1 ≤ h.toNat by omega), pts_lt _ (show d ≤ h.toNat by omega)]
  omega
theorem grows {v : Farm} (hv : Vd v) {ts : List Truth} (hts : ∀ t ∈ ts, TOk v t) (hne : ts ≠ []) {p d : Nat} (hp : p < v.plots.length) :
  (fullS ts p d).lo ≤ (fullS ts p (d + 1)).lo ∧ (fullS ts p d).hi ≤ (fullS ts p (d + 1)).hi ∧ (fullS ts p (d + 1)).lo ≤ (fullS ts p d).lo + 3 ∧ (fullS ts p (d + 1)).hi ≤ (fullS ts p d).hi + 3 ∧
   ((∀ t ∈ ts, ∀ h ∈ flAt t p, h.toNat ≤ d) → (fullS ts p d).lo < (fullS ts p (d + 1)).lo ∧ (fullS ts p d).hi < (fullS ts p (d + 1)).hi) := by
 obtain ⟨a1, a2, a3⟩ := spanL_spec (fullIn_ne hts hne hp d)
 obtain ⟨b1, b2, b3⟩ := spanL_spec (fullIn_ne hts hne hp (d + 1))
 have up : ∀ m ∈ fullIn ts p d, ∃ n ∈ fullIn ts p (d + 1), m ≤ n ∧ n ≤ m + 3 ∧ ((∀ t ∈ ts, ∀ h ∈ flAt t p, h.toNat ≤ d) → m + 1 ≤ n) := fun m hm => by
  obtain ⟨t, ht, h, hh, rfl⟩ := full_mem.1 hm
  have := pts_up hv (hts t ht) d h
  exact ⟨_, full_mem.2 ⟨t, ht, h, hh, rfl⟩, this.1, this.2.1, fun q => this.2.2 (q t ht h hh)⟩
 have dn : ∀ n ∈ fullIn ts p (d + 1), ∃ m ∈ fullIn ts p d, m ≤ n ∧ n ≤ m + 3 ∧ ((∀ t ∈ ts, ∀ h ∈ flAt t p, h.toNat ≤ d) → m + 1 ≤ n) := fun n hn => by
  obtain ⟨t, ht, h, hh, rfl⟩ := full_mem.1 hn
  have := pts_up hv (hts t ht) d h
  exact ⟨_, full_mem.2 ⟨t, ht, h, hh, rfl⟩, this.1, this.2.1, fun q => this.2.2 (q t ht h hh)⟩
 obtain ⟨n1, c1, c2, c3, c4⟩ := up _ a1
 obtain ⟨n2, d1, d2, d3, d4⟩ := up _ a2
 obtain ⟨m1, e1, e2, e3, e4⟩ := dn _ b1
 obtain ⟨m2, f1, f2, f3, f4⟩ := dn _ b2
 have g1 := b3 _ c1
 have g2 := b3 _ d1
 have g3 := a3 _ e1
 have g4 := a3 _ f1
 simp only [fullS]
 refine ⟨by omega, by omega, by omega, by omega, fun q => ?_⟩
 have := e4 q
 have := d4 q
 omega
end Go.Am.Room
set_option maxRecDepth 8000
namespace Go.Am.Room
theorem nat_rem {a : Int} (ha : 0 ≤ a) {n : Nat} (hn : 0 < n) : ∃ j : Nat, a.tmod (n : Int) = (j : Int) ∧ j < n := by
 obtain ⟨k, rfl⟩ : ∃ k : Nat, a = k := ⟨a.toNat, by omega⟩
 refine ⟨k % n, ?_, Nat.mod_lt _ hn⟩
 rw [Int.tmod_eq_emod_of_nonneg (by omega)]
 norm_cast
end Go.Am.Room
set_option maxRecDepth 8000
namespace Go.Am.Room
theorem early_law {v : Farm} (hn : v.plots.length ≤ 6) (ts : List Truth) (d : Nat) (h : Int) {O : List Int} (hO : O ∈ allChoices v.plots.length) :
  (earlyIn v ts d h = none ∧ doesB v ts O d h = false) ∨ ∃ b, earlyIn v ts d h = some b ∧ b ∈ allChoices v.plots.length ∧ doesB v ts b d h = true ∧
   (doesB v ts O d h = true → (shrinksOf v ts b d).length < (shrinksOf v ts O d).length ∨ ((shrinksOf v ts b d).length = (shrinksOf v ts O d).length ∧ fewer O b = false)) := by
 have hb := early_best v ts d h hn
 cases hE : earlyIn v ts d h with
 | none => rw [hE] at hb; exact .inl ⟨rfl, hb O hO⟩
 | some b =>
  rw [hE] at hb
  refine .inr ⟨b, rfl, hb.1, hb.2.1, fun hq => ?_⟩
  rcases hb.2.2 O hO hq with h1 | ⟨h1, h2⟩
  ·exact .inl h1
  ·refine .inr ⟨h1, ?_⟩
   rcases h2 with h2 | h2
   ·rw [h2]; exact fewer_irr _
   ·cases hf : fewer O b
    ·rfl
    ·have := fewer_trans h2 hf
     rw [fewer_irr] at this
     cases this
theorem good_one {v : Farm} {ts : List Truth} {p d : Nat} : goodOf v ts p d = 1 ↔ ∀ n ∈ fullIn ts p d, ∀ w, v.way.lo ≤ w → w ≤ v.way.hi → v.full ≤ n ∧ n + w ≤ v.ripe := by
 rw [goodOf, settled_one]
 simp only [goodsIn, goodsOf, List.mem_flatMap, List.mem_map, waysIn_mem]
 constructor
 ·intro h n hn w hw0 hw1
  have := h (goodAt v n w) ⟨n, hn, w, ⟨hw0, hw1⟩, rfl⟩
  simpa [goodAt] using this
 ·rintro h _ ⟨n, hn, w, ⟨hw0, hw1⟩, rfl⟩
  have := h n hn w hw0 hw1
  simpa [goodAt] using this
theorem lastTo_mono {q r : Nat → Bool} : ∀ {k : Nat}, (∀ d, d < k → q d = true → r d = true) → lastTo q k ≤ lastTo r k
 | 0, _ => by simp [lastTo]
 | k + 1, h => by
  have ih := lastTo_mono (k := k) fun d hd => h d (by omega)
  simp only [lastTo]
  split
  ·rename_i hk
   rw [if_pos (h k (by omega) hk)]
   omega
  ·rename_i hk
   split
   ·have hq : ∀ j, lastTo q j < (j : Int) := by
     intro j
     induction j with
     | zero => simp [lastTo]
     | succ j ihj => simp only [lastTo]; split <;> omega
    have := hq k
    omega
   ·exact ih
structure Eases (v : Farm) (ts : List Truth) (u : Farm) (us : List Truth) (d : Nat) : Prop where
 plots : u.plots = v.plots
 green : ∀ p, p < v.plots.length → greenB v ts p d = true → greenB u us p d = true
 whole : ∀ p, p < v.plots.length → wholeB v ts p d = true → wholeB u us p d = true
theorem hands_same {v u : Farm} (h : u.plots = v.plots) : ∀ l, handsOf u l = handsOf v l
 | [] => rfl
 | p :: l => by simp only [handsOf, hands_same h l, handsAt, h]
theorem filt_len {α : Type} {p q : α → Bool} : ∀ {l : List α}, (∀ x ∈ l, p x = true → q x = true) → (l.filter p).length ≤ (l.filter q).length
 | [], _ => by simp
 | x :: l, h => by
  have ih := filt_len (l := l) fun y hy => h y (by simp [hy])
  simp only [List.filter_cons]
  have := h x (by simp)
  cases hp : p x <;> cases hq : q x <;> simp_all <;> omega
theorem ease_early {v u : Farm} {ts us : List Truth} {d : Nat} (hn : v.plots.length ≤ 6) (h : Eases v ts u us d) (w : Int) {b : List Int} (hb : earlyIn v ts d w = some b) :
  ∃ c, earlyIn u us d w = some c ∧ (shrinksOf u us c d).length ≤ (shrinksOf v ts b d).length := by
 obtain ⟨h1, h2, h3⟩ : b ∈ allChoices v.plots.length ∧ doesB v ts b d w = true ∧ True := by
  have := early_best v ts d w hn
  rw [hb] at this
  exact ⟨this.1, this.2.1, trivial⟩
 have hbl := (all_len h1).2
 have hpl : u.plots.length = v.plots.length := by rw [h.plots]
 have hdo : doesB u us b d w = true := by
  simp only [doesB, Bool.and_eq_true, decide_eq_true_eq, List.all_eq_true] at h2 ⊢
  refine ⟨by rw [hands_same h.plots]; exact h2.1, fun p hp => h.green _ (by have := hbl p hp; omega) (h2.2 p hp)⟩
 have hsl : (shrinksOf u us b d).length ≤ (shrinksOf v ts b d).length := by
  simp only [shrinksOf]
  refine filt_len fun p hp hq => ?_
  rw [Bool.not_eq_true'] at hq ⊢
  rw [Bool.eq_false_iff] at hq ⊢
  exact fun hw => hq (h.whole _ (by have := hbl p hp; omega) hw)
 rcases early_law (v := u) (by omega) us d w (O := b) (by rw [hpl]; exact h1) with ⟨_, e2⟩ | ⟨c, e1, _, _, e4⟩
 ·rw [hdo] at e2; cases e2
 ·refine ⟨c, e1, ?_⟩
  have := e4 hdo
  omega
def more (v : Farm) (y : Look) : Farm := { v with looks := v.looks ++ [y] }
theorem ease_last {v u : Farm} {ts us : List Truth} (hr : u.rain.length = v.rain.length) {p : Nat} (hp : p < v.plots.length) (h : ∀ d, Eases v ts u us d) : lastIn v ts p ≤ lastIn u us p := by
 rw [lastIn, lastIn, hr]
 exact lastTo_mono fun d hd => (h d).green p hp
def easy (v : Farm) (a b : Int) : Farm := { v with way := ⟨v.way.lo, max v.way.lo (v.way.hi - a)⟩, full := max 0 (v.full - b) }
theorem easy_vd {v : Farm} (hv : Vd v) {a b : Int} (ha : 0 ≤ a) (hb : 0 ≤ b) : Vd (easy v a b) := by
 have h1 := hv.full
 have h2 := hv.way
 exact ⟨hv.nra, hv.ra, by simp only [easy]; omega, hv.ripe, by simp only [easy]; omega, hv.npl, hv.pl, hv.nlk, hv.lk⟩
theorem easy_truths (v : Farm) (a b : Int) (but : List Int) : truths (easy v a b) but = truths v but := rfl
theorem easy_some {v : Farm} {a b : Int} (ha : 0 ≤ a) (hb : 0 ≤ b) (hs : someV v = true) : someV (easy v a b) = true := by
 obtain ⟨h1, h2⟩ := some_iff.1 hs
 refine some_iff.2 ⟨by rw [check_of_vd (easy_vd (vd_of_check h1) ha hb)], ?_⟩
 rw [easy_truths]; exact h2
theorem easy_eases {v : Farm} (hv : Vd v) {a b : Int} (ha : 0 ≤ a) (hb : 0 ≤ b) (ts : List Truth) (d : Nat) : Eases v ts (easy v a b) ts d := by
 have h1 := hv.full
 have h2 := hv.way
 refine ⟨rfl, fun p hp h => ?_, fun p hp h => ?_⟩
 ·rw [greenB, decide_eq_true_eq] at h ⊢
  show (fullS ts p d).hi + max v.way.lo (v.way.hi - a) ≤ v.ripe
  omega
 ·rw [wholeB, decide_eq_true_eq] at h ⊢
  show max 0 (v.full - b) ≤ (fullS ts p d).lo
  omega
theorem easy_good {v : Farm} (hv : Vd v) {a b : Int} (ha : 0 ≤ a) (hb : 0 ≤ b) {ts : List Truth} {p d : Nat} (h : goodOf v ts p d = 1) : goodOf (easy v a b) ts p d = 1 := by
 have h2 := hv.way
 have h3 := hv.full
 rw [good_one] at h ⊢
 intro n hn w hw0 hw1
 have := h n hn w hw0 (by simp only [easy] at hw1; omega)
 simp only [easy]
 omega
def toldLook (R F : List Int) (y : Look) : Look := ⟨y.plot, y.day, ptsL R (rl F y.plot.toNat) y.day⟩
def told (v : Farm) (R F : List Int) : Farm := { v with looks := v.looks.map (toldLook R F) }
end Go.Am.Room
set_option maxRecDepth 8000
namespace Go.Am.Room
def QXFFaQB := And.intro @encFarm_eq (And.intro @farmCells_eq (And.intro @encPlot_eq (And.intro @encLook_eq (And.intro @encSpan_eq (And.intro @S_mapPlot (And.intro @S_mapLook (And.intro @S_mapSpan (And.intro @T_sapp (And.intro @List.length_append.{0} (@Int.toNat_natCast))))))))))
theorem last_is {v : Farm} (hs : someV v = true) {p : Nat} (hp : p < v.plots.length) : ∃ la er, lastOf v (p : Int) = (la, er) ∧ ((er = 0 ∧ la = lastIn v (truths v []) p ∧ lastIn v (truths v []) p ≠ -1) ∨ (er = 9 ∧ lastIn v (truths v []) p = -1)) := by
 rw [last_tr hs hp]
 by_cases h : lastIn v (truths v []) p = -1
 ·rw [if_pos h]; exact ⟨_, _, rfl, .inr ⟨rfl, h⟩⟩
 ·rw [if_neg h]; exact ⟨_, _, rfl, .inl ⟨rfl, rfl, h⟩⟩
theorem lastTo_low (q : Nat → Bool) : ∀ k, -1 ≤ lastTo q k
 | 0 => by simp [lastTo]
 | k + 1 => by
  have := lastTo_low q k
  simp only [lastTo]
  split <;> omega
theorem last_two {v u : Farm} (hv : someV v = true) (hu : someV u = true) {p : Nat} (hp : p < v.plots.length) (hpu : p < u.plots.length) (h : lastIn v (truths v []) p ≤ lastIn u (truths u []) p) :
  ∃ la er lb eg, lastOf v (p : Int) = (la, er) ∧ lastOf u (p : Int) = (lb, eg) ∧ ((er == 0) = true → (eg == 0) = true ∧ decide (lb < la) = false) := by
 obtain ⟨la, er, h1, h2⟩ := last_is hv hp
 obtain ⟨lb, eg, h3, h4⟩ := last_is hu hpu
 refine ⟨la, er, lb, eg, h1, h3, fun he => ?_⟩
 have he0 : er = 0 := by simpa using he
 have l1 := lastTo_low (greenB v (truths v []) p) (v.rain.length + 1)
 have l2 := lastTo_low (greenB u (truths u []) p) (u.rain.length + 1)
 simp only [lastIn] at h h2 h4
 rcases h2 with ⟨_, h5, h6⟩ | ⟨h5, h6⟩
 ·rcases h4 with ⟨h7, h8, h9⟩ | ⟨h7, h9⟩
  ·rw [h7]
   refine ⟨rfl, by simp; omega⟩
  ·omega
 ·omega
theorem early_len {v : Farm} (hn : v.plots.length ≤ 6) (ts : List Truth) (d : Nat) (w : Int) {b : List Int} (h : earlyIn v ts d w = some b) : b.length ≤ v.plots.length := by
 have := early_best v ts d w hn
 rw [h] at this
 exact (all_len this.1).1
set_option maxHeartbeats 2000000 in
theorem farmshorter_ok (v : Farm) (a b c e : Nat) (hf : Fits v) (ha : a < 256) (hb : b < 256) (hc' : c < 256) (he : e < 65536) : Pure T 14 [encFarm v, .agg [.int .u8 a, .int .u8 b], .agg [.int .u8 c, .int .u16 e]] (.bool true) := by
 refine pure_fn (af := a14) rfl (by simp [a14]) dd ?_
 cases hs : someV v
 ·(repeat (first | simp only [↓QA, QB, Nat.reduceLT, reduceIte, Nat.reduceEqDiff, Nat.reduceAdd, Nat.reduceLeDiff, Nat.reduceMul, Nat.reduceBEq, QXFFaQB, a14] | refine rd0 rfl ?_))
  ((first | refine callK_d (some2_ok v hf) rfl dd ?_ | refine callD_d (some2_ok v hf) rfl dd ?_); (repeat (first | simp only [↓QA, QB, Nat.reduceLT, reduceIte, Nat.reduceEqDiff, Nat.reduceAdd, Nat.reduceLeDiff, Nat.reduceMul, Nat.reduceBEq, QXFFaQB, hs] | refine rd0 rfl ?_)))
  refine callK_d awake_ok rfl datas_nil ?_
  (repeat (first | simp only [↓QA, QB, Nat.reduceLT, reduceIte, Nat.reduceEqDiff, Nat.reduceAdd, Nat.reduceLeDiff, Nat.reduceMul, Nat.reduceBEq, QXFFaQB] | refine rd0 rfl ?_))
 ·obtain ⟨hc, hne⟩ := some_iff.1 hs
  have hv := vd_of_check hc
  have hnr := hv.nra
  have hnp := hv.npl
  have hwy := hv.way
  have hfu := hv.full
  have hwa : IntKind.i64.wrap (a : Int) = a := wrap64 ⟨by omega, by omega⟩
  have hwb : IntKind.i64.wrap (b : Int) = b := wrap64 ⟨by omega, by omega⟩
  have hwc : IntKind.i64.wrap (c : Int) = c := wrap64 ⟨by omega, by omega⟩
  have hwe : IntKind.i64.wrap (e : Int) = e := wrap64 ⟨by omega, by omega⟩
  obtain ⟨A, hAj, hAl⟩ := nat_rem (a := (a : Int)) (by omega) (show 0 < 4 by omega)
  obtain ⟨B, hBj, hBl⟩ := nat_rem (a := (b : Int)) (by omega) (show 0 < 4 by omega)
  have hAj' : (a : Int).tmod 4 = (A : Int) := hAj
  have hBj' : (b : Int).tmod 4 = (B : Int) := hBj
  have hra := V_rem .i64 (a : Int) 4 (by omega)
  have hrb := V_rem .i64 (b : Int) 4 (by omega)
  have hwr : IntKind.i64.wrap ((v.rain.length : Int) + 1) = ((v.rain.length + 1 : Nat) : Int) := wrapN (show v.rain.length < v.rain.length + 1 by omega) (by omega)
  have hrz : ((v.rain.length + 1 : Nat) : Int) ≠ 0 := by omega
  obtain ⟨d, hdj, hdl⟩ := nat_rem (a := (c : Int)) (by omega) (show 0 < v.rain.length + 1 by omega)
  obtain ⟨w, hwj, hwl⟩ := nat_rem (a := (e : Int)) (by omega) (show 0 < 401 by omega)
  have hvr := V_rem .i64 (e : Int) 401 (by omega)
  have hwj' : (e : Int).tmod 401 = (w : Int) := hwj
  have hdr : d ≤ v.rain.length := by omega
  have hA0 : (0 : Int) ≤ A := by omega
  have hB0 : (0 : Int) ≤ B := by omega
  have hsu := easy_some hA0 hB0 hs
  have hvu := easy_vd hv hA0 hB0
  have hts : ∀ t ∈ truths v [], TOk v t := fun t ht => tok_of hv ht
  have e1 := early_tr (h := (w : Int)) hs hdr (by omega)
  have e2 : earlyOf (easy v A B) (d : Int) (w : Int) = earlyR (easy v A B) (truths v []) d (earlyIn (easy v A B) (truths v []) d w) := early_tr hsu hdr (by omega)
  have hlast := fun (p : Nat) (hp : p < v.plots.length) => last_two hs hsu hp hp (ease_last (v := v) (ts := truths v []) (u := easy v A B) (us := truths (easy v A B) []) rfl hp fun d => easy_eases hv hA0 hB0 (truths v []) d)
  have hcu := fun (p : Nat) (hp : p < v.plots.length) => cut_tr hs hp hdr
  have hcv : ∀ p, p < v.plots.length → cutOf (easy v A B) (p : Int) (d : Int) = (goodOf (easy v A B) (truths v []) p d, 0) := fun p hp => cut_tr hsu hp hdr
  have hgo := fun (p : Nat) (h : goodOf v (truths v []) p d = 1) => easy_good hv hA0 hB0 h
  have hea : ∀ b, earlyIn v (truths v []) d w = some b → ∃ c, earlyIn (easy v A B) (truths v []) d w = some c ∧ (shrinksOf (easy v A B) (truths v []) c d).length ≤ (shrinksOf v (truths v []) b d).length := fun b hb => ease_early (by omega) (easy_eases hv hA0 hB0 (truths v []) d) (w : Int) hb
  have hel := fun b (h : earlyIn v (truths v []) d w = some b) => early_len (by omega) _ _ _ h
  have hew : (⟨v.way.lo, max v.way.lo (v.way.hi - A)⟩ : Span) = (easy v A B).way := rfl
  have hef : max 0 (v.full - B) = (easy v A B).full := rfl
  have w1 : IntKind.i64.wrap (v.way.hi - A) = v.way.hi - A := wrap64 ⟨by omega, by omega⟩
  have w2 : IntKind.i64.wrap (v.full - B) = v.full - B := wrap64 ⟨by omega, by omega⟩
  have hfz : Fits (easy v A B) := ⟨hf.rain, hf.plots, hf.looks, hf.names⟩
  obtain ⟨ts, htse⟩ : ∃ ts, truths v [] = ts := ⟨_, rfl⟩
  rw [htse] at hne hts e1 e2
  simp only [htse] at hcu hcv hgo hea hel
  obtain ⟨z, hz⟩ : ∃ z, easy v A B = z := ⟨_, rfl⟩
  have hzr : z.rain = v.rain := by rw [← hz]; rfl
  have hzp : z.plots = v.plots := by rw [← hz]; rfl
  have hzl : z.looks = v.looks := by rw [← hz]; rfl
  have hzi : z.ripe = v.ripe := by rw [← hz]; rfl
  rw [hz] at e2 hew hef hfz
  have hzw : z.way = ⟨v.way.lo, max v.way.lo (v.way.hi - A)⟩ := hew.symm
  simp only [hz] at hlast hcv hgo hea
  have okz : ((0 : Int) == 0) = true := rfl
  have hcz : farmCells z = [.lit (v.rain.map encSpan) false none, .int .i64 (max 0 (v.full - B)), .int .i64 v.ripe, .int .i64 v.way.lo, .int .i64 (max v.way.lo (v.way.hi - A)), .lit (v.plots.map encPlot) false none, .lit (v.looks.map encLook) false none] := by
   simp only [farmCells, hzr, hzp, hzl, hzi, hzw, ← hef]
  have hez : encFarm z = .agg [.lit (v.rain.map encSpan) false none, .int .i64 (max 0 (v.full - B)), .int .i64 v.ripe, .int .i64 v.way.lo, .int .i64 (max v.way.lo (v.way.hi - A)), .lit (v.plots.map encPlot) false none, .lit (v.looks.map encLook) false none] := by
   rw [encFarm, hcz]
  have hpc := pcut_ok z
  have hpl := plast_ok z
  have hpe := pearly_ok z
  rw [hez] at hpc hpl hpe
  have i0 : (0 : Int) ≤ 0 ∧ (0 : Int) < ((2 : Nat) : Int) := ⟨by omega, by omega⟩
  have i1 : (0 : Int) ≤ 1 ∧ (1 : Int) < ((2 : Nat) : Int) := ⟨by omega, by omega⟩
  have t0 : Int.toNat 0 = 0 := rfl
  have t1 : Int.toNat 1 = 1 := rfl
  (repeat (first | simp only [↓QA, QB, Nat.reduceLT, reduceIte, Nat.reduceEqDiff, Nat.reduceAdd, Nat.reduceLeDiff, Nat.reduceMul, Nat.reduceBEq, QXFFaQB, a14] | refine rd0 rfl ?_))
  ((first | refine callK_d (some2_ok v hf) rfl dd ?_ | refine callD_d (some2_ok v hf) rfl dd ?_); (repeat (first | simp only [↓QA, QB, Nat.reduceLT, reduceIte, Nat.reduceEqDiff, Nat.reduceAdd, Nat.reduceLeDiff, Nat.reduceMul, Nat.reduceBEq, QXFFaQB, hs, i0, i1, t0, t1, Nat.zero_mul, Nat.one_mul, hwa, hwb, hra, hrb, hAj', hBj', w1, w2] | refine rd0 rfl ?_)))
  ((first | refine callK_d (span_ok v.way.lo (max v.way.lo (v.way.hi - A))) rfl dd ?_ | refine callD_d (span_ok v.way.lo (max v.way.lo (v.way.hi - A))) rfl dd ?_); (repeat (first | simp only [↓QA, QB, Nat.reduceLT, reduceIte, Nat.reduceEqDiff, Nat.reduceAdd, Nat.reduceLeDiff, Nat.reduceMul, Nat.reduceBEq, QXFFaQB, i0, i1, t0, t1, Nat.zero_mul, Nat.one_mul, hwa, hwb, hra, hrb, hAj', hBj', w1, w2, hwc, hwe, hwr, V_rem _ _ _ hrz, hvr, hdj, hwj'] | refine rd0 rfl ?_)))
  refine loopE (S := Nat) 0 (fun p => p ≤ v.plots.length) (fun p => v.plots.length - p)
   (fun p => [(3, .ptr 0 0), (6, .bool false), (7, .ptr 3 0), (8, .int .i64 d), (9, .int .i64 w), (10, .int .i64 p)]) (fun _ => [.cells (farmCells v), .cells [.int .u8 a, .int .u8 b], .cells [.int .u8 c, .int .u16 e], .cells [.lit (v.rain.map encSpan) false none, .int .i64 (max 0 (v.full - B)), .int .i64 v.ripe, .int .i64 v.way.lo, .int .i64 (max v.way.lo (v.way.hi - A)), .lit (v.plots.map encPlot) false none, .lit (v.looks.map encLook) false none]]) (by simp) (by simp [farmCells, ints]) ?_ fun p hp => ?_
  ·try simp only [TrimX, QE, Nat.reduceLT, reduceIte, Nat.reduceEqDiff, Nat.reduceAdd, Nat.reduceLeDiff, Nat.reduceMul, Nat.reduceBEq, QXFFaQB]
   try simp
  ·(repeat (first | simp only [↓QA, QB, Nat.reduceLT, reduceIte, Nat.reduceEqDiff, Nat.reduceAdd, Nat.reduceLeDiff, Nat.reduceMul, Nat.reduceBEq, QXFFaQB, L14_0] | refine rd0 rfl ?_))
   refine iteP_intro (fun h => ?_) fun h => ?_
   ·have hp1 : p < v.plots.length := by simpa using h
    have hw := wrapN hp1 (by omega)
    obtain ⟨la, er, lb, eg, h1, h2, h3⟩ := hlast p hp1
    have h4 := hcu p hp1
    have h5 := hcv p hp1
    have h6 := hgo p
    obtain ⟨m, hm⟩ : ∃ m, goodOf v ts p d = m := ⟨_, rfl⟩
    obtain ⟨n, hn⟩ : ∃ n, goodOf z ts p d = n := ⟨_, rfl⟩
    rw [hm] at h4 h6
    rw [hn] at h5 h6
    (repeat (first | simp only [↓QA, QB, Nat.reduceLT, reduceIte, Nat.reduceEqDiff, Nat.reduceAdd, Nat.reduceLeDiff, Nat.reduceMul, Nat.reduceBEq, QXFFaQB] | refine rd0 rfl ?_))
    ((first | refine callK_d (plast_ok v p hf) rfl dd ?_ | refine callD_d (plast_ok v p hf) rfl dd ?_); (repeat (first | simp only [↓QA, QB, Nat.reduceLT, reduceIte, Nat.reduceEqDiff, Nat.reduceAdd, Nat.reduceLeDiff, Nat.reduceMul, Nat.reduceBEq, QXFFaQB, h1, encIE] | refine rd0 rfl ?_)))
    ((first | refine callK_d (hpl p hfz) rfl dd ?_ | refine callD_d (hpl p hfz) rfl dd ?_); (repeat (first | simp only [↓QA, QB, Nat.reduceLT, reduceIte, Nat.reduceEqDiff, Nat.reduceAdd, Nat.reduceLeDiff, Nat.reduceMul, Nat.reduceBEq, QXFFaQB, h2, encIE] | refine rd0 rfl ?_)))
    ((first | refine callK_d (pcut_ok v p d hf) rfl dd ?_ | refine callD_d (pcut_ok v p d hf) rfl dd ?_); (repeat (first | simp only [↓QA, QB, Nat.reduceLT, reduceIte, Nat.reduceEqDiff, Nat.reduceAdd, Nat.reduceLeDiff, Nat.reduceMul, Nat.reduceBEq, QXFFaQB, h4, encIE] | refine rd0 rfl ?_)))
    ((first | refine callK_d (hpc p d hfz) rfl dd ?_ | refine callD_d (hpc p d hfz) rfl dd ?_); (repeat (first | simp only [↓QA, QB, Nat.reduceLT, reduceIte, Nat.reduceEqDiff, Nat.reduceAdd, Nat.reduceLeDiff, Nat.reduceMul, Nat.reduceBEq, QXFFaQB, h5, encIE, okz] | refine rd0 rfl ?_)))
    cases q1 : (er == 0)
    ·cases q2 : (m == 1)
     ·(repeat (first | simp only [↓QA, QB, Nat.reduceLT, reduceIte, Nat.reduceEqDiff, Nat.reduceAdd, Nat.reduceLeDiff, Nat.reduceMul, Nat.reduceBEq, QXFFaQB, q1, q2, okz, hw] | refine rd0 rfl ?_))
      refine ⟨p + 1, by omega, by omega, ?_⟩
      try simp only [TrimX, QE, Nat.reduceLT, reduceIte, Nat.reduceEqDiff, Nat.reduceAdd, Nat.reduceLeDiff, Nat.reduceMul, Nat.reduceBEq, QXFFaQB, hw]
      try simp [okBlk]
     ·have hn1 : (n == 1) = true := by
       have := h6 (by simpa using q2)
       simpa using this
      (repeat (first | simp only [↓QA, QB, Nat.reduceLT, reduceIte, Nat.reduceEqDiff, Nat.reduceAdd, Nat.reduceLeDiff, Nat.reduceMul, Nat.reduceBEq, QXFFaQB, q1, q2, hn1, okz, hw] | refine rd0 rfl ?_))
      refine ⟨p + 1, by omega, by omega, ?_⟩
      try simp only [TrimX, QE, Nat.reduceLT, reduceIte, Nat.reduceEqDiff, Nat.reduceAdd, Nat.reduceLeDiff, Nat.reduceMul, Nat.reduceBEq, QXFFaQB, hw]
      try simp [okBlk]
    ·obtain ⟨h7, h8⟩ := h3 q1
     cases q2 : (m == 1)
     ·(repeat (first | simp only [↓QA, QB, Nat.reduceLT, reduceIte, Nat.reduceEqDiff, Nat.reduceAdd, Nat.reduceLeDiff, Nat.reduceMul, Nat.reduceBEq, QXFFaQB, q1, q2, h7, h8, okz, hw] | refine rd0 rfl ?_))
      refine ⟨p + 1, by omega, by omega, ?_⟩
      try simp only [TrimX, QE, Nat.reduceLT, reduceIte, Nat.reduceEqDiff, Nat.reduceAdd, Nat.reduceLeDiff, Nat.reduceMul, Nat.reduceBEq, QXFFaQB, hw]
      try simp [okBlk]
     ·have hn1 : (n == 1) = true := by
       have := h6 (by simpa using q2)
       simpa using this
      (repeat (first | simp only [↓QA, QB, Nat.reduceLT, reduceIte, Nat.reduceEqDiff, Nat.reduceAdd, Nat.reduceLeDiff, Nat.reduceMul, Nat.reduceBEq, QXFFaQB, q1, q2, hn1, h7, h8, okz, hw] | refine rd0 rfl ?_))
      refine ⟨p + 1, by omega, by omega, ?_⟩
      try simp only [TrimX, QE, Nat.reduceLT, reduceIte, Nat.reduceEqDiff, Nat.reduceAdd, Nat.reduceLeDiff, Nat.reduceMul, Nat.reduceBEq, QXFFaQB, hw]
      try simp [okBlk]
   ·cases hE : earlyIn v ts d w with
    | none =>
     rw [hE, earlyR] at e1
     obtain ⟨E, hEz⟩ : ∃ E, earlyIn z ts d w = E := ⟨_, rfl⟩
     rw [hEz] at e2
     cases E with
     | none =>
      rw [earlyR] at e2
      (repeat (first | simp only [↓QA, QB, Nat.reduceLT, reduceIte, Nat.reduceEqDiff, Nat.reduceAdd, Nat.reduceLeDiff, Nat.reduceMul, Nat.reduceBEq, QXFFaQB] | refine rd0 rfl ?_))
      ((first | refine callK_d (pearly_ok v d w hf) rfl dd ?_ | refine callD_d (pearly_ok v d w hf) rfl dd ?_); (repeat (first | simp only [↓QA, QB, Nat.reduceLT, reduceIte, Nat.reduceEqDiff, Nat.reduceAdd, Nat.reduceLeDiff, Nat.reduceMul, Nat.reduceBEq, QXFFaQB, e1, encLLE] | refine rd0 rfl ?_)))
      ((first | refine callK_d (hpe d w hfz) rfl dd ?_ | refine callD_d (hpe d w hfz) rfl dd ?_); (repeat (first | simp only [↓QA, QB, Nat.reduceLT, reduceIte, Nat.reduceEqDiff, Nat.reduceAdd, Nat.reduceLeDiff, Nat.reduceMul, Nat.reduceBEq, QXFFaQB, e2, encLLE, show ((9 : Int) == 0) = false from rfl, show ((9 : Int) == 9) = true from rfl] | refine rd0 rfl ?_)))
      refine callK_d awake_ok rfl datas_nil ?_
      (repeat (first | simp only [↓QA, QB, Nat.reduceLT, reduceIte, Nat.reduceEqDiff, Nat.reduceAdd, Nat.reduceLeDiff, Nat.reduceMul, Nat.reduceBEq, QXFFaQB] | refine rd0 rfl ?_))
     | some c =>
      rw [earlyR] at e2
      (repeat (first | simp only [↓QA, QB, Nat.reduceLT, reduceIte, Nat.reduceEqDiff, Nat.reduceAdd, Nat.reduceLeDiff, Nat.reduceMul, Nat.reduceBEq, QXFFaQB] | refine rd0 rfl ?_))
      ((first | refine callK_d (pearly_ok v d w hf) rfl dd ?_ | refine callD_d (pearly_ok v d w hf) rfl dd ?_); (repeat (first | simp only [↓QA, QB, Nat.reduceLT, reduceIte, Nat.reduceEqDiff, Nat.reduceAdd, Nat.reduceLeDiff, Nat.reduceMul, Nat.reduceBEq, QXFFaQB, e1, encLLE] | refine rd0 rfl ?_)))
      ((first | refine callK_d (hpe d w hfz) rfl dd ?_ | refine callD_d (hpe d w hfz) rfl dd ?_); (repeat (first | simp only [↓QA, QB, Nat.reduceLT, reduceIte, Nat.reduceEqDiff, Nat.reduceAdd, Nat.reduceLeDiff, Nat.reduceMul, Nat.reduceBEq, QXFFaQB, e2, encLLE, okz, show ((9 : Int) == 0) = false from rfl, show ((9 : Int) == 9) = true from rfl] | refine rd0 rfl ?_)))
      refine callK_d awake_ok rfl datas_nil ?_
      (repeat (first | simp only [↓QA, QB, Nat.reduceLT, reduceIte, Nat.reduceEqDiff, Nat.reduceAdd, Nat.reduceLeDiff, Nat.reduceMul, Nat.reduceBEq, QXFFaQB] | refine rd0 rfl ?_))
    | some b =>
     obtain ⟨c, hE2, hle⟩ := hea b hE
     rw [hE, earlyR] at e1
     rw [hE2, earlyR] at e2
     have g1 : decide (((shrinksOf z ts c d).length : Int) ≤ ((shrinksOf v ts b d).length : Int)) = true := by simp; omega
     (repeat (first | simp only [↓QA, QB, Nat.reduceLT, reduceIte, Nat.reduceEqDiff, Nat.reduceAdd, Nat.reduceLeDiff, Nat.reduceMul, Nat.reduceBEq, QXFFaQB] | refine rd0 rfl ?_))
     ((first | refine callK_d (pearly_ok v d w hf) rfl dd ?_ | refine callD_d (pearly_ok v d w hf) rfl dd ?_); (repeat (first | simp only [↓QA, QB, Nat.reduceLT, reduceIte, Nat.reduceEqDiff, Nat.reduceAdd, Nat.reduceLeDiff, Nat.reduceMul, Nat.reduceBEq, QXFFaQB, e1, encLLE] | refine rd0 rfl ?_)))
     ((first | refine callK_d (hpe d w hfz) rfl dd ?_ | refine callD_d (hpe d w hfz) rfl dd ?_); (repeat (first | simp only [↓QA, QB, Nat.reduceLT, reduceIte, Nat.reduceEqDiff, Nat.reduceAdd, Nat.reduceLeDiff, Nat.reduceMul, Nat.reduceBEq, QXFFaQB, e2, encLLE, okz, g1] | refine rd0 rfl ?_)))
     refine callK_d awake_ok rfl datas_nil ?_
     (repeat (first | simp only [↓QA, QB, Nat.reduceLT, reduceIte, Nat.reduceEqDiff, Nat.reduceAdd, Nat.reduceLeDiff, Nat.reduceMul, Nat.reduceBEq, QXFFaQB] | refine rd0 rfl ?_))
end Go.Am.Room
