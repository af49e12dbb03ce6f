/- A part of the proofs: an abstract machine, or what functions come to on it. -/
import Derived.Test.YtnioeddjaihmmaaCmpQ4
set_option linter.unusedVariables false
set_option linter.unusedSimpArgs false
set_option linter.defProp false
namespace Go.Am.Room
def BestIs (q : List Int → Bool) (sh : List Int → Nat) (L : List (List Int)) : Option (List Int) → Prop
 | none => ∀ c ∈ L, q c = false
 | some b => b ∈ L ∧ q b = true ∧ ∀ c ∈ L, q c = true → sh b < sh c ∨ (sh b = sh c ∧ (c = b ∨ fewer b c = true))
def stepR (q : List Int → Bool) (sh : List Int → Nat) (o : Option (List Int)) (c : List Int) : Option (List Int) :=
 if q c then (match o with | none => some c | some b => if sh c < sh b then some c else some b) else o
def stepP (q : List Int → Bool) (sh : List Int → Nat) (o : Option (List Int)) (c : List Int) : Option (List Int) :=
 if q c then (match o with | none => some c | some b => if sh c < sh b ∨ (sh c = sh b ∧ fewer c b = true) then some c else some b) else o
theorem stepR_is (q : List Int → Bool) (sh : List Int → Nat) : ∀ (L2 L1 : List (List Int)) (o : Option (List Int)), (L1 ++ L2).Pairwise (fun a b => fewer a b = true) → BestIs q sh L1 o → BestIs q sh (L1 ++ L2) (L2.foldl (stepR q sh) o)
 | [], L1, o, _, h => by simpa using h
 | c :: L2, L1, o, hp, h => by
  have e : L1 ++ c :: L2 = (L1 ++ [c]) ++ L2 := by simp
  rw [e] at hp ⊢
  rw [List.foldl_cons]
  refine stepR_is q sh L2 (L1 ++ [c]) _ hp ?_
  have hlast : ∀ a ∈ L1, fewer a c = true := fun a ha => (List.pairwise_append.1 (List.pairwise_append.1 hp).1).2.2 a ha c (by simp)
  cases hq : q c
  ·simp only [stepR, hq, Bool.false_eq_true, if_false]
   cases o with
   | none =>
    intro d hd
    rcases List.mem_append.1 hd with hd | hd
    ·exact h d hd
    ·simp at hd; rw [hd]; exact hq
   | some b =>
    refine ⟨List.mem_append_left _ h.1, h.2.1, fun d hd hqd => ?_⟩
    rcases List.mem_append.1 hd with hd | hd
    ·exact h.2.2 d hd hqd
    ·simp at hd; rw [hd, hq] at hqd; cases hqd
  ·simp only [stepR, hq, if_true]
   cases o with
   | none =>
    refine ⟨by simp, hq, fun d hd hqd => ?_⟩
    rcases List.mem_append.1 hd with hd | hd
    ·rw [h d hd] at hqd; cases hqd
    ·simp at hd; exact .inr ⟨by rw [hd], .inl hd⟩
   | some b =>
    simp only
    split
    ·rename_i hlt
     refine ⟨by simp, hq, fun d hd hqd => ?_⟩
     rcases List.mem_append.1 hd with hd | hd
     ·rcases h.2.2 d hd hqd with h3 | ⟨h3, _⟩
      ·exact .inl (by omega)
      ·exact .inl (by omega)
     ·simp at hd; exact .inr ⟨by rw [hd], .inl hd⟩
    ·rename_i hlt
     refine ⟨List.mem_append_left _ h.1, h.2.1, fun d hd hqd => ?_⟩
     rcases List.mem_append.1 hd with hd | hd
     ·exact h.2.2 d hd hqd
     ·simp at hd
      subst hd
      by_cases he : sh b = sh d
      ·exact .inr ⟨he, .inr (hlast b h.1)⟩
      ·exact .inl (by omega)
theorem stepP_is (q : List Int → Bool) (sh : List Int → Nat) : ∀ (L2 L1 : List (List Int)) (o : Option (List Int)), BestIs q sh L1 o → BestIs q sh (L1 ++ L2) (L2.foldl (stepP q sh) o)
 | [], L1, o, h => by simpa using h
 | c :: L2, L1, o, h => by
  have e : L1 ++ c :: L2 = (L1 ++ [c]) ++ L2 := by simp
  rw [e, List.foldl_cons]
  refine stepP_is q sh L2 (L1 ++ [c]) _ ?_
  cases hq : q c
  ·simp only [stepP, hq, Bool.false_eq_true, if_false]
   cases o with
   | none =>
    intro d hd
    rcases List.mem_append.1 hd with hd | hd
    ·exact h d hd
    ·simp at hd; rw [hd]; exact hq
   | some b =>
    refine ⟨List.mem_append_left _ h.1, h.2.1, fun d hd hqd => ?_⟩
    rcases List.mem_append.1 hd with hd | hd
    ·exact h.2.2 d hd hqd
    ·simp at hd; rw [hd, hq] at hqd; cases hqd
  ·simp only [stepP, hq, if_true]
   cases o with
   | none =>
    refine ⟨by simp, hq, fun d hd hqd => ?_⟩
    rcases List.mem_append.1 hd with hd | hd
    ·rw [h d hd] at hqd; cases hqd
    ·simp at hd; exact .inr ⟨by rw [hd], .inl hd⟩
   | some b =>
    simp only
    split
    ·rename_i hlt
     refine ⟨by simp, hq, fun d hd hqd => ?_⟩
     rcases List.mem_append.1 hd with hd | hd
     ·rcases h.2.2 d hd hqd with h3 | ⟨h3, h4⟩
      ·rcases hlt with hl | ⟨hl, _⟩
       ·exact .inl (by omega)
       ·exact .inl (by omega)
      ·rcases hlt with hl | ⟨hl, hf⟩
       ·exact .inl (by omega)
       ·refine .inr ⟨by omega, .inr ?_⟩
        rcases h4 with h4 | h4
        ·rw [h4]; exact hf
        ·exact fewer_trans hf h4
     ·simp at hd; exact .inr ⟨by rw [hd], .inl hd⟩
    ·rename_i hlt
     refine ⟨List.mem_append_left _ h.1, h.2.1, fun d hd hqd => ?_⟩
     rcases List.mem_append.1 hd with hd | hd
     ·exact h.2.2 d hd hqd
     ·simp at hd
      subst hd
      rw [not_or] at hlt
      by_cases he : sh b = sh d
      ·refine .inr ⟨he, ?_⟩
       have hnf : fewer d b = false := by
        cases hf : fewer d b
        ·rfl
        ·exact absurd ⟨he.symm, hf⟩ hlt.2
       by_cases hbf : fewer b d = true
       ·exact .inr hbf
       ·exact .inl (fewer_tri hnf (by simpa using hbf))
      ·exact .inl (by omega)
theorem best_one {q : List Int → Bool} {sh : List Int → Nat} {L K : List (List Int)} (hLK : ∀ c, c ∈ L ↔ c ∈ K) {a b : Option (List Int)} (ha : BestIs q sh L a) (hb : BestIs q sh K b) : a = b := by
 cases a with
 | none =>
  cases b with
  | none => rfl
  | some b => have := ha b ((hLK b).2 hb.1); rw [hb.2.1] at this; cases this
 | some a =>
  cases b with
  | none => have := hb a ((hLK a).1 ha.1); rw [ha.2.1] at this; cases this
  | some b =>
   have h1 := ha.2.2 b ((hLK b).2 hb.1) hb.2.1
   have h2 := hb.2.2 a ((hLK a).1 ha.1) ha.2.1
   rcases h1 with h1 | ⟨h1, h3⟩
   ·rcases h2 with h2 | ⟨h2, _⟩ <;> omega
   ·rcases h2 with h2 | ⟨h2, h4⟩
    ·omega
    ·rcases h3 with h3 | h3
     ·rw [h3]
     ·rcases h4 with h4 | h4
      ·rw [h4]
      ·have := fewer_trans h3 h4
       rw [fewer_irr] at this
       cases this
theorem chFrom_mem {n : Nat} : ∀ {k m : Nat} {c : List Int}, c ∈ chFrom n k m ↔ ∃ i, m ≤ i ∧ i < m + k ∧ c ∈ choices n i
 | 0, m, c => by simp [chFrom]; intro i a b; omega
 | k + 1, m, c => by
  rw [chFrom, List.mem_append, chFrom_mem (k := k)]
  constructor
  ·rintro (h | ⟨i, a, b, h⟩)
   ·exact ⟨m, Nat.le_refl _, by omega, h⟩
   ·exact ⟨i, by omega, by omega, h⟩
  ·rintro ⟨i, a, b, h⟩
   by_cases e : i = m
   ·subst e; exact .inl h
   ·exact .inr ⟨i, by omega, by omega, h⟩
theorem chFrom_sorted {n : Nat} (hn : n ≤ 6) : ∀ (k m : Nat), m + k ≤ 7 → (chFrom n k m).Pairwise fun a b => fewer a b = true
 | 0, m, _ => List.Pairwise.nil
 | k + 1, m, h => by
  rw [chFrom, List.pairwise_append]
  refine ⟨?_, chFrom_sorted hn k (m + 1) (by omega), fun a ha b hb => ?_⟩
  ·have := choices_sorted ⟨n, by omega⟩ ⟨m, by omega⟩
   simp only at this
   refine (List.pairwise_iff_forall_sublist.2 fun {a b} hab => ?_)
   have h1 := (List.pairwise_iff_forall_sublist.1 this) hab
   have ha := (choices_spec n m a (hab.subset (by simp))).1
   have hb := (choices_spec n m b (hab.subset (by simp))).1
   simp [fewer, ha, hb, h1]
  ·obtain ⟨i, hi, _, hbi⟩ := chFrom_mem.1 hb
   have h1 := (choices_spec n m a ha).1
   have h2 := (choices_spec n i b hbi).1
   have : a.length < b.length := by omega
   rw [fewer, if_neg (by omega)]
   simpa using this
def setsAll (n : Nat) : List (List Int) := (List.range (2 ^ n)).map (lst n)
theorem all_sets {n : Nat} (hn : n ≤ 6) (c : List Int) : c ∈ allChoices n ↔ c ∈ setsAll n := by
 rw [allChoices, chFrom_mem, setsAll, List.mem_map]
 constructor
 ·rintro ⟨i, _, hi, hc⟩
  obtain ⟨s, hs, he⟩ := in_lst ⟨n, by omega⟩ ⟨i, by omega⟩ c hc
  exact ⟨s.val, by simpa using hs, he⟩
 ·rintro ⟨s, hs, rfl⟩
  have hs2 : s < 2 ^ n := by simpa using hs
  have hp : 2 ^ n ≤ 2 ^ 6 := Nat.pow_le_pow_right (by omega) hn
  have := lst_in ⟨n, by omega⟩ ⟨s, by omega⟩ hs2
  exact ⟨(lst n s).length, Nat.zero_le _, by have := lst_len n s; omega, this⟩
theorem early_eq {q : List Int → Bool} {sh : List Int → Nat} {n : Nat} (hn : n ≤ 6) : (allChoices n).foldl (stepR q sh) none = (setsAll n).foldl (stepP q sh) none := by
 have h1 := stepR_is q sh (allChoices n) [] none (by rw [List.nil_append]; exact chFrom_sorted hn (n + 1) 0 (by omega)) (fun c hc => by cases hc)
 have h2 := stepP_is q sh (setsAll n) [] none (fun c hc => by cases hc)
 exact best_one (all_sets hn) h1 h2
theorem early_step (v : Farm) (l : List Truth) (d : Nat) (hands : Int) : earlyStep v l d hands = stepR (fun c => doesB v l c d hands) (fun c => (shrinksOf v l c d).length) := by
 funext o c
 rfl
theorem weather_ne {v : Farm} (hv : Vd v) : weather v ≠ [] := by
 have : RainOk v (v.rain.map fun s => s.lo) := ⟨by simp, fun i h => by
  have h2 := hv.ra _ (List.getElem_mem h)
  have e : rl (v.rain.map fun s => s.lo) i = v.rain[i].lo := by simp [rl, h]
  rw [e]
  omega⟩
 exact List.ne_nil_of_mem (weather_mem.2 this)
theorem some_all {v : Farm} (hv : Vd v) {but : List Int} (h : ∀ k, k < v.looks.length → but.contains (k : Int) = true) : someB v but = true := by
 obtain ⟨c, hc⟩ := List.exists_mem_of_ne_nil _ (weather_ne hv)
 have ht : (⟨c, (List.range v.plots.length).map (fun p => flowersOf v p c but)⟩ : Truth) ∈ truths v but := by
  refine mem_truths.2 ⟨weather_mem.1 hc, rfl, fun x hx e => ?_⟩
  simp only [List.mem_map, List.mem_range] at hx
  obtain ⟨p, hp, rfl⟩ := hx
  have hpl := (pl_ok hv hp).1
  have : v.plots[p].flower.lo ∈ flowersOf v p c but := by
   rw [flowersOf, flower_at hp, List.mem_filter, waysIn_mem]
   refine ⟨by omega, ?_⟩
   rw [flowerOk, List.all_eq_true]
   intro k hk
   have hk2 : k < v.looks.length := by simpa using hk
   rw [List.getElem?_eq_getElem hk2]
   simp only [lookOk, h k hk2, Bool.or_true, Bool.true_or]
  rw [e] at this
  cases this
 rw [someB]
 cases hh : truths v but with
 | nil => rw [hh] at ht; cases ht
 | cons a b => rfl
theorem some_full {v : Farm} (hv : Vd v) : ∀ c ∈ choices v.looks.length v.looks.length, someB v c = true := fun c hc => by
 have hl := hv.nlk
 exact some_all hv fun k hk => all_contains ⟨v.looks.length, by omega⟩ c hc ⟨k, by omega⟩ hk
theorem firstFrom_snoc (f : List Int → Bool) (n : Nat) : ∀ k m, firstFrom f n (k + 1) m = (firstFrom f n k m).or ((choices n (m + k)).find? f)
 | 0, m => by simp only [firstFrom, Nat.add_zero]; cases (choices n m).find? f <;> rfl
 | k + 1, m => by
  rw [firstFrom, firstFrom_snoc f n k (m + 1)]
  rw [show firstFrom f n (k + 1) m = (match (choices n m).find? f with | some l => some l | none => firstFrom f n k (m + 1)) from rfl]
  rw [show m + 1 + k = m + (k + 1) by omega]
  cases (choices n m).find? f <;> rfl
theorem wrong_first {v : Farm} (hv : Vd v) : firstFrom (someB v) v.looks.length (v.looks.length + 1) 0 = some (wrongL v) := by
 have hl := hv.nlk
 have h1 := choices_one ⟨v.looks.length, by omega⟩
 simp only at h1
 obtain ⟨w, hw⟩ := List.length_eq_one_iff.1 h1
 have hs := some_full hv w (by rw [hw]; simp)
 rw [firstFrom_snoc, wrongL, Nat.zero_add, hw]
 cases firstFrom (someB v) v.looks.length v.looks.length 0 with
 | some l => rfl
 | none => simp [hs]
end Go.Am.Room
set_option maxRecDepth 8000
namespace Go.Am.Room
def QXFFaPE := And.intro @encFarm_eq (And.intro @farmCells_eq (And.intro @encPlot_eq (And.intro @encLook_eq (And.intro @encSpan_eq (And.intro @S_mapPlot (And.intro @S_mapLook (And.intro @S_mapSpan (And.intro @List.length_append.{0} (And.intro @Nat.mul_one (And.intro @Int.toNat_natCast (And.intro @T_sapp (And.intro @T_sapp0 (And.intro @db_0 (And.intro @db_1 (And.intro @db_2 (And.intro @db_3 (And.intro @db_4 (And.intro @db_5 (And.intro @db_6 (And.intro @db_7 (And.intro @db_8 (@S_mapI))))))))))))))))))))))
theorem pwrong_ok (v : Farm) (hf : Fits v) : Pure T 33 [encFarm v] (encLE (wrongOf v)) := by
 refine pure_fn (af := a33) rfl (by simp [a33]) dd ?_
 (repeat (first | simp only [↓QA, QB, Nat.reduceLT, reduceIte, Nat.reduceEqDiff, Nat.reduceAdd, Nat.reduceLeDiff, Nat.reduceMul, Nat.reduceBEq, QXFFaPE, a33] | refine rd0 rfl ?_))
 ((first | refine callK_d (check_ok v hf) rfl dd ?_ | refine callD_d (check_ok v hf) rfl dd ?_); (repeat (first | simp only [↓QA, QB, Nat.reduceLT, reduceIte, Nat.reduceEqDiff, Nat.reduceAdd, Nat.reduceLeDiff, Nat.reduceMul, Nat.reduceBEq, QXFFaPE, enc3] | refine rd0 rfl ?_)))
 cases h0 : ((check v).2.2 == 0)
 ·have h0' : (check v).2.2 ≠ 0 := by simpa using h0
  have hwo : wrongOf v = ([], (check v).2.2) := if_neg h0'
  rw [hwo]
  (repeat (first | simp only [↓QA, QB, Nat.reduceLT, reduceIte, Nat.reduceEqDiff, Nat.reduceAdd, Nat.reduceLeDiff, Nat.reduceMul, Nat.reduceBEq, QXFFaPE, h0, encLE] | refine rd0 rfl ?_))
  try rfl
 ·have h0' : (check v).2.2 = 0 := by simpa using h0
  have hwo : wrongOf v = (wrongL v, 0) := if_pos h0'
  have hv := vd_of_check h0'
  have hnl := hv.nlk
  have hwf := wrong_first hv
  rw [← few_eq _ _ (by omega)] at hwf
  rw [hwo]
  obtain ⟨W, hW⟩ : ∃ W, wrongL v = W := ⟨_, rfl⟩
  rw [hW] at hwf ⊢
  obtain ⟨n, hn⟩ : ∃ n, v.looks.length = n := ⟨_, rfl⟩
  rw [hn] at hwf hnl
  have hp : 2 ^ n ≤ 2 ^ 4 := Nat.pow_le_pow_right (by omega) hnl
  have hshl := V_shl1 n (by omega)
  obtain ⟨P, hP⟩ : ∃ P, 2 ^ n = P := ⟨_, rfl⟩
  have hbl : ∀ s, s < P → ButIs s (lst n s) := fun s hs => but_lst (by omega) (by omega)
  rw [hP] at hp hshl hwf
  obtain ⟨q, hq⟩ : ∃ q, someB v = q := ⟨_, rfl⟩
  have hqd : ∀ l, decide ((0 : Int) < ((truths v l).length : Int)) = q l := fun l => by
   rw [← hq, someB]; cases truths v l <;> simp
  rw [hq] at hwf
  (repeat (first | simp only [↓QA, QB, Nat.reduceLT, reduceIte, Nat.reduceEqDiff, Nat.reduceAdd, Nat.reduceLeDiff, Nat.reduceMul, Nat.reduceBEq, QXFFaPE, h0, hn, hshl] | refine rd0 rfl ?_))
  refine loopE (S := Nat × Option (List Int)) (0, none) (fun x => x.1 ≤ P ∧ fewFold q n (P - x.1) x.1 x.2 = some W ∧ (x.2.getD []).length ≤ n) (fun x => P - x.1)
   (fun x => [(1, .ptr 0 0), (2, ints (x.2.getD [])), (4, .bool x.2.isSome), (19, .int .i64 P), (20, .int .i64 x.1)])
   (fun x => [.cells (farmCells v)]) ⟨by simp, by simpa using hwf, by simp⟩ (by simp [farmCells, ints]) ?_ fun x hx => ?_
  ·try simp only [TrimX, QE, Nat.reduceLT, reduceIte, Nat.reduceEqDiff, Nat.reduceAdd, Nat.reduceLeDiff, Nat.reduceMul, Nat.reduceBEq, QXFFaPE, ints, Option.getD_none, Option.isSome_none]
   try simp [clr, clrs]
  ·obtain ⟨s, o⟩ := x
   obtain ⟨hs, hfo, hol⟩ := hx
   simp only at hs hfo hol
   (repeat (first | simp only [↓QA, QB, Nat.reduceLT, reduceIte, Nat.reduceEqDiff, Nat.reduceAdd, Nat.reduceLeDiff, Nat.reduceMul, Nat.reduceBEq, QXFFaPE, L33_0] | refine rd0 rfl ?_))
   refine iteP_intro (fun h => ?_) fun h => ?_
   ·have hs1 : s < P := by simpa using h
    have hw := wrapN hs1 (by omega)
    have hll := lst_len n s
    have hlk := look_does [.cells (farmCells v)] v s (lst n s) hv (hbl s hs1)
    have hlo := numbers_ok s n (by omega) (by omega)
    have hlen := look_len [.cells (farmCells v)] [.cells (db v s 2)] v s (truths v (lst n s)) 2 rfl
    rw [show P - s = (P - (s + 1)) + 1 by omega] at hfo
    simp only [fewFold] at hfo
    obtain ⟨L, hL⟩ : ∃ L, lst n s = L := ⟨_, rfl⟩
    rw [hL] at hfo hll hlk hlo hlen
    have hqL := hqd L
    try simp only [↓QA, QB, Nat.reduceLT, reduceIte, Nat.reduceEqDiff, Nat.reduceAdd, Nat.reduceLeDiff, Nat.reduceMul, Nat.reduceBEq, QXFFaPE, lookS, List.cons_append, List.nil_append, List.length_cons, List.length_nil] at hlk hlen
    (repeat (first | simp only [↓QA, QB, Nat.reduceLT, reduceIte, Nat.reduceEqDiff, Nat.reduceAdd, Nat.reduceLeDiff, Nat.reduceMul, Nat.reduceBEq, QXFFaPE, hn, Option.getD_some] | refine rd0 rfl ?_))
    ((first | refine callK_d (hlo) rfl dd ?_ | refine callD_d (hlo) rfl dd ?_); (repeat (first | simp only [↓QA, QB, Nat.reduceLT, reduceIte, Nat.reduceEqDiff, Nat.reduceAdd, Nat.reduceLeDiff, Nat.reduceMul, Nat.reduceBEq, QXFFaPE] | refine rd0 rfl ?_)))
    cases o with
    | none =>
     have hst : fewStep q none L = if q L = true then some L else none := rfl
     (repeat (first | simp only [↓QA, QB, Nat.reduceLT, reduceIte, Nat.reduceEqDiff, Nat.reduceAdd, Nat.reduceLeDiff, Nat.reduceMul, Nat.reduceBEq, QXFFaPE, Option.isSome_none, Option.getD_none] | refine rd0 rfl ?_))
     refine callK_do hlk ?_
     (repeat (first | simp only [↓QA, QB, Nat.reduceLT, reduceIte, Nat.reduceEqDiff, Nat.reduceAdd, Nat.reduceLeDiff, Nat.reduceMul, Nat.reduceBEq, QXFFaPE, hlen, hqL] | refine rd0 rfl ?_))
     cases hsm : q L
     ·rw [hsm] at hst
      simp only [Bool.false_eq_true, if_false] at hst
      rw [hst] at hfo
      (repeat (first | simp only [↓QA, QB, Nat.reduceLT, reduceIte, Nat.reduceEqDiff, Nat.reduceAdd, Nat.reduceLeDiff, Nat.reduceMul, Nat.reduceBEq, QXFFaPE, hw] | refine rd0 rfl ?_))
      refine ⟨(s + 1, none), ⟨by simp only; omega, hfo, by simp⟩, by simp only; omega, ?_⟩
      try simp only [TrimX, QE, Nat.reduceLT, reduceIte, Nat.reduceEqDiff, Nat.reduceAdd, Nat.reduceLeDiff, Nat.reduceMul, Nat.reduceBEq, QXFFaPE, hw, Option.isSome_none, Option.getD_none]
      try simp [ints, okBlk]
     ·rw [hsm] at hst
      simp only [if_true] at hst
      rw [hst] at hfo
      (repeat (first | simp only [↓QA, QB, Nat.reduceLT, reduceIte, Nat.reduceEqDiff, Nat.reduceAdd, Nat.reduceLeDiff, Nat.reduceMul, Nat.reduceBEq, QXFFaPE, hw] | refine rd0 rfl ?_))
      refine ⟨(s + 1, some L), ⟨by simp only; omega, hfo, by simpa using hll⟩, by simp only; omega, ?_⟩
      try simp only [TrimX, QE, Nat.reduceLT, reduceIte, Nat.reduceEqDiff, Nat.reduceAdd, Nat.reduceLeDiff, Nat.reduceMul, Nat.reduceBEq, QXFFaPE, hw, Option.isSome_some, Option.getD_some]
      try simp [ints, okBlk]
    | some b =>
     simp only [Option.getD_some] at hol
     simp only [Option.isSome_some, iteP_true]
     (repeat (first | simp only [↓QA, QB, Nat.reduceLT, reduceIte, Nat.reduceEqDiff, Nat.reduceAdd, Nat.reduceLeDiff, Nat.reduceMul, Nat.reduceBEq, QXFFaPE, Option.isSome_some, Option.getD_some] | refine rd0 rfl ?_))
     have fin : ∀ (hfw : fewer b L = false), fewStep q (some b) L = if q L = true then some L else some b := fun hfw => by simp only [fewStep, hfw]; rfl
     cases h1 : decide ((b.length : Int) < (L.length : Int))
     ·have h1' : ¬ b.length < L.length := by simpa using h1
      (repeat (first | simp only [↓QA, QB, Nat.reduceLT, reduceIte, Nat.reduceEqDiff, Nat.reduceAdd, Nat.reduceLeDiff, Nat.reduceMul, Nat.reduceBEq, QXFFaPE, Option.getD_some, h1] | refine rd0 rfl ?_))
      cases h2 : ((L.length : Int) == (b.length : Int))
      ·have h2' : ¬ b.length = L.length := by intro h; rw [h] at h2; simp at h2
       have hst := fin (by simp [fewer, h1', h2'])
       (repeat (first | simp only [↓QA, QB, Nat.reduceLT, reduceIte, Nat.reduceEqDiff, Nat.reduceAdd, Nat.reduceLeDiff, Nat.reduceMul, Nat.reduceBEq, QXFFaPE, h2] | refine rd0 rfl ?_))
       refine callK_do hlk ?_
       (repeat (first | simp only [↓QA, QB, Nat.reduceLT, reduceIte, Nat.reduceEqDiff, Nat.reduceAdd, Nat.reduceLeDiff, Nat.reduceMul, Nat.reduceBEq, QXFFaPE, hlen, hqL] | refine rd0 rfl ?_))
       cases hsm : q L
       ·rw [hsm] at hst
        simp only [Bool.false_eq_true, if_false] at hst
        rw [hst] at hfo
        (repeat (first | simp only [↓QA, QB, Nat.reduceLT, reduceIte, Nat.reduceEqDiff, Nat.reduceAdd, Nat.reduceLeDiff, Nat.reduceMul, Nat.reduceBEq, QXFFaPE, hw] | refine rd0 rfl ?_))
        refine ⟨(s + 1, some b), ⟨by simp only; omega, hfo, by simpa using hol⟩, by simp only; omega, ?_⟩
        try simp only [TrimX, QE, Nat.reduceLT, reduceIte, Nat.reduceEqDiff, Nat.reduceAdd, Nat.reduceLeDiff, Nat.reduceMul, Nat.reduceBEq, QXFFaPE, hw, Option.isSome_some, Option.getD_some]
        try simp [ints, okBlk]
       ·rw [hsm] at hst
        simp only [if_true] at hst
        rw [hst] at hfo
        (repeat (first | simp only [↓QA, QB, Nat.reduceLT, reduceIte, Nat.reduceEqDiff, Nat.reduceAdd, Nat.reduceLeDiff, Nat.reduceMul, Nat.reduceBEq, QXFFaPE, hw] | refine rd0 rfl ?_))
        refine ⟨(s + 1, some L), ⟨by simp only; omega, hfo, by simpa using hll⟩, by simp only; omega, ?_⟩
        try simp only [TrimX, QE, Nat.reduceLT, reduceIte, Nat.reduceEqDiff, Nat.reduceAdd, Nat.reduceLeDiff, Nat.reduceMul, Nat.reduceBEq, QXFFaPE, hw, Option.isSome_some, Option.getD_some]
        try simp [ints, okBlk]
      ·have h2' : b.length = L.length := by simp at h2; omega
       (repeat (first | simp only [↓QA, QB, Nat.reduceLT, reduceIte, Nat.reduceEqDiff, Nat.reduceAdd, Nat.reduceLeDiff, Nat.reduceMul, Nat.reduceBEq, QXFFaPE, Option.getD_some, h2] | refine rd0 rfl ?_))
       ((first | refine callK_d (scmp_ok L b (by omega) (by omega)) rfl dd ?_ | refine callD_d (scmp_ok L b (by omega) (by omega)) rfl dd ?_); (repeat (first | simp only [↓QA, QB, Nat.reduceLT, reduceIte, Nat.reduceEqDiff, Nat.reduceAdd, Nat.reduceLeDiff, Nat.reduceMul, Nat.reduceBEq, QXFFaPE, cmpL_less, Option.getD_some] | refine rd0 rfl ?_)))
       cases h3 : less b L
       ·have hst := fin (by simp [fewer, h2', h3])
        (repeat (first | simp only [↓QA, QB, Nat.reduceLT, reduceIte, Nat.reduceEqDiff, Nat.reduceAdd, Nat.reduceLeDiff, Nat.reduceMul, Nat.reduceBEq, QXFFaPE, h3] | refine rd0 rfl ?_))
        refine callK_do hlk ?_
        (repeat (first | simp only [↓QA, QB, Nat.reduceLT, reduceIte, Nat.reduceEqDiff, Nat.reduceAdd, Nat.reduceLeDiff, Nat.reduceMul, Nat.reduceBEq, QXFFaPE, hlen, hqL] | refine rd0 rfl ?_))
        cases hsm : q L
        ·rw [hsm] at hst
         simp only [Bool.false_eq_true, if_false] at hst
         rw [hst] at hfo
         (repeat (first | simp only [↓QA, QB, Nat.reduceLT, reduceIte, Nat.reduceEqDiff, Nat.reduceAdd, Nat.reduceLeDiff, Nat.reduceMul, Nat.reduceBEq, QXFFaPE, hw] | refine rd0 rfl ?_))
         refine ⟨(s + 1, some b), ⟨by simp only; omega, hfo, by simpa using hol⟩, by simp only; omega, ?_⟩
         try simp only [TrimX, QE, Nat.reduceLT, reduceIte, Nat.reduceEqDiff, Nat.reduceAdd, Nat.reduceLeDiff, Nat.reduceMul, Nat.reduceBEq, QXFFaPE, hw, Option.isSome_some, Option.getD_some]
         try simp [ints, okBlk]
        ·rw [hsm] at hst
         simp only [if_true] at hst
         rw [hst] at hfo
         (repeat (first | simp only [↓QA, QB, Nat.reduceLT, reduceIte, Nat.reduceEqDiff, Nat.reduceAdd, Nat.reduceLeDiff, Nat.reduceMul, Nat.reduceBEq, QXFFaPE, hw] | refine rd0 rfl ?_))
         refine ⟨(s + 1, some L), ⟨by simp only; omega, hfo, by simpa using hll⟩, by simp only; omega, ?_⟩
         try simp only [TrimX, QE, Nat.reduceLT, reduceIte, Nat.reduceEqDiff, Nat.reduceAdd, Nat.reduceLeDiff, Nat.reduceMul, Nat.reduceBEq, QXFFaPE, hw, Option.isSome_some, Option.getD_some]
         try simp [ints, okBlk]
       ·have hfw : fewer b L = true := by simp [fewer, h2', h3]
        have hst : fewStep q (some b) L = some b := by simp only [fewStep, hfw, if_true]
        rw [hst] at hfo
        (repeat (first | simp only [↓QA, QB, Nat.reduceLT, reduceIte, Nat.reduceEqDiff, Nat.reduceAdd, Nat.reduceLeDiff, Nat.reduceMul, Nat.reduceBEq, QXFFaPE, h3, hw] | refine rd0 rfl ?_))
        refine ⟨(s + 1, some b), ⟨by simp only; omega, hfo, by simpa using hol⟩, by simp only; omega, ?_⟩
        try simp only [TrimX, QE, Nat.reduceLT, reduceIte, Nat.reduceEqDiff, Nat.reduceAdd, Nat.reduceLeDiff, Nat.reduceMul, Nat.reduceBEq, QXFFaPE, hw, Option.isSome_some, Option.getD_some]
        try simp [ints, okBlk]
     ·have h1' : b.length < L.length := by simpa using h1
      have h2' : ¬ b.length = L.length := by omega
      have hfw : fewer b L = true := by simp [fewer, h1', h2']
      have hst : fewStep q (some b) L = some b := by simp only [fewStep, hfw, if_true]
      rw [hst] at hfo
      (repeat (first | simp only [↓QA, QB, Nat.reduceLT, reduceIte, Nat.reduceEqDiff, Nat.reduceAdd, Nat.reduceLeDiff, Nat.reduceMul, Nat.reduceBEq, QXFFaPE, h1, hw] | refine rd0 rfl ?_))
      refine ⟨(s + 1, some b), ⟨by simp only; omega, hfo, by simpa using hol⟩, by simp only; omega, ?_⟩
      try simp only [TrimX, QE, Nat.reduceLT, reduceIte, Nat.reduceEqDiff, Nat.reduceAdd, Nat.reduceLeDiff, Nat.reduceMul, Nat.reduceBEq, QXFFaPE, hw, Option.isSome_some, Option.getD_some]
      try simp [ints, okBlk]
   ·have hs1 : s = P := by simp at h; omega
    rw [hs1, Nat.sub_self] at hfo
    simp only [fewFold] at hfo
    subst hfo
    (repeat (first | simp only [↓QA, QB, Nat.reduceLT, reduceIte, Nat.reduceEqDiff, Nat.reduceAdd, Nat.reduceLeDiff, Nat.reduceMul, Nat.reduceBEq, QXFFaPE, encLE, Option.getD_some] | refine rd0 rfl ?_))
    try try simp only [QS, QC, Nat.reduceLT, reduceIte, Nat.reduceEqDiff, Nat.reduceAdd, Nat.reduceLeDiff, Nat.reduceMul, Nat.reduceBEq, QXFFaPE]
variable {α : Type}
def flatC (c : α → List AV) : List α → List AV
 | [] => []
 | y :: l => c y ++ flatC c l
structure Cells (enc : α → AV) (c : α → List AV) (sz : Nat) : Prop where
 agg : ∀ x, enc x = .agg (c x)
 len : ∀ x, (c x).length = sz
 one : sz ≠ 1 ∧ sz ≠ 0
 cell : ∀ x, (c x).all (·.cell) = true
 data : ∀ x, Data (enc x)
variable {enc : α → AV} {c : α → List AV} {sz : Nat}
theorem flatC_len (h : Cells enc c sz) : ∀ l, (flatC c l).length = l.length * sz
 | [] => by simp [flatC]
 | y :: l => by simp only [flatC, List.length_append, h.len, List.length_cons, flatC_len h l, Nat.add_mul]; omega
theorem flatC_map (h : Cells enc c sz) : ∀ l : List α, (l.map enc).flatMap AV.cells = flatC c l
 | [] => rfl
 | y :: l => by rw [List.map_cons, List.flatMap_cons, flatC_map h l, h.agg]; rfl
theorem flatC_all (h : Cells enc c sz) (l : List α) : allCells sz (l.map enc) = true := L_allM sz enc l fun y => by
 rw [h.agg]
 simp only [cellsOk, AV.cells, h.len, beq_self_eq_true, Bool.true_and]
 exact h.cell y
theorem flatC_okVs (h : Cells enc c sz) (m : Nat) (hc : ∀ x, okVs m (c x)) : ∀ l, okVs m (flatC c l)
 | [] => trivial
 | y :: l => okVs_app (hc y) (flatC_okVs h m hc l)
end Go.Am.Room
namespace Go.Am.Room
theorem cmpL_neg : ∀ a b : List Int, decide (cmpL a b < 0) = less a b
 | [], [] => rfl
 | [], b :: bs => rfl
 | a :: az, [] => rfl
 | a :: az, b :: bs => by
  have ih := cmpL_neg az bs
  simp only [cmpL, less, cmpI]
  by_cases h1 : a < b
  ·simp [h1, show ¬ a = b by omega]
  ·by_cases h2 : b < a
   ·simp [h1, h2, show ¬ a = b by omega] <;> omega
   ·have : a = b := by omega
    subst this
    simp [ih]
def plotC (x : Plot) : List AV := [.str x.name, .int .i64 x.flower.lo, .int .i64 x.flower.hi, .int .i64 x.hands]
theorem plotC_ok : Cells encPlot plotC 4 := ⟨fun x => by simp only [encPlot, plotC], fun x => rfl, by decide, fun x => rfl, data_plot⟩
theorem plotC_okV (m : Nat) (x : Plot) : okVs m (plotC x) := ⟨trivial, trivial, trivial, trivial, trivial⟩
def zero4 : List AV := [.str ⟨#[]⟩, .int .i64 0, .int .i64 0, .int .i64 0]
theorem copy_plots (b0 b1 b2 b3 b4 b5 : ABlk) (l : List Plot) : copyAV 4 [b0, b1, b2, b3, b4, b5, .cells (List.replicate l.length zero4).flatten] (.ref 6 0 l.length 4) (.lit (l.map encPlot) false none) = some (.int .i64 l.length, [b0, b1, b2, b3, b4, b5, .cells (flatC plotC l)]) := by
 have h1 : allCells 4 (l.map encPlot) = true := flatC_all plotC_ok l
 have h2 : (l.map encPlot).take l.length = l.map encPlot := List.take_of_length_le (by simp)
 have h3 := flatC_len plotC_ok l
 have h4 : ((List.replicate l.length zero4).flatten).length = l.length * 4 := by simp [zero4]
 have h5 : setCells (List.replicate l.length zero4).flatten 0 (flatC plotC l) = some (flatC plotC l) := by
  simp only [setCells]
  rw [if_pos (by omega), List.drop_of_length_le (by omega)]
  simp
 have h6 := flatC_map plotC_ok l
 simp [copyAV, view, sized, h1, cellsAt, h2, h5, h6]
theorem flat_hands : ∀ (l : List Plot) (k : Nat) (hk : k < l.length), (flatC plotC l)[k * 4 + 3]? = some (.int .i64 l[k].hands)
 | [], k, hk => by simp at hk
 | y :: l, 0, hk => rfl
 | y :: l, k + 1, hk => by
  have := flat_hands l k (by simpa using hk)
  have e : (k + 1) * 4 + 3 = (plotC y).length + (k * 4 + 3) := by simp only [plotC, List.length_cons, List.length_nil]; omega
  simp only [flatC, List.getElem_cons_succ]
  rw [e, List.getElem?_append_right (by omega), Nat.add_sub_cancel_left]
  exact this
def BitsOf (n : Nat) (p : Nat → Bool) (g : Nat) : Prop := g < 2 ^ n ∧ ∀ i, g.testBit i = (decide (i < n) && p i)
theorem bits_next {k : Nat} {p : Nat → Bool} {g : Nat} (h : BitsOf k p g) : (p k = true → BitsOf (k + 1) p (g ||| 2 ^ k)) ∧ (p k = false → BitsOf (k + 1) p g) := by
 obtain ⟨h1, h2⟩ := h
 have hlt : 2 ^ k < 2 ^ (k + 1) := Nat.pow_lt_pow_right (by omega) (by omega)
 constructor
 ·intro hp
  refine ⟨Nat.or_lt_two_pow (by omega) hlt, fun i => ?_⟩
  rw [Nat.testBit_or, h2, Nat.testBit_two_pow]
  by_cases e : k = i
  ·subst e; simp [hp]
  ·rw [Bool.eq_iff_iff]
   simp [e]
   intro _
   omega
 ·intro hp
  refine ⟨by omega, fun i => ?_⟩
  rw [h2]
  by_cases e : i = k
  ·subst e; simp [hp]
  ·rw [Bool.eq_iff_iff]
   simp
   intro _
   omega
theorem and_none {n s g : Nat} {p : Nat → Bool} (hs : s < 2 ^ n) (hn : n ≤ 60) (hg : BitsOf n p g) : (andN s g = 0) ↔ ∀ x ∈ lst n s, p x.toNat = true := by
 have hp := pow_small hn
 have hb := fun i => andN_bit (b := g) (by have := hg.1; omega) s i (by omega)
 constructor
 ·intro h x hx
  obtain ⟨h1, h2⟩ := mem_lst.1 hx
  have := hb x.toNat
  rw [h, Nat.zero_testBit, h2, hg.2] at this
  simp at this
  exact this.2
 ·intro h
  refine Nat.eq_of_testBit_eq fun i => ?_
  rw [hb, Nat.zero_testBit, hg.2]
  cases hsi : s.testBit i
  ·rfl
  ·by_cases hi : i < n
   ·have := h (i : Int) (mem_lst.2 ⟨by omega, by simpa using hsi⟩)
    rw [Int.toNat_natCast] at this
    simp [hi, this]
   ·rw [Nat.testBit_lt_two_pow (Nat.lt_of_lt_of_le hs (Nat.pow_le_pow_right (by omega) (by omega)))] at hsi
    cases hsi
theorem lst_and {n s g : Nat} {p : Nat → Bool} (hg : BitsOf n p g) : lst n (s &&& g) = (lst n s).filter fun x => p x.toNat := by
 simp only [lst]
 rw [List.filter_filter]
 refine List.filter_congr fun x hx => ?_
 have hx0 := (numbers_mem _ _ _).1 hx
 rw [← bit_div, ← bit_div, Nat.testBit_and, hg.2]
 have : decide (x.toNat < n) = true := by simp; omega
 rw [this, Bool.true_and, Bool.and_comm]
end Go.Am.Room
set_option maxRecDepth 8000
namespace Go.Am.Room
def QXFFaPG := And.intro @encFarm_eq (And.intro @farmCells_eq (And.intro @encPlot_eq (And.intro @encLook_eq (And.intro @encSpan_eq (And.intro @S_mapPlot (And.intro @S_mapLook (And.intro @S_mapSpan (And.intro @List.length_append.{0} (And.intro @Nat.mul_one (And.intro @Int.toNat_natCast (And.intro @T_sapp (And.intro @T_sapp0 (And.intro @db_0 (And.intro @db_1 (And.intro @db_2 (And.intro @db_3 (And.intro @db_4 (And.intro @db_5 (And.intro @db_6 (And.intro @db_7 (And.intro @db_8 (@S_mapI))))))))))))))))))))))
set_option maxHeartbeats 2000000 in
theorem pearly_ok (v : Farm) (da hands : Int) (hf : Fits v) : Pure T 31 [encFarm v, .int .i64 da, .int .i64 hands] (encLLE (earlyOf v da hands)) := by
 refine pure_fn (af := a31) rfl (by simp [a31]) dd ?_
 obtain ⟨E, hE⟩ : ∃ E, earlyErr v da hands = E := ⟨_, rfl⟩
 have hask := ask_early v da hands
 rw [hE] at hask
 have hun := fun σ => until_does [da, (v.rain.length : Int), hands, 400] σ
 have hu1 := fun (q : Nat) (σ : St) hq => until1_same [da, (v.rain.length : Int), hands, 400] (by simp) q σ hq
 simp only [litI_eq, List.map_cons, List.map_nil] at hun hu1
 (repeat (first | simp only [↓QA, QB, Nat.reduceLT, reduceIte, Nat.reduceEqDiff, Nat.reduceAdd, Nat.reduceLeDiff, Nat.reduceMul, Nat.reduceBEq, QXFFaPG, a31] | refine rd0 rfl ?_))
 refine callD_do (hun _) ?_
 (repeat (first | simp only [↓QA, QB, Nat.reduceLT, reduceIte, Nat.reduceEqDiff, Nat.reduceAdd, Nat.reduceLeDiff, Nat.reduceMul, Nat.reduceBEq, QXFFaPG] | refine rd0 rfl ?_))
 by_cases h0' : E = 0
 ·subst h0'
  have hE2 := hE
  obtain ⟨hw, hne⟩ := errKnown_ok hE2
  obtain ⟨hw2, hh0, hh1⟩ := within_ok hw
  obtain ⟨ha, hd0, hd1⟩ := within_ok hw2
  have hv := vd_of_check ha
  have hnr := hv.nra
  have hnp := hv.npl
  have hwy := hv.way
  have hm : earlyOf v da hands = earlyR v (truths v []) da.toNat (earlyIn v (truths v []) da.toNat hands) := by rw [earlyOf, hE, if_pos rfl]
  rw [hm]
  simp only [endOf] at hd1
  obtain ⟨d, rfl⟩ : ∃ d : Nat, da = d := ⟨da.toNat, by omega⟩
  rw [Int.toNat_natCast]
  have hen := enter_ok hf (plot := -1099511627776) (eo := untilE [(d : Int), (v.rain.length : Int), hands, 400]) (F := .func 96 [] [.ptr 1 0]) (σ := [.cells (farmCells v), .cells [.lit [.int .i64 d, .int .i64 v.rain.length, .int .i64 hands, .int .i64 400] true none]]) (fun τ => hu1 _ _ rfl) hask
  have hgo := fun (P : Nat) (hP : P < v.plots.length) (τ : St) => grown_same v hv (truths v []) (fun t ht => kok_of hv ht) hne 0 4 5 ([.cells (farmCells v), .cells [.lit [.int .i64 d, .int .i64 v.rain.length, .int .i64 hands, .int .i64 400] true none], .cells (farmCells v), .cells (farmCells v), .map ((truths v []).map kvT), .cells (db v 0 4)] ++ τ) ⟨rfl, rfl⟩ P d hP (by omega)
  have hsb := fun (P : Nat) (hP : P < v.plots.length) => fullS_bd hv (fun t ht => tok_of hv (but := []) ht) hne hP (show d ≤ v.rain.length by omega)
  try simp only [↓QA, QB, Nat.reduceLT, reduceIte, Nat.reduceEqDiff, Nat.reduceAdd, Nat.reduceLeDiff, Nat.reduceMul, Nat.reduceBEq, QXFFaPG, lookS, List.cons_append, List.nil_append, List.length_cons, List.length_nil] at hen
  refine callD_do hen ?_
  have hee := early_eq (q := fun c => doesB v (truths v []) c d hands) (sh := fun c => (shrinksOf v (truths v []) c d).length) (show v.plots.length ≤ 6 by omega)
  rw [← early_step] at hee
  have hei : earlyIn v (truths v []) d hands = (setsAll v.plots.length).foldl (stepP (fun c => doesB v (truths v []) c d hands) (fun c => (shrinksOf v (truths v []) c d).length)) none := hee
  have hhands := fun (p : Nat) (hp : p < v.plots.length) => (pl_ok hv hp).2
  obtain ⟨ts, hts⟩ : ∃ ts, truths v [] = ts := ⟨_, rfl⟩
  rw [hts] at hne ⊢
  simp only [hts] at hei
  simp only [hts, farmCells_eq, List.cons_append, List.nil_append] at hgo
  simp only [hts] at hsb
  obtain ⟨R, hR⟩ : ∃ R, earlyIn v ts d hands = R := ⟨_, rfl⟩
  rw [hR] at hei ⊢
  obtain ⟨f, hfe⟩ : ∃ f, stepP (fun c => doesB v ts c d hands) (fun c => (shrinksOf v ts c d).length) = f := ⟨_, rfl⟩
  rw [hfe, setsAll] at hei
  have hfst : ∀ o c, f o c = stepP (fun c => doesB v ts c d hands) (fun c => (shrinksOf v ts c d).length) o c := fun o c => by rw [hfe]
  have hcp := fun b0 b1 b2 b3 b4 b5 => copy_plots b0 b1 b2 b3 b4 b5 v.plots
  have hfh := fun (k : Nat) (hk : k < v.plots.length) => flat_hands v.plots k hk
  have hPCo : ∀ k, okVs k (flatC plotC v.plots) := fun k => flatC_okVs plotC_ok k (plotC_okV k) v.plots
  have hPCl := flatC_len plotC_ok v.plots
  obtain ⟨PC, hPC⟩ : ∃ PC, flatC plotC v.plots = PC := ⟨_, rfl⟩
  rw [hPC] at hPCl
  simp only [hPC] at hcp hfh hPCo
  obtain ⟨n, hn⟩ : ∃ n, v.plots.length = n := ⟨_, rfl⟩
  have hmk : vMkslice 40 (.int .i64 n) (.int .i64 n) = some n := by simp [vMkslice, room]; omega
  simp only [zero4, hn] at hcp
  rw [hn] at hnp hei hPCl
  have hp : 2 ^ n ≤ 2 ^ 4 := Nat.pow_le_pow_right (by omega) hnp
  have hshl := V_shl1 n (by omega)
  obtain ⟨Q, hQ⟩ : ∃ Q, 2 ^ n = Q := ⟨_, rfl⟩
  rw [hQ] at hp hshl hei
  (repeat (first | simp only [↓QA, QB, Nat.reduceLT, reduceIte, Nat.reduceEqDiff, Nat.reduceAdd, Nat.reduceLeDiff, Nat.reduceMul, Nat.reduceBEq, QXFFaPG, hn, hmk, hcp] | refine rd0 rfl ?_))
  refine loopE (S := Nat × Nat × Nat) (0, 0, 0) (fun a => a.1 ≤ n ∧ BitsOf a.1 (fun p => greenB v ts p d) a.2.1 ∧ BitsOf a.1 (fun p => !wholeB v ts p d) a.2.2) (fun a => n - a.1)
   (fun a => [(1, .int .i64 d), (2, .int .i64 hands), (3, .ptr 0 0), (6, .lit [] false none), (7, .lit [] false none), (9, .ptr 5 0), (10, .int .i64 a.2.1), (11, .int .i64 a.2.2), (12, .ref 6 0 n 4), (47, .int .i64 n), (48, .int .i64 a.1)])
   (fun a => [.cells (farmCells v), .cells [.lit [.int .i64 d, .int .i64 v.rain.length, .int .i64 hands, .int .i64 400] true none], .cells (farmCells v), .cells (farmCells v), .map (ts.map kvT), .cells (db v 0 4), .cells PC]) ⟨Nat.zero_le _, ⟨by simp, fun i => by simp⟩, ⟨by simp, fun i => by simp⟩⟩ (by simp [farmCells_eq]) ?_ fun a ha => ?_
  ·try simp only [TrimX, QE, Nat.reduceLT, reduceIte, Nat.reduceEqDiff, Nat.reduceAdd, Nat.reduceLeDiff, Nat.reduceMul, Nat.reduceBEq, QXFFaPG, S_refK (show 6 < 7 by omega)]
   try simp [clr, clrs]
  ·obtain ⟨k, g, th⟩ := a
   obtain ⟨hk, hg, hth⟩ := ha
   simp only at hk hg hth
   (repeat (first | simp only [↓QA, QB, Nat.reduceLT, reduceIte, Nat.reduceEqDiff, Nat.reduceAdd, Nat.reduceLeDiff, Nat.reduceMul, Nat.reduceBEq, QXFFaPG, L31_0] | refine rd0 rfl ?_))
   refine iteP_intro (fun h => ?_) fun h => ?_
   ·have hk1 : k < n := by simpa using h
    have hw := wrapN hk1 (by omega)
    have hgk := hgo k (by omega)
    have hb := hsb k (by omega)
    obtain ⟨g1, g2⟩ := bits_next hg
    obtain ⟨t1, t2⟩ := bits_next hth
    have hge : greenB v ts k d = decide ((fullS ts k d).hi + v.way.hi ≤ v.ripe) := rfl
    have hwe : (!wholeB v ts k d) = decide ((fullS ts k d).lo < v.full) := by
     rw [wholeB, Bool.eq_iff_iff]; simp
    simp only [hge] at g1 g2
    simp only [hwe] at t1 t2
    obtain ⟨s, hs⟩ : ∃ s, fullS ts k d = s := ⟨_, rfl⟩
    simp only [hs] at hgk hb g1 g2 t1 t2
    have hwx : IntKind.i64.wrap (s.hi + v.way.hi) = s.hi + v.way.hi := wrap64 ⟨by omega, by omega⟩
    have hg4 : g < 16 := Nat.lt_of_lt_of_le hg.1 (show 2 ^ k ≤ 2 ^ 4 from Nat.pow_le_pow_right (by omega) (by omega))
    have ht4 : th < 16 := Nat.lt_of_lt_of_le hth.1 (show 2 ^ k ≤ 2 ^ 4 from Nat.pow_le_pow_right (by omega) (by omega))
    have hk4 : 2 ^ k ≤ 2 ^ 4 := Nat.pow_le_pow_right (by omega) (by omega)
    have vsh := V_shl1 k (by omega)
    have vog := V_or g (2 ^ k) (by omega) (by omega)
    have vot := V_or th (2 ^ k) (by omega) (by omega)
    (repeat (first | simp only [↓QA, QB, Nat.reduceLT, reduceIte, Nat.reduceEqDiff, Nat.reduceAdd, Nat.reduceLeDiff, Nat.reduceMul, Nat.reduceBEq, QXFFaPG] | refine rd0 rfl ?_))
    refine callK_same (hgk _) ?_
    cases h5 : decide (s.hi + v.way.hi ≤ v.ripe)
    ·cases h6 : decide (s.lo < v.full)
     ·(repeat (first | simp only [↓QA, QB, Nat.reduceLT, reduceIte, Nat.reduceEqDiff, Nat.reduceAdd, Nat.reduceLeDiff, Nat.reduceMul, Nat.reduceBEq, QXFFaPG, hwx, h5, h6, hw] | refine rd0 rfl ?_))
      refine ⟨(k + 1, g, th), ⟨by simp only; omega, g2 h5, t2 h6⟩, by simp only; omega, ?_⟩
      try simp only [TrimX, QE, Nat.reduceLT, reduceIte, Nat.reduceEqDiff, Nat.reduceAdd, Nat.reduceLeDiff, Nat.reduceMul, Nat.reduceBEq, QXFFaPG, hw, S_refK (show 6 < 7 by omega)]
      try simp [okBlk]
     ·(repeat (first | simp only [↓QA, QB, Nat.reduceLT, reduceIte, Nat.reduceEqDiff, Nat.reduceAdd, Nat.reduceLeDiff, Nat.reduceMul, Nat.reduceBEq, QXFFaPG, hwx, h5, h6, vsh, vot, hw] | refine rd0 rfl ?_))
      refine ⟨(k + 1, g, th ||| 2 ^ k), ⟨by simp only; omega, g2 h5, t1 h6⟩, by simp only; omega, ?_⟩
      try simp only [TrimX, QE, Nat.reduceLT, reduceIte, Nat.reduceEqDiff, Nat.reduceAdd, Nat.reduceLeDiff, Nat.reduceMul, Nat.reduceBEq, QXFFaPG, hw, S_refK (show 6 < 7 by omega)]
      try simp [okBlk]
    ·cases h6 : decide (s.lo < v.full)
     ·(repeat (first | simp only [↓QA, QB, Nat.reduceLT, reduceIte, Nat.reduceEqDiff, Nat.reduceAdd, Nat.reduceLeDiff, Nat.reduceMul, Nat.reduceBEq, QXFFaPG, hwx, h5, h6, vsh, vog, hw] | refine rd0 rfl ?_))
      refine ⟨(k + 1, g ||| 2 ^ k, th), ⟨by simp only; omega, g1 h5, t2 h6⟩, by simp only; omega, ?_⟩
      try simp only [TrimX, QE, Nat.reduceLT, reduceIte, Nat.reduceEqDiff, Nat.reduceAdd, Nat.reduceLeDiff, Nat.reduceMul, Nat.reduceBEq, QXFFaPG, hw, S_refK (show 6 < 7 by omega)]
      try simp [okBlk]
     ·(repeat (first | simp only [↓QA, QB, Nat.reduceLT, reduceIte, Nat.reduceEqDiff, Nat.reduceAdd, Nat.reduceLeDiff, Nat.reduceMul, Nat.reduceBEq, QXFFaPG, hwx, h5, h6, vsh, vog, vot, hw] | refine rd0 rfl ?_))
      refine ⟨(k + 1, g ||| 2 ^ k, th ||| 2 ^ k), ⟨by simp only; omega, g1 h5, t1 h6⟩, by simp only; omega, ?_⟩
      try simp only [TrimX, QE, Nat.reduceLT, reduceIte, Nat.reduceEqDiff, Nat.reduceAdd, Nat.reduceLeDiff, Nat.reduceMul, Nat.reduceBEq, QXFFaPG, hw, S_refK (show 6 < 7 by omega)]
      try simp [okBlk]
   ·have hk1 : k = n := by simp at h; omega
    rw [hk1] at hg hth
    have hg4 : g < 16 := Nat.lt_of_lt_of_le hg.1 (by omega)
    have ht4 : th < 16 := Nat.lt_of_lt_of_le hth.1 (by omega)
    (repeat (first | simp only [↓QA, QB, Nat.reduceLT, reduceIte, Nat.reduceEqDiff, Nat.reduceAdd, Nat.reduceLeDiff, Nat.reduceMul, Nat.reduceBEq, QXFFaPG, hshl] | refine rd0 rfl ?_))
    refine loopE (S := Nat × Option (List Int)) (0, none) (fun a => a.1 ≤ Q ∧ (((List.range Q).drop a.1).map (lst n)).foldl f a.2 = R ∧ (a.2.getD []).length ≤ n) (fun a => Q - a.1)
     (fun a => [(2, .int .i64 hands), (6, ints (a.2.getD [])), (7, ints (shrinksOf v ts (a.2.getD []) d)), (10, .int .i64 g), (11, .int .i64 th), (12, .ref 6 0 n 4), (15, .bool a.2.isSome), (80, .int .i64 Q), (81, .int .i64 a.1)])
     (fun a => [.cells (farmCells v), .cells [.lit [.int .i64 d, .int .i64 v.rain.length, .int .i64 hands, .int .i64 400] true none], .cells (farmCells v), .cells (farmCells v), .map (ts.map kvT), .cells (db v 0 4), .cells PC]) ⟨Nat.zero_le _, by simpa using hei.symm, by simp⟩ (by simp [farmCells_eq]) ?_ fun a ha => ?_
    ·have hso : shrinksOf v ts [] d = [] := rfl
     try simp only [TrimX, QE, Nat.reduceLT, reduceIte, Nat.reduceEqDiff, Nat.reduceAdd, Nat.reduceLeDiff, Nat.reduceMul, Nat.reduceBEq, QXFFaPG, S_refK (show 6 < 7 by omega), Option.getD_none, Option.isSome_none, hso, ints, hk1]
     try simp [clr, clrs]
    ·obtain ⟨s, o⟩ := a
     obtain ⟨hs, hq, hol⟩ := ha
     simp only at hs hq hol
     (repeat (first | simp only [↓QA, QB, Nat.reduceLT, reduceIte, Nat.reduceEqDiff, Nat.reduceAdd, Nat.reduceLeDiff, Nat.reduceMul, Nat.reduceBEq, QXFFaPG, L31_2] | refine rd0 rfl ?_))
     refine iteP_intro (fun h2 => ?_) fun h2 => ?_
     ·have hs1 : s < Q := by simpa using h2
      have hw := wrapN hs1 (by omega)
      have hs2 : s < 2 ^ n := by omega
      have hr1 : s < (List.range Q).length := by simpa using hs1
      rw [List.drop_eq_getElem_cons hr1, List.getElem_range, List.map_cons, List.foldl_cons, hfst] at hq
      have hll := lst_len n s
      have hlr : ∀ x ∈ lst n s, 0 ≤ x ∧ x < n := fun x hx => by have := (mem_lst.1 hx).1; omega
      have hn1 := numbers_ok s n (by omega) (by omega)
      have hn2 := numbers_ok (s &&& th) n (Nat.lt_of_le_of_lt Nat.and_le_left (by omega)) (by omega)
      have hla : lst n (s &&& th) = shrinksOf v ts (lst n s) d := lst_and hth
      rw [hla] at hn2
      have vand := V_and s th (by omega) (by omega)
      have vann := V_andNot s g (by omega) (by omega)
      have hzi := and_none hs2 (by omega) hg
      have hslen : (shrinksOf v ts (lst n s) d).length ≤ n := Nat.le_trans (List.length_filter_le _ _) hll
      obtain ⟨L, hL⟩ : ∃ L, lst n s = L := ⟨_, rfl⟩
      rw [hL] at hq hll hlr hn1 hn2 hzi hslen
      have hzb : (((andN s g : Nat) : Int) == 0) = L.all (fun p => greenB v ts p.toNat d) := by
       rw [Bool.eq_iff_iff, List.all_eq_true, ← hzi]
       simp
      obtain ⟨SL, hSL⟩ : ∃ SL, shrinksOf v ts L d = SL := ⟨_, rfl⟩
      rw [hSL] at hn2 hslen
      obtain ⟨H, hH⟩ : ∃ H, handsOf v L = H := ⟨_, rfl⟩
      have hdo : doesB v ts L d hands = (decide (hands ≤ H) && L.all fun p => greenB v ts p.toNat d) := by rw [doesB, hH]
      (repeat (first | simp only [↓QA, QB, Nat.reduceLT, reduceIte, Nat.reduceEqDiff, Nat.reduceAdd, Nat.reduceLeDiff, Nat.reduceMul, Nat.reduceBEq, QXFFaPG] | refine rd0 rfl ?_))
      ((first | refine callK_d (hn1) rfl dd ?_ | refine callD_d (hn1) rfl dd ?_); (repeat (first | simp only [↓QA, QB, Nat.reduceLT, reduceIte, Nat.reduceEqDiff, Nat.reduceAdd, Nat.reduceLeDiff, Nat.reduceMul, Nat.reduceBEq, QXFFaPG, vand] | refine rd0 rfl ?_)))
      ((first | refine callK_d (hn2) rfl dd ?_ | refine callD_d (hn2) rfl dd ?_); (repeat (first | simp only [↓QA, QB, Nat.reduceLT, reduceIte, Nat.reduceEqDiff, Nat.reduceAdd, Nat.reduceLeDiff, Nat.reduceMul, Nat.reduceBEq, QXFFaPG, ints] | refine rd0 rfl ?_)))
      refine loopE (S := Nat × Int) (0, 0) (fun a => a.1 ≤ L.length ∧ a.2 + handsOf v (L.drop a.1) = H ∧ 0 ≤ a.2 ∧ a.2 ≤ 99 * a.1) (fun a => L.length - a.1)
       (fun a => [(2, .int .i64 hands), (6, ints (o.getD [])), (7, ints (shrinksOf v ts (o.getD []) d)), (10, .int .i64 g), (11, .int .i64 th), (12, .ref 6 0 n 4), (15, .bool o.isSome), (16, .int .i64 s), (17, ints L), (18, ints SL), (19, .int .i64 a.2), (80, .int .i64 Q), (81, .int .i64 s), (94, ints L), (95, .int .i64 L.length), (96, .int .i64 a.1)])
       (fun a => [.cells (farmCells v), .cells [.lit [.int .i64 d, .int .i64 v.rain.length, .int .i64 hands, .int .i64 400] true none], .cells (farmCells v), .cells (farmCells v), .map (ts.map kvT), .cells (db v 0 4), .cells PC]) ⟨Nat.zero_le _, by simpa using hH, Int.le_refl _, by simp⟩ (by simp [farmCells_eq]) ?_ fun a ha => ?_
      ·try simp only [TrimX, QE, Nat.reduceLT, reduceIte, Nat.reduceEqDiff, Nat.reduceAdd, Nat.reduceLeDiff, Nat.reduceMul, Nat.reduceBEq, QXFFaPG, S_refK (show 6 < 7 by omega), ints]
       try simp
      ·obtain ⟨j, sum⟩ := a
       obtain ⟨hj, hsum, hs0, hs9⟩ := ha
       simp only at hj hsum hs0 hs9
       (repeat (first | simp only [↓QA, QB, Nat.reduceLT, reduceIte, Nat.reduceEqDiff, Nat.reduceAdd, Nat.reduceLeDiff, Nat.reduceMul, Nat.reduceBEq, QXFFaPG, L31_4, ints] | refine rd0 rfl ?_))
       refine iteP_intro (fun h3 => ?_) fun h3 => ?_
       ·have hj1 : j < L.length := by simpa using h3
        have hwj := wrapN hj1 (by omega)
        have hpr := hlr _ (List.getElem_mem hj1)
        obtain ⟨p, hpe⟩ : ∃ p : Nat, L[j] = (p : Int) := ⟨L[j].toNat, by omega⟩
        have hpp : p < v.plots.length := by omega
        have hfp := hfh p hpp
        have hhp := hhands p hpp
        rw [List.drop_eq_getElem_cons hj1, handsOf, hpe, hands_at hpp] at hsum
        obtain ⟨y, hy⟩ : ∃ y, v.plots[p].hands = y := ⟨_, rfl⟩
        rw [hy] at hhp hsum hfp
        have hwn : IntKind.i64.wrap (sum + y) = sum + y := wrap64 ⟨by omega, by omega⟩
        have i1 : (0 : Int) ≤ (p : Int) ∧ (p : Int) < ((n : Nat) : Int) ∧ 4 = 4 := ⟨by omega, by omega, rfl⟩
        (repeat (first | simp only [↓QA, QB, Nat.reduceLT, reduceIte, Nat.reduceEqDiff, Nat.reduceAdd, Nat.reduceLeDiff, Nat.reduceMul, Nat.reduceBEq, QXFFaPG, hj1, hpe, i1, Nat.zero_add, hfp, hwn, hwj, ints] | refine rd0 rfl ?_))
        refine ⟨(j + 1, sum + y), ⟨by simp only; omega, by simp only; omega, by simp only; omega, by simp only; omega⟩, by simp only; omega, ?_⟩
        try simp only [TrimX, QE, Nat.reduceLT, reduceIte, Nat.reduceEqDiff, Nat.reduceAdd, Nat.reduceLeDiff, Nat.reduceMul, Nat.reduceBEq, QXFFaPG, hwj, hwn, S_refK (show 6 < 7 by omega), ints]
        try simp [okBlk]
       ·have hj1 : j = L.length := by simp at h3; omega
        rw [hj1, List.drop_length] at hsum
        simp only [handsOf, Int.add_zero] at hsum
        subst hsum
        cases hga : L.all (fun p => greenB v ts p.toNat d)
        ·have hst : stepP (fun c => doesB v ts c d hands) (fun c => (shrinksOf v ts c d).length) o L = o := by
          have hd0 : doesB v ts L d hands = false := by rw [hdo, hga, Bool.and_false]
          simp [stepP, hd0]
         rw [hst] at hq
         (repeat (first | simp only [↓QA, QB, Nat.reduceLT, reduceIte, Nat.reduceEqDiff, Nat.reduceAdd, Nat.reduceLeDiff, Nat.reduceMul, Nat.reduceBEq, QXFFaPG, vann, hzb, hga, hw, ints] | refine rd0 rfl ?_))
         refine ⟨(s + 1, o), ⟨by simp only; omega, hq, hol⟩, by simp only; omega, ?_⟩
         try simp only [TrimX, QE, Nat.reduceLT, reduceIte, Nat.reduceEqDiff, Nat.reduceAdd, Nat.reduceLeDiff, Nat.reduceMul, Nat.reduceBEq, QXFFaPG, hw, S_refK (show 6 < 7 by omega), ints]
         try simp [okBlk]
        ·cases hlt : decide (sum < hands)
         ·have hd1 : doesB v ts L d hands = true := by
           have : ¬ sum < hands := by simpa using hlt
           have e : decide (hands ≤ sum) = true := by simp; omega
           rw [hdo, hga, e]; rfl
          have hsN : stepP (fun c => doesB v ts c d hands) (fun c => (shrinksOf v ts c d).length) none L = some L := by simp [stepP, hd1]
          have hsS : ∀ b, stepP (fun c => doesB v ts c d hands) (fun c => (shrinksOf v ts c d).length) (some b) L = if SL.length < (shrinksOf v ts b d).length ∨ (SL.length = (shrinksOf v ts b d).length ∧ fewer L b = true) then some L else some b := fun b => by simp only [stepP, hd1, if_true, hSL]
          (repeat (first | simp only [↓QA, QB, Nat.reduceLT, reduceIte, Nat.reduceEqDiff, Nat.reduceAdd, Nat.reduceLeDiff, Nat.reduceMul, Nat.reduceBEq, QXFFaPG, vann, hzb, hga, hlt, ints] | refine rd0 rfl ?_))
          cases h1 : decide (((SL.length : Nat) : Int) < ((shrinksOf v ts (o.getD []) d).length : Int))
          ·have h1' : ¬ SL.length < (shrinksOf v ts (o.getD []) d).length := by simpa using h1
           (repeat (first | simp only [↓QA, QB, Nat.reduceLT, reduceIte, Nat.reduceEqDiff, Nat.reduceAdd, Nat.reduceLeDiff, Nat.reduceMul, Nat.reduceBEq, QXFFaPG, h1, ints] | refine rd0 rfl ?_))
           cases h2 : (((SL.length : Nat) : Int) == ((shrinksOf v ts (o.getD []) d).length : Int))
           ·have h2' : ¬ SL.length = (shrinksOf v ts (o.getD []) d).length := by intro h; rw [h] at h2; simp at h2
            have hb : ¬ (SL.length < (shrinksOf v ts (o.getD []) d).length ∨ (SL.length = (shrinksOf v ts (o.getD []) d).length ∧ fewer L (o.getD []) = true)) := by rintro (h | ⟨h, _⟩); exact h1' h; exact h2' h
            (repeat (first | simp only [↓QA, QB, Nat.reduceLT, reduceIte, Nat.reduceEqDiff, Nat.reduceAdd, Nat.reduceLeDiff, Nat.reduceMul, Nat.reduceBEq, QXFFaPG, h1, h2, ints] | refine rd0 rfl ?_))
            cases o with
            | none =>
             rw [hsN] at hq
             (repeat (first | simp only [↓QA, QB, Nat.reduceLT, reduceIte, Nat.reduceEqDiff, Nat.reduceAdd, Nat.reduceLeDiff, Nat.reduceMul, Nat.reduceBEq, QXFFaPG, Option.isSome_none, hw, ints] | refine rd0 rfl ?_))
             refine ⟨(s + 1, some L), ⟨by simp only; omega, hq, by simpa using hll⟩, by simp only; omega, ?_⟩
             try simp only [TrimX, QE, Nat.reduceLT, reduceIte, Nat.reduceEqDiff, Nat.reduceAdd, Nat.reduceLeDiff, Nat.reduceMul, Nat.reduceBEq, QXFFaPG, hw, S_refK (show 6 < 7 by omega), ints, Option.isSome_some, Option.getD_some, hSL]
             try simp [okBlk]
            | some b =>
             simp only [Option.getD_some] at hol hb
             rw [hsS, if_neg hb] at hq
             (repeat (first | simp only [↓QA, QB, Nat.reduceLT, reduceIte, Nat.reduceEqDiff, Nat.reduceAdd, Nat.reduceLeDiff, Nat.reduceMul, Nat.reduceBEq, QXFFaPG, Option.isSome_some, Option.getD_some, hw, ints] | refine rd0 rfl ?_))
             refine ⟨(s + 1, some b), ⟨by simp only; omega, hq, by simpa using hol⟩, by simp only; omega, ?_⟩
             try simp only [TrimX, QE, Nat.reduceLT, reduceIte, Nat.reduceEqDiff, Nat.reduceAdd, Nat.reduceLeDiff, Nat.reduceMul, Nat.reduceBEq, QXFFaPG, hw, S_refK (show 6 < 7 by omega), ints, Option.isSome_some, Option.getD_some]
             try simp [okBlk]
           ·have h2' : SL.length = (shrinksOf v ts (o.getD []) d).length := by simp at h2; omega
            (repeat (first | simp only [↓QA, QB, Nat.reduceLT, reduceIte, Nat.reduceEqDiff, Nat.reduceAdd, Nat.reduceLeDiff, Nat.reduceMul, Nat.reduceBEq, QXFFaPG, h1, h2, ints] | refine rd0 rfl ?_))
            cases h3 : decide (((L.length : Nat) : Int) < ((o.getD []).length : Int))
            ·have h3' : ¬ L.length < (o.getD []).length := by simpa using h3
             (repeat (first | simp only [↓QA, QB, Nat.reduceLT, reduceIte, Nat.reduceEqDiff, Nat.reduceAdd, Nat.reduceLeDiff, Nat.reduceMul, Nat.reduceBEq, QXFFaPG, h3, ints] | refine rd0 rfl ?_))
             cases h4 : (((L.length : Nat) : Int) == ((o.getD []).length : Int))
             ·have h4' : ¬ L.length = (o.getD []).length := by intro h; rw [h] at h4; simp at h4
              have hb : ¬ (SL.length < (shrinksOf v ts (o.getD []) d).length ∨ (SL.length = (shrinksOf v ts (o.getD []) d).length ∧ fewer L (o.getD []) = true)) := by
               rintro (h | ⟨_, h⟩)
               ·exact h1' h
               ·rw [fewer, if_neg h4'] at h
                exact h3' (by simpa using h)
              (repeat (first | simp only [↓QA, QB, Nat.reduceLT, reduceIte, Nat.reduceEqDiff, Nat.reduceAdd, Nat.reduceLeDiff, Nat.reduceMul, Nat.reduceBEq, QXFFaPG, h3, h4, ints] | refine rd0 rfl ?_))
              cases o with
              | none =>
               rw [hsN] at hq
               (repeat (first | simp only [↓QA, QB, Nat.reduceLT, reduceIte, Nat.reduceEqDiff, Nat.reduceAdd, Nat.reduceLeDiff, Nat.reduceMul, Nat.reduceBEq, QXFFaPG, Option.isSome_none, hw, ints] | refine rd0 rfl ?_))
               refine ⟨(s + 1, some L), ⟨by simp only; omega, hq, by simpa using hll⟩, by simp only; omega, ?_⟩
               try simp only [TrimX, QE, Nat.reduceLT, reduceIte, Nat.reduceEqDiff, Nat.reduceAdd, Nat.reduceLeDiff, Nat.reduceMul, Nat.reduceBEq, QXFFaPG, hw, S_refK (show 6 < 7 by omega), ints, Option.isSome_some, Option.getD_some, hSL]
               try simp [okBlk]
              | some b =>
               simp only [Option.getD_some] at hol hb
               rw [hsS, if_neg hb] at hq
               (repeat (first | simp only [↓QA, QB, Nat.reduceLT, reduceIte, Nat.reduceEqDiff, Nat.reduceAdd, Nat.reduceLeDiff, Nat.reduceMul, Nat.reduceBEq, QXFFaPG, Option.isSome_some, Option.getD_some, hw, ints] | refine rd0 rfl ?_))
               refine ⟨(s + 1, some b), ⟨by simp only; omega, hq, by simpa using hol⟩, by simp only; omega, ?_⟩
               try simp only [TrimX, QE, Nat.reduceLT, reduceIte, Nat.reduceEqDiff, Nat.reduceAdd, Nat.reduceLeDiff, Nat.reduceMul, Nat.reduceBEq, QXFFaPG, hw, S_refK (show 6 < 7 by omega), ints, Option.isSome_some, Option.getD_some]
               try simp [okBlk]
             ·have h4' : L.length = (o.getD []).length := by simp at h4; omega
              (repeat (first | simp only [↓QA, QB, Nat.reduceLT, reduceIte, Nat.reduceEqDiff, Nat.reduceAdd, Nat.reduceLeDiff, Nat.reduceMul, Nat.reduceBEq, QXFFaPG, h3, h4, ints] | refine rd0 rfl ?_))
              ((first | refine callK_d (scmp_ok L (o.getD []) (by omega) (by omega)) rfl dd ?_ | refine callD_d (scmp_ok L (o.getD []) (by omega) (by omega)) rfl dd ?_); (repeat (first | simp only [↓QA, QB, Nat.reduceLT, reduceIte, Nat.reduceEqDiff, Nat.reduceAdd, Nat.reduceLeDiff, Nat.reduceMul, Nat.reduceBEq, QXFFaPG, cmpL_neg, h3, h4, ints] | refine rd0 rfl ?_)))
              cases h5 : less L (o.getD [])
              ·have hb : ¬ (SL.length < (shrinksOf v ts (o.getD []) d).length ∨ (SL.length = (shrinksOf v ts (o.getD []) d).length ∧ fewer L (o.getD []) = true)) := by
                rintro (h | ⟨_, h⟩)
                ·exact h1' h
                ·rw [fewer, if_pos h4', h5] at h
                 cases h
               (repeat (first | simp only [↓QA, QB, Nat.reduceLT, reduceIte, Nat.reduceEqDiff, Nat.reduceAdd, Nat.reduceLeDiff, Nat.reduceMul, Nat.reduceBEq, QXFFaPG, h5, ints] | refine rd0 rfl ?_))
               cases o with
               | none =>
                rw [hsN] at hq
                (repeat (first | simp only [↓QA, QB, Nat.reduceLT, reduceIte, Nat.reduceEqDiff, Nat.reduceAdd, Nat.reduceLeDiff, Nat.reduceMul, Nat.reduceBEq, QXFFaPG, Option.isSome_none, hw, ints] | refine rd0 rfl ?_))
                refine ⟨(s + 1, some L), ⟨by simp only; omega, hq, by simpa using hll⟩, by simp only; omega, ?_⟩
                try simp only [TrimX, QE, Nat.reduceLT, reduceIte, Nat.reduceEqDiff, Nat.reduceAdd, Nat.reduceLeDiff, Nat.reduceMul, Nat.reduceBEq, QXFFaPG, hw, S_refK (show 6 < 7 by omega), ints, Option.isSome_some, Option.getD_some, hSL]
                try simp [okBlk]
               | some b =>
                simp only [Option.getD_some] at hol hb
                rw [hsS, if_neg hb] at hq
                (repeat (first | simp only [↓QA, QB, Nat.reduceLT, reduceIte, Nat.reduceEqDiff, Nat.reduceAdd, Nat.reduceLeDiff, Nat.reduceMul, Nat.reduceBEq, QXFFaPG, Option.isSome_some, Option.getD_some, hw, ints] | refine rd0 rfl ?_))
                refine ⟨(s + 1, some b), ⟨by simp only; omega, hq, by simpa using hol⟩, by simp only; omega, ?_⟩
                try simp only [TrimX, QE, Nat.reduceLT, reduceIte, Nat.reduceEqDiff, Nat.reduceAdd, Nat.reduceLeDiff, Nat.reduceMul, Nat.reduceBEq, QXFFaPG, hw, S_refK (show 6 < 7 by omega), ints, Option.isSome_some, Option.getD_some]
                try simp [okBlk]
              ·have hb : (SL.length < (shrinksOf v ts (o.getD []) d).length ∨ (SL.length = (shrinksOf v ts (o.getD []) d).length ∧ fewer L (o.getD []) = true)) := .inr ⟨h2', by rw [fewer, if_pos h4', h5]⟩
               (repeat (first | simp only [↓QA, QB, Nat.reduceLT, reduceIte, Nat.reduceEqDiff, Nat.reduceAdd, Nat.reduceLeDiff, Nat.reduceMul, Nat.reduceBEq, QXFFaPG, h5, ints] | refine rd0 rfl ?_))
               cases o with
               | none =>
                rw [hsN] at hq
                (repeat (first | simp only [↓QA, QB, Nat.reduceLT, reduceIte, Nat.reduceEqDiff, Nat.reduceAdd, Nat.reduceLeDiff, Nat.reduceMul, Nat.reduceBEq, QXFFaPG, Option.isSome_none, hw, ints] | refine rd0 rfl ?_))
                refine ⟨(s + 1, some L), ⟨by simp only; omega, hq, by simpa using hll⟩, by simp only; omega, ?_⟩
                try simp only [TrimX, QE, Nat.reduceLT, reduceIte, Nat.reduceEqDiff, Nat.reduceAdd, Nat.reduceLeDiff, Nat.reduceMul, Nat.reduceBEq, QXFFaPG, hw, S_refK (show 6 < 7 by omega), ints, Option.isSome_some, Option.getD_some, hSL]
                try simp [okBlk]
               | some b =>
                simp only [Option.getD_some] at hol hb
                rw [hsS, if_pos hb] at hq
                (repeat (first | simp only [↓QA, QB, Nat.reduceLT, reduceIte, Nat.reduceEqDiff, Nat.reduceAdd, Nat.reduceLeDiff, Nat.reduceMul, Nat.reduceBEq, QXFFaPG, Option.isSome_some, Option.getD_some, hw, ints] | refine rd0 rfl ?_))
                refine ⟨(s + 1, some L), ⟨by simp only; omega, hq, by simpa using hll⟩, by simp only; omega, ?_⟩
                try simp only [TrimX, QE, Nat.reduceLT, reduceIte, Nat.reduceEqDiff, Nat.reduceAdd, Nat.reduceLeDiff, Nat.reduceMul, Nat.reduceBEq, QXFFaPG, hw, S_refK (show 6 < 7 by omega), ints, Option.isSome_some, Option.getD_some, hSL]
                try simp [okBlk]
            ·have h3' : L.length < (o.getD []).length := by simpa using h3
             have hb : (SL.length < (shrinksOf v ts (o.getD []) d).length ∨ (SL.length = (shrinksOf v ts (o.getD []) d).length ∧ fewer L (o.getD []) = true)) := .inr ⟨h2', by rw [fewer, if_neg (by omega)]; simpa using h3'⟩
             (repeat (first | simp only [↓QA, QB, Nat.reduceLT, reduceIte, Nat.reduceEqDiff, Nat.reduceAdd, Nat.reduceLeDiff, Nat.reduceMul, Nat.reduceBEq, QXFFaPG, h3, ints] | refine rd0 rfl ?_))
             cases o with
             | none =>
              rw [hsN] at hq
              (repeat (first | simp only [↓QA, QB, Nat.reduceLT, reduceIte, Nat.reduceEqDiff, Nat.reduceAdd, Nat.reduceLeDiff, Nat.reduceMul, Nat.reduceBEq, QXFFaPG, Option.isSome_none, hw, ints] | refine rd0 rfl ?_))
              refine ⟨(s + 1, some L), ⟨by simp only; omega, hq, by simpa using hll⟩, by simp only; omega, ?_⟩
              try simp only [TrimX, QE, Nat.reduceLT, reduceIte, Nat.reduceEqDiff, Nat.reduceAdd, Nat.reduceLeDiff, Nat.reduceMul, Nat.reduceBEq, QXFFaPG, hw, S_refK (show 6 < 7 by omega), ints, Option.isSome_some, Option.getD_some, hSL]
              try simp [okBlk]
             | some b =>
              simp only [Option.getD_some] at hol hb
              rw [hsS, if_pos hb] at hq
              (repeat (first | simp only [↓QA, QB, Nat.reduceLT, reduceIte, Nat.reduceEqDiff, Nat.reduceAdd, Nat.reduceLeDiff, Nat.reduceMul, Nat.reduceBEq, QXFFaPG, Option.isSome_some, Option.getD_some, hw, ints] | refine rd0 rfl ?_))
              refine ⟨(s + 1, some L), ⟨by simp only; omega, hq, by simpa using hll⟩, by simp only; omega, ?_⟩
              try simp only [TrimX, QE, Nat.reduceLT, reduceIte, Nat.reduceEqDiff, Nat.reduceAdd, Nat.reduceLeDiff, Nat.reduceMul, Nat.reduceBEq, QXFFaPG, hw, S_refK (show 6 < 7 by omega), ints, Option.isSome_some, Option.getD_some, hSL]
              try simp [okBlk]
          ·have h1' : SL.length < (shrinksOf v ts (o.getD []) d).length := by simpa using h1
           have hb : (SL.length < (shrinksOf v ts (o.getD []) d).length ∨ (SL.length = (shrinksOf v ts (o.getD []) d).length ∧ fewer L (o.getD []) = true)) := .inl h1'
           (repeat (first | simp only [↓QA, QB, Nat.reduceLT, reduceIte, Nat.reduceEqDiff, Nat.reduceAdd, Nat.reduceLeDiff, Nat.reduceMul, Nat.reduceBEq, QXFFaPG, h1, ints] | refine rd0 rfl ?_))
           cases o with
           | none =>
            rw [hsN] at hq
            (repeat (first | simp only [↓QA, QB, Nat.reduceLT, reduceIte, Nat.reduceEqDiff, Nat.reduceAdd, Nat.reduceLeDiff, Nat.reduceMul, Nat.reduceBEq, QXFFaPG, Option.isSome_none, hw, ints] | refine rd0 rfl ?_))
            refine ⟨(s + 1, some L), ⟨by simp only; omega, hq, by simpa using hll⟩, by simp only; omega, ?_⟩
            try simp only [TrimX, QE, Nat.reduceLT, reduceIte, Nat.reduceEqDiff, Nat.reduceAdd, Nat.reduceLeDiff, Nat.reduceMul, Nat.reduceBEq, QXFFaPG, hw, S_refK (show 6 < 7 by omega), ints, Option.isSome_some, Option.getD_some, hSL]
            try simp [okBlk]
           | some b =>
            simp only [Option.getD_some] at hol hb
            rw [hsS, if_pos hb] at hq
            (repeat (first | simp only [↓QA, QB, Nat.reduceLT, reduceIte, Nat.reduceEqDiff, Nat.reduceAdd, Nat.reduceLeDiff, Nat.reduceMul, Nat.reduceBEq, QXFFaPG, Option.isSome_some, Option.getD_some, hw, ints] | refine rd0 rfl ?_))
            refine ⟨(s + 1, some L), ⟨by simp only; omega, hq, by simpa using hll⟩, by simp only; omega, ?_⟩
            try simp only [TrimX, QE, Nat.reduceLT, reduceIte, Nat.reduceEqDiff, Nat.reduceAdd, Nat.reduceLeDiff, Nat.reduceMul, Nat.reduceBEq, QXFFaPG, hw, S_refK (show 6 < 7 by omega), ints, Option.isSome_some, Option.getD_some, hSL]
            try simp [okBlk]
         ·have hst : stepP (fun c => doesB v ts c d hands) (fun c => (shrinksOf v ts c d).length) o L = o := by
           have : sum < hands := by simpa using hlt
           have e : decide (hands ≤ sum) = false := by simp; omega
           have hd0 : doesB v ts L d hands = false := by rw [hdo, e, Bool.false_and]
           simp [stepP, hd0]
          rw [hst] at hq
          (repeat (first | simp only [↓QA, QB, Nat.reduceLT, reduceIte, Nat.reduceEqDiff, Nat.reduceAdd, Nat.reduceLeDiff, Nat.reduceMul, Nat.reduceBEq, QXFFaPG, vann, hzb, hga, hlt, hw, ints] | refine rd0 rfl ?_))
          refine ⟨(s + 1, o), ⟨by simp only; omega, hq, hol⟩, by simp only; omega, ?_⟩
          try simp only [TrimX, QE, Nat.reduceLT, reduceIte, Nat.reduceEqDiff, Nat.reduceAdd, Nat.reduceLeDiff, Nat.reduceMul, Nat.reduceBEq, QXFFaPG, hw, S_refK (show 6 < 7 by omega), ints]
          try simp [okBlk]
     ·have hs1 : s = Q := by simp at h2; omega
      have hdr : (List.range Q).drop s = [] := by rw [List.drop_eq_nil_iff]; simp; omega
      rw [hdr] at hq
      simp only [List.map_nil, List.foldl_nil] at hq
      subst hq
      cases o with
      | none =>
       (repeat (first | simp only [↓QA, QB, Nat.reduceLT, reduceIte, Nat.reduceEqDiff, Nat.reduceAdd, Nat.reduceLeDiff, Nat.reduceMul, Nat.reduceBEq, QXFFaPG, Option.isSome_none, Option.getD_none, earlyR, encLLE, ints, List.map_nil] | refine rd0 rfl ?_))
       try rfl
      | some b =>
       (repeat (first | simp only [↓QA, QB, Nat.reduceLT, reduceIte, Nat.reduceEqDiff, Nat.reduceAdd, Nat.reduceLeDiff, Nat.reduceMul, Nat.reduceBEq, QXFFaPG, Option.isSome_some, Option.getD_some, earlyR, encLLE] | refine rd0 rfl ?_))
       try try simp only [QS, QC, Nat.reduceLT, reduceIte, Nat.reduceEqDiff, Nat.reduceAdd, Nat.reduceLeDiff, Nat.reduceMul, Nat.reduceBEq, QXFFaPG]
 ·have hm : earlyOf v da hands = ([], [], E) := by rw [earlyOf, hE, if_neg h0']
  have hg : (E == 0) = false := by simpa using h0'
  rw [hm]
  refine callD_same (enter_err hf (fun τ => hu1 _ _ rfl) hask h0') ?_
  (repeat (first | simp only [↓QA, QB, Nat.reduceLT, reduceIte, Nat.reduceEqDiff, Nat.reduceAdd, Nat.reduceLeDiff, Nat.reduceMul, Nat.reduceBEq, QXFFaPG, hg, encLLE] | refine rd0 rfl ?_))
  try rfl
end Go.Am.Room
set_option maxRecDepth 8000
namespace Go.Am.Room
def QXFLawC := And.intro @encSpan_eq (@List.length_append.{0})
theorem span_ok (a b : Int) : Pure T 37 [.int .i64 a, .int .i64 b] (encSpan ⟨a, b⟩) := by
 refine pure_fn (af := a37) rfl (by simp [a37]) dd ?_
 (repeat (first | simp only [↓QA, QB, Nat.reduceLT, reduceIte, Nat.reduceEqDiff, Nat.reduceAdd, Nat.reduceLeDiff, Nat.reduceMul, Nat.reduceBEq, QXFLawC, a37] | refine rd0 rfl ?_))
end Go.Am.Room
set_option maxRecDepth 8000
namespace Go.Am.Room
def QXFFaQ1 := And.intro @encFarm_eq (And.intro @farmCells_eq (And.intro @encPlot_eq (And.intro @encLook_eq (And.intro @encSpan_eq (And.intro @S_mapPlot (And.intro @S_mapLook (And.intro @S_mapSpan (And.intro @T_sapp (@List.length_append.{0})))))))))
theorem seen_ok (p d n : Int) : Pure T 36 [.int .i64 p, .int .i64 d, .int .i64 n] (encLook ⟨p, d, n⟩) := by
 refine pure_fn (af := a36) rfl (by simp [a36]) dd ?_
 (repeat (first | simp only [↓QA, QB, Nat.reduceLT, reduceIte, Nat.reduceEqDiff, Nat.reduceAdd, Nat.reduceLeDiff, Nat.reduceMul, Nat.reduceBEq, QXFFaQ1, a36] | refine rd0 rfl ?_))
theorem exfarm_ok (l : List Look) : Pure T 35 [.lit (l.map encLook) false none] (encFarm (exF l)) := by
 refine pure_fn (af := a35) rfl (by simp [a35]) dd ?_
 (repeat (first | simp only [↓QA, QB, Nat.reduceLT, reduceIte, Nat.reduceEqDiff, Nat.reduceAdd, Nat.reduceLeDiff, Nat.reduceMul, Nat.reduceBEq, QXFFaQ1, a35] | refine rd0 rfl ?_))
 ((first | refine callK_d (span_ok 1 1) rfl dd ?_ | refine callD_d (span_ok 1 1) rfl dd ?_); (repeat (first | simp only [↓QA, QB, Nat.reduceLT, reduceIte, Nat.reduceEqDiff, Nat.reduceAdd, Nat.reduceLeDiff, Nat.reduceMul, Nat.reduceBEq, QXFFaQ1] | refine rd0 rfl ?_)))
 ((first | refine callK_d (span_ok 0 1) rfl dd ?_ | refine callD_d (span_ok 0 1) rfl dd ?_); (repeat (first | simp only [↓QA, QB, Nat.reduceLT, reduceIte, Nat.reduceEqDiff, Nat.reduceAdd, Nat.reduceLeDiff, Nat.reduceMul, Nat.reduceBEq, QXFFaQ1] | refine rd0 rfl ?_)))
 ((first | refine callK_d (span_ok 0 0) rfl dd ?_ | refine callD_d (span_ok 0 0) rfl dd ?_); (repeat (first | simp only [↓QA, QB, Nat.reduceLT, reduceIte, Nat.reduceEqDiff, Nat.reduceAdd, Nat.reduceLeDiff, Nat.reduceMul, Nat.reduceBEq, QXFFaQ1] | refine rd0 rfl ?_)))
 ((first | refine callK_d (span_ok 1 2) rfl dd ?_ | refine callD_d (span_ok 1 2) rfl dd ?_); (repeat (first | simp only [↓QA, QB, Nat.reduceLT, reduceIte, Nat.reduceEqDiff, Nat.reduceAdd, Nat.reduceLeDiff, Nat.reduceMul, Nat.reduceBEq, QXFFaQ1] | refine rd0 rfl ?_)))
 ((first | refine callK_d (span_ok 0 1) rfl dd ?_ | refine callD_d (span_ok 0 1) rfl dd ?_); (repeat (first | simp only [↓QA, QB, Nat.reduceLT, reduceIte, Nat.reduceEqDiff, Nat.reduceAdd, Nat.reduceLeDiff, Nat.reduceMul, Nat.reduceBEq, QXFFaQ1] | refine rd0 rfl ?_)))
 ((first | refine callK_d (span_ok 2 3) rfl dd ?_ | refine callD_d (span_ok 2 3) rfl dd ?_); (repeat (first | simp only [↓QA, QB, Nat.reduceLT, reduceIte, Nat.reduceEqDiff, Nat.reduceAdd, Nat.reduceLeDiff, Nat.reduceMul, Nat.reduceBEq, QXFFaQ1] | refine rd0 rfl ?_)))
 ((first | refine callK_d (span_ok 1 2) rfl dd ?_ | refine callD_d (span_ok 1 2) rfl dd ?_); (repeat (first | simp only [↓QA, QB, Nat.reduceLT, reduceIte, Nat.reduceEqDiff, Nat.reduceAdd, Nat.reduceLeDiff, Nat.reduceMul, Nat.reduceBEq, QXFFaQ1] | refine rd0 rfl ?_)))
 ((first | refine callK_d (span_ok 0 1) rfl dd ?_ | refine callD_d (span_ok 0 1) rfl dd ?_); (repeat (first | simp only [↓QA, QB, Nat.reduceLT, reduceIte, Nat.reduceEqDiff, Nat.reduceAdd, Nat.reduceLeDiff, Nat.reduceMul, Nat.reduceBEq, QXFFaQ1, exF, nmHill, nmBank, nmBend, List.map_cons, List.map_nil] | refine rd0 rfl ?_)))
theorem fits_ex (l : List Look) (h : l.length ≤ 100 := by decide) : Fits (exF l) := ⟨by simp [exF], by simp [exF], by simp [exF]; omega, fun k hk => by
 simp only [exF, List.mem_cons, List.not_mem_nil, or_false] at hk
 rcases hk with rfl | rfl | rfl <;> decide⟩
end Go.Am.Room
set_option maxRecDepth 8000
namespace Go.Am.Room
def QXFFaQ2 := And.intro @encFarm_eq (And.intro @farmCells_eq (And.intro @encPlot_eq (And.intro @encLook_eq (And.intro @encSpan_eq (And.intro @S_mapPlot (And.intro @S_mapLook (And.intro @S_mapSpan (And.intro @T_sapp (@List.length_append.{0})))))))))
set_option maxHeartbeats 1000000 in
theorem awake_ok : Pure T 22 [] (.bool true) := by
 refine pure_fn (af := a22) rfl (by simp [a22]) datas_nil ?_
 (repeat (first | simp only [↓QA, QB, Nat.reduceLT, reduceIte, Nat.reduceEqDiff, Nat.reduceAdd, Nat.reduceLeDiff, Nat.reduceMul, Nat.reduceBEq, QXFFaQ2, a22] | refine rd0 rfl ?_))
 refine callK_v (exfarm_ok []) (by simp [clr, clrs]) (by simp [okV, okVs]) ?_
 (repeat (first | simp only [↓QA, QB, Nat.reduceLT, reduceIte, Nat.reduceEqDiff, Nat.reduceAdd, Nat.reduceLeDiff, Nat.reduceMul, Nat.reduceBEq, QXFFaQ2] | refine rd0 rfl ?_))
 ((first | refine callK_d (seen_ok 1 3 2) rfl dd ?_ | refine callD_d (seen_ok 1 3 2) rfl dd ?_); (repeat (first | simp only [↓QA, QB, Nat.reduceLT, reduceIte, Nat.reduceEqDiff, Nat.reduceAdd, Nat.reduceLeDiff, Nat.reduceMul, Nat.reduceBEq, QXFFaQ2] | refine rd0 rfl ?_)))
 refine callK_v (exfarm_ok [⟨1, 3, 2⟩]) (by simp [clr, clrs, encLook]) (by simp [okV, okVs]) ?_
 (repeat (first | simp only [↓QA, QB, Nat.reduceLT, reduceIte, Nat.reduceEqDiff, Nat.reduceAdd, Nat.reduceLeDiff, Nat.reduceMul, Nat.reduceBEq, QXFFaQ2] | refine rd0 rfl ?_))
 ((first | refine callK_d (seen_ok 1 3 2) rfl dd ?_ | refine callD_d (seen_ok 1 3 2) rfl dd ?_); (repeat (first | simp only [↓QA, QB, Nat.reduceLT, reduceIte, Nat.reduceEqDiff, Nat.reduceAdd, Nat.reduceLeDiff, Nat.reduceMul, Nat.reduceBEq, QXFFaQ2] | refine rd0 rfl ?_)))
 ((first | refine callK_d (seen_ok 0 1 3) rfl dd ?_ | refine callD_d (seen_ok 0 1 3) rfl dd ?_); (repeat (first | simp only [↓QA, QB, Nat.reduceLT, reduceIte, Nat.reduceEqDiff, Nat.reduceAdd, Nat.reduceLeDiff, Nat.reduceMul, Nat.reduceBEq, QXFFaQ2] | refine rd0 rfl ?_)))
 refine callK_v (exfarm_ok [⟨1, 3, 2⟩, ⟨0, 1, 3⟩]) (by simp [clr, clrs, encLook]) (by simp [okV, okVs]) ?_
 (repeat (first | simp only [↓QA, QB, Nat.reduceLT, reduceIte, Nat.reduceEqDiff, Nat.reduceAdd, Nat.reduceLeDiff, Nat.reduceMul, Nat.reduceBEq, QXFFaQ2] | refine rd0 rfl ?_))
 ((first | refine callK_d (pgrown_ok (exF []) 1 4 (fits_ex _)) rfl dd ?_ | refine callD_d (pgrown_ok (exF []) 1 4 (fits_ex _)) rfl dd ?_); (repeat (first | simp only [↓QA, QB, Nat.reduceLT, reduceIte, Nat.reduceEqDiff, Nat.reduceAdd, Nat.reduceLeDiff, Nat.reduceMul, Nat.reduceBEq, QXFFaQ2, x1, encSE] | refine rd0 rfl ?_)))
 ((first | refine callK_d (pgrown_ok exL 1 4 (fits_ex _)) rfl dd ?_ | refine callD_d (pgrown_ok exL 1 4 (fits_ex _)) rfl dd ?_); (repeat (first | simp only [↓QA, QB, Nat.reduceLT, reduceIte, Nat.reduceEqDiff, Nat.reduceAdd, Nat.reduceLeDiff, Nat.reduceMul, Nat.reduceBEq, QXFFaQ2, x2, encSE] | refine rd0 rfl ?_)))
 ((first | refine callK_d (pcut_ok (exF []) 0 4 (fits_ex _)) rfl dd ?_ | refine callD_d (pcut_ok (exF []) 0 4 (fits_ex _)) rfl dd ?_); (repeat (first | simp only [↓QA, QB, Nat.reduceLT, reduceIte, Nat.reduceEqDiff, Nat.reduceAdd, Nat.reduceLeDiff, Nat.reduceMul, Nat.reduceBEq, QXFFaQ2, x3, encIE] | refine rd0 rfl ?_)))
 ((first | refine callK_d (pcut_ok (exF []) 0 3 (fits_ex _)) rfl dd ?_ | refine callD_d (pcut_ok (exF []) 0 3 (fits_ex _)) rfl dd ?_); (repeat (first | simp only [↓QA, QB, Nat.reduceLT, reduceIte, Nat.reduceEqDiff, Nat.reduceAdd, Nat.reduceLeDiff, Nat.reduceMul, Nat.reduceBEq, QXFFaQ2, x4, encIE] | refine rd0 rfl ?_)))
 ((first | refine callK_d (pdays_ok (exF []) 0 (fits_ex _)) rfl dd ?_ | refine callD_d (pdays_ok (exF []) 0 (fits_ex _)) rfl dd ?_); (repeat (first | simp only [↓QA, QB, Nat.reduceLT, reduceIte, Nat.reduceEqDiff, Nat.reduceAdd, Nat.reduceLeDiff, Nat.reduceMul, Nat.reduceBEq, QXFFaQ2, x5, encLLE] | refine rd0 rfl ?_)))
 ((first | refine callK_d (plast_ok (exF []) 0 (fits_ex _)) rfl dd ?_ | refine callD_d (plast_ok (exF []) 0 (fits_ex _)) rfl dd ?_); (repeat (first | simp only [↓QA, QB, Nat.reduceLT, reduceIte, Nat.reduceEqDiff, Nat.reduceAdd, Nat.reduceLeDiff, Nat.reduceMul, Nat.reduceBEq, QXFFaQ2, x6, encIE] | refine rd0 rfl ?_)))
 ((first | refine callK_d (pearly_ok (exF []) 4 50 (fits_ex _)) rfl dd ?_ | refine callD_d (pearly_ok (exF []) 4 50 (fits_ex _)) rfl dd ?_); (repeat (first | simp only [↓QA, QB, Nat.reduceLT, reduceIte, Nat.reduceEqDiff, Nat.reduceAdd, Nat.reduceLeDiff, Nat.reduceMul, Nat.reduceBEq, QXFFaQ2, x7, encLLE] | refine rd0 rfl ?_)))
 ((first | refine callK_d (pearly_ok (exF []) 4 80 (fits_ex _)) rfl dd ?_ | refine callD_d (pearly_ok (exF []) 4 80 (fits_ex _)) rfl dd ?_); (repeat (first | simp only [↓QA, QB, Nat.reduceLT, reduceIte, Nat.reduceEqDiff, Nat.reduceAdd, Nat.reduceLeDiff, Nat.reduceMul, Nat.reduceBEq, QXFFaQ2, x8, encLLE] | refine rd0 rfl ?_)))
 ((first | refine callK_d (prained_ok exL 1 (fits_ex _)) rfl dd ?_ | refine callD_d (prained_ok exL 1 (fits_ex _)) rfl dd ?_); (repeat (first | simp only [↓QA, QB, Nat.reduceLT, reduceIte, Nat.reduceEqDiff, Nat.reduceAdd, Nat.reduceLeDiff, Nat.reduceMul, Nat.reduceBEq, QXFFaQ2, x9, encSE] | refine rd0 rfl ?_)))
 ((first | refine callK_d (pflowered_ok exL 1 (fits_ex _)) rfl dd ?_ | refine callD_d (pflowered_ok exL 1 (fits_ex _)) rfl dd ?_); (repeat (first | simp only [↓QA, QB, Nat.reduceLT, reduceIte, Nat.reduceEqDiff, Nat.reduceAdd, Nat.reduceLeDiff, Nat.reduceMul, Nat.reduceBEq, QXFFaQ2, x10, encLE] | refine rd0 rfl ?_)))
 ((first | refine callK_d (pwrong_ok exW (fits_ex _)) rfl dd ?_ | refine callD_d (pwrong_ok exW (fits_ex _)) rfl dd ?_); (repeat (first | simp only [↓QA, QB, Nat.reduceLT, reduceIte, Nat.reduceEqDiff, Nat.reduceAdd, Nat.reduceLeDiff, Nat.reduceMul, Nat.reduceBEq, QXFFaQ2, x11, encLE] | refine rd0 rfl ?_)))
 ((first | refine callK_d (plast_ok exW 0 (fits_ex _)) rfl dd ?_ | refine callD_d (plast_ok exW 0 (fits_ex _)) rfl dd ?_); (repeat (first | simp only [↓QA, QB, Nat.reduceLT, reduceIte, Nat.reduceEqDiff, Nat.reduceAdd, Nat.reduceLeDiff, Nat.reduceMul, Nat.reduceBEq, QXFFaQ2, x12, encIE] | refine rd0 rfl ?_)))
 ((first | refine callK_d (span_ok 3 6) rfl dd ?_ | refine callD_d (span_ok 3 6) rfl dd ?_); (repeat (first | simp only [↓QA, QB, Nat.reduceLT, reduceIte, Nat.reduceEqDiff, Nat.reduceAdd, Nat.reduceLeDiff, Nat.reduceMul, Nat.reduceBEq, QXFFaQ2] | refine rd0 rfl ?_)))
 ((first | refine callK_d (span_ok 4 5) rfl dd ?_ | refine callD_d (span_ok 4 5) rfl dd ?_); (repeat (first | simp only [↓QA, QB, Nat.reduceLT, reduceIte, Nat.reduceEqDiff, Nat.reduceAdd, Nat.reduceLeDiff, Nat.reduceMul, Nat.reduceBEq, QXFFaQ2] | refine rd0 rfl ?_)))
 ((first | refine callK_v (ints_ok [4] [4] (by simp) (by simp)) (by simp [clr, clrs, ints]) (by simp [okV, okVs]) ?_ | refine callD_v (ints_ok [4] [4] (by simp) (by simp)) (by simp [clr, clrs, ints]) (by simp [okV, okVs]) ?_); (repeat (first | simp only [↓QA, QB, Nat.reduceLT, reduceIte, Nat.reduceEqDiff, Nat.reduceAdd, Nat.reduceLeDiff, Nat.reduceMul, Nat.reduceBEq, QXFFaQ2, eq_self] | refine rd0 rfl ?_)))
 ((first | refine callK_v (ints_ok [4, 5] [4, 5] (by simp) (by simp)) (by simp [clr, clrs, ints]) (by simp [okV, okVs]) ?_ | refine callD_v (ints_ok [4, 5] [4, 5] (by simp) (by simp)) (by simp [clr, clrs, ints]) (by simp [okV, okVs]) ?_); (repeat (first | simp only [↓QA, QB, Nat.reduceLT, reduceIte, Nat.reduceEqDiff, Nat.reduceAdd, Nat.reduceLeDiff, Nat.reduceMul, Nat.reduceBEq, QXFFaQ2, eq_self] | refine rd0 rfl ?_)))
 ((first | refine callK_v (ints_ok [0, 1] [0, 1] (by simp) (by simp)) (by simp [clr, clrs, ints]) (by simp [okV, okVs]) ?_ | refine callD_v (ints_ok [0, 1] [0, 1] (by simp) (by simp)) (by simp [clr, clrs, ints]) (by simp [okV, okVs]) ?_); (repeat (first | simp only [↓QA, QB, Nat.reduceLT, reduceIte, Nat.reduceEqDiff, Nat.reduceAdd, Nat.reduceLeDiff, Nat.reduceMul, Nat.reduceBEq, QXFFaQ2, eq_self] | refine rd0 rfl ?_)))
 ((first | refine callK_v (ints_ok [1] [1] (by simp) (by simp)) (by simp [clr, clrs, ints]) (by simp [okV, okVs]) ?_ | refine callD_v (ints_ok [1] [1] (by simp) (by simp)) (by simp [clr, clrs, ints]) (by simp [okV, okVs]) ?_); (repeat (first | simp only [↓QA, QB, Nat.reduceLT, reduceIte, Nat.reduceEqDiff, Nat.reduceAdd, Nat.reduceLeDiff, Nat.reduceMul, Nat.reduceBEq, QXFFaQ2, eq_self] | refine rd0 rfl ?_)))
 ((first | refine callK_d (span_ok 0 0) rfl dd ?_ | refine callD_d (span_ok 0 0) rfl dd ?_); (repeat (first | simp only [↓QA, QB, Nat.reduceLT, reduceIte, Nat.reduceEqDiff, Nat.reduceAdd, Nat.reduceLeDiff, Nat.reduceMul, Nat.reduceBEq, QXFFaQ2] | refine rd0 rfl ?_)))
 ((first | refine callK_v (ints_ok [1] [1] (by simp) (by simp)) (by simp [clr, clrs, ints]) (by simp [okV, okVs]) ?_ | refine callD_v (ints_ok [1] [1] (by simp) (by simp)) (by simp [clr, clrs, ints]) (by simp [okV, okVs]) ?_); (repeat (first | simp only [↓QA, QB, Nat.reduceLT, reduceIte, Nat.reduceEqDiff, Nat.reduceAdd, Nat.reduceLeDiff, Nat.reduceMul, Nat.reduceBEq, QXFFaQ2, eq_self] | refine rd0 rfl ?_)))
 ((first | refine callK_v (ints_ok [1] [1] (by simp) (by simp)) (by simp [clr, clrs, ints]) (by simp [okV, okVs]) ?_ | refine callD_v (ints_ok [1] [1] (by simp) (by simp)) (by simp [clr, clrs, ints]) (by simp [okV, okVs]) ?_); (repeat (first | simp only [↓QA, QB, Nat.reduceLT, reduceIte, Nat.reduceEqDiff, Nat.reduceAdd, Nat.reduceLeDiff, Nat.reduceMul, Nat.reduceBEq, QXFFaQ2, eq_self] | refine rd0 rfl ?_)))
end Go.Am.Room
