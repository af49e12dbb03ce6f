/- A part of the proofs: an abstract machine, or what functions come to on it. -/
import Derived.Test.YtnjlkiflililkaaCmpQ5
set_option linter.unusedVariables false
set_option linter.unusedSimpArgs false
set_option linter.defProp false
set_option maxRecDepth 8000
namespace Go.Am.Room
def QXGTrPI := And.intro @encNet_eq (And.intro @netCells_eq (And.intro @encRail_eq (And.intro @encTram_eq (And.intro @encSeen_eq (And.intro @encSpan_eq (And.intro @S_mapRail (And.intro @S_mapTram (And.intro @S_mapSeen (And.intro @T_sapp (And.intro @T_sapp0 (And.intro @Nat.not_lt_zero (And.intro @List.length_append.{0} (And.intro @Nat.zero_add (And.intro @Nat.mul_one (And.intro @Int.toNat_natCast (And.intro @Nat.add_lt_add_iff_left (@Nat.lt_add_right_iff_pos)))))))))))))))))
def waysCells (v : Net) (n : Nat) : List AV := (List.range n).map fun t => intss (waysOf v (fromAt v t) [])
theorem ways_get (v : Net) {n t : Nat} (h : t < n) : (waysCells v n)[t]? = some (intss (waysOf v (fromAt v t) [])) := by simp [waysCells, h]
theorem slots_ok (l : List (Option (List Int))) (m : Nat) : okVs m (l.map slotAV) := by
 induction l with
 | nil => trivial
 | cons o l ih =>
  refine ⟨?_, ih⟩
  cases o with
  | none => simp [slotAV, okV, okVs]
  | some w => exact ok_data (data_ints w) m
theorem slots_set (l : List (Option (List Int))) {t : Nat} (h : t < l.length) (w : List Int) : (l.map slotAV).take t ++ [AV.lit (w.map (.int .i64)) false none] ++ (l.map slotAV).drop (t + 1) = (l.set t (some w)).map slotAV := by
 rw [List.map_set, List.set_eq_take_append_cons_drop, if_pos (by simpa using h)]
 simp [slotAV, ints]
def FIND : AV := .func 86 [] [.ptr 10 0, .ptr 5 0, .ptr 7 0, .ptr 0 0, .ptr 11 0]
theorem FIND_eq : FIND = .func 86 [] [.ptr 10 0, .ptr 5 0, .ptr 7 0, .ptr 0 0, .ptr 11 0] := by simp only [FIND]
def mvS (v : Net) (y : PS) : St := [.cells (netCells v), .cells (netCells v), .cells (netCells v), .map (tEs v y.2), .cells (db v 0 3), .cells [.ptr 4 0], .cells (waysCells v v.trams.length), .cells [.ref 6 0 v.trams.length 1], .tok 1 0 false, .cells (y.1.map slotAV), .cells [.ref 9 0 v.trams.length 1], .cells [FIND]]
theorem mvS_at (v : Net) (l : List (Option (List Int))) : MemAt (fun A => mvS v (l, A)) (db v 0 3) (tEs v) 4 3 12 :=
 ⟨fun M => rfl, fun M => rfl, fun M => rfl, fun M M' => rfl, fun A k => tEs_ok v A k, by omega, by omega⟩
theorem mvS_vary (v : Net) : Vary (mvS v) 12 where
 len := fun y => rfl
 keep := fun y z i hi => by
  match i, hi with
  | 0, _ => exact .inl rfl
  | 1, _ => exact .inl rfl
  | 2, _ => exact .inl rfl
  | 3, _ => exact .inr (.inl ⟨_, rfl, tEs_ok v z.2 _⟩)
  | 4, _ => exact .inl rfl
  | 5, _ => exact .inl rfl
  | 6, _ => exact .inl rfl
  | 7, _ => exact .inl rfl
  | 8, _ => exact .inl rfl
  | 9, _ => exact .inr (.inl ⟨_, rfl, slots_ok z.1 _⟩)
  | 10, _ => exact .inl rfl
  | 11, _ => exact .inl rfl
 eqS := fun k hk y z a b c => by
  have h1 := tEs_ok v z.2 k
  have h2 : okBlk k (.cells (z.1.map slotAV)) := slots_ok z.1 k
  simp only [mvS, List.cons_append, List.nil_append, EqS, h1, h2, or_true, true_or, true_and, and_self]
theorem find_does (v : Net) (hv : Vd v) : ∀ (k t left : Nat) (y : PS) (p : List (List Int)), t + k = v.trams.length → left ≤ 10 → p.length = t → Fnd v p t k y → (∀ w ∈ p, w.length ≤ 4 ∧ ∀ r ∈ w, 0 ≤ r ∧ r < v.rails.length) →
  Does T FIND [.int .i64 t, .int .i64 left] (mvS v y) (.bool (fnd v k t left y).1) (mvS v (fnd v k t left y).2)
 | 0, t, left, y, p, hn, hleft, hp, hF, hpin => by
  have hnt := hv.ntr
  have hl : y.1 = p.map some := by rw [← hF.pre, List.take_of_length_le (by rw [hF.len]; omega)]
  have hro : RunOk v p := ⟨by omega, fun w hw => (hpin w hw).1, fun w hw => (hpin w hw).2⟩
  have hE : ((t : Int) == (v.trams.length : Int)) = true := by simp; omega
  obtain ⟨l, A⟩ := y
  simp only at hl
  subst hl
  have hdo := does_does (mvS_at v (p.map some)) hv but0 p hro 9 (fun A => by show some _ = _; rw [slots_some]) (by omega) A
  have hr : fnd v 0 t left (p.map some, A) = if left = 0 then (doesP v p, (p.map some, doesMemo v p A)) else (false, (p.map some, A)) := by simp only [fnd, full_some]
  refine does_vary (mvS_vary v) (af := a86) rfl (by simp [a86]) ?_
  rw [hr]
  cases h0 : ((left : Int) == 0)
  ·have h0' : ¬ left = 0 := by simp at h0; omega
   rw [if_neg h0']
   simp only [mvS, FIND_eq]
   (repeat (first | simp only [↓QA, QB, Nat.reduceLT, reduceIte, Nat.reduceEqDiff, Nat.reduceAdd, Nat.reduceLeDiff, Nat.reduceMul, Nat.reduceBEq, QXGTrPI, a86, hE, h0] | refine rd0 rfl ?_))
   exact ⟨_, [], rfl, by simp, by try simp only [QS, QC, Nat.reduceLT, reduceIte, Nat.reduceEqDiff, Nat.reduceAdd, Nat.reduceLeDiff, Nat.reduceMul, Nat.reduceBEq, QXGTrPI]⟩
  ·have h0' : left = 0 := by simp at h0; omega
   rw [if_pos h0']
   simp only [mvS, FIND_eq] at hdo ⊢
   try simp only [↓QA, QB, Nat.reduceLT, reduceIte, Nat.reduceEqDiff, Nat.reduceAdd, Nat.reduceLeDiff, Nat.reduceMul, Nat.reduceBEq, QXGTrPI] at hdo
   (repeat (first | simp only [↓QA, QB, Nat.reduceLT, reduceIte, Nat.reduceEqDiff, Nat.reduceAdd, Nat.reduceLeDiff, Nat.reduceMul, Nat.reduceBEq, QXGTrPI, a86, hE, h0] | refine rd0 rfl ?_))
   refine callK_do hdo ?_
   (repeat (first | simp only [↓QA, QB, Nat.reduceLT, reduceIte, Nat.reduceEqDiff, Nat.reduceAdd, Nat.reduceLeDiff, Nat.reduceMul, Nat.reduceBEq, QXGTrPI] | refine rd0 rfl ?_))
   exact ⟨_, [], rfl, by simp, by try simp only [QS, QC, Nat.reduceLT, reduceIte, Nat.reduceEqDiff, Nat.reduceAdd, Nat.reduceLeDiff, Nat.reduceMul, Nat.reduceBEq, QXGTrPI]⟩
 | k + 1, t, left, y, p, hn, hleft, hp, hF, hpin0 => by
  have hnt := hv.ntr
  have hok1 : ∀ A, okBlk 12 (.map (tEs v A)) := fun A => tEs_ok v A 12
  have hok2 : ∀ l : List (Option (List Int)), okBlk 12 (.cells (l.map slotAV)) := fun l => slots_ok l 12
  have htt : t < v.trams.length := by omega
  have hE : ((t : Int) == (v.trams.length : Int)) = false := by simp; omega
  obtain ⟨z, hz⟩ : ∃ z, v.trams[t] = z := ⟨_, rfl⟩
  have hpth : pathAt (ownOf v) t = z.path := by rw [own_at htt, hz]
  have hzl := (tr_ok hv htt).len
  rw [hz] at hzl
  have hfr := from_at htt
  rw [hz] at hfr
  have hwg := ways_get v (n := v.trams.length) htt
  have hwi : ∀ w ∈ waysOf v (fromAt v t) [], w.length ≤ 4 ∧ ∀ r ∈ w, 0 ≤ r ∧ r < v.rails.length := fun w hw => ways_in hw
  have hwc := ways_cnt (v := v) (by have := hv.nra; omega) (fromAt v t) []
  have hr : fnd v (k + 1) t left y = tryW v (fun left y => fnd v k (t + 1) left y) t left (waysOf v (fromAt v t) []) y := rfl
  obtain ⟨W, hW⟩ : ∃ W, waysOf v (fromAt v t) [] = W := ⟨_, rfl⟩
  rw [hW] at hwg hwc hr
  simp only [hW] at hwi
  obtain ⟨R, hR⟩ : ∃ R, fnd v (k + 1) t left y = R := ⟨_, rfl⟩
  rw [hR] at hr
  have hr' : tryW v (fun left y => fnd v k (t + 1) left y) t left (W.drop 0) y = R := hr.symm
  have iA : (0 : Int) ≤ (t : Int) ∧ (t : Int) < (v.trams.length : Int) ∧ 1 = 1 := ⟨by omega, by omega, rfl⟩
  have hwt : IntKind.i64.wrap ((t : Int) + 1) = ((t + 1 : Nat) : Int) := wrapN htt (by omega)
  refine does_vary (mvS_vary v) (af := a86) rfl (by simp [a86]) ?_
  rw [hR]
  simp only [mvS, FIND_eq]
  (repeat (first | simp only [↓QA, QB, Nat.reduceLT, reduceIte, Nat.reduceEqDiff, Nat.reduceAdd, Nat.reduceLeDiff, Nat.reduceMul, Nat.reduceBEq, QXGTrPI, a86, hE, iA, hwg, intss_def] | refine rd0 rfl ?_))
  refine loopE (S := Nat × PS) (0, y) (fun a => a.1 ≤ W.length ∧ Fnd v p t (k + 1) a.2 ∧ tryW v (fun left y => fnd v k (t + 1) left y) t left (W.drop a.1) a.2 = R) (fun a => W.length - a.1)
   (fun a => [(0, .int .i64 t), (1, .int .i64 left), (2, .ptr 10 0), (5, .ptr 0 0), (6, .ptr 11 0), (27, intss W), (28, .int .i64 W.length), (29, .int .i64 a.1)])
   (fun a => mvS v a.2) ⟨Nat.zero_le _, hF, hr'⟩ (by simp [mvS, FIND_eq, netCells, ints]) ?_ fun a ha => ?_
  ·try simp only [TrimX, QE, Nat.reduceLT, reduceIte, Nat.reduceEqDiff, Nat.reduceAdd, Nat.reduceLeDiff, Nat.reduceMul, Nat.reduceBEq, QXGTrPI, intss_def]
   try simp
  ·obtain ⟨j, y⟩ := a
   obtain ⟨hj, hF, hR⟩ := ha
   simp only at hj hF hR
   have hlt : t < y.1.length := by have := hF.len; omega
   simp only [mvS, FIND_eq]
   (repeat (first | simp only [↓QA, QB, Nat.reduceLT, reduceIte, Nat.reduceEqDiff, Nat.reduceAdd, Nat.reduceLeDiff, Nat.reduceMul, Nat.reduceBEq, QXGTrPI, L86_0, intss_def] | refine rd0 rfl ?_))
   refine iteP_intro (fun hd => ?_) fun hd => ?_
   ·have hj1 : j < W.length := by simpa using hd
    have hwj := wrapN hj1 (by omega)
    rw [List.drop_eq_getElem_cons hj1, tryW] at hR
    have hwl := hwi _ (List.getElem_mem hj1)
    obtain ⟨w, hw⟩ : ∃ w, W[j] = w := ⟨_, rfl⟩
    rw [hw] at hR hwl
    have hpin : ∀ u ∈ p ++ [w], u.length ≤ 4 ∧ ∀ r ∈ u, 0 ≤ r ∧ r < v.rails.length := fun u hu => by
     rcases List.mem_append.1 hu with hu | hu
     ·exact hpin0 u hu
     ·simp only [List.mem_singleton] at hu; subst hu; exact hwl
    have hss := slots_set y.1 hlt w
    have i8 : (0 : Int) ≤ (t : Int) ∧ (t : Int) < (v.trams.length : Int) ∧ 1 = 1 := iA
    have c8 : t + 1 ≤ y.1.length := hlt
    have hot : otherW v t w = if w = z.path then 0 else 1 := by rw [otherW, hpth]
    have heq := equal_ok w z.path (by omega) (by omega)
    simp only [ints_def] at heq
    (repeat (first | simp only [↓QA, QB, Nat.reduceLT, reduceIte, Nat.reduceEqDiff, Nat.reduceAdd, Nat.reduceLeDiff, Nat.reduceMul, Nat.reduceBEq, QXGTrPI, hj1, hw, htt, hz, intss_def] | refine rd0 rfl ?_))
    ((first | refine callK_d (heq) rfl dd ?_ | refine callD_d (heq) rfl dd ?_); (repeat (first | simp only [↓QA, QB, Nat.reduceLT, reduceIte, Nat.reduceEqDiff, Nat.reduceAdd, Nat.reduceLeDiff, Nat.reduceMul, Nat.reduceBEq, QXGTrPI, hj1, hw, htt, hz, intss_def] | refine rd0 rfl ?_)))
    cases q : decide (w = z.path)
    ·have q' : ¬ w = z.path := by simpa using q
     rw [if_neg q'] at hot
     rw [hot] at hR
     simp only [Bool.not_false, iteP_true]
     by_cases hl1 : 1 ≤ left
     ·have hlo : IntKind.i64.wrap ((left : Int) - 1) = ((left - 1 : Nat) : Int) := (wrap64 ⟨by omega, by omega⟩).trans (by omega)
      have hle : decide ((1 : Int) ≤ (left : Int)) = true := decide_eq_true (by omega)
      have hrec := find_does v hv k (t + 1) (left - 1) (y.1.set t (some w), y.2) (p ++ [w]) (by omega) (by omega) (by simp [hp]) ⟨by have := hF.len; simp; omega, set_take hF.pre hlt⟩ hpin
      rw [if_pos (show 1 ≤ left by omega)] at hR
      obtain ⟨Q, hQ⟩ : ∃ Q, fnd v k (t + 1) (left - 1) (y.1.set t (some w), y.2) = Q := ⟨_, rfl⟩
      rw [hQ] at hrec hR
      have hFQ : Fnd v p t (k + 1) Q.2 := by
       have := (fnd_dfs v k (t + 1) (left - 1) (y.1.set t (some w), y.2) (p ++ [w]) (by simp [hp]) ⟨by have := hF.len; simp; omega, set_take hF.pre hlt⟩).2.2
       rw [hQ] at this
       refine ⟨by have := this.len; omega, ?_⟩
       have h1 := congrArg (List.take t) this.pre
       rw [List.take_take, show min t (t + 1) = t by omega] at h1
       rw [h1, List.map_append]
       exact List.take_left' (by simp [hp])
      obtain ⟨Qb, Qy⟩ := Q
      simp only [mvS, FIND_eq] at hrec
      simp only at hR hFQ hrec
      try simp only [↓QA, QB, Nat.reduceLT, reduceIte, Nat.reduceEqDiff, Nat.reduceAdd, Nat.reduceLeDiff, Nat.reduceMul, Nat.reduceBEq, QXGTrPI] at hrec
      (repeat (first | simp only [↓QA, QB, Nat.reduceLT, reduceIte, Nat.reduceEqDiff, Nat.reduceAdd, Nat.reduceLeDiff, Nat.reduceMul, Nat.reduceBEq, QXGTrPI, q, i8, c8, hss, hle, hwt, hlo, hj1, hw, htt, hz, intss_def] | refine rd0 rfl ?_))
      refine callK_do hrec ?_
      cases Qb
      ·simp only [Bool.false_eq_true, if_false] at hR
       (repeat (first | simp only [↓QA, QB, Nat.reduceLT, reduceIte, Nat.reduceEqDiff, Nat.reduceAdd, Nat.reduceLeDiff, Nat.reduceMul, Nat.reduceBEq, QXGTrPI, hwj] | refine rd0 rfl ?_))
       refine ⟨(j + 1, Qy), ⟨by simp only; omega, hFQ, hR⟩, by simp only; omega, ?_⟩
       try simp only [TrimX, QE, Nat.reduceLT, reduceIte, Nat.reduceEqDiff, Nat.reduceAdd, Nat.reduceLeDiff, Nat.reduceMul, Nat.reduceBEq, QXGTrPI, hwj, intss_def]
       try simp only [hok1, hok2, or_true, true_or, and_self, true_and]
      ·simp only [if_true] at hR
       subst hR
       (repeat (first | simp only [↓QA, QB, Nat.reduceLT, reduceIte, Nat.reduceEqDiff, Nat.reduceAdd, Nat.reduceLeDiff, Nat.reduceMul, Nat.reduceBEq, QXGTrPI] | refine rd0 rfl ?_))
       exact ⟨_, [], rfl, by simp [mvS, FIND_eq], by try simp only [QS, QC, Nat.reduceLT, reduceIte, Nat.reduceEqDiff, Nat.reduceAdd, Nat.reduceLeDiff, Nat.reduceMul, Nat.reduceBEq, QXGTrPI]⟩
     ·have hle : decide ((1 : Int) ≤ (left : Int)) = false := by simp; omega
      rw [if_neg hl1] at hR
      (repeat (first | simp only [↓QA, QB, Nat.reduceLT, reduceIte, Nat.reduceEqDiff, Nat.reduceAdd, Nat.reduceLeDiff, Nat.reduceMul, Nat.reduceBEq, QXGTrPI, q, i8, c8, hss, hle, hwj] | refine rd0 rfl ?_))
      refine ⟨(j + 1, (y.1.set t (some w), y.2)), ⟨by simp only; omega, ⟨by have := hF.len; simp; omega, by rw [← hF.pre]; simp [List.take_set_of_le]⟩, hR⟩, by simp only; omega, ?_⟩
      try simp only [TrimX, QE, Nat.reduceLT, reduceIte, Nat.reduceEqDiff, Nat.reduceAdd, Nat.reduceLeDiff, Nat.reduceMul, Nat.reduceBEq, QXGTrPI, hwj, intss_def]
      try simp only [hok1, hok2, or_true, true_or, and_self, true_and]
    ·have q' : w = z.path := by simpa using q
     rw [if_pos q'] at hot
     rw [hot] at hR
     simp only [Bool.not_true, iteP_false]
     have hlo : IntKind.i64.wrap ((left : Int) - 0) = ((left - 0 : Nat) : Int) := (wrap64 ⟨by omega, by omega⟩).trans (by omega)
     have hle : decide ((0 : Int) ≤ (left : Int)) = true := decide_eq_true (by omega)
     have hrec := find_does v hv k (t + 1) (left - 0) (y.1.set t (some w), y.2) (p ++ [w]) (by omega) (by omega) (by simp [hp]) ⟨by have := hF.len; simp; omega, set_take hF.pre hlt⟩ hpin
     rw [if_pos (show 0 ≤ left by omega)] at hR
     obtain ⟨Q, hQ⟩ : ∃ Q, fnd v k (t + 1) (left - 0) (y.1.set t (some w), y.2) = Q := ⟨_, rfl⟩
     rw [hQ] at hrec hR
     have hFQ : Fnd v p t (k + 1) Q.2 := by
      have := (fnd_dfs v k (t + 1) (left - 0) (y.1.set t (some w), y.2) (p ++ [w]) (by simp [hp]) ⟨by have := hF.len; simp; omega, set_take hF.pre hlt⟩).2.2
      rw [hQ] at this
      refine ⟨by have := this.len; omega, ?_⟩
      have h1 := congrArg (List.take t) this.pre
      rw [List.take_take, show min t (t + 1) = t by omega] at h1
      rw [h1, List.map_append]
      exact List.take_left' (by simp [hp])
     obtain ⟨Qb, Qy⟩ := Q
     simp only [mvS, FIND_eq] at hrec
     simp only at hR hFQ hrec
     try simp only [↓QA, QB, Nat.reduceLT, reduceIte, Nat.reduceEqDiff, Nat.reduceAdd, Nat.reduceLeDiff, Nat.reduceMul, Nat.reduceBEq, QXGTrPI] at hrec
     (repeat (first | simp only [↓QA, QB, Nat.reduceLT, reduceIte, Nat.reduceEqDiff, Nat.reduceAdd, Nat.reduceLeDiff, Nat.reduceMul, Nat.reduceBEq, QXGTrPI, q, i8, c8, hss, hle, hwt, hlo, hj1, hw, htt, hz, intss_def] | refine rd0 rfl ?_))
     refine callK_do hrec ?_
     cases Qb
     ·simp only [Bool.false_eq_true, if_false] at hR
      (repeat (first | simp only [↓QA, QB, Nat.reduceLT, reduceIte, Nat.reduceEqDiff, Nat.reduceAdd, Nat.reduceLeDiff, Nat.reduceMul, Nat.reduceBEq, QXGTrPI, hwj] | refine rd0 rfl ?_))
      refine ⟨(j + 1, Qy), ⟨by simp only; omega, hFQ, hR⟩, by simp only; omega, ?_⟩
      try simp only [TrimX, QE, Nat.reduceLT, reduceIte, Nat.reduceEqDiff, Nat.reduceAdd, Nat.reduceLeDiff, Nat.reduceMul, Nat.reduceBEq, QXGTrPI, hwj, intss_def]
      try simp only [hok1, hok2, or_true, true_or, and_self, true_and]
     ·simp only [if_true] at hR
      subst hR
      (repeat (first | simp only [↓QA, QB, Nat.reduceLT, reduceIte, Nat.reduceEqDiff, Nat.reduceAdd, Nat.reduceLeDiff, Nat.reduceMul, Nat.reduceBEq, QXGTrPI] | refine rd0 rfl ?_))
      exact ⟨_, [], rfl, by simp [mvS, FIND_eq], by try simp only [QS, QC, Nat.reduceLT, reduceIte, Nat.reduceEqDiff, Nat.reduceAdd, Nat.reduceLeDiff, Nat.reduceMul, Nat.reduceBEq, QXGTrPI]⟩
   ·have hj1 : j = W.length := by
     have : ¬ j < W.length := by simpa using hd
     omega
    rw [hj1, List.drop_length, tryW] at hR
    subst hR
    (repeat (first | simp only [↓QA, QB, Nat.reduceLT, reduceIte, Nat.reduceEqDiff, Nat.reduceAdd, Nat.reduceLeDiff, Nat.reduceMul, Nat.reduceBEq, QXGTrPI] | refine rd0 rfl ?_))
    exact ⟨_, [], rfl, by simp [mvS, FIND_eq], by try simp only [QS, QC, Nat.reduceLT, reduceIte, Nat.reduceEqDiff, Nat.reduceAdd, Nat.reduceLeDiff, Nat.reduceMul, Nat.reduceBEq, QXGTrPI]⟩
end Go.Am.Room
set_option maxRecDepth 8000
namespace Go.Am.Room
def QXGTrPJ := And.intro @encNet_eq (And.intro @netCells_eq (And.intro @encRail_eq (And.intro @encTram_eq (And.intro @encSeen_eq (And.intro @encSpan_eq (And.intro @S_mapRail (And.intro @S_mapTram (And.intro @S_mapSeen (And.intro @T_sapp (And.intro @T_sapp0 (And.intro @Nat.not_lt_zero (And.intro @List.length_append.{0} (And.intro @List.length_replicate.{0} (And.intro @Nat.zero_add (And.intro @Nat.mul_one (And.intro @Int.toNat_natCast (And.intro @Nat.add_lt_add_iff_left (@Nat.lt_add_right_iff_pos))))))))))))))))))
theorem flat_rep (x : AV) (n : Nat) : (List.replicate n [x]).flatten = List.replicate n x := by
 induction n with
 | zero => rfl
 | succ n ih => simp [List.replicate_succ, ih]
theorem chop_lits : ∀ l : List (List Int), chop 1 l.length (l.map ints) = l.map ints
 | [] => rfl
 | x :: l => by simp [chop, chop_lits l, AV.cell, ints]
theorem S_refL {σ : St} {m id n : Nat} {l : List (List Int)} (hm : ¬ id < m) (hn : n = l.length) (hl : cellsAt σ id = some (l.map ints)) : snapM σ m 20 (.ref id 0 n 1) = some (.lit (l.map ints) false none) := by
 subst hn
 have hv : view σ (.ref id 0 l.length 1) = some (l.map ints) := by simp [view, hl, chop_lits]
 rw [S_ref, if_neg hm, hv]
 simp [allCells_ints, S_mapL]
def fillC (v : Net) (n k : Nat) : List AV := (List.range n).map fun t => if t < k then intss (waysOf v (fromAt v t) []) else .lit [] true none
theorem fill_0 (v : Net) (n : Nat) : fillC v n 0 = List.replicate n (.lit [] true none) := by simp [fillC, List.map_const']
theorem fill_all (v : Net) (n : Nat) : fillC v n n = waysCells v n := List.map_congr_left fun t ht => by
 rw [if_pos (by simpa using ht)]
theorem fill_len (v : Net) (n k : Nat) : (fillC v n k).length = n := by simp [fillC]
theorem fill_ok (v : Net) (n k m : Nat) : okVs m (fillC v n k) := by
 have key : ∀ l : List Nat, okVs m (l.map fun t => if t < k then intss (waysOf v (fromAt v t) []) else AV.lit [] true none) := by
  intro l
  induction l with
  | nil => trivial
  | cons t l ih =>
   refine ⟨?_, ih⟩
   simp only
   split
   ·exact ok_data (data_intss _) m
   ·simp [okV, okVs]
 exact key _
theorem fill_set (v : Net) {n k : Nat} (h : k < n) : (fillC v n k).take k ++ [intss (waysOf v (fromAt v k) [])] ++ (fillC v n k).drop (k + 1) = fillC v n (k + 1) := by
 have h1 : (fillC v n k).take k ++ [intss (waysOf v (fromAt v k) [])] ++ (fillC v n k).drop (k + 1) = (fillC v n k).set k (intss (waysOf v (fromAt v k) [])) := by
  rw [List.set_eq_take_append_cons_drop, if_pos (by rw [fill_len]; exact h)]; simp
 rw [h1]
 refine List.ext_getElem? fun j => ?_
 by_cases hj : j < n
 ·rw [List.getElem?_set]
  by_cases e : k = j
  ·subst e; simp [fill_len, hj, fillC]
  ·rw [if_neg e]
   simp only [fillC, List.getElem?_map, List.getElem?_range hj, Option.map_some]
   by_cases h2 : j < k
   ·simp [h2, show j < k + 1 by omega]
   ·simp [h2, show ¬ j < k + 1 by omega]
 ·rw [List.getElem?_eq_none (by rw [List.length_set, fill_len]; omega), List.getElem?_eq_none (by rw [fill_len]; omega)]
theorem pmove_ok (v : Net) (hf : Fits v) : Pure T 30 [encNet v] (encMove (moveOf v)) := by
 refine pure_fn (af := a30) rfl (by simp [a30]) dd ?_
 (repeat (first | simp only [↓QA, QB, Nat.reduceLT, reduceIte, Nat.reduceEqDiff, Nat.reduceAdd, Nat.reduceLeDiff, Nat.reduceMul, Nat.reduceBEq, QXGTrPJ, a30] | refine rd0 rfl ?_))
 by_cases h0 : netErr v = 0
 ·obtain ⟨hv, hne⟩ := netErr_ok h0
  have hnt := hv.ntr
  have her := enter_yes [.cells (netCells v)] v [] (.inl rfl) hf (by rw [entE_nil]; exact h0)
  have hsome : ∀ p, bestPlan v (truths v []) = some p → moveOf v = (p, movedOf v p, 0) := fun p hp => by rw [moveOf, if_pos h0, hp]
  have hnone : bestPlan v (truths v []) = none → moveOf v = ([], [], 9) := fun hp => by rw [moveOf, if_pos h0, hp]
  have hbp := best_up hv
  obtain ⟨MO, hMO⟩ : ∃ MO, moveOf v = MO := ⟨_, rfl⟩
  rw [hMO] at hnone
  simp only [hMO] at hsome
  rw [hMO]
  obtain ⟨W, hW⟩ : ∃ W, bestPlan v (truths v []) = W := ⟨_, rfl⟩
  rw [hW] at hbp hnone
  simp only [hW] at hsome
  simp only [entS, List.map_nil] at her
  simp only [netCells_eq] at her
  try simp only [↓QA, QB, Nat.reduceLT, reduceIte, Nat.reduceEqDiff, Nat.reduceAdd, Nat.reduceLeDiff, Nat.reduceMul, Nat.reduceBEq, QXGTrPJ] at her
  have hwi : ∀ (n : Nat), n = v.trams.length → True := fun _ _ => trivial
  have hmk : vMkslice 24 (.int .i64 v.trams.length) (.int .i64 v.trams.length) = some v.trams.length := by simp [vMkslice, room]; omega
  have hok1 : ∀ A k, okBlk k (.map (tEs v A)) := fun A k => tEs_ok v A k
  have hok2 : ∀ (l : List (Option (List Int))) k, okBlk k (.cells (l.map slotAV)) := fun l k => slots_ok l k
  have hok3 : ∀ k m, okBlk m (.cells (fillC v v.trams.length k)) := fun k m => fill_ok v _ k m
  refine callK_do her ?_
  (repeat (first | simp only [↓QA, QB, Nat.reduceLT, reduceIte, Nat.reduceEqDiff, Nat.reduceAdd, Nat.reduceLeDiff, Nat.reduceMul, Nat.reduceBEq, QXGTrPJ, show ((0 : Int) == 0) = true from rfl, hmk, flat_rep, ← fill_0 v] | refine rd0 rfl ?_))
  refine ghostK 3 1 [] rfl ?_
  refine loopE (S := Nat) 0 (fun k => k ≤ v.trams.length) (fun k => v.trams.length - k)
   (fun k => [(1, .ptr 0 0), (3, .lit [] false (some 8)), (5, .ptr 5 0), (6, .ptr 7 0), (27, .lit (v.trams.map encTram) false none), (28, .int .i64 v.trams.length), (29, .int .i64 k)])
   (fun k => [.cells (netCells v), .cells (netCells v), .cells (netCells v), .map (tEs v (memo0 v)), .cells (db v 0 3), .cells [.ptr 4 0], .cells (fillC v v.trams.length k), .cells [.ref 6 0 v.trams.length 1], .tok 1 0 false]) (Nat.zero_le _) (by simp [netCells, ints]) ?_ fun k hk => ?_
  ·try simp only [TrimX, QE, Nat.reduceLT, reduceIte, Nat.reduceEqDiff, Nat.reduceAdd, Nat.reduceLeDiff, Nat.reduceMul, Nat.reduceBEq, QXGTrPJ]
   try simp
  ·(repeat (first | simp only [↓QA, QB, Nat.reduceLT, reduceIte, Nat.reduceEqDiff, Nat.reduceAdd, Nat.reduceLeDiff, Nat.reduceMul, Nat.reduceBEq, QXGTrPJ, L30_0] | refine rd0 rfl ?_))
   refine iteP_intro (fun hd => ?_) fun hd => ?_
   ·have hk1 : k < v.trams.length := by simpa using hd
    have hw := wrapN hk1 (by omega)
    have hfr := from_at hk1
    have hto := (tr_ok hv hk1).frm
    obtain ⟨z, hz⟩ : ∃ z, v.trams[k] = z := ⟨_, rfl⟩
    rw [hz] at hfr hto
    obtain ⟨S, hS⟩ : ∃ S : Nat, z.frm = (S : Int) := ⟨z.frm.toNat, by omega⟩
    have hst := hv.st
    have hpw := pways_ok v hv S (by omega) (-1)
    have hb1 : butL (-1) = [] := rfl
    have hfs := fill_set v hk1
    rw [hb1, ← hS, ← hfr] at hpw
    rw [hfr, hS] at hpw
    rw [hfr, hS] at hfs
    obtain ⟨Y, hY⟩ : ∃ Y, waysOf v (S : Int) [] = Y := ⟨_, rfl⟩
    rw [hY] at hpw hfs
    have iA : (0 : Int) ≤ (k : Int) ∧ (k : Int) < (v.trams.length : Int) ∧ 1 = 1 := ⟨by omega, by omega, rfl⟩
    have hfl := fill_len v v.trams.length k
    have c8 : k + 1 ≤ v.trams.length := hk1
    simp only [intss_def] at hpw hfs
    (repeat (first | simp only [↓QA, QB, Nat.reduceLT, reduceIte, Nat.reduceEqDiff, Nat.reduceAdd, Nat.reduceLeDiff, Nat.reduceMul, Nat.reduceBEq, QXGTrPJ, hk1, hz, hS] | refine rd0 rfl ?_))
    ((first | refine callK_d (hpw) rfl dd ?_ | refine callD_d (hpw) rfl dd ?_); (repeat (first | simp only [↓QA, QB, Nat.reduceLT, reduceIte, Nat.reduceEqDiff, Nat.reduceAdd, Nat.reduceLeDiff, Nat.reduceMul, Nat.reduceBEq, QXGTrPJ, hk1, hz, hS, iA, hfl, c8, hfs, hw] | refine rd0 rfl ?_)))
    refine ⟨k + 1, by omega, by omega, ?_⟩
    try simp only [TrimX, QE, Nat.reduceLT, reduceIte, Nat.reduceEqDiff, Nat.reduceAdd, Nat.reduceLeDiff, Nat.reduceMul, Nat.reduceBEq, QXGTrPJ, hw]
    try simp only [hok3, or_true, true_or, and_self, true_and]
   ·have hk1 : k = v.trams.length := by
     have : ¬ k < v.trams.length := by simpa using hd
     omega
    rw [hk1, fill_all]
    have hwn : IntKind.i64.wrap ((v.trams.length : Int) + 1) = ((v.trams.length + 1 : Nat) : Int) := by rw [wrap64 ⟨by omega, by omega⟩]; omega
    have hrep : List.replicate v.trams.length (AV.lit [] true none) = (List.replicate v.trams.length none).map slotAV := by simp [slotAV]
    have hF0 : Fnd v [] 0 v.trams.length (List.replicate v.trams.length none, memo0 v) := ⟨by simp, by simp⟩
    (repeat (first | simp only [↓QA, QB, Nat.reduceLT, reduceIte, Nat.reduceEqDiff, Nat.reduceAdd, Nat.reduceLeDiff, Nat.reduceMul, Nat.reduceBEq, QXGTrPJ, hmk, flat_rep, hrep, hwn] | refine rd0 rfl ?_))
    refine loopE (S := Nat × PS) (0, (List.replicate v.trams.length none, memo0 v)) (fun a => a.1 ≤ v.trams.length + 1 ∧ Fnd v [] 0 v.trams.length a.2 ∧ planUp v (doesP v) (v.trams.length + 1 - a.1) a.1 = W) (fun a => v.trams.length + 1 - a.1)
     (fun a => [(1, .ptr 0 0), (3, .lit [] false (some 8)), (9, .ptr 10 0), (10, .ptr 11 0), (49, .int .i64 ((v.trams.length + 1 : Nat) : Int)), (50, .int .i64 a.1)])
     (fun a => mvS v a.2) ⟨Nat.zero_le _, hF0, hbp.symm⟩ (by simp [mvS, FIND_eq, netCells, ints]) ?_ fun a ha => ?_
    ·try simp only [TrimX, QE, Nat.reduceLT, reduceIte, Nat.reduceEqDiff, Nat.reduceAdd, Nat.reduceLeDiff, Nat.reduceMul, Nat.reduceBEq, QXGTrPJ]
     try simp [clr, clrs]
    ·obtain ⟨m, y⟩ := a
     obtain ⟨hm, hF, hq⟩ := ha
     simp only at hm hF hq
     cases hml : decide ((m : Int) < ((v.trams.length + 1 : Nat) : Int))
     ·have hm1 : m = v.trams.length + 1 := by
       have : ¬ (m : Int) < ((v.trams.length + 1 : Nat) : Int) := by simpa using hml
       omega
      rw [hm1, Nat.sub_self, planUp] at hq
      have hres := hnone hq.symm
      subst hres
      simp only [mvS, FIND_eq]
      (repeat (first | simp only [↓QA, QB, Nat.reduceLT, reduceIte, Nat.reduceEqDiff, Nat.reduceAdd, Nat.reduceLeDiff, Nat.reduceMul, Nat.reduceBEq, QXGTrPJ, L30_2, hml, encMove, intss_def, List.map_nil] | refine rd0 rfl ?_))
      try try simp only [QS, QC, Nat.reduceLT, reduceIte, Nat.reduceEqDiff, Nat.reduceAdd, Nat.reduceLeDiff, Nat.reduceMul, Nat.reduceBEq, QXGTrPJ]
     ·have hm1 : m < v.trams.length + 1 := by
       have : (m : Int) < ((v.trams.length + 1 : Nat) : Int) := by simpa using hml
       omega
      have hwm := wrapN hm1 (by omega)
      rw [show v.trams.length + 1 - m = (v.trams.length + 1 - (m + 1)) + 1 by omega, planUp] at hq
      have hfd := find_does v hv v.trams.length 0 m y [] (by omega) (by omega) rfl hF (fun w hw => by cases hw)
      obtain ⟨l1, l2, l3⟩ := fnd_dfs v v.trams.length 0 m y [] rfl hF
      obtain ⟨⟨Rb, Ry⟩, hRe⟩ : ∃ R, fnd v v.trams.length 0 m y = R := ⟨_, rfl⟩
      rw [hRe] at l1 l2 l3 hfd
      simp only at l1 l2 l3 hfd
      simp only [mvS, FIND_eq] at hfd ⊢
      try simp only [↓QA, QB, Nat.reduceLT, reduceIte, Nat.reduceEqDiff, Nat.reduceAdd, Nat.reduceLeDiff, Nat.reduceMul, Nat.reduceBEq, QXGTrPJ] at hfd
      have h00 : ((0 : Nat) : Int) = 0 := rfl
      rw [h00] at hfd
      (repeat (first | simp only [↓QA, QB, Nat.reduceLT, reduceIte, Nat.reduceEqDiff, Nat.reduceAdd, Nat.reduceLeDiff, Nat.reduceMul, Nat.reduceBEq, QXGTrPJ, L30_2, hml] | refine rd0 rfl ?_))
      refine callK_do hfd ?_
      cases hdf : dfs v (doesP v) v.trams.length [] m with
      | none =>
       rw [hdf] at l1 hq
       simp only [Option.isSome_none] at l1 hq
       subst l1
       (repeat (first | simp only [↓QA, QB, Nat.reduceLT, reduceIte, Nat.reduceEqDiff, Nat.reduceAdd, Nat.reduceLeDiff, Nat.reduceMul, Nat.reduceBEq, QXGTrPJ, hwm] | refine rd0 rfl ?_))
       refine ⟨(m + 1, Ry), ⟨by simp only; omega, l3, hq⟩, by simp only; omega, ?_⟩
       try simp only [TrimX, QE, Nat.reduceLT, reduceIte, Nat.reduceEqDiff, Nat.reduceAdd, Nat.reduceLeDiff, Nat.reduceMul, Nat.reduceBEq, QXGTrPJ, hwm]
       try simp only [hok1, hok2, or_true, true_or, and_self, true_and]
      | some P =>
       rw [hdf] at l1 hq
       have l2 := l2 P hdf
       simp only [Option.isSome_some] at l1 hq
       subst l1
       have hres := hsome P hq.symm
       subst hres
       obtain ⟨Rl, RA⟩ := Ry
       simp only at l2 l3
       subst l2
       have hPl : P.length = v.trams.length := by have := l3.len; simpa using this
       have hPin : ∀ w ∈ P, w.length ≤ 4 := fun w hw => by
        have h1 := hdf
        rw [dfs_find, ← plans_all] at h1
        exact (plan_ok (List.mem_of_find?_eq_some h1)).few w hw
       obtain ⟨A, hA⟩ : ∃ A, movedOf v P = A := ⟨_, rfl⟩
       have hA' : [] ++ (numbers ((0 : Nat) : Int) ((v.trams.length : Int) - ((0 : Nat) : Int)).toNat).filter (movP v P) = A := by rw [← hA, movedOf, hPl]; simp; rfl
       rw [hA, slots_some]
       (repeat (first | simp only [↓QA, QB, Nat.reduceLT, reduceIte, Nat.reduceEqDiff, Nat.reduceAdd, Nat.reduceLeDiff, Nat.reduceMul, Nat.reduceBEq, QXGTrPJ, hPl] | refine rd0 rfl ?_))
       refine loopE (S := Nat × List Int × Bool) (0, [], false) (fun a => a.1 ≤ v.trams.length ∧ a.2.1 ++ (numbers (a.1 : Int) ((v.trams.length : Int) - a.1).toNat).filter (movP v P) = A ∧ a.2.1.length ≤ a.1) (fun a => v.trams.length - a.1)
        (fun a => [(1, .ptr 0 0), (3, .lit (a.2.1.map (.int .i64)) false (some 8)), (9, .ptr 10 0), (57, .ref 9 0 v.trams.length 1), (58, .int .i64 v.trams.length), (59, .int .i64 a.1)])
        (fun a => [.cells (netCells v), .cells (netCells v), .cells (netCells v), .map (tEs v RA), .cells (db v 0 3), .cells [.ptr 4 0], .cells (waysCells v v.trams.length), .cells [.ref 6 0 v.trams.length 1], .tok 1 a.2.1.length a.2.2, .cells (P.map ints), .cells [.ref 9 0 v.trams.length 1], .cells [FIND]]) ⟨Nat.zero_le _, hA', by simp⟩ (by simp [netCells, ints, FIND_eq]) ?_ fun a ha => ?_
       ·try simp only [TrimX, QE, Nat.reduceLT, reduceIte, Nat.reduceEqDiff, Nat.reduceAdd, Nat.reduceLeDiff, Nat.reduceMul, Nat.reduceBEq, QXGTrPJ, S_refK (show 9 < 12 by omega)]
        try simp
       ·obtain ⟨t, acc, ex⟩ := a
        obtain ⟨ht, hacc, hal⟩ := ha
        simp only at ht hacc hal
        (repeat (first | simp only [↓QA, QB, Nat.reduceLT, reduceIte, Nat.reduceEqDiff, Nat.reduceAdd, Nat.reduceLeDiff, Nat.reduceMul, Nat.reduceBEq, QXGTrPJ, L30_4] | refine rd0 rfl ?_))
        refine iteP_intro (fun hd => ?_) fun hd => ?_
        ·have ht1 : t < v.trams.length := by simpa using hd
         have hw := wrapN ht1 (by omega)
         have htp : t < P.length := by omega
         rw [nums_filter ht1] at hacc
         have hmv : movP v P (t : Int) = !decide (P[t] = v.trams[t].path) := by rw [movP, Int.toNat_natCast, path_at htp, own_at ht1]
         have hpl := hPin _ (List.getElem_mem htp)
         have htl := (tr_ok hv ht1).len
         obtain ⟨z, hz⟩ : ∃ z, v.trams[t] = z := ⟨_, rfl⟩
         obtain ⟨p, hpe⟩ : ∃ p, P[t] = p := ⟨_, rfl⟩
         rw [hz, hpe] at hmv
         rw [hz] at htl
         rw [hpe] at hpl
         have iA : (0 : Int) ≤ (t : Int) ∧ (t : Int) < (v.trams.length : Int) ∧ 1 = 1 := ⟨by omega, by omega, rfl⟩
         have heq := equal_ok p z.path (by omega) (by omega)
         simp only [ints_def] at heq
         have hap := fun (b0 b1 b2 b3 b4 b5 b6 b7 : ABlk) (τ : St) => append_intT (σ := b0 :: b1 :: b2 :: b3 :: b4 :: b5 :: b6 :: b7 :: .tok 1 acc.length ex :: τ) (l := acc) (a := (t : Int)) (ex := ex) (t := 8) (by omega) rfl
         (repeat (first | simp only [↓QA, QB, Nat.reduceLT, reduceIte, Nat.reduceEqDiff, Nat.reduceAdd, Nat.reduceLeDiff, Nat.reduceMul, Nat.reduceBEq, QXGTrPJ, iA, htp, hpe, ht1, hz, ints_def] | refine rd0 rfl ?_))
         ((first | refine callK_d (heq) rfl dd ?_ | refine callD_d (heq) rfl dd ?_); (repeat (first | simp only [↓QA, QB, Nat.reduceLT, reduceIte, Nat.reduceEqDiff, Nat.reduceAdd, Nat.reduceLeDiff, Nat.reduceMul, Nat.reduceBEq, QXGTrPJ, iA, htp, hpe, ht1, hz, ints_def] | refine rd0 rfl ?_)))
         cases q : decide (p = z.path)
         ·rw [hmv, q] at hacc
          simp only [Bool.not_false, iteP_true]
          (repeat (first | simp only [↓QA, QB, Nat.reduceLT, reduceIte, Nat.reduceEqDiff, Nat.reduceAdd, Nat.reduceLeDiff, Nat.reduceMul, Nat.reduceBEq, QXGTrPJ, hap, hw] | refine rd0 rfl ?_))
          refine ⟨(t + 1, acc ++ [(t : Int)], true), ⟨by simp only; omega, by simpa using hacc, by simp; omega⟩, by simp only; omega, ?_⟩
          try simp only [TrimX, QE, Nat.reduceLT, reduceIte, Nat.reduceEqDiff, Nat.reduceAdd, Nat.reduceLeDiff, Nat.reduceMul, Nat.reduceBEq, QXGTrPJ, hw, S_mapI, S_refK (show 9 < 12 by omega), List.map_append, List.map_cons, List.map_nil]
          try simp [okBlk]
         ·rw [hmv, q] at hacc
          simp only [Bool.not_true, iteP_false]
          (repeat (first | simp only [↓QA, QB, Nat.reduceLT, reduceIte, Nat.reduceEqDiff, Nat.reduceAdd, Nat.reduceLeDiff, Nat.reduceMul, Nat.reduceBEq, QXGTrPJ, hw] | refine rd0 rfl ?_))
          refine ⟨(t + 1, acc, ex), ⟨by simp only; omega, by simpa using hacc, by simp only; omega⟩, by simp only; omega, ?_⟩
          try simp only [TrimX, QE, Nat.reduceLT, reduceIte, Nat.reduceEqDiff, Nat.reduceAdd, Nat.reduceLeDiff, Nat.reduceMul, Nat.reduceBEq, QXGTrPJ, hw, S_mapI, S_refK (show 9 < 12 by omega)]
          try simp [okBlk]
        ·have ht1 : t = v.trams.length := by
          have : ¬ t < v.trams.length := by simpa using hd
          omega
         rw [nums_end ht1, List.append_nil] at hacc
         subst hacc
         have hsr := fun (b0 b1 b2 b3 b4 b5 b6 b7 b8 : ABlk) (τ : St) => S_refL (σ := b0 :: b1 :: b2 :: b3 :: b4 :: b5 :: b6 :: b7 :: b8 :: .cells (P.map ints) :: τ) (m := 0) (id := 9) (n := v.trams.length) (l := P) (by omega) hPl.symm rfl
         (repeat (first | simp only [↓QA, QB, Nat.reduceLT, reduceIte, Nat.reduceEqDiff, Nat.reduceAdd, Nat.reduceLeDiff, Nat.reduceMul, Nat.reduceBEq, QXGTrPJ, encMove, intss_def, ints_def] | refine rd0 rfl ?_))
         try try simp only [QS, QC, Nat.reduceLT, reduceIte, Nat.reduceEqDiff, Nat.reduceAdd, Nat.reduceLeDiff, Nat.reduceMul, Nat.reduceBEq, QXGTrPJ, hsr]
 ·have h0' : (netErr v == 0) = false := by simpa using h0
  have her := enter_no [.cells (netCells v)] v [] (.inl rfl) hf (by rw [entE_nil]; exact h0)
  rw [entE_nil] at her
  have hm : moveOf v = ([], [], netErr v) := by rw [moveOf, if_neg h0]
  rw [hm]
  simp only [List.map_nil] at her
  simp only [netCells_eq] at her
  refine callK_do her ?_
  (repeat (first | simp only [↓QA, QB, Nat.reduceLT, reduceIte, Nat.reduceEqDiff, Nat.reduceAdd, Nat.reduceLeDiff, Nat.reduceMul, Nat.reduceBEq, QXGTrPJ, h0', encMove, intss_def, List.map_nil] | refine rd0 rfl ?_))
  try rfl
end Go.Am.Room
set_option maxRecDepth 8000
namespace Go.Am.Room
def QXGTrPK := And.intro @encNet_eq (And.intro @netCells_eq (And.intro @encRail_eq (And.intro @encTram_eq (And.intro @encSeen_eq (And.intro @encSpan_eq (And.intro @S_mapRail (And.intro @S_mapTram (And.intro @S_mapSeen (And.intro @T_sapp (And.intro @T_sapp0 (And.intro @Nat.not_lt_zero (And.intro @List.length_append.{0} (And.intro @Nat.zero_add (And.intro @Nat.mul_one (And.intro @Int.toNat_natCast (And.intro @arrA_len (And.intro @arrA_take (And.intro @arrA_drop (And.intro @S_arrA (And.intro @arrA_cell (And.intro @Nat.add_lt_add_iff_left (And.intro @Nat.lt_add_right_iff_pos (And.intro @C_yield (@K_yield))))))))))))))))))))))))
def shutU (x : B64) : St := [.cells [.int .i64 (x.1.1 : Nat)], .cells [.int .i64 (x.1.2 : Nat)]]
theorem shut_body {v : Net} (hv : Vd v) (c : List Int) (x : B64) (B : List K5) (lp : ABlk) (τ : St) (e : Env) (G : Option AJump → St → Prop)
  (e1 : Env.get e 1 = .ptr 0 0) (e6 : Env.get e 6 = .ptr 5 0) (e7 : Env.get e 7 = .ptr 6 0) (e8 : Env.get e 8 = .ptr (τ.length + 9) 0) (R : B64 × Bool) (hRr : bitsF openC v.rails.length c x = R) :
  wp T F32_1 e (entS [.cells (netCells v)] v B ++ (shutU x ++ (.cells [.ptr 4 0] :: lp :: (τ ++ [.cells (arrA 5 (rl c))])))) (fun j e'' σ'' => (R.2 = true ∧ j = none ∧ ∃ τ', σ'' = entS [.cells (netCells v)] v B ++ (shutU R.1 ++ (.cells [.ptr 4 0] :: lp :: (τ ++ τ')))) ∨ G j σ'') := by
 have hnt := hv.nra
 have hR1 : R.1.1 = bitsTo (openC c) v.rails.length x.1 := by rw [← hRr, bitsF_val openC (by omega)]
 have hR2 : R.2 = true := by rw [← hRr]; exact bitsF_go _ _ _ _
 have hlt := fun k hk => bitsTo_lt (openC c) (n := 6) x.2 k hk
 have hta : ∀ (b0 b1 b2 b3 b4 b5 b6 b7 b8 : ABlk), cellsAt (b0 :: b1 :: b2 :: b3 :: b4 :: b5 :: b6 :: b7 :: b8 :: (τ ++ [.cells (arrA 5 (rl c))])) (τ.length + 9) = some (arrA 5 (rl c)) := fun b0 b1 b2 b3 b4 b5 b6 b7 b8 => by
  simp only [M_atS]
  rw [M_base0]; rfl
 simp only [shutU, hR1, entS, netCells_eq]
 (repeat (first | simp only [↓QA, QB, Nat.reduceLT, reduceIte, Nat.reduceEqDiff, Nat.reduceAdd, Nat.reduceLeDiff, Nat.reduceMul, Nat.reduceBEq, QXGTrPK, F32_1, e1] | refine rd0 rfl ?_))
 refine loopE (S := Nat) 0 (fun k => k ≤ v.rails.length) (fun k => v.rails.length - k)
  (fun k => [(1, .ptr 0 0), (6, .ptr 5 0), (7, .ptr 6 0), (8, .ptr (τ.length + 9) 0), (29, .int .i64 v.rails.length), (30, .int .i64 k)])
  (fun k => entS [.cells (netCells v)] v B ++ (.cells [.int .i64 ((bitsTo (openC c) k x.1).1 : Nat)] :: .cells [.int .i64 ((bitsTo (openC c) k x.1).2 : Nat)] :: .cells [.ptr 4 0] :: lp :: (τ ++ [.cells (arrA 5 (rl c))]))) (Nat.zero_le _) (by simp [entS, netCells, bitsTo]) ?_ fun k hk => ?_
 ·try simp only [TrimX, QE, Nat.reduceLT, reduceIte, Nat.reduceEqDiff, Nat.reduceAdd, Nat.reduceLeDiff, Nat.reduceMul, Nat.reduceBEq, QXGTrPK, e1, e6, e7, e8]
  try simp
 ·(repeat (first | simp only [↓QA, QB, Nat.reduceLT, reduceIte, Nat.reduceEqDiff, Nat.reduceAdd, Nat.reduceLeDiff, Nat.reduceMul, Nat.reduceBEq, QXGTrPK, L32_2, entS] | refine rd0 rfl ?_))
  refine iteP_intro (fun hd => ?_) fun hd => ?_
  ·have hk1 : k < v.rails.length := by simpa using hd
   have hw := wrapN hk1 (by omega)
   have hst : bitsTo (openC c) (k + 1) x.1 = if openC c k = true then (andN (bitsTo (openC c) k x.1).1 (2 ^ k), (bitsTo (openC c) k x.1).2) else ((bitsTo (openC c) k x.1).1, (bitsTo (openC c) k x.1).2 ||| 2 ^ k) := rfl
   obtain ⟨l1, l2⟩ := hlt k (by omega)
   obtain ⟨⟨Y1, Y2⟩, hY⟩ : ∃ Y, bitsTo (openC c) k x.1 = Y := ⟨_, rfl⟩
   rw [hY] at hst l1 l2
   simp only at hst l1 l2
   have hp2 := pow_small (show k ≤ 60 by omega)
   have hsh := V_shl1 k (by omega)
   have hor := V_or Y2 (2 ^ k) (by omega) (by omega)
   have han := V_andNot Y1 (2 ^ k) (by omega) (by omega)
   have i3 : (0 : Int) ≤ (k : Int) ∧ (k : Int) < ((5 : Nat) : Int) := ⟨by omega, by omega⟩
   have hg := arrA_get 5 (rl c) (i := k) (by omega)
   have hop : openC c k = !(rl c k == 0) := rfl
   rw [hY]
   cases hf : (rl c k == 0)
   ·rw [hop, hf] at hst
    simp only [Bool.not_false, if_true] at hst
    (repeat (first | simp only [↓QA, QB, Nat.reduceLT, reduceIte, Nat.reduceEqDiff, Nat.reduceAdd, Nat.reduceLeDiff, Nat.reduceMul, Nat.reduceBEq, QXGTrPK, hta, i3, hg, hsh, han, hf] | refine rd0 rfl ?_))
    refine ⟨k + 1, by omega, by omega, ?_⟩
    rw [hst]
    try simp only [TrimX, QE, Nat.reduceLT, reduceIte, Nat.reduceEqDiff, Nat.reduceAdd, Nat.reduceLeDiff, Nat.reduceMul, Nat.reduceBEq, QXGTrPK, hw]
    try simp [okBlk, okVs, okV]
    try omega
   ·rw [hop, hf] at hst
    simp only [Bool.not_true, Bool.false_eq_true, if_false] at hst
    (repeat (first | simp only [↓QA, QB, Nat.reduceLT, reduceIte, Nat.reduceEqDiff, Nat.reduceAdd, Nat.reduceLeDiff, Nat.reduceMul, Nat.reduceBEq, QXGTrPK, hta, i3, hg, hsh, hor, hf] | refine rd0 rfl ?_))
    refine ⟨k + 1, by omega, by omega, ?_⟩
    rw [hst]
    try simp only [TrimX, QE, Nat.reduceLT, reduceIte, Nat.reduceEqDiff, Nat.reduceAdd, Nat.reduceLeDiff, Nat.reduceMul, Nat.reduceBEq, QXGTrPK, hw]
    try simp [okBlk, okVs, okV]
    try omega
  ·have hk1 : k = v.rails.length := by
    have : ¬ k < v.rails.length := by simpa using hd
    omega
   rw [hk1]
   (repeat (first | simp only [↓QA, QB, Nat.reduceLT, reduceIte, Nat.reduceEqDiff, Nat.reduceAdd, Nat.reduceLeDiff, Nat.reduceMul, Nat.reduceBEq, QXGTrPK] | refine rd0 rfl ?_))
   exact .inl ⟨hR2, [.cells (arrA 5 (rl c))], rfl⟩
end Go.Am.Room
set_option maxRecDepth 8000
namespace Go.Am.Room
def QXGTrPL := And.intro @encNet_eq (And.intro @netCells_eq (And.intro @encRail_eq (And.intro @encTram_eq (And.intro @encSeen_eq (And.intro @encSpan_eq (And.intro @S_mapRail (And.intro @S_mapTram (And.intro @S_mapSeen (And.intro @T_sapp (And.intro @T_sapp0 (And.intro @Nat.not_lt_zero (And.intro @List.length_append.{0} (And.intro @Nat.zero_add (And.intro @Nat.mul_one (And.intro @Int.toNat_natCast (And.intro @arrA_len (And.intro @arrA_take (And.intro @arrA_drop (And.intro @S_arrA (And.intro @arrA_cell (And.intro @Nat.add_lt_add_iff_left (And.intro @Nat.lt_add_right_iff_pos (And.intro @C_yield (@K_yield))))))))))))))))))))))))
theorem pshut_ok (v : Net) (hf : Fits v) : Pure T 32 [encNet v] (encLLE (shutOf v)) := by
 refine pure_fn (af := a32) rfl (by simp [a32]) dd ?_
 (repeat (first | simp only [↓QA, QB, Nat.reduceLT, reduceIte, Nat.reduceEqDiff, Nat.reduceAdd, Nat.reduceLeDiff, Nat.reduceMul, Nat.reduceBEq, QXGTrPL, a32] | refine rd0 rfl ?_))
 by_cases h0 : netErr v = 0
 ·obtain ⟨hv, hne⟩ := netErr_ok h0
  have hnt := hv.nra
  have h6 : v.rails.length ≤ 6 := by omega
  obtain ⟨hl1, hl2⟩ := shut_law hv h6
  have hit := bits_iter openC v.rails.length (TL v []) (bits0 _ h6)
  obtain ⟨⟨⟨P, Q⟩, hPQ⟩, hY⟩ : ∃ Y, bitsL openC v.rails.length (TL v []) (bits0 _ h6) = Y := ⟨_, rfl⟩
  rw [hY] at hl1 hl2 hit
  simp only at hl1 hl2 hPQ
  have hm : shutOf v = (lst v.rails.length P, lst v.rails.length Q, 0) := by rw [shutOf, if_pos h0, hl1, hl2]
  have hlo1 := list_ok P v.rails.length (by omega) (by omega)
  have hlo2 := list_ok Q v.rails.length (by omega) (by omega)
  have hsh := V_shl1 v.rails.length (by omega)
  have hp2 := pow_small (show v.rails.length ≤ 60 by omega)
  have hw : IntKind.i64.wrap (((2 ^ v.rails.length : Nat) : Int) - 1) = ((2 ^ v.rails.length - 1 : Nat) : Int) := by
   have := Nat.two_pow_pos v.rails.length
   rw [wrap64 ⟨by omega, by omega⟩]; omega
  have hok : ∀ (x : B64) (y : ABlk), y ∈ shutU x → ∀ k, 5 ≤ k → okBlk k y := by
   intro x y hy k hk
   simp only [shutU, List.mem_cons, List.not_mem_nil, or_false] at hy
   rcases hy with rfl | rfl <;> simp [okBlk, okVs, okV]
  have hR := net_at [.cells (netCells v)] v
  have hrng := truths_range hR hv but0 shutU shutU 2 (fun _ => rfl) (fun _ => rfl) hok hok .ret (f := bitsF openC v.rails.length)
  have her := fun σ => enter_yes σ v [] (.inl rfl) hf (by rw [entE_nil]; exact h0)
  simp only [List.map_nil] at her
  rw [hm]
  simp only [entS] at hrng her
  simp only [netCells_eq] at hrng her
  refine callK_do (her _) ?_
  (repeat (first | simp only [↓QA, QB, Nat.reduceLT, reduceIte, Nat.reduceEqDiff, Nat.reduceAdd, Nat.reduceLeDiff, Nat.reduceMul, Nat.reduceBEq, QXGTrPL, show ((0 : Int) == 0) = true from rfl, hsh, hw] | refine rd0 rfl ?_))
  refine callK_in rfl (by simp [a80]) ?_
  (repeat (first | simp only [↓QA, QB, Nat.reduceLT, reduceIte, Nat.reduceEqDiff, Nat.reduceAdd, Nat.reduceLeDiff, Nat.reduceMul, Nat.reduceBEq, QXGTrPL, a80] | refine rd0 rfl ?_))
  refine hrng _ 24 [25, 26] _ _ ?_ ?_ (bits0 _ h6) (memo0 v) _ ?_ ?_
  ·try simp only [TrimX, QE, Nat.reduceLT, reduceIte, Nat.reduceEqDiff, Nat.reduceAdd, Nat.reduceLeDiff, Nat.reduceMul, Nat.reduceBEq, QXGTrPL]
  ·refine yields_ofX1 (S := fun _ => entS [.cells (netCells v)] v) (fun _ => hR) shutU shutU 2 (fun _ => rfl) (fun _ => rfl) .ret _ _ (tArgs v) (fun _ _ _ => rfl) _ _ ?_
   intro c _ fl tk x B τ
   simp only [bindPs, tArgs]
   obtain ⟨R, hRr⟩ : ∃ R, bitsF openC v.rails.length c x = R := ⟨_, rfl⟩
   rw [hRr]
   have lb := fun lp e G => shut_body hv c x B lp τ e G
   simp only [shutU, entS, netCells_eq] at lb ⊢
   (repeat (first | simp only [↓QA, QB, Nat.reduceLT, reduceIte, Nat.reduceEqDiff, Nat.reduceAdd, Nat.reduceLeDiff, Nat.reduceMul, Nat.reduceBEq, QXGTrPL] | refine rd0 rfl ?_))
   refine ⟨[.cells (arrA 5 (rl c))], by simp, ?_⟩
   refine lb _ _ _ ?_ ?_ ?_ ?_ R hRr
   all_goals try simp only [TrimX, QE, Nat.reduceLT, reduceIte, Nat.reduceEqDiff, Nat.reduceAdd, Nat.reduceLeDiff, Nat.reduceMul, Nat.reduceBEq, QXGTrPL]
  ·intro τ h2
   rw [hit]
   simp only [shutU]
   (repeat (first | simp only [↓QA, QB, Nat.reduceLT, reduceIte, Nat.reduceEqDiff, Nat.reduceAdd, Nat.reduceLeDiff, Nat.reduceMul, Nat.reduceBEq, QXGTrPL] | refine rd0 rfl ?_))
   ((first | refine callK_d (hlo1) rfl dd ?_ | refine callD_d (hlo1) rfl dd ?_); (repeat (first | simp only [↓QA, QB, Nat.reduceLT, reduceIte, Nat.reduceEqDiff, Nat.reduceAdd, Nat.reduceLeDiff, Nat.reduceMul, Nat.reduceBEq, QXGTrPL] | refine rd0 rfl ?_)))
   ((first | refine callK_d (hlo2) rfl dd ?_ | refine callD_d (hlo2) rfl dd ?_); (repeat (first | simp only [↓QA, QB, Nat.reduceLT, reduceIte, Nat.reduceEqDiff, Nat.reduceAdd, Nat.reduceLeDiff, Nat.reduceMul, Nat.reduceBEq, QXGTrPL, encLLE] | refine rd0 rfl ?_)))
  ·intro τ h2
   rw [hit] at h2
   cases h2
 ·have her := fun σ => enter_no σ v [] (.inl rfl) hf (by rw [entE_nil]; exact h0)
  simp only [List.map_nil, entE_nil] at her
  have h0' : (netErr v == 0) = false := by simpa using h0
  have hm : shutOf v = ([], [], netErr v) := by rw [shutOf, if_neg h0]
  rw [hm]
  refine callK_do (her _) ?_
  (repeat (first | simp only [↓QA, QB, Nat.reduceLT, reduceIte, Nat.reduceEqDiff, Nat.reduceAdd, Nat.reduceLeDiff, Nat.reduceMul, Nat.reduceBEq, QXGTrPL, h0', encLLE] | refine rd0 rfl ?_))
  try rfl
end Go.Am.Room
set_option maxRecDepth 8000
namespace Go.Am.Room
def QXGTrPM := And.intro @encNet_eq (And.intro @netCells_eq (And.intro @encRail_eq (And.intro @encTram_eq (And.intro @encSeen_eq (And.intro @encSpan_eq (And.intro @S_mapRail (And.intro @S_mapTram (And.intro @S_mapSeen (And.intro @T_sapp (And.intro @T_sapp0 (And.intro @Nat.not_lt_zero (And.intro @List.length_append.{0} (And.intro @Nat.zero_add (And.intro @Nat.mul_one (@Int.toNat_natCast)))))))))))))))
theorem phurts_ok (v : Net) (hf : Fits v) : Pure T 34 [encNet v] (encIIE (hurtsOf v)) := by
 refine pure_fn (af := a34) rfl (by simp [a34]) dd ?_
 (repeat (first | simp only [↓QA, QB, Nat.reduceLT, reduceIte, Nat.reduceEqDiff, Nat.reduceAdd, Nat.reduceLeDiff, Nat.reduceMul, Nat.reduceBEq, QXGTrPM, a34] | refine rd0 rfl ?_))
 ((first | refine callK_d (check_ok v hf) rfl dd ?_ | refine callD_d (check_ok v hf) rfl dd ?_); (repeat (first | simp only [↓QA, QB, Nat.reduceLT, reduceIte, Nat.reduceEqDiff, Nat.reduceAdd, Nat.reduceLeDiff, Nat.reduceMul, Nat.reduceBEq, QXGTrPM, enc3] | refine rd0 rfl ?_)))
 cases h0 : ((check v).2.2 == 0)
 ·have h0' : (check v).2.2 ≠ 0 := by simpa using h0
  have hr : hurtsOf v = (0, 0, (check v).2.2) := by rw [hurtsOf, if_neg h0']
  rw [hr]
  (repeat (first | simp only [↓QA, QB, Nat.reduceLT, reduceIte, Nat.reduceEqDiff, Nat.reduceAdd, Nat.reduceLeDiff, Nat.reduceMul, Nat.reduceBEq, QXGTrPM, h0, encIIE] | refine rd0 rfl ?_))
  try rfl
 ·have h0' : (check v).2.2 = 0 := by simpa using h0
  have hv := vd_of_check h0'
  have hnr := hv.nra
  have hnt := hv.ntr
  obtain ⟨R, hR⟩ : ∃ R, hurtsIn v = R := ⟨_, rfl⟩
  have hr : hurtsOf v = if R.1 < 0 then (0, 0, 9) else (R.1, R.2, 0) := by rw [hurtsOf, if_pos h0', hR]
  have hR' : hurtGo v (numbers ((0 : Nat) : Int) ((v.rails.length : Int) - ((0 : Nat) : Int)).toNat) (-1, 0) = R := by rw [← hR, hurtsIn]; simp
  rw [hr]
  (repeat (first | simp only [↓QA, QB, Nat.reduceLT, reduceIte, Nat.reduceEqDiff, Nat.reduceAdd, Nat.reduceLeDiff, Nat.reduceMul, Nat.reduceBEq, QXGTrPM, h0] | refine rd0 rfl ?_))
  refine loopE (S := Nat × Int × Int) (0, -1, 0) (fun a => a.1 ≤ v.rails.length ∧ hurtGo v (numbers (a.1 : Int) ((v.rails.length : Int) - a.1).toNat) a.2 = R) (fun a => v.rails.length - a.1)
   (fun a => [(1, .ptr 0 0), (2, .int .i64 a.2.1), (3, .int .i64 a.2.2), (4, .int .i64 (check v).2.2), (20, .lit (v.rails.map encRail) false none), (21, .int .i64 v.rails.length), (22, .int .i64 a.1)]) (fun _ => [.cells (netCells v)]) ⟨Nat.zero_le _, hR'⟩ (by simp [netCells, ints]) ?_ fun a ha => ?_
  ·try simp only [TrimX, QE, Nat.reduceLT, reduceIte, Nat.reduceEqDiff, Nat.reduceAdd, Nat.reduceLeDiff, Nat.reduceMul, Nat.reduceBEq, QXGTrPM]
   try simp
  ·obtain ⟨k, b, c⟩ := a
   obtain ⟨hk, hq⟩ := ha
   simp only at hk hq
   (repeat (first | simp only [↓QA, QB, Nat.reduceLT, reduceIte, Nat.reduceEqDiff, Nat.reduceAdd, Nat.reduceLeDiff, Nat.reduceMul, Nat.reduceBEq, QXGTrPM, L34_0] | refine rd0 rfl ?_))
   refine iteP_intro (fun h2 => ?_) fun h2 => ?_
   ·have hk1 : k < v.rails.length := by simpa using h2
    have hw := wrapN hk1 (by omega)
    rw [hurtGo_drop hk1] at hq
    obtain ⟨z, hz⟩ : ∃ z, v.rails[k] = z := ⟨_, rfl⟩
    rw [hz] at hq
    obtain ⟨C, hC⟩ : ∃ C, cutOff v k = C := ⟨_, rfl⟩
    rw [hC] at hq
    (repeat (first | simp only [↓QA, QB, Nat.reduceLT, reduceIte, Nat.reduceEqDiff, Nat.reduceAdd, Nat.reduceLeDiff, Nat.reduceMul, Nat.reduceBEq, QXGTrPM, hk1, hz] | refine rd0 rfl ?_))
    cases q1 : (z.shut == 1)
    ·have q1' : z.shut ≠ 1 := by simpa using q1
     rw [if_neg q1'] at hq
     (repeat (first | simp only [↓QA, QB, Nat.reduceLT, reduceIte, Nat.reduceEqDiff, Nat.reduceAdd, Nat.reduceLeDiff, Nat.reduceMul, Nat.reduceBEq, QXGTrPM, q1] | refine rd0 rfl ?_))
     refine loopE (S := Nat) 0 (fun j => j ≤ v.trams.length) (fun j => v.trams.length - j)
      (fun j => [(1, .ptr 0 0), (2, .int .i64 b), (3, .int .i64 c), (4, .int .i64 (check v).2.2), (5, .int .i64 k), (7, .int .i64 (cutTo v k j : Nat)), (20, .lit (v.rails.map encRail) false none), (21, .int .i64 v.rails.length), (22, .int .i64 k), (31, .lit (v.trams.map encTram) false none), (32, .int .i64 v.trams.length), (33, .int .i64 j)]) (fun _ => [.cells (netCells v), .cells (encRail z).cells]) (Nat.zero_le _) (by simp [netCells, ints, cutTo, encRail, AV.cells]) ?_ fun j hj => ?_
     ·try simp only [TrimX, QE, Nat.reduceLT, reduceIte, Nat.reduceEqDiff, Nat.reduceAdd, Nat.reduceLeDiff, Nat.reduceMul, Nat.reduceBEq, QXGTrPM, cutTo]
      try simp
     ·(repeat (first | simp only [↓QA, QB, Nat.reduceLT, reduceIte, Nat.reduceEqDiff, Nat.reduceAdd, Nat.reduceLeDiff, Nat.reduceMul, Nat.reduceBEq, QXGTrPM, L34_2] | refine rd0 rfl ?_))
      refine iteP_intro (fun h3 => ?_) fun h3 => ?_
      ·have hj1 : j < v.trams.length := by simpa using h3
       have hwj := wrapN hj1 (by omega)
       have hcl := cutTo_le v k j
       have hs := cutTo_succ v k j
       have hwc := wrapN (show cutTo v k j < v.trams.length by omega) (by omega)
       have hwt := (tr_ok hv hj1).frm
       have hst := hv.st
       rw [from_at hj1] at hs
       obtain ⟨y, hy⟩ : ∃ y, v.trams[j] = y := ⟨_, rfl⟩
       rw [hy] at hs hwt
       obtain ⟨f, hf1, hf2⟩ : ∃ f : Nat, y.frm = f ∧ f < 5 := ⟨y.frm.toNat, by omega, by omega⟩
       rw [hf1] at hs
       have hpw := pways_ok v hv f hf2 k
       rw [show butL (k : Int) = [(k : Int)] by rw [butL, if_neg (by omega)]] at hpw
       obtain ⟨W, hW⟩ : ∃ W, waysOf v f [(k : Int)] = W := ⟨_, rfl⟩
       rw [hW] at hpw hs
       have hwe : (((W.length : Nat) : Int) == 0) = W.isEmpty := by cases W <;> simp <;> omega
       (repeat (first | simp only [↓QA, QB, Nat.reduceLT, reduceIte, Nat.reduceEqDiff, Nat.reduceAdd, Nat.reduceLeDiff, Nat.reduceMul, Nat.reduceBEq, QXGTrPM, hj1, hy, hf1] | refine rd0 rfl ?_))
       ((first | refine callK_d (hpw) rfl dd ?_ | refine callD_d (hpw) rfl dd ?_); (repeat (first | simp only [↓QA, QB, Nat.reduceLT, reduceIte, Nat.reduceEqDiff, Nat.reduceAdd, Nat.reduceLeDiff, Nat.reduceMul, Nat.reduceBEq, QXGTrPM, intss_def, hwe] | refine rd0 rfl ?_)))
       cases hse : W.isEmpty
       ·rw [hse] at hs
        simp only [Bool.false_eq_true, if_false, Nat.add_zero] at hs
        (repeat (first | simp only [↓QA, QB, Nat.reduceLT, reduceIte, Nat.reduceEqDiff, Nat.reduceAdd, Nat.reduceLeDiff, Nat.reduceMul, Nat.reduceBEq, QXGTrPM, hwj] | refine rd0 rfl ?_))
        refine ⟨j + 1, by omega, by omega, ?_⟩
        rw [hs]
        try simp only [TrimX, QE, Nat.reduceLT, reduceIte, Nat.reduceEqDiff, Nat.reduceAdd, Nat.reduceLeDiff, Nat.reduceMul, Nat.reduceBEq, QXGTrPM, hwj]
        try simp [okBlk]
       ·rw [hse] at hs
        simp only [if_true] at hs
        (repeat (first | simp only [↓QA, QB, Nat.reduceLT, reduceIte, Nat.reduceEqDiff, Nat.reduceAdd, Nat.reduceLeDiff, Nat.reduceMul, Nat.reduceBEq, QXGTrPM, hwj, hwc] | refine rd0 rfl ?_))
        refine ⟨j + 1, by omega, by omega, ?_⟩
        rw [hs]
        try simp only [TrimX, QE, Nat.reduceLT, reduceIte, Nat.reduceEqDiff, Nat.reduceAdd, Nat.reduceLeDiff, Nat.reduceMul, Nat.reduceBEq, QXGTrPM, hwj, hwc]
        try simp [okBlk]
      ·have hj1 : j = v.trams.length := by
        have : ¬ j < v.trams.length := by simpa using h3
        omega
       rw [hj1]
       have hCC : ((cutTo v k v.trams.length : Nat) : Int) = C := by rw [← hC]; rfl
       rw [hCC]
       (repeat (first | simp only [↓QA, QB, Nat.reduceLT, reduceIte, Nat.reduceEqDiff, Nat.reduceAdd, Nat.reduceLeDiff, Nat.reduceMul, Nat.reduceBEq, QXGTrPM] | refine rd0 rfl ?_))
       cases q2 : decide (b < 0)
       ·have q2' : ¬ b < 0 := by simpa using q2
        cases q3 : decide (c < C)
        ·have q3' : ¬ c < C := by simpa using q3
         rw [if_neg (by simp only; omega)] at hq
         (repeat (first | simp only [↓QA, QB, Nat.reduceLT, reduceIte, Nat.reduceEqDiff, Nat.reduceAdd, Nat.reduceLeDiff, Nat.reduceMul, Nat.reduceBEq, QXGTrPM, q2, q3, hw] | refine rd0 rfl ?_))
         refine ⟨(k + 1, b, c), ⟨by simp only; omega, hq⟩, by simp only; omega, ?_⟩
         try simp only [TrimX, QE, Nat.reduceLT, reduceIte, Nat.reduceEqDiff, Nat.reduceAdd, Nat.reduceLeDiff, Nat.reduceMul, Nat.reduceBEq, QXGTrPM, hw]
         try simp [okBlk]
        ·have q3' : c < C := by simpa using q3
         rw [if_pos (.inr q3')] at hq
         (repeat (first | simp only [↓QA, QB, Nat.reduceLT, reduceIte, Nat.reduceEqDiff, Nat.reduceAdd, Nat.reduceLeDiff, Nat.reduceMul, Nat.reduceBEq, QXGTrPM, q2, q3, hw] | refine rd0 rfl ?_))
         refine ⟨(k + 1, (k : Int), C), ⟨by simp only; omega, hq⟩, by simp only; omega, ?_⟩
         try simp only [TrimX, QE, Nat.reduceLT, reduceIte, Nat.reduceEqDiff, Nat.reduceAdd, Nat.reduceLeDiff, Nat.reduceMul, Nat.reduceBEq, QXGTrPM, hw]
         try simp [okBlk]
       ·have q2' : b < 0 := by simpa using q2
        rw [if_pos (.inl q2')] at hq
        (repeat (first | simp only [↓QA, QB, Nat.reduceLT, reduceIte, Nat.reduceEqDiff, Nat.reduceAdd, Nat.reduceLeDiff, Nat.reduceMul, Nat.reduceBEq, QXGTrPM, q2, hw] | refine rd0 rfl ?_))
        refine ⟨(k + 1, (k : Int), C), ⟨by simp only; omega, hq⟩, by simp only; omega, ?_⟩
        try simp only [TrimX, QE, Nat.reduceLT, reduceIte, Nat.reduceEqDiff, Nat.reduceAdd, Nat.reduceLeDiff, Nat.reduceMul, Nat.reduceBEq, QXGTrPM, hw]
        try simp [okBlk]
    ·have q1' : z.shut = 1 := by simpa using q1
     rw [if_pos q1'] at hq
     (repeat (first | simp only [↓QA, QB, Nat.reduceLT, reduceIte, Nat.reduceEqDiff, Nat.reduceAdd, Nat.reduceLeDiff, Nat.reduceMul, Nat.reduceBEq, QXGTrPM, q1, hw] | refine rd0 rfl ?_))
     refine ⟨(k + 1, b, c), ⟨by simp only; omega, hq⟩, by simp only; omega, ?_⟩
     try simp only [TrimX, QE, Nat.reduceLT, reduceIte, Nat.reduceEqDiff, Nat.reduceAdd, Nat.reduceLeDiff, Nat.reduceMul, Nat.reduceBEq, QXGTrPM, hw]
     try simp [okBlk]
   ·have hk1 : k = v.rails.length := by
     have : ¬ k < v.rails.length := by simpa using h2
     omega
    rw [numbers_none (by omega), hurtGo] at hq
    subst hq
    cases q : decide (b < 0)
    ·have q' : ¬ b < 0 := by simpa using q
     rw [if_neg (by simpa using q')]
     (repeat (first | simp only [↓QA, QB, Nat.reduceLT, reduceIte, Nat.reduceEqDiff, Nat.reduceAdd, Nat.reduceLeDiff, Nat.reduceMul, Nat.reduceBEq, QXGTrPM, q, encIIE] | refine rd0 rfl ?_))
     try rfl
    ·have q' : b < 0 := by simpa using q
     rw [if_pos (by simpa using q')]
     (repeat (first | simp only [↓QA, QB, Nat.reduceLT, reduceIte, Nat.reduceEqDiff, Nat.reduceAdd, Nat.reduceLeDiff, Nat.reduceMul, Nat.reduceBEq, QXGTrPM, q, encIIE] | refine rd0 rfl ?_))
     try rfl
theorem leaf_ne {v : Net} (hv : Vd v) : leafs v.rails [] ≠ [] := by
 have : v.rails.map (fun r => if r.shut = 1 then 0 else r.mins.lo) ∈ leafs v.rails [] := (leafs_mem _ _ _).2 ⟨_, rfl, by simp, fun i h hr => by
  have h2 := (hv.ra _ (List.getElem_mem hr)).mins
  rw [List.getElem?_eq_getElem (by simpa using hr), Option.getD_some, List.getElem_map]
  obtain ⟨z, hz⟩ : ∃ z, v.rails[i] = z := ⟨_, rfl⟩
  rw [hz] at h2 ⊢
  simp only [chP, List.mem_append]
  by_cases q : z.shut = 1
  ·rw [if_pos q, if_neg (by omega)]
   exact .inl (by simp)
  ·rw [if_neg q, if_neg q]
   exact .inr (mem_waysIn.2 ⟨Int.le_refl _, by omega⟩)⟩
 exact List.ne_nil_of_mem this
theorem seen_all {v : Net} {but : List Int} (h : ∀ k, k < v.seen.length → but.contains (k : Int) = true) (cs : List Int) : seenOk v but cs = true := by
 rw [seenOk, List.all_eq_true]
 intro k hk
 have hk2 : k < v.seen.length := by simpa using hk
 rw [List.getElem?_eq_getElem hk2]
 simp only [h k hk2, Bool.true_or]
theorem some_all {v : Net} (hv : Vd v) {but : List Int} (h : ∀ k, k < v.seen.length → but.contains (k : Int) = true) : someB v but = true := by
 obtain ⟨c, hc⟩ := List.exists_mem_of_ne_nil _ (leaf_ne hv)
 have ht : c ∈ TL v but := List.mem_filter.2 ⟨hc, seen_all h _⟩
 obtain ⟨s, hs, _⟩ := TL_truth hv ht
 rw [someB]
 cases hh : truths v but with
 | nil => rw [hh] at hs; cases hs
 | cons a b => rfl
theorem some_full {v : Net} (hv : Vd v) : ∀ c ∈ choices v.seen.length v.seen.length, someB v c = true := fun c hc => by
 have hl := hv.nse
 exact some_all hv fun k hk => all_contains ⟨v.seen.length, by omega⟩ c hc ⟨k, by omega⟩ hk
theorem firstFrom_snoc (f : List Int → Bool) (n : Nat) : ∀ k m, firstFrom f n (k + 1) m = (firstFrom f n k m).or ((choices n (m + k)).find? f)
 | 0, m => by simp only [firstFrom, Nat.add_zero]; cases (choices n m).find? f <;> rfl
 | k + 1, m => by
  rw [firstFrom, firstFrom_snoc f n k (m + 1)]
  rw [show firstFrom f n (k + 1) m = (match (choices n m).find? f with | some l => some l | none => firstFrom f n k (m + 1)) from rfl]
  rw [show m + 1 + k = m + (k + 1) by omega]
  cases (choices n m).find? f <;> rfl
theorem wrong_first {v : Net} (hv : Vd v) : firstFrom (someB v) v.seen.length (v.seen.length + 1) 0 = some (wrongL v) := by
 have hl := hv.nse
 have h1 := choices_one ⟨v.seen.length, by omega⟩
 simp only at h1
 obtain ⟨w, hw⟩ := List.length_eq_one_iff.1 h1
 have hs := some_full hv w (by rw [hw]; simp)
 rw [firstFrom_snoc, wrongL, Nat.zero_add, hw]
 cases firstFrom (someB v) v.seen.length v.seen.length 0 with
 | some l => rfl
 | none => simp [hs]
end Go.Am.Room
set_option maxRecDepth 8000
namespace Go.Am.Room
def QXGTrPN := And.intro @encNet_eq (And.intro @netCells_eq (And.intro @encRail_eq (And.intro @encTram_eq (And.intro @encSeen_eq (And.intro @encSpan_eq (And.intro @S_mapRail (And.intro @S_mapTram (And.intro @S_mapSeen (And.intro @List.length_append.{0} (And.intro @Nat.mul_one (And.intro @Int.toNat_natCast (And.intro @T_sapp (And.intro @T_sapp0 (@S_mapI))))))))))))))
def lookS (σ : St) (v : Net) (b : Nat) (A : List K5) : St := σ ++ [.cells (netCells v), .map (tEs v A), .cells (db v b (σ.length + 1))]
theorem look_at (σ : St) (v : Net) (b : Nat) : MemAt (lookS σ v b) (db v b (σ.length + 1)) (tEs v) (σ.length + 2) (σ.length + 1) (σ.length + 3) :=
 ⟨fun M => by simp [lookS], fun M => by simp [lookS, M_base, M_atS, M_at0], fun M => by rw [lookS, st_get]; rfl, fun M M' => by rw [lookS, lookS, st_set]; rfl, fun A k => tEs_ok v A k, by omega, by omega⟩
theorem pwrong_ok (v : Net) (hf : Fits v) : Pure T 36 [encNet v] (encLE (wrongOf v)) := by
 refine pure_fn (af := a36) rfl (by simp [a36]) dd ?_
 (repeat (first | simp only [↓QA, QB, Nat.reduceLT, reduceIte, Nat.reduceEqDiff, Nat.reduceAdd, Nat.reduceLeDiff, Nat.reduceMul, Nat.reduceBEq, QXGTrPN, a36] | refine rd0 rfl ?_))
 ((first | refine callK_d (check_ok v hf) rfl dd ?_ | refine callD_d (check_ok v hf) rfl dd ?_); (repeat (first | simp only [↓QA, QB, Nat.reduceLT, reduceIte, Nat.reduceEqDiff, Nat.reduceAdd, Nat.reduceLeDiff, Nat.reduceMul, Nat.reduceBEq, QXGTrPN, enc3] | refine rd0 rfl ?_)))
 cases h0 : ((check v).2.2 == 0)
 ·have h0' : (check v).2.2 ≠ 0 := by simpa using h0
  have hwo : wrongOf v = ([], (check v).2.2) := if_neg h0'
  rw [hwo]
  (repeat (first | simp only [↓QA, QB, Nat.reduceLT, reduceIte, Nat.reduceEqDiff, Nat.reduceAdd, Nat.reduceLeDiff, Nat.reduceMul, Nat.reduceBEq, QXGTrPN, h0, encLE] | refine rd0 rfl ?_))
  try rfl
 ·have h0' : (check v).2.2 = 0 := by simpa using h0
  have hwo : wrongOf v = (wrongL v, 0) := if_pos h0'
  have hv := vd_of_check h0'
  have hnl := hv.nse
  have hwf := wrong_first hv
  rw [← few_eq _ _ (by omega)] at hwf
  rw [hwo]
  obtain ⟨W, hW⟩ : ∃ W, wrongL v = W := ⟨_, rfl⟩
  rw [hW] at hwf ⊢
  obtain ⟨n, hn⟩ : ∃ n, v.seen.length = n := ⟨_, rfl⟩
  rw [hn] at hwf hnl
  have hp : 2 ^ n ≤ 2 ^ 3 := Nat.pow_le_pow_right (by omega) hnl
  have hshl := V_shl1 n (by omega)
  obtain ⟨P, hP⟩ : ∃ P, 2 ^ n = P := ⟨_, rfl⟩
  have hbl : ∀ s, s < P → ButIs s (lst n s) := fun s hs => but_lst (by omega) (by omega)
  rw [hP] at hp hshl hwf
  obtain ⟨q, hq⟩ : ∃ q, someB v = q := ⟨_, rfl⟩
  have hqd : ∀ l, (!(truths v l).isEmpty) = q l := fun l => by rw [← hq]; rfl
  rw [hq] at hwf
  (repeat (first | simp only [↓QA, QB, Nat.reduceLT, reduceIte, Nat.reduceEqDiff, Nat.reduceAdd, Nat.reduceLeDiff, Nat.reduceMul, Nat.reduceBEq, QXGTrPN, h0, hn, hshl] | refine rd0 rfl ?_))
  refine loopE (S := Nat × Option (List Int)) (0, none) (fun x => x.1 ≤ P ∧ fewFold q n (P - x.1) x.1 x.2 = some W ∧ (x.2.getD []).length ≤ n) (fun x => P - x.1)
   (fun x => [(1, .ptr 0 0), (2, ints (x.2.getD [])), (4, .bool x.2.isSome), (19, .int .i64 P), (20, .int .i64 x.1)])
   (fun x => [.cells (netCells v)]) ⟨by simp, by simpa using hwf, by simp⟩ (by simp [netCells, ints]) ?_ fun x hx => ?_
  ·try simp only [TrimX, QE, Nat.reduceLT, reduceIte, Nat.reduceEqDiff, Nat.reduceAdd, Nat.reduceLeDiff, Nat.reduceMul, Nat.reduceBEq, QXGTrPN, ints, Option.getD_none, Option.isSome_none]
   try simp [clr, clrs]
  ·obtain ⟨s, o⟩ := x
   obtain ⟨hs, hfo, hol⟩ := hx
   simp only at hs hfo hol
   (repeat (first | simp only [↓QA, QB, Nat.reduceLT, reduceIte, Nat.reduceEqDiff, Nat.reduceAdd, Nat.reduceLeDiff, Nat.reduceMul, Nat.reduceBEq, QXGTrPN, L36_0] | refine rd0 rfl ?_))
   refine iteP_intro (fun h => ?_) fun h => ?_
   ·have hs1 : s < P := by simpa using h
    have hw := wrapN hs1 (by omega)
    have hll := lst_len n s
    have hlk := look_run [.cells (netCells v)] v s
    have hso := some_does (look_at [.cells (netCells v)] v s) hv (hbl s hs1) []
    have e0 : tEs v [] = [] := rfl
    rw [hqd] at hso
    have hlo := list_ok s n (by omega) (by omega)
    rw [show P - s = (P - (s + 1)) + 1 by omega] at hfo
    simp only [fewFold] at hfo
    obtain ⟨L, hL⟩ : ∃ L, lst n s = L := ⟨_, rfl⟩
    rw [hL] at hfo hll hlo hso
    obtain ⟨qL, hqL⟩ : ∃ x, q L = x := ⟨_, rfl⟩
    rw [hqL] at hso
    simp only [lookS, lookSt, e0] at hso hlk
    try simp only [↓QA, QB, Nat.reduceLT, reduceIte, Nat.reduceEqDiff, Nat.reduceAdd, Nat.reduceLeDiff, Nat.reduceMul, Nat.reduceBEq, QXGTrPN, List.cons_append, List.nil_append, List.length_cons, List.length_nil] at hso hlk
    (repeat (first | simp only [↓QA, QB, Nat.reduceLT, reduceIte, Nat.reduceEqDiff, Nat.reduceAdd, Nat.reduceLeDiff, Nat.reduceMul, Nat.reduceBEq, QXGTrPN, hn, Option.getD_some] | refine rd0 rfl ?_))
    ((first | refine callK_d (hlo) rfl dd ?_ | refine callD_d (hlo) rfl dd ?_); (repeat (first | simp only [↓QA, QB, Nat.reduceLT, reduceIte, Nat.reduceEqDiff, Nat.reduceAdd, Nat.reduceLeDiff, Nat.reduceMul, Nat.reduceBEq, QXGTrPN] | refine rd0 rfl ?_)))
    cases o with
    | none =>
     have hst : fewStep q none L = if q L = true then some L else none := rfl
     (repeat (first | simp only [↓QA, QB, Nat.reduceLT, reduceIte, Nat.reduceEqDiff, Nat.reduceAdd, Nat.reduceLeDiff, Nat.reduceMul, Nat.reduceBEq, QXGTrPN, Option.isSome_none, Option.getD_none] | refine rd0 rfl ?_))
     refine callK_do hlk ?_
     (repeat (first | simp only [↓QA, QB, Nat.reduceLT, reduceIte, Nat.reduceEqDiff, Nat.reduceAdd, Nat.reduceLeDiff, Nat.reduceMul, Nat.reduceBEq, QXGTrPN] | refine rd0 rfl ?_))
     refine callK_do hso ?_
     (repeat (first | simp only [↓QA, QB, Nat.reduceLT, reduceIte, Nat.reduceEqDiff, Nat.reduceAdd, Nat.reduceLeDiff, Nat.reduceMul, Nat.reduceBEq, QXGTrPN] | refine rd0 rfl ?_))
     cases qL
     ·rw [hqL] at hst
      simp only [Bool.false_eq_true, if_false] at hst
      rw [hst] at hfo
      (repeat (first | simp only [↓QA, QB, Nat.reduceLT, reduceIte, Nat.reduceEqDiff, Nat.reduceAdd, Nat.reduceLeDiff, Nat.reduceMul, Nat.reduceBEq, QXGTrPN, hw] | refine rd0 rfl ?_))
      refine ⟨(s + 1, none), ⟨by simp only; omega, hfo, by simp⟩, by simp only; omega, ?_⟩
      try simp only [TrimX, QE, Nat.reduceLT, reduceIte, Nat.reduceEqDiff, Nat.reduceAdd, Nat.reduceLeDiff, Nat.reduceMul, Nat.reduceBEq, QXGTrPN, hw, Option.isSome_none, Option.getD_none]
      try simp [ints, okBlk]
     ·rw [hqL] at hst
      simp only [if_true] at hst
      rw [hst] at hfo
      (repeat (first | simp only [↓QA, QB, Nat.reduceLT, reduceIte, Nat.reduceEqDiff, Nat.reduceAdd, Nat.reduceLeDiff, Nat.reduceMul, Nat.reduceBEq, QXGTrPN, hw] | refine rd0 rfl ?_))
      refine ⟨(s + 1, some L), ⟨by simp only; omega, hfo, by simpa using hll⟩, by simp only; omega, ?_⟩
      try simp only [TrimX, QE, Nat.reduceLT, reduceIte, Nat.reduceEqDiff, Nat.reduceAdd, Nat.reduceLeDiff, Nat.reduceMul, Nat.reduceBEq, QXGTrPN, hw, Option.isSome_some, Option.getD_some]
      try simp [ints, okBlk]
    | some b =>
     simp only [Option.getD_some] at hol
     simp only [Option.isSome_some, iteP_true]
     (repeat (first | simp only [↓QA, QB, Nat.reduceLT, reduceIte, Nat.reduceEqDiff, Nat.reduceAdd, Nat.reduceLeDiff, Nat.reduceMul, Nat.reduceBEq, QXGTrPN, Option.isSome_some, Option.getD_some] | refine rd0 rfl ?_))
     have fin : ∀ (hfw : fewer b L = false), fewStep q (some b) L = if q L = true then some L else some b := fun hfw => by simp only [fewStep, hfw]; rfl
     cases h1 : decide ((b.length : Int) < (L.length : Int))
     ·have h1' : ¬ b.length < L.length := by simpa using h1
      (repeat (first | simp only [↓QA, QB, Nat.reduceLT, reduceIte, Nat.reduceEqDiff, Nat.reduceAdd, Nat.reduceLeDiff, Nat.reduceMul, Nat.reduceBEq, QXGTrPN, Option.getD_some, h1] | refine rd0 rfl ?_))
      cases h2 : ((L.length : Int) == (b.length : Int))
      ·have h2' : ¬ b.length = L.length := by intro h; rw [h] at h2; simp at h2
       have hst := fin (by simp [fewer, h1', h2'])
       (repeat (first | simp only [↓QA, QB, Nat.reduceLT, reduceIte, Nat.reduceEqDiff, Nat.reduceAdd, Nat.reduceLeDiff, Nat.reduceMul, Nat.reduceBEq, QXGTrPN, h2] | refine rd0 rfl ?_))
       refine callK_do hlk ?_
       (repeat (first | simp only [↓QA, QB, Nat.reduceLT, reduceIte, Nat.reduceEqDiff, Nat.reduceAdd, Nat.reduceLeDiff, Nat.reduceMul, Nat.reduceBEq, QXGTrPN] | refine rd0 rfl ?_))
       refine callK_do hso ?_
       (repeat (first | simp only [↓QA, QB, Nat.reduceLT, reduceIte, Nat.reduceEqDiff, Nat.reduceAdd, Nat.reduceLeDiff, Nat.reduceMul, Nat.reduceBEq, QXGTrPN] | refine rd0 rfl ?_))
       cases qL
       ·rw [hqL] at hst
        simp only [Bool.false_eq_true, if_false] at hst
        rw [hst] at hfo
        (repeat (first | simp only [↓QA, QB, Nat.reduceLT, reduceIte, Nat.reduceEqDiff, Nat.reduceAdd, Nat.reduceLeDiff, Nat.reduceMul, Nat.reduceBEq, QXGTrPN, hw] | refine rd0 rfl ?_))
        refine ⟨(s + 1, some b), ⟨by simp only; omega, hfo, by simpa using hol⟩, by simp only; omega, ?_⟩
        try simp only [TrimX, QE, Nat.reduceLT, reduceIte, Nat.reduceEqDiff, Nat.reduceAdd, Nat.reduceLeDiff, Nat.reduceMul, Nat.reduceBEq, QXGTrPN, hw, Option.isSome_some, Option.getD_some]
        try simp [ints, okBlk]
       ·rw [hqL] at hst
        simp only [if_true] at hst
        rw [hst] at hfo
        (repeat (first | simp only [↓QA, QB, Nat.reduceLT, reduceIte, Nat.reduceEqDiff, Nat.reduceAdd, Nat.reduceLeDiff, Nat.reduceMul, Nat.reduceBEq, QXGTrPN, hw] | refine rd0 rfl ?_))
        refine ⟨(s + 1, some L), ⟨by simp only; omega, hfo, by simpa using hll⟩, by simp only; omega, ?_⟩
        try simp only [TrimX, QE, Nat.reduceLT, reduceIte, Nat.reduceEqDiff, Nat.reduceAdd, Nat.reduceLeDiff, Nat.reduceMul, Nat.reduceBEq, QXGTrPN, hw, Option.isSome_some, Option.getD_some]
        try simp [ints, okBlk]
      ·have h2' : b.length = L.length := by simp at h2; omega
       (repeat (first | simp only [↓QA, QB, Nat.reduceLT, reduceIte, Nat.reduceEqDiff, Nat.reduceAdd, Nat.reduceLeDiff, Nat.reduceMul, Nat.reduceBEq, QXGTrPN, Option.getD_some, h2] | refine rd0 rfl ?_))
       ((first | refine callK_d (scmp_ok L b (by omega) (by omega)) rfl dd ?_ | refine callD_d (scmp_ok L b (by omega) (by omega)) rfl dd ?_); (repeat (first | simp only [↓QA, QB, Nat.reduceLT, reduceIte, Nat.reduceEqDiff, Nat.reduceAdd, Nat.reduceLeDiff, Nat.reduceMul, Nat.reduceBEq, QXGTrPN, cmpL_less, Option.getD_some] | refine rd0 rfl ?_)))
       cases h3 : less b L
       ·have hst := fin (by simp [fewer, h2', h3])
        (repeat (first | simp only [↓QA, QB, Nat.reduceLT, reduceIte, Nat.reduceEqDiff, Nat.reduceAdd, Nat.reduceLeDiff, Nat.reduceMul, Nat.reduceBEq, QXGTrPN, h3] | refine rd0 rfl ?_))
        refine callK_do hlk ?_
        (repeat (first | simp only [↓QA, QB, Nat.reduceLT, reduceIte, Nat.reduceEqDiff, Nat.reduceAdd, Nat.reduceLeDiff, Nat.reduceMul, Nat.reduceBEq, QXGTrPN] | refine rd0 rfl ?_))
        refine callK_do hso ?_
        (repeat (first | simp only [↓QA, QB, Nat.reduceLT, reduceIte, Nat.reduceEqDiff, Nat.reduceAdd, Nat.reduceLeDiff, Nat.reduceMul, Nat.reduceBEq, QXGTrPN] | refine rd0 rfl ?_))
        cases qL
        ·rw [hqL] at hst
         simp only [Bool.false_eq_true, if_false] at hst
         rw [hst] at hfo
         (repeat (first | simp only [↓QA, QB, Nat.reduceLT, reduceIte, Nat.reduceEqDiff, Nat.reduceAdd, Nat.reduceLeDiff, Nat.reduceMul, Nat.reduceBEq, QXGTrPN, hw] | refine rd0 rfl ?_))
         refine ⟨(s + 1, some b), ⟨by simp only; omega, hfo, by simpa using hol⟩, by simp only; omega, ?_⟩
         try simp only [TrimX, QE, Nat.reduceLT, reduceIte, Nat.reduceEqDiff, Nat.reduceAdd, Nat.reduceLeDiff, Nat.reduceMul, Nat.reduceBEq, QXGTrPN, hw, Option.isSome_some, Option.getD_some]
         try simp [ints, okBlk]
        ·rw [hqL] at hst
         simp only [if_true] at hst
         rw [hst] at hfo
         (repeat (first | simp only [↓QA, QB, Nat.reduceLT, reduceIte, Nat.reduceEqDiff, Nat.reduceAdd, Nat.reduceLeDiff, Nat.reduceMul, Nat.reduceBEq, QXGTrPN, hw] | refine rd0 rfl ?_))
         refine ⟨(s + 1, some L), ⟨by simp only; omega, hfo, by simpa using hll⟩, by simp only; omega, ?_⟩
         try simp only [TrimX, QE, Nat.reduceLT, reduceIte, Nat.reduceEqDiff, Nat.reduceAdd, Nat.reduceLeDiff, Nat.reduceMul, Nat.reduceBEq, QXGTrPN, hw, Option.isSome_some, Option.getD_some]
         try simp [ints, okBlk]
       ·have hfw : fewer b L = true := by simp [fewer, h2', h3]
        have hst : fewStep q (some b) L = some b := by simp only [fewStep, hfw, if_true]
        rw [hst] at hfo
        (repeat (first | simp only [↓QA, QB, Nat.reduceLT, reduceIte, Nat.reduceEqDiff, Nat.reduceAdd, Nat.reduceLeDiff, Nat.reduceMul, Nat.reduceBEq, QXGTrPN, h3, hw] | refine rd0 rfl ?_))
        refine ⟨(s + 1, some b), ⟨by simp only; omega, hfo, by simpa using hol⟩, by simp only; omega, ?_⟩
        try simp only [TrimX, QE, Nat.reduceLT, reduceIte, Nat.reduceEqDiff, Nat.reduceAdd, Nat.reduceLeDiff, Nat.reduceMul, Nat.reduceBEq, QXGTrPN, hw, Option.isSome_some, Option.getD_some]
        try simp [ints, okBlk]
     ·have h1' : b.length < L.length := by simpa using h1
      have h2' : ¬ b.length = L.length := by omega
      have hfw : fewer b L = true := by simp [fewer, h1', h2']
      have hst : fewStep q (some b) L = some b := by simp only [fewStep, hfw, if_true]
      rw [hst] at hfo
      (repeat (first | simp only [↓QA, QB, Nat.reduceLT, reduceIte, Nat.reduceEqDiff, Nat.reduceAdd, Nat.reduceLeDiff, Nat.reduceMul, Nat.reduceBEq, QXGTrPN, h1, hw] | refine rd0 rfl ?_))
      refine ⟨(s + 1, some b), ⟨by simp only; omega, hfo, by simpa using hol⟩, by simp only; omega, ?_⟩
      try simp only [TrimX, QE, Nat.reduceLT, reduceIte, Nat.reduceEqDiff, Nat.reduceAdd, Nat.reduceLeDiff, Nat.reduceMul, Nat.reduceBEq, QXGTrPN, hw, Option.isSome_some, Option.getD_some]
      try simp [ints, okBlk]
   ·have hs1 : s = P := by simp at h; omega
    rw [hs1, Nat.sub_self] at hfo
    simp only [fewFold] at hfo
    subst hfo
    (repeat (first | simp only [↓QA, QB, Nat.reduceLT, reduceIte, Nat.reduceEqDiff, Nat.reduceAdd, Nat.reduceLeDiff, Nat.reduceMul, Nat.reduceBEq, QXGTrPN, encLE, Option.getD_some] | refine rd0 rfl ?_))
    try try simp only [QS, QC, Nat.reduceLT, reduceIte, Nat.reduceEqDiff, Nat.reduceAdd, Nat.reduceLeDiff, Nat.reduceMul, Nat.reduceBEq, QXGTrPN]
end Go.Am.Room
set_option maxRecDepth 8000
namespace Go.Am.Room
def QXGLawC := And.intro @encSpan_eq (@List.length_append.{0})
theorem span_ok (a b : Int) : Pure T 40 [.int .i64 a, .int .i64 b] (encSpan ⟨a, b⟩) := by
 refine pure_fn (af := a40) rfl (by simp [a40]) dd ?_
 (repeat (first | simp only [↓QA, QB, Nat.reduceLT, reduceIte, Nat.reduceEqDiff, Nat.reduceAdd, Nat.reduceLeDiff, Nat.reduceMul, Nat.reduceBEq, QXGLawC, a40] | refine rd0 rfl ?_))
end Go.Am.Room
set_option maxRecDepth 8000
namespace Go.Am.Room
def QXGTrQ1 := And.intro @encNet_eq (And.intro @netCells_eq (And.intro @encRail_eq (And.intro @encTram_eq (And.intro @encSeen_eq (And.intro @encSpan_eq (And.intro @S_mapRail (And.intro @S_mapTram (And.intro @S_mapSeen (And.intro @T_sapp (@List.length_append.{0}))))))))))
theorem at_ok (p n : Int) : Pure T 39 [.int .i64 p, .int .i64 n] (encSeen ⟨p, n⟩) := by
 refine pure_fn (af := a39) rfl (by simp [a39]) dd ?_
 (repeat (first | simp only [↓QA, QB, Nat.reduceLT, reduceIte, Nat.reduceEqDiff, Nat.reduceAdd, Nat.reduceLeDiff, Nat.reduceMul, Nat.reduceBEq, QXGTrQ1, a39] | refine rd0 rfl ?_))
theorem exnet_ok (o : Bool) (l : List Seen) : Pure T 38 [.bool o, .lit (l.map encSeen) false none] (encNet (exN o l)) := by
 refine pure_fn (af := a38) rfl (by simp [a38]) dd ?_
 (repeat (first | simp only [↓QA, QB, Nat.reduceLT, reduceIte, Nat.reduceEqDiff, Nat.reduceAdd, Nat.reduceLeDiff, Nat.reduceMul, Nat.reduceBEq, QXGTrQ1, a38] | refine rd0 rfl ?_))
 ((first | refine callK_d (span_ok 5 6) rfl dd ?_ | refine callD_d (span_ok 5 6) rfl dd ?_); (repeat (first | simp only [↓QA, QB, Nat.reduceLT, reduceIte, Nat.reduceEqDiff, Nat.reduceAdd, Nat.reduceLeDiff, Nat.reduceMul, Nat.reduceBEq, QXGTrQ1] | refine rd0 rfl ?_)))
 ((first | refine callK_d (span_ok 4 4) rfl dd ?_ | refine callD_d (span_ok 4 4) rfl dd ?_); (repeat (first | simp only [↓QA, QB, Nat.reduceLT, reduceIte, Nat.reduceEqDiff, Nat.reduceAdd, Nat.reduceLeDiff, Nat.reduceMul, Nat.reduceBEq, QXGTrQ1] | refine rd0 rfl ?_)))
 ((first | refine callK_d (span_ok 12 12) rfl dd ?_ | refine callD_d (span_ok 12 12) rfl dd ?_); (repeat (first | simp only [↓QA, QB, Nat.reduceLT, reduceIte, Nat.reduceEqDiff, Nat.reduceAdd, Nat.reduceLeDiff, Nat.reduceMul, Nat.reduceBEq, QXGTrQ1] | refine rd0 rfl ?_)))
 ((first | refine callK_d (span_ok 3 3) rfl dd ?_ | refine callD_d (span_ok 3 3) rfl dd ?_); (repeat (first | simp only [↓QA, QB, Nat.reduceLT, reduceIte, Nat.reduceEqDiff, Nat.reduceAdd, Nat.reduceLeDiff, Nat.reduceMul, Nat.reduceBEq, QXGTrQ1] | refine rd0 rfl ?_)))
 cases o
 ·(repeat (first | simp only [↓QA, QB, Nat.reduceLT, reduceIte, Nat.reduceEqDiff, Nat.reduceAdd, Nat.reduceLeDiff, Nat.reduceMul, Nat.reduceBEq, QXGTrQ1, exN, nmRed, nmBlue, List.map_cons, List.map_nil] | refine rd0 rfl ?_))
  simp [S_ref, view, cellsAt, chop, allCells, AV.cells, AV.cell, S_cons, S_nil, S_agg, S_int, S_str, S_lit0, S_mapSeen, ints]
 ·have i0 : (0 : Int) ≤ 0 ∧ (0 : Int) < ((4 : Nat) : Int) := by decide
  have i2 : (0 : Int) ≤ 2 ∧ (2 : Int) < ((4 : Nat) : Int) := by decide
  (repeat (first | simp only [↓QA, QB, Nat.reduceLT, reduceIte, Nat.reduceEqDiff, Nat.reduceAdd, Nat.reduceLeDiff, Nat.reduceMul, Nat.reduceBEq, QXGTrQ1, exN, nmRed, nmBlue, List.map_cons, List.map_nil, i0, i2, List.flatMap_cons, List.flatMap_nil, AV.cells, Int.toNat_zero, show (2 : Int).toNat = 2 from rfl] | refine rd0 rfl ?_))
  simp [S_ref, view, cellsAt, chop, allCells, AV.cells, AV.cell, S_cons, S_nil, S_agg, S_int, S_str, S_lit0, S_mapSeen, ints]
theorem fits_ex (o : Bool) (l : List Seen) (h : l.length ≤ 100 := by decide) : Fits (exN o l) := ⟨by simp [exN], by simp [exN], by simp [exN]; omega, fun k hk => by
 simp only [exN, List.mem_cons, List.not_mem_nil, or_false] at hk
 rcases hk with rfl | rfl <;> decide, fun k hk => by
 simp only [exN, List.mem_cons, List.not_mem_nil, or_false] at hk
 rcases hk with rfl | rfl <;> decide⟩
theorem rows_ok (a b : List (List Int)) (ha : a.length < 9223372036854775808) (hb : b.length < 9223372036854775808) (hl : ∀ r ∈ a, r.length < 9223372036854775808) (hm : ∀ r ∈ b, r.length < 9223372036854775808) : Pure T 21 [intss a, intss b] (.bool (decide (a = b))) := by
 refine pure_fn (af := a21) rfl (by simp [a21]) dd ?_
 have hlb := len_beq a.length b.length
 (repeat (first | simp only [↓QA, QB, Nat.reduceLT, reduceIte, Nat.reduceEqDiff, Nat.reduceAdd, Nat.reduceLeDiff, Nat.reduceMul, Nat.reduceBEq, QXGTrQ1, a21, intss_def] | refine rd0 rfl ?_))
 refine loopE (S := Nat × Bool) (0, decide (a.length = b.length)) (fun x => x.1 ≤ a.length ∧ (x.2 = true → a.length = b.length ∧ a.take x.1 = b.take x.1) ∧ (x.2 = false → a ≠ b)) (fun x => a.length + 1 - x.1 - (if x.2 = true then 0 else 1))
  (fun x => [(0, intss a), (1, intss b), (5, .bool x.2), (6, .int .i64 x.1)]) (fun _ => []) ⟨by simp, by simp, fun h e => by rw [e] at h; simp at h⟩ rfl ?_ fun x hx => ?_
 ·try simp only [TrimX, QE, Nat.reduceLT, reduceIte, Nat.reduceEqDiff, Nat.reduceAdd, Nat.reduceLeDiff, Nat.reduceMul, Nat.reduceBEq, QXGTrQ1, intss_def, hlb]
  try simp
 ·obtain ⟨k, o⟩ := x
  obtain ⟨hk, h1, h2⟩ := hx
  simp only at hk h1 h2
  (repeat (first | simp only [↓QA, QB, Nat.reduceLT, reduceIte, Nat.reduceEqDiff, Nat.reduceAdd, Nat.reduceLeDiff, Nat.reduceMul, Nat.reduceBEq, QXGTrQ1, L21_0, intss_def] | refine rd0 rfl ?_))
  cases o
  ·have hne := h2 rfl
   have : decide (a = b) = false := by simpa using hne
   rw [this]
   (repeat (first | simp only [↓QA, QB, Nat.reduceLT, reduceIte, Nat.reduceEqDiff, Nat.reduceAdd, Nat.reduceLeDiff, Nat.reduceMul, Nat.reduceBEq, QXGTrQ1] | refine rd0 rfl ?_))
  ·obtain ⟨hle, htk⟩ := h1 rfl
   (repeat (first | simp only [↓QA, QB, Nat.reduceLT, reduceIte, Nat.reduceEqDiff, Nat.reduceAdd, Nat.reduceLeDiff, Nat.reduceMul, Nat.reduceBEq, QXGTrQ1, intss_def] | refine rd0 rfl ?_))
   refine iteP_intro (fun h => ?_) fun h => ?_
   ·have hk1 : k < a.length := by simpa using h
    have hk2 : k < b.length := by omega
    have hw := wrapN hk1 ha
    have hio := ints_ok a[k] b[k] (hl _ (List.getElem_mem hk1)) (hm _ (List.getElem_mem hk2))
    (repeat (first | simp only [↓QA, QB, Nat.reduceLT, reduceIte, Nat.reduceEqDiff, Nat.reduceAdd, Nat.reduceLeDiff, Nat.reduceMul, Nat.reduceBEq, QXGTrQ1, hk1, hk2, intss_def] | refine rd0 rfl ?_))
    ((first | refine callK_d (hio) rfl dd ?_ | refine callD_d (hio) rfl dd ?_); (repeat (first | simp only [↓QA, QB, Nat.reduceLT, reduceIte, Nat.reduceEqDiff, Nat.reduceAdd, Nat.reduceLeDiff, Nat.reduceMul, Nat.reduceBEq, QXGTrQ1, hk1, hk2] | refine rd0 rfl ?_)))
    refine ⟨(k + 1, decide (a[k] = b[k])), ⟨by simp only; omega, fun q => ⟨hle, ?_⟩, fun q e => ?_⟩, ?_, ?_⟩
    ·rw [List.take_succ_eq_append_getElem hk1, List.take_succ_eq_append_getElem hk2, htk]
     simp only [decide_eq_true_eq] at q
     rw [q]
    ·subst e
     simp at q
    ·simp only; split <;> omega
    ·try simp only [TrimX, QE, Nat.reduceLT, reduceIte, Nat.reduceEqDiff, Nat.reduceAdd, Nat.reduceLeDiff, Nat.reduceMul, Nat.reduceBEq, QXGTrQ1, hw, intss_def]
   ·have hk1 : k = a.length := by simp at h; omega
    have : a = b := by
     rw [hk1, List.take_length] at htk
     rw [htk, hle, List.take_length]
    rw [decide_eq_true this]
    (repeat (first | simp only [↓QA, QB, Nat.reduceLT, reduceIte, Nat.reduceEqDiff, Nat.reduceAdd, Nat.reduceLeDiff, Nat.reduceMul, Nat.reduceBEq, QXGTrQ1] | refine rd0 rfl ?_))
end Go.Am.Room
set_option maxRecDepth 8000
namespace Go.Am.Room
def QXGTrQ2 := And.intro @encNet_eq (And.intro @netCells_eq (And.intro @encRail_eq (And.intro @encTram_eq (And.intro @encSeen_eq (And.intro @encSpan_eq (And.intro @S_mapRail (And.intro @S_mapTram (And.intro @S_mapSeen (And.intro @T_sapp (And.intro @List.length_append.{0} (@intss_def)))))))))))
theorem rows_same (a : List (List Int)) (h : a.length ≤ 1000 ∧ ∀ r ∈ a, r.length ≤ 4) : Pure T 21 [intss a, intss a] (.bool true) := by
 have := rows_ok a a (by omega) (by omega) (fun r hr => by have := h.2 r hr; omega) (fun r hr => by have := h.2 r hr; omega)
 simpa using this
set_option maxHeartbeats 1000000 in
theorem awake_ok : Pure T 22 [] (.bool true) := by
 refine pure_fn (af := a22) rfl (by simp [a22]) datas_nil ?_
 (repeat (first | simp only [↓QA, QB, Nat.reduceLT, reduceIte, Nat.reduceEqDiff, Nat.reduceAdd, Nat.reduceLeDiff, Nat.reduceMul, Nat.reduceBEq, QXGTrQ2, a22] | refine rd0 rfl ?_))
 refine callK_v (exnet_ok false []) (by simp [clr, clrs]) (by simp [okV, okVs]) ?_
 (repeat (first | simp only [↓QA, QB, Nat.reduceLT, reduceIte, Nat.reduceEqDiff, Nat.reduceAdd, Nat.reduceLeDiff, Nat.reduceMul, Nat.reduceBEq, QXGTrQ2] | refine rd0 rfl ?_))
 refine callK_v (exnet_ok true []) (by simp [clr, clrs]) (by simp [okV, okVs]) ?_
 (repeat (first | simp only [↓QA, QB, Nat.reduceLT, reduceIte, Nat.reduceEqDiff, Nat.reduceAdd, Nat.reduceLeDiff, Nat.reduceMul, Nat.reduceBEq, QXGTrQ2] | refine rd0 rfl ?_))
 ((first | refine callK_d (at_ok 0 (-1)) rfl dd ?_ | refine callD_d (at_ok 0 (-1)) rfl dd ?_); (repeat (first | simp only [↓QA, QB, Nat.reduceLT, reduceIte, Nat.reduceEqDiff, Nat.reduceAdd, Nat.reduceLeDiff, Nat.reduceMul, Nat.reduceBEq, QXGTrQ2] | refine rd0 rfl ?_)))
 ((first | refine callK_d (at_ok 1 15) rfl dd ?_ | refine callD_d (at_ok 1 15) rfl dd ?_); (repeat (first | simp only [↓QA, QB, Nat.reduceLT, reduceIte, Nat.reduceEqDiff, Nat.reduceAdd, Nat.reduceLeDiff, Nat.reduceMul, Nat.reduceBEq, QXGTrQ2] | refine rd0 rfl ?_)))
 refine callK_v (exnet_ok true [⟨0, -1⟩, ⟨1, 15⟩]) (by simp [clr, clrs, encSeen]) (by simp [okV, okVs]) ?_
 (repeat (first | simp only [↓QA, QB, Nat.reduceLT, reduceIte, Nat.reduceEqDiff, Nat.reduceAdd, Nat.reduceLeDiff, Nat.reduceMul, Nat.reduceBEq, QXGTrQ2] | refine rd0 rfl ?_))
 ((first | refine callK_d (at_ok 0 (-1)) rfl dd ?_ | refine callD_d (at_ok 0 (-1)) rfl dd ?_); (repeat (first | simp only [↓QA, QB, Nat.reduceLT, reduceIte, Nat.reduceEqDiff, Nat.reduceAdd, Nat.reduceLeDiff, Nat.reduceMul, Nat.reduceBEq, QXGTrQ2] | refine rd0 rfl ?_)))
 refine callK_v (exnet_ok true [⟨0, -1⟩]) (by simp [clr, clrs, encSeen]) (by simp [okV, okVs]) ?_
 (repeat (first | simp only [↓QA, QB, Nat.reduceLT, reduceIte, Nat.reduceEqDiff, Nat.reduceAdd, Nat.reduceLeDiff, Nat.reduceMul, Nat.reduceBEq, QXGTrQ2] | refine rd0 rfl ?_))
 ((first | refine callK_d (ppaths_ok exH (fits_ex _ _) 3) rfl dd ?_ | refine callD_d (ppaths_ok exH (fits_ex _ _) 3) rfl dd ?_); (repeat (first | simp only [↓QA, QB, Nat.reduceLT, reduceIte, Nat.reduceEqDiff, Nat.reduceAdd, Nat.reduceLeDiff, Nat.reduceMul, Nat.reduceBEq, QXGTrQ2, x1, encLLI] | refine rd0 rfl ?_)))
 ((first | refine callK_d (pcomes_ok exH (fits_ex _ _) 1) rfl dd ?_ | refine callD_d (pcomes_ok exH (fits_ex _ _) 1) rfl dd ?_); (repeat (first | simp only [↓QA, QB, Nat.reduceLT, reduceIte, Nat.reduceEqDiff, Nat.reduceAdd, Nat.reduceLeDiff, Nat.reduceMul, Nat.reduceBEq, QXGTrQ2, x2, encSIE] | refine rd0 rfl ?_)))
 ((first | refine callK_d (pcomes_ok exK (fits_ex _ _) 1) rfl dd ?_ | refine callD_d (pcomes_ok exK (fits_ex _ _) 1) rfl dd ?_); (repeat (first | simp only [↓QA, QB, Nat.reduceLT, reduceIte, Nat.reduceEqDiff, Nat.reduceAdd, Nat.reduceLeDiff, Nat.reduceMul, Nat.reduceBEq, QXGTrQ2, x3, encSIE] | refine rd0 rfl ?_)))
 ((first | refine callK_d (pcomes_ok exT (fits_ex _ _) 0) rfl dd ?_ | refine callD_d (pcomes_ok exT (fits_ex _ _) 0) rfl dd ?_); (repeat (first | simp only [↓QA, QB, Nat.reduceLT, reduceIte, Nat.reduceEqDiff, Nat.reduceAdd, Nat.reduceLeDiff, Nat.reduceMul, Nat.reduceBEq, QXGTrQ2, x4, encSIE] | refine rd0 rfl ?_)))
 ((first | refine callK_d (plate_ok exK (fits_ex _ _)) rfl dd ?_ | refine callD_d (plate_ok exK (fits_ex _ _)) rfl dd ?_); (repeat (first | simp only [↓QA, QB, Nat.reduceLT, reduceIte, Nat.reduceEqDiff, Nat.reduceAdd, Nat.reduceLeDiff, Nat.reduceMul, Nat.reduceBEq, QXGTrQ2, x5, encLLE] | refine rd0 rfl ?_)))
 ((first | refine callK_d (pfirst_ok exK (fits_ex _ _)) rfl dd ?_ | refine callD_d (pfirst_ok exK (fits_ex _ _)) rfl dd ?_); (repeat (first | simp only [↓QA, QB, Nat.reduceLT, reduceIte, Nat.reduceEqDiff, Nat.reduceAdd, Nat.reduceLeDiff, Nat.reduceMul, Nat.reduceBEq, QXGTrQ2, x6, encIE] | refine rd0 rfl ?_)))
 ((first | refine callK_d (pfirst_ok exH (fits_ex _ _)) rfl dd ?_ | refine callD_d (pfirst_ok exH (fits_ex _ _)) rfl dd ?_); (repeat (first | simp only [↓QA, QB, Nat.reduceLT, reduceIte, Nat.reduceEqDiff, Nat.reduceAdd, Nat.reduceLeDiff, Nat.reduceMul, Nat.reduceBEq, QXGTrQ2, x7, encIE] | refine rd0 rfl ?_)))
 ((first | refine callK_d (pmove_ok exK (fits_ex _ _)) rfl dd ?_ | refine callD_d (pmove_ok exK (fits_ex _ _)) rfl dd ?_); (repeat (first | simp only [↓QA, QB, Nat.reduceLT, reduceIte, Nat.reduceEqDiff, Nat.reduceAdd, Nat.reduceLeDiff, Nat.reduceMul, Nat.reduceBEq, QXGTrQ2, x8, encMove] | refine rd0 rfl ?_)))
 ((first | refine callK_d (pshut_ok exH (fits_ex _ _)) rfl dd ?_ | refine callD_d (pshut_ok exH (fits_ex _ _)) rfl dd ?_); (repeat (first | simp only [↓QA, QB, Nat.reduceLT, reduceIte, Nat.reduceEqDiff, Nat.reduceAdd, Nat.reduceLeDiff, Nat.reduceMul, Nat.reduceBEq, QXGTrQ2, x9, encLLE] | refine rd0 rfl ?_)))
 ((first | refine callK_d (phurts_ok exH (fits_ex _ _)) rfl dd ?_ | refine callD_d (phurts_ok exH (fits_ex _ _)) rfl dd ?_); (repeat (first | simp only [↓QA, QB, Nat.reduceLT, reduceIte, Nat.reduceEqDiff, Nat.reduceAdd, Nat.reduceLeDiff, Nat.reduceMul, Nat.reduceBEq, QXGTrQ2, x10, encIIE] | refine rd0 rfl ?_)))
 ((first | refine callK_d (pwrong_ok exS (fits_ex _ _)) rfl dd ?_ | refine callD_d (pwrong_ok exS (fits_ex _ _)) rfl dd ?_); (repeat (first | simp only [↓QA, QB, Nat.reduceLT, reduceIte, Nat.reduceEqDiff, Nat.reduceAdd, Nat.reduceLeDiff, Nat.reduceMul, Nat.reduceBEq, QXGTrQ2, x11, encLE] | refine rd0 rfl ?_)))
 ((first | refine callK_d (pfirst_ok exS (fits_ex _ _)) rfl dd ?_ | refine callD_d (pfirst_ok exS (fits_ex _ _)) rfl dd ?_); (repeat (first | simp only [↓QA, QB, Nat.reduceLT, reduceIte, Nat.reduceEqDiff, Nat.reduceAdd, Nat.reduceLeDiff, Nat.reduceMul, Nat.reduceBEq, QXGTrQ2, x12, encIE] | refine rd0 rfl ?_)))
 refine callD_v (rows_same [[3, 2], [3, 1, 0]] (by simp)) (by simp [clr, clrs, ints, intss]) (by simp [okV, okVs, ints, intss]) ?_
 (repeat (first | simp only [↓QA, QB, Nat.reduceLT, reduceIte, Nat.reduceEqDiff, Nat.reduceAdd, Nat.reduceLeDiff, Nat.reduceMul, Nat.reduceBEq, QXGTrQ2] | refine rd0 rfl ?_))
 ((first | refine callK_d (span_ok 14 16) rfl dd ?_ | refine callD_d (span_ok 14 16) rfl dd ?_); (repeat (first | simp only [↓QA, QB, Nat.reduceLT, reduceIte, Nat.reduceEqDiff, Nat.reduceAdd, Nat.reduceLeDiff, Nat.reduceMul, Nat.reduceBEq, QXGTrQ2, List.map_nil, List.length_nil, show (((0 : Nat) : Int) == 0) = true from rfl] | refine rd0 rfl ?_)))
 ((first | refine callK_v (ints_ok [0, 1] [0, 1] (by simp) (by simp)) (by simp [clr, clrs, ints]) (by simp [okV, okVs]) ?_ | refine callD_v (ints_ok [0, 1] [0, 1] (by simp) (by simp)) (by simp [clr, clrs, ints]) (by simp [okV, okVs]) ?_); (repeat (first | simp only [↓QA, QB, Nat.reduceLT, reduceIte, Nat.reduceEqDiff, Nat.reduceAdd, Nat.reduceLeDiff, Nat.reduceMul, Nat.reduceBEq, QXGTrQ2, eq_self, List.map_nil, List.length_nil, show (((0 : Nat) : Int) == 0) = true from rfl] | refine rd0 rfl ?_)))
 refine callD_v (rows_same [[2], [3, 2]] (by simp)) (by simp [clr, clrs, ints, intss]) (by simp [okV, okVs, ints, intss]) ?_
 (repeat (first | simp only [↓QA, QB, Nat.reduceLT, reduceIte, Nat.reduceEqDiff, Nat.reduceAdd, Nat.reduceLeDiff, Nat.reduceMul, Nat.reduceBEq, QXGTrQ2] | refine rd0 rfl ?_))
 ((first | refine callK_v (ints_ok [0, 1] [0, 1] (by simp) (by simp)) (by simp [clr, clrs, ints]) (by simp [okV, okVs]) ?_ | refine callD_v (ints_ok [0, 1] [0, 1] (by simp) (by simp)) (by simp [clr, clrs, ints]) (by simp [okV, okVs]) ?_); (repeat (first | simp only [↓QA, QB, Nat.reduceLT, reduceIte, Nat.reduceEqDiff, Nat.reduceAdd, Nat.reduceLeDiff, Nat.reduceMul, Nat.reduceBEq, QXGTrQ2, eq_self, List.map_nil, List.length_nil, show (((0 : Nat) : Int) == 0) = true from rfl] | refine rd0 rfl ?_)))
 ((first | refine callK_v (ints_ok [2] [2] (by simp) (by simp)) (by simp [clr, clrs, ints]) (by simp [okV, okVs]) ?_ | refine callD_v (ints_ok [2] [2] (by simp) (by simp)) (by simp [clr, clrs, ints]) (by simp [okV, okVs]) ?_); (repeat (first | simp only [↓QA, QB, Nat.reduceLT, reduceIte, Nat.reduceEqDiff, Nat.reduceAdd, Nat.reduceLeDiff, Nat.reduceMul, Nat.reduceBEq, QXGTrQ2, eq_self] | refine rd0 rfl ?_)))
 ((first | refine callK_v (ints_ok [1] [1] (by simp) (by simp)) (by simp [clr, clrs, ints]) (by simp [okV, okVs]) ?_ | refine callD_v (ints_ok [1] [1] (by simp) (by simp)) (by simp [clr, clrs, ints]) (by simp [okV, okVs]) ?_); (repeat (first | simp only [↓QA, QB, Nat.reduceLT, reduceIte, Nat.reduceEqDiff, Nat.reduceAdd, Nat.reduceLeDiff, Nat.reduceMul, Nat.reduceBEq, QXGTrQ2, eq_self] | refine rd0 rfl ?_)))
end Go.Am.Room
