/- A part of the proofs: an abstract machine, or what functions come to on it. -/
import Derived.Test.YtkppbjllknnilaaAllQ4
set_option linter.unusedVariables false
set_option linter.unusedSimpArgs false
set_option linter.defProp false
set_option maxRecDepth 4000
namespace Go.Am.Room
def QXRm27 := And.intro @Nat.mul_one (And.intro @Int.toNat_natCast (And.intro @encSpan_eq (And.intro @Nat.add_lt_add_iff_left (And.intro @Nat.lt_add_right_iff_pos (And.intro @T_sapp (And.intro @encW_eq (@List.length_append.{0})))))))
def planOfP (q : Pl) (f : Bool) (tk : Option Nat) : List AV := planC (q.l.map (.int .i64)) f tk q.w q.c
theorem plan_get (sl : List AV) (f : Bool) (tk : Option Nat) (w : W4) (c : Int) : ∀ n, n < 4 → (planC sl f tk w c)[1 + n]? = some (.int .i64 (w.at n))
 | 0, _ => rfl
 | 1, _ => rfl
 | 2, _ => rfl
 | 3, _ => rfl
theorem plan_set (sl : List AV) (f : Bool) (tk : Option Nat) (w : W4) (c : Int) : ∀ n, n < 4 → (planC sl f tk w c).take (1 + n) ++ [.int .i64 (w.at n + 1)] ++ [AV.int .i64 w.a, .int .i64 w.b, .int .i64 w.c, .int .i64 w.d, .int .i64 c].drop (1 + n) = planC sl f tk (w.inc n) c
 | 0, _ => rfl
 | 1, _ => rfl
 | 2, _ => rfl
 | 3, _ => rfl
theorem inc_bd (w : W4) (n i : Nat) : w.at i ≤ (w.inc n).at i ∧ (w.inc n).at i ≤ w.at i + 1 := by
 match n with
 | 0 => match i with | 0 | 1 | 2 | 3 => (simp [W4.inc, W4.at] <;> omega) | i + 4 => simp [W4.inc, W4.at]
 | 1 => match i with | 0 | 1 | 2 | 3 => (simp [W4.inc, W4.at] <;> omega) | i + 4 => simp [W4.inc, W4.at]
 | 2 => match i with | 0 | 1 | 2 | 3 => (simp [W4.inc, W4.at] <;> omega) | i + 4 => simp [W4.inc, W4.at]
 | 3 => match i with | 0 | 1 | 2 | 3 => (simp [W4.inc, W4.at] <;> omega) | i + 4 => simp [W4.inc, W4.at]
 | n + 4 => match i with | 0 | 1 | 2 | 3 => (simp [W4.inc, W4.at] <;> omega) | i + 4 => simp [W4.inc, W4.at]
theorem next_leave {S : Memo → St} {r : Rm} {ps : Nat → Span} {p m N : Nat} (hR : RoomAt S r ps p m N) (now : Span) (want b ch : Int) (many : Int) (e : Env) (M : Memo) (q : Pl) (f : Bool) (tk : Option Nat) (τ : St) {M' : Memo} {τ' : St} {σ' : St} {Q : Out → Prop}
  (hσ : σ' = S M' ++ (fst now want b many ch p N zeroP false (lpB .ready none e) (planOfP q f tk) ++ (τ ++ τ'))) (hQ : Q ⟨none, [], S M' ++ (fst now want b many ch p N zeroP false (lpB .ready none e) (planOfP q f tk) ++ τ), .bool true⟩) :
  Leave (S M ++ (fst now want b many ch p N zeroP false (lpB .ready none e) (planOfP q f tk) ++ τ)) σ' (.bool true) Q := by
 obtain ⟨X, hX⟩ : ∃ X, fst now want b many ch p N zeroP false (lpB .ready none e) (planOfP q f tk) ++ τ = X := ⟨_, rfl⟩
 have hσ2 : σ' = (fun M => S M ++ X) M' ++ τ' := by rw [hσ, ← hX]; simp
 rw [hX] at hQ ⊢
 have hA := hR.app X
 refine .inr ⟨20, .bool true, .bool true, by simp [snap], .inl rfl, hA.kept hσ2, ?_, ?_⟩
 ·rw [hσ2]
  simp only [List.length_append, hR.len]
  omega
 ·have e1 : σ'.take (S M ++ X).length = S M' ++ X := by
   have q1 : (S M ++ X).length = (S M' ++ X).length := by simp only [List.length_append, hR.len]
   rw [hσ2, q1]
   exact List.take_left
  rw [e1]
  exact hQ
theorem next_ok {S : Memo → St} {r : Rm} {ps : Nat → Span} {p m N : Nat} (hR : RoomAt S r ps p m N) (hv : Vd r) (now : Span) (want b ch : Int) (many : Nat) (h0 : 0 ≤ now.lo) (h1 : now.lo < 1000) (h2 : 0 ≤ now.hi) (h3 : now.hi < 1000)
  (e : Env) (e10 : Env.get e 10 = .ptr (N + 3) 0) (e11 : Env.get e 11 = .ptr (N + 4) 0) (e12 : Env.get e 12 = .ptr (N + 5) 0) (hmany : many ≤ 8) :
  ∀ (k : Nat) (q : Pl) (b0 : Int) (M : Memo) (f : Bool) (tk : Option Nat) (τ : St), q.l.length + k = many → (∀ i, 0 ≤ q.w.at i ∧ q.w.at i ≤ q.l.length) → (0 ≤ q.c ∧ q.c ≤ q.l.length) → (∀ t, tk = some t → N ≤ t) →
  Run T (.callv (NEXT N) [.int .i64 b0] (S M ++ (fst now want b many ch p N zeroP false (lpB .ready none e) (planOfP q f tk) ++ τ))) fun o =>
   match nextS r now want ch k q b0 M with
   | (some x, M') => o.v = .bool false ∧ ∃ f' tk' plan τ', (∀ t, tk' = some t → N ≤ t) ∧ o.σ = S M' ++ (fst now want b many ch p N (planOfP x f' tk') true (lpB .done (some .ret) e) plan ++ τ')
   | (none, M') => o.v = .bool true ∧ o.σ = S M' ++ (fst now want b many ch p N zeroP false (lpB .ready none e) (planOfP q f tk) ++ τ)
 | 0, q, b0, M, f, tk, τ, hl, hw, hc, htk => by
  have hl' : (q.l.length : Int) = many := by omega
  have hy := yield_run hR hv now want b many ch h0 h1 h2 h3 e e10 e11 e12 M (q.l.map (.int .i64)) f tk q.w (fun i => ⟨(hw i).1, by have := (hw i).2; omega⟩) q.c τ
  refine .callf (.call (af := a122) rfl (by simp [a122]) (run_wp (K := fun j e' σ1 => (j = none ∨ j = some .ret) ∧
   (match nextS r now want ch 0 q b0 M with
   | (some x, M') => Env.get e' 8 = .bool false ∧ ∃ f' tk' plan τ', (∀ t, tk' = some t → N ≤ t) ∧ σ1 = S M' ++ (fst now want b many ch p N (planOfP x f' tk') true (lpB .done (some .ret) e) plan ++ τ')
   | (none, M') => Env.get e' 8 = .bool true ∧ ∃ τ', σ1 = S M' ++ (fst now want b many ch p N zeroP false (lpB .ready none e) (planOfP q f tk) ++ (τ ++ τ')))) ?_ fun o ho => ho) fun o ho => ?_)
  ·simp only [nextS]
   by_cases hcc : q.c = ch
   ·rw [if_neg (by simpa using hcc)]
    have g : (q.c == ch) = true := by simpa using hcc
    simp only [fst, planOfP, planC, NEXT] at hy ⊢
    (repeat (first | simp only [↓QA, QB, Nat.reduceLT, reduceIte, Nat.reduceEqDiff, Nat.reduceAdd, Nat.reduceLeDiff, Nat.reduceMul, Nat.reduceBEq, QXRm27, hR.len, hR.base, hR.base0, hR.bset, hR.bset0, hR.at1, hR.at0, hR.map1, hR.map0, a122, NEXT, hl', g] | refine rd0 rfl ?_))
    refine .mono hy fun o ho => ?_
    cases hG : givesW r now q.w want
    ·rw [hG] at ho
     simp only [Bool.false_eq_true, if_false] at ho ⊢
     obtain ⟨hov, τ', hσ⟩ := ho
     rw [hov, hσ]
     (repeat (first | simp only [↓QA, QB, Nat.reduceLT, reduceIte, Nat.reduceEqDiff, Nat.reduceAdd, Nat.reduceLeDiff, Nat.reduceMul, Nat.reduceBEq, QXRm27, hR.len, hR.base, hR.base0, hR.bset, hR.bset0, hR.at1, hR.at0, hR.map1, hR.map0] | refine rd0 rfl ?_))
     exact ⟨τ', rfl⟩
    ·rw [hG] at ho
     simp only [if_true] at ho ⊢
     obtain ⟨hov, τ', hσ⟩ := ho
     rw [hov, hσ]
     (repeat (first | simp only [↓QA, QB, Nat.reduceLT, reduceIte, Nat.reduceEqDiff, Nat.reduceAdd, Nat.reduceLeDiff, Nat.reduceMul, Nat.reduceBEq, QXRm27, hR.len, hR.base, hR.base0, hR.bset, hR.bset0, hR.at1, hR.at0, hR.map1, hR.map0] | refine rd0 rfl ?_))
     exact ⟨f, tk, _, τ', htk, rfl⟩
   ·rw [if_pos hcc]
    have g : (q.c == ch) = false := by simpa using hcc
    (repeat (first | simp only [↓QA, QB, Nat.reduceLT, reduceIte, Nat.reduceEqDiff, Nat.reduceAdd, Nat.reduceLeDiff, Nat.reduceMul, Nat.reduceBEq, QXRm27, hR.len, hR.base, hR.base0, hR.bset, hR.bset0, hR.at1, hR.at0, hR.map1, hR.map0, a122, NEXT, fst, planOfP, planC, hl', g] | refine rd0 rfl ?_))
    exact ⟨[], by simp⟩
  ·obtain ⟨hj, ho⟩ := ho
   refine ⟨hj, ?_⟩
   cases hn : nextS r now want ch 0 q b0 M with
   | mk x M' =>
    rw [hn] at ho
    cases x with
    | none => exact ⟨.bool true, by simp only [a122, resOf, resAV]; rw [ho.1]; rfl, by obtain ⟨_, τ', hσ⟩ := ho; exact next_leave hR now want b ch many e M q f tk τ hσ ⟨rfl, rfl⟩⟩
    | some x => exact ⟨.bool false, by simp only [a122, resOf, resAV]; rw [ho.1]; rfl, .inl ⟨rfl, ho.2⟩⟩
 | k + 1, q, b0, M, f, tk, τ, hl, hw, hc, htk => by
  have ih := next_ok hR hv now want b ch many h0 h1 h2 h3 e e10 e11 e12 hmany k
  have hne : ((q.l.length : Int) == (many : Int)) = false := by rw [beq_eq_false_iff_ne]; omega
  obtain ⟨F, hF⟩ : ∃ F : Nat → Memo → Option Pl × Memo, F = fun (n : Nat) M => if 0 ≤ b0 ∧ (n : Int) ≠ b0 ∧ q.c = ch then (none, M) else nextS r now want ch k (q.add b0 n) n M := ⟨_, rfl⟩
  have hspec : nextS r now want ch (k + 1) q b0 M = overN F r.settings.length 0 M := by rw [hF]; rfl
  refine .callf (.call (af := a122) rfl (by simp [a122]) (run_wp (K := fun j e' σ1 => (j = none ∨ j = some .ret) ∧
   (match nextS r now want ch (k + 1) q b0 M with
   | (some x, M') => Env.get e' 8 = .bool false ∧ ∃ f' tk' plan τ', (∀ t, tk' = some t → N ≤ t) ∧ σ1 = S M' ++ (fst now want b many ch p N (planOfP x f' tk') true (lpB .done (some .ret) e) plan ++ τ')
   | (none, M') => Env.get e' 8 = .bool true ∧ ∃ τ', σ1 = S M' ++ (fst now want b many ch p N zeroP false (lpB .ready none e) (planOfP q f tk) ++ (τ ++ τ')))) ?_ fun o ho => ho) fun o ho => ?_)
  ·rw [hspec]
   obtain ⟨R, hR0⟩ : ∃ R, overN F r.settings.length 0 M = R := ⟨_, rfl⟩
   rw [hR0]
   simp only [fst, planOfP, planC, NEXT]
   (repeat (first | simp only [↓QA, QB, Nat.reduceLT, reduceIte, Nat.reduceEqDiff, Nat.reduceAdd, Nat.reduceLeDiff, Nat.reduceMul, Nat.reduceBEq, QXRm27, hR.len, hR.base, hR.base0, hR.bset, hR.bset0, hR.at1, hR.at0, hR.map1, hR.map0, a122, NEXT, hne, rb_3] | refine rd0 rfl ?_))
   refine loopE (S := Nat × Memo) (0, M) (fun s => s.1 ≤ r.settings.length ∧ overN F (r.settings.length - s.1) s.1 s.2 = R) (fun s => r.settings.length - s.1)
    (fun s => [(0, .int .i64 b0), (1, .ptr (N + 12) 0), (3, .ptr (N + 9) 0), (6, .ptr (N + 13) 0), (30, .int .i64 r.settings.length), (31, .int .i64 s.1)])
    (fun s => S s.2 ++ (fst now want b many ch p N zeroP false (lpB .ready none e) (planOfP q f tk) ++ τ)) ⟨by simp, hR0⟩ rfl ?_ fun s hs => ?_
   ·try simp only [TrimX, QE, Nat.reduceLT, reduceIte, Nat.reduceEqDiff, Nat.reduceAdd, Nat.reduceLeDiff, Nat.reduceMul, Nat.reduceBEq, QXRm27, hR.len, hR.base, hR.base0, hR.bset, hR.bset0, hR.at1, hR.at0, hR.map1, hR.map0]
    try simp
   ·obtain ⟨n, M2⟩ := s
    obtain ⟨hn, hq⟩ := hs
    simp only at hn hq
    simp only [fst, planOfP, planC, NEXT]
    (repeat (first | simp only [↓QA, QB, Nat.reduceLT, reduceIte, Nat.reduceEqDiff, Nat.reduceAdd, Nat.reduceLeDiff, Nat.reduceMul, Nat.reduceBEq, QXRm27, hR.len, hR.base, hR.base0, hR.bset, hR.bset0, hR.at1, hR.at0, hR.map1, hR.map0, L122_0] | refine rd0 rfl ?_))
    refine iteP_intro (fun h => ?_) fun h => ?_
    ·have hn1 : n < r.settings.length := by simpa using h
     have hns := hv.nset
     have hn4 : n < 4 := by omega
     have hw1 := wrapN hn1 (by omega)
     have hwn := hw n
     have hwi : IntKind.i64.wrap (q.w.at n + 1) = q.w.at n + 1 := wrap64 ⟨by omega, by omega⟩
     have hci : IntKind.i64.wrap (q.c + 1) = q.c + 1 := wrap64 ⟨by omega, by omega⟩
     have i1 : (0 : Int) ≤ (n : Int) ∧ (n : Int) < ((4 : Nat) : Int) := ⟨by omega, by omega⟩
     rw [show r.settings.length - n = (r.settings.length - (n + 1)) + 1 by omega] at hq
     simp only [overN] at hq
     have cg := fun (c : Int) => plan_get (q.l.map (.int .i64)) f tk q.w c n hn4
     have cs := fun (c : Int) => plan_set (q.l.map (.int .i64)) f tk q.w c n hn4
     simp only [planC] at cg cs
     have hap : ∀ (σ : St) (t : Option Nat), appendAV 1 8 σ (.lit (q.l.map (.int .i64)) true t) (.lit [.int .i64 n] true none) = some (.lit ((q.l ++ [(n : Int)]).map (.int .i64)) false (some σ.length), σ ++ [.tok 1 (q.l.length + 1) true]) := fun σ t => by
      rw [app_full ⟨L_allM 1 _ q.l (fun x => C_int _ _), by simp [allCells, AV.cells, AV.cell], by simp [room]; omega, by simp [room]; omega⟩ (by simp)]
      simp
     have step : ∀ (c' : Int) (e' : Env), True := fun _ _ => trivial
     (repeat (first | simp only [↓QA, QB, Nat.reduceLT, reduceIte, Nat.reduceEqDiff, Nat.reduceAdd, Nat.reduceLeDiff, Nat.reduceMul, Nat.reduceBEq, QXRm27, hR.len, hR.base, hR.base0, hR.bset, hR.bset0, hR.at1, hR.at0, hR.map1, hR.map0] | refine rd0 rfl ?_))
     cases g1 : decide (0 ≤ b0)
     case' false =>
      have g1' : ¬ 0 ≤ b0 := by simpa using g1
      obtain ⟨c', hc'⟩ : ∃ c', c' = q.c := ⟨_, rfl⟩
      have hadd : q.add b0 n = ⟨q.l ++ [(n : Int)], q.w.inc n, c'⟩ := by simp [Pl.add, g1', hc']
      have hFn : F n M2 = nextS r now want ch k ⟨q.l ++ [(n : Int)], q.w.inc n, c'⟩ n M2 := by rw [hF, ← hadd]; simp [g1']
      (repeat (first | simp only [↓QA, QB, Nat.reduceLT, reduceIte, Nat.reduceEqDiff, Nat.reduceAdd, Nat.reduceLeDiff, Nat.reduceMul, Nat.reduceBEq, QXRm27, hR.len, hR.base, hR.base0, hR.bset, hR.bset0, hR.at1, hR.at0, hR.map1, hR.map0, g1] | refine rd0 rfl ?_))
      rw [← hc']
     case' true =>
      have g1' : 0 ≤ b0 := by simpa using g1
      (repeat (first | simp only [↓QA, QB, Nat.reduceLT, reduceIte, Nat.reduceEqDiff, Nat.reduceAdd, Nat.reduceLeDiff, Nat.reduceMul, Nat.reduceBEq, QXRm27, hR.len, hR.base, hR.base0, hR.bset, hR.bset0, hR.at1, hR.at0, hR.map1, hR.map0, g1] | refine rd0 rfl ?_))
      cases g2 : ((n : Int) == b0)
      case' true =>
       have g2' : (n : Int) = b0 := by simpa using g2
       obtain ⟨c', hc'⟩ : ∃ c', c' = q.c := ⟨_, rfl⟩
       have hadd : q.add b0 n = ⟨q.l ++ [(n : Int)], q.w.inc n, c'⟩ := by simp [Pl.add, g2', hc']
       have hFn : F n M2 = nextS r now want ch k ⟨q.l ++ [(n : Int)], q.w.inc n, c'⟩ n M2 := by rw [hF, ← hadd]; simp [g2']
       (repeat (first | simp only [↓QA, QB, Nat.reduceLT, reduceIte, Nat.reduceEqDiff, Nat.reduceAdd, Nat.reduceLeDiff, Nat.reduceMul, Nat.reduceBEq, QXRm27, hR.len, hR.base, hR.base0, hR.bset, hR.bset0, hR.at1, hR.at0, hR.map1, hR.map0, g2] | refine rd0 rfl ?_))
       rw [← hc']
      case' false =>
       have g2' : (n : Int) ≠ b0 := by simpa using g2
       (repeat (first | simp only [↓QA, QB, Nat.reduceLT, reduceIte, Nat.reduceEqDiff, Nat.reduceAdd, Nat.reduceLeDiff, Nat.reduceMul, Nat.reduceBEq, QXRm27, hR.len, hR.base, hR.base0, hR.bset, hR.bset0, hR.at1, hR.at0, hR.map1, hR.map0, g2] | refine rd0 rfl ?_))
       cases g3 : (q.c == ch)
       case' false =>
        have g3' : q.c ≠ ch := by simpa using g3
        obtain ⟨c', hc'⟩ : ∃ c', c' = q.c + 1 := ⟨_, rfl⟩
        have hadd : q.add b0 n = ⟨q.l ++ [(n : Int)], q.w.inc n, c'⟩ := by simp [Pl.add, g1', g2', hc']
        have hFn : F n M2 = nextS r now want ch k ⟨q.l ++ [(n : Int)], q.w.inc n, c'⟩ n M2 := by rw [hF, ← hadd]; simp [g3']
        (repeat (first | simp only [↓QA, QB, Nat.reduceLT, reduceIte, Nat.reduceEqDiff, Nat.reduceAdd, Nat.reduceLeDiff, Nat.reduceMul, Nat.reduceBEq, QXRm27, hR.len, hR.base, hR.base0, hR.bset, hR.bset0, hR.at1, hR.at0, hR.map1, hR.map0, g3, hci] | refine rd0 rfl ?_))
        rw [← hc']
       case' true =>
        have g3' : q.c = ch := by simpa using g3
        have hFn : F n M2 = (none, M2) := by rw [hF]; simp [g1', g2', g3']
        rw [hFn] at hq
        (repeat (first | simp only [↓QA, QB, Nat.reduceLT, reduceIte, Nat.reduceEqDiff, Nat.reduceAdd, Nat.reduceLeDiff, Nat.reduceMul, Nat.reduceBEq, QXRm27, hR.len, hR.base, hR.base0, hR.bset, hR.bset0, hR.at1, hR.at0, hR.map1, hR.map0, g3] | refine rd0 rfl ?_))
     case true.false.true =>
      refine ⟨(n + 1, M2), ⟨by simp only; omega, hq⟩, by simp only; omega, ?_⟩
      try simp only [TrimX, QE, Nat.reduceLT, reduceIte, Nat.reduceEqDiff, Nat.reduceAdd, Nat.reduceLeDiff, Nat.reduceMul, Nat.reduceBEq, QXRm27, hR.len, hR.base, hR.base0, hR.bset, hR.bset0, hR.at1, hR.at0, hR.map1, hR.map0, hw1, T_sr0]
      try simp [okBlk, okVs, okV]
     all_goals
      have c1 : 1 + n + 1 ≤ 6 := by omega
      (repeat (first | simp only [↓QA, QB, Nat.reduceLT, reduceIte, Nat.reduceEqDiff, Nat.reduceAdd, Nat.reduceLeDiff, Nat.reduceMul, Nat.reduceBEq, QXRm27, hR.len, hR.base, hR.base0, hR.bset, hR.bset0, hR.at1, hR.at0, hR.map1, hR.map0, cg, cs, i1, hwi, c1] | refine rd0 rfl ?_))
      refine callK_do (clip_does _ q.l f tk) ?_
      (repeat (first | simp only [↓QA, QB, Nat.reduceLT, reduceIte, Nat.reduceEqDiff, Nat.reduceAdd, Nat.reduceLeDiff, Nat.reduceMul, Nat.reduceBEq, QXRm27, hR.len, hR.base, hR.base0, hR.bset, hR.bset0, hR.at1, hR.at0, hR.map1, hR.map0, hap, cg, cs, i1, hwi] | refine rd0 rfl ?_))
      have hih := fun t (ht : N ≤ t) => ih ⟨q.l ++ [(n : Int)], q.w.inc n, c'⟩ n M2 false (some t) (τ ++ [.cells (planC (q.l.map (.int .i64)) f tk q.w q.c), .tok 1 (q.l.length + 1) true]) (by simp; omega)
       (fun i => by have := inc_bd q.w n i; have := hw i; simp only [List.length_append, List.length_cons, List.length_nil]; omega) (by simp only [List.length_append, List.length_cons, List.length_nil]; omega) (fun u hu => by cases hu; exact ht)
      rw [← hFn] at hih
      simp only [fst, planOfP, planC, NEXT] at hih
      first | refine .mono (hih _ (by omega)) fun o ho => ?_ | (rw [← hc'] at hih; refine .mono (hih _ (by omega)) fun o ho => ?_)
      cases hx : F n M2 with
      | mk x M3 =>
       rw [hx] at ho hq
       cases x with
       | none =>
        simp only at ho hq
        rw [ho.1, ho.2]
        (repeat (first | simp only [↓QA, QB, Nat.reduceLT, reduceIte, Nat.reduceEqDiff, Nat.reduceAdd, Nat.reduceLeDiff, Nat.reduceMul, Nat.reduceBEq, QXRm27, hR.len, hR.base, hR.base0, hR.bset, hR.bset0, hR.at1, hR.at0, hR.map1, hR.map0] | refine rd0 rfl ?_))
        refine ⟨(n + 1, M3), ⟨by simp only; omega, hq⟩, by simp only; omega, ?_⟩
        try simp only [TrimX, QE, Nat.reduceLT, reduceIte, Nat.reduceEqDiff, Nat.reduceAdd, Nat.reduceLeDiff, Nat.reduceMul, Nat.reduceBEq, QXRm27, hR.len, hR.base, hR.base0, hR.bset, hR.bset0, hR.at1, hR.at0, hR.map1, hR.map0, hw1, hR.eqS, T_sr, T_sr0, lpB]
        try simp [okBlk, okVs, okV]
        try omega
       | some x =>
        simp only at ho hq
        obtain ⟨hov, f', tk', plan, τ', htk', hσ⟩ := ho
        subst hq
        rw [hov, hσ]
        (repeat (first | simp only [↓QA, QB, Nat.reduceLT, reduceIte, Nat.reduceEqDiff, Nat.reduceAdd, Nat.reduceLeDiff, Nat.reduceMul, Nat.reduceBEq, QXRm27, hR.len, hR.base, hR.base0, hR.bset, hR.bset0, hR.at1, hR.at0, hR.map1, hR.map0] | refine rd0 rfl ?_))
        exact ⟨f', tk', plan, τ', htk', rfl⟩
    ·have hn1 : n = r.settings.length := by simp at h; omega
     rw [hn1, Nat.sub_self] at hq
     simp only [overN] at hq
     subst hq
     (repeat (first | simp only [↓QA, QB, Nat.reduceLT, reduceIte, Nat.reduceEqDiff, Nat.reduceAdd, Nat.reduceLeDiff, Nat.reduceMul, Nat.reduceBEq, QXRm27, hR.len, hR.base, hR.base0, hR.bset, hR.bset0, hR.at1, hR.at0, hR.map1, hR.map0] | refine rd0 rfl ?_))
     exact ⟨[], by simp⟩
  ·obtain ⟨hj, ho⟩ := ho
   refine ⟨hj, ?_⟩
   cases hn : nextS r now want ch (k + 1) q b0 M with
   | mk x M' =>
    rw [hn] at ho
    cases x with
    | none => exact ⟨.bool true, by simp only [a122, resOf, resAV]; rw [ho.1]; rfl, by obtain ⟨_, τ', hσ⟩ := ho; exact next_leave hR now want b ch many e M q f tk τ hσ ⟨rfl, rfl⟩⟩
    | some x => exact ⟨.bool false, by simp only [a122, resOf, resAV]; rw [ho.1]; rfl, .inl ⟨rfl, ho.2⟩⟩
def OkPl (r : Rm) (s : Span) (b c : Int) (l : List Int) : Prop := changesOf b l ≤ r.opens ∧ givesOf r s l c = true
theorem bestIx_spec (r : Rm) (s : Span) (b c : Int) : ∀ (ls : List (List Int)) (i : Nat) (o : Option (Nat × Int)),
  (bestIx r s b c ls i o = o ∧ ∀ l ∈ ls, OkPl r s b c l → ∃ x, o = some x ∧ x.2 ≤ changesOf b l) ∨
  ∃ j l, ls[j]? = some l ∧ bestIx r s b c ls i o = some (i + j, changesOf b l) ∧ OkPl r s b c l ∧ (∀ x, o = some x → changesOf b l < x.2) ∧
   (∀ l' ∈ ls, OkPl r s b c l' → changesOf b l ≤ changesOf b l') ∧ (∀ (j' : Nat) l', j' < j → ls[j']? = some l' → OkPl r s b c l' → changesOf b l < changesOf b l')
 | [], i, o => .inl ⟨rfl, by simp⟩
 | l :: ls, i, o => by
  simp only [bestIx]
  by_cases hc : changesOf b l ≤ r.opens ∧ betr o (changesOf b l) = true ∧ givesOf r s l c = true
  ·rw [if_pos hc]
   have hok : OkPl r s b c l := ⟨hc.1, hc.2.2⟩
   have hb : ∀ x, o = some x → changesOf b l < x.2 := by
    intro x hx; have := hc.2.1; rw [hx] at this; simpa [betr] using this
   rcases bestIx_spec r s b c ls (i + 1) (some (i, changesOf b l)) with ⟨h1, h2⟩ | ⟨j, l1, h1, h2, h3, h4, h5, h6⟩
   ·refine .inr ⟨0, l, rfl, by rw [h1]; rfl, hok, hb, fun l' hl' ho => ?_, fun j' l' hj => by omega⟩
    rcases List.mem_cons.1 hl' with rfl | hl'
    ·exact Int.le_refl _
    ·obtain ⟨x, hx, hle⟩ := h2 l' hl' ho
     simp only [Option.some.injEq] at hx; subst hx; exact hle
   ·have hlt := h4 _ rfl
    simp only at hlt
    refine .inr ⟨j + 1, l1, by simpa using h1, by rw [h2]; congr 2; omega, h3, fun x hx => by have := hb x hx; omega, fun l' hl' ho => ?_, fun j' l' hj he ho => ?_⟩
    ·rcases List.mem_cons.1 hl' with rfl | hl'
     ·omega
     ·exact h5 l' hl' ho
    ·cases j' with
     | zero => simp only [List.getElem?_cons_zero, Option.some.injEq] at he; subst he; exact hlt
     | succ j' => exact h6 j' l' (by omega) (by simpa using he) ho
  ·rw [if_neg hc]
   have hno : OkPl r s b c l → ∃ x, o = some x ∧ x.2 ≤ changesOf b l := by
    intro ho
    cases o with
    | none => exact absurd ⟨ho.1, rfl, ho.2⟩ hc
    | some x =>
     refine ⟨x, rfl, ?_⟩
     by_cases hlt : changesOf b l < x.2
     ·exact absurd ⟨ho.1, by simpa [betr] using hlt, ho.2⟩ hc
     ·omega
   rcases bestIx_spec r s b c ls (i + 1) o with ⟨h1, h2⟩ | ⟨j, l1, h1, h2, h3, h4, h5, h6⟩
   ·refine .inl ⟨h1, fun l' hl' ho => ?_⟩
    rcases List.mem_cons.1 hl' with rfl | hl'
    ·exact hno ho
    ·exact h2 l' hl' ho
   ·have hlt : OkPl r s b c l → changesOf b l1 < changesOf b l := fun ho => by
     obtain ⟨x, hx, hle⟩ := hno ho; have := h4 x hx; omega
    refine .inr ⟨j + 1, l1, by simpa using h1, by rw [h2]; congr 2; omega, h3, h4, fun l' hl' ho => ?_, fun j' l' hj he ho => ?_⟩
    ·rcases List.mem_cons.1 hl' with rfl | hl'
     ·exact Int.le_of_lt (hlt ho)
     ·exact h5 l' hl' ho
    ·cases j' with
     | zero => simp only [List.getElem?_cons_zero, Option.some.injEq] at he; subst he; exact hlt ho
     | succ j' => exact h6 j' l' (by omega) (by simpa using he) ho
theorem best_cases (r : Rm) (s : Span) (b : Int) (many : Nat) (c : Int) :
  (bestOf r s b many c = none ∧ ∀ l ∈ listsOf r.settings.length many, ¬ OkPl r s b c l) ∨
  ∃ j l, (listsOf r.settings.length many)[j]? = some l ∧ bestOf r s b many c = some (l, changesOf b l) ∧ OkPl r s b c l ∧
   (∀ l' ∈ listsOf r.settings.length many, OkPl r s b c l' → changesOf b l ≤ changesOf b l') ∧ (∀ (j' : Nat) l', j' < j → (listsOf r.settings.length many)[j']? = some l' → OkPl r s b c l' → changesOf b l < changesOf b l') := by
 rcases bestIx_spec r s b c (listsOf r.settings.length many) 0 none with ⟨h1, h2⟩ | ⟨j, l, h1, h2, h3, _, h5, h6⟩
 ·refine .inl ⟨by simp [bestOf, h1], fun l hl ho => ?_⟩
  obtain ⟨x, hx, _⟩ := h2 l hl ho
  cases hx
 ·refine .inr ⟨j, l, h1, ?_, h3, h5, h6⟩
  simp [bestOf, h2, h1]
theorem flat_flat {α β γ : Type} (f : α → List β) (g : β → List γ) : ∀ l : List α, (l.flatMap f).flatMap g = l.flatMap fun a => (f a).flatMap g
 | [] => rfl
 | a :: l => by simp [flat_flat f g l]
theorem flat_map {α β γ : Type} (f : α → β) (g : β → List γ) : ∀ l : List α, (l.map f).flatMap g = l.flatMap fun a => g (f a)
 | [] => rfl
 | a :: l => by simp [flat_map f g l]
theorem map_flat {α β γ : Type} (f : α → List β) (g : β → γ) : ∀ l : List α, (l.flatMap f).map g = l.flatMap fun a => (f a).map g
 | [] => rfl
 | a :: l => by simp [map_flat f g l]
theorem listsOf_front (m : Nat) : ∀ k, listsOf m (k + 1) = (numbers 0 m).flatMap fun n => (listsOf m k).map (n :: ·)
 | 0 => by
  simp only [listsOf, List.flatMap_cons, List.flatMap_nil, List.append_nil, List.nil_append, List.map_cons, List.map_nil]
  generalize numbers 0 m = l
  induction l with
  | nil => rfl
  | cons x l ih => simp [ih]
 | k + 1 => by
  have ih := listsOf_front m k
  have e : listsOf m (k + 1 + 1) = (listsOf m (k + 1)).flatMap fun c => (numbers 0 m).map fun n => c ++ [n] := rfl
  rw [e, ih, flat_flat]
  congr 1
  funext n
  rw [flat_map]
  have e2 : listsOf m (k + 1) = (listsOf m k).flatMap fun c => (numbers 0 m).map fun n => c ++ [n] := rfl
  rw [← ih, e2, map_flat]
  congr 1
  funext c
  simp
theorem find_flat {α β : Type} (f : α → List β) (p : β → Bool) : ∀ l : List α, (l.flatMap f).find? p = l.findSome? fun a => (f a).find? p
 | [] => rfl
 | a :: l => by
  rw [List.flatMap_cons, List.find?_append, find_flat f p l, List.findSome?_cons]
  cases (f a).find? p <;> rfl
theorem findSome_omap {α β γ : Type} (f : α → Option β) (g : β → γ) : ∀ l : List α, (l.findSome? fun a => (f a).map g) = (l.findSome? f).map g
 | [] => rfl
 | a :: l => by
  rw [List.findSome?_cons, List.findSome?_cons, findSome_omap f g l]
  cases f a <;> rfl
theorem find_congr {α : Type} {p q : α → Bool} : ∀ {l : List α}, (∀ a ∈ l, p a = q a) → l.find? p = l.find? q
 | [], _ => rfl
 | a :: l, h => by
  rw [List.find?_cons, List.find?_cons, h a (by simp), find_congr fun b hb => h b (List.mem_cons_of_mem _ hb)]
theorem find_map {α β : Type} (f : α → β) (p : β → Bool) : ∀ l : List α, (l.map f).find? p = (l.find? fun a => p (f a)).map f
 | [] => rfl
 | a :: l => by
  rw [List.map_cons, List.find?_cons, List.find?_cons, find_map f p l]
  cases p (f a) <;> rfl
theorem overN_law {β : Type} {f : Nat → Memo → Option Pl × Memo} {g : Int → Option Pl} (h : ∀ (n : Nat) M, (f n M).1 = g n) : ∀ (j n : Nat) M, (overN f j n M).1 = (numbers n j).findSome? g
 | 0, n, M => rfl
 | j + 1, n, M => by
  have h1 := h n M
  rw [overN, numbers, List.findSome?_cons]
  cases hf : f n M with
  | mk x M' =>
   rw [hf] at h1
   simp only at h1
   rw [← h1]
   cases x with
   | none => simp only; exact overN_law (β := β) h j (n + 1) M'
   | some x => rfl
def W4.incs (w : W4) : List Int → W4
 | [] => w
 | n :: c => (w.inc n.toNat).incs c
def Pl.adds (q : Pl) (b : Int) (c : List Int) : Pl := ⟨q.l ++ c, q.w.incs c, q.c + changesOf b c⟩
theorem adds_add (q : Pl) (b : Int) (n : Nat) (c : List Int) : (q.add b n).adds n c = q.adds b ((n : Int) :: c) := by
 simp only [Pl.add, Pl.adds, W4.incs, Int.toNat_natCast, changesOf, Pl.mk.injEq, List.append_assoc, List.cons_append, List.nil_append, true_and]
 split <;> omega
theorem next_law (r : Rm) (now : Span) (want ch : Int) : ∀ (k : Nat) (q : Pl) (b : Int) (M : Memo),
  (nextS r now want ch k q b M).1 = ((listsOf r.settings.length k).find? fun c => decide (q.c + changesOf b c = ch) && givesW r now (q.w.incs c) want).map (q.adds b)
 | 0, q, b, M => by
  simp only [nextS, listsOf, List.find?_cons, List.find?_nil, changesOf, W4.incs, Int.add_zero]
  by_cases hc : q.c = ch
  ·cases hg : givesW r now q.w want
   ·simp [hc]
   ·simp [hc, Pl.adds, W4.incs, changesOf]
    cases q; simp at hc; subst hc; rfl
  ·simp [hc]
 | k + 1, q, b, M => by
  rw [nextS, listsOf_front, find_flat]
  rw [overN_law (β := Unit) (g := fun n => ((((listsOf r.settings.length k).map (n :: ·)).find? fun c => decide (q.c + changesOf b c = ch) && givesW r now (q.w.incs c) want).map (q.adds b)))]
  ·rw [findSome_omap]; rfl
  ·intro n M
   rw [find_map]
   by_cases hp : 0 ≤ b ∧ (n : Int) ≠ b ∧ q.c = ch
   ·rw [if_pos hp]
    have : (listsOf r.settings.length k).find? (fun c => decide (q.c + changesOf b ((n : Int) :: c) = ch) && givesW r now (q.w.incs ((n : Int) :: c)) want) = none := by
     rw [List.find?_eq_none]
     intro c _
     have := (changesOf_bd c n).1
     have he : ¬ q.c + changesOf b ((n : Int) :: c) = ch := by
      simp only [changesOf, hp.1, hp.2.1, ne_eq, not_false_eq_true, and_self, if_true]
      omega
     simp [he]
    rw [this]; rfl
   ·rw [if_neg hp, next_law r now want ch k (q.add b n) n M]
    have e : (fun c => decide ((q.add b n).c + changesOf n c = ch) && givesW r now ((q.add b n).w.incs c) want) = fun c => decide (q.c + changesOf b ((n : Int) :: c) = ch) && givesW r now (q.w.incs ((n : Int) :: c)) want := by
     funext c
     have := adds_add q b n c
     simp only [Pl.adds, Pl.mk.injEq] at this
     rw [this.2.1, this.2.2]
    rw [e]
    cases (listsOf r.settings.length k).find? (fun c => decide (q.c + changesOf b ((n : Int) :: c) = ch) && givesW r now (q.w.incs ((n : Int) :: c)) want) with
    | none => rfl
    | some c => simp [adds_add]
theorem inc_at (w : W4) (n i : Nat) (hn : n < 4) : (w.inc n).at i = if i = n then w.at i + 1 else w.at i := by
 match n, hn with
 | 0, _ => match i with | 0 | 1 | 2 | 3 => simp [W4.inc, W4.at] | i + 4 => simp [W4.inc, W4.at]
 | 1, _ => match i with | 0 | 1 | 2 | 3 => simp [W4.inc, W4.at] | i + 4 => simp [W4.inc, W4.at]
 | 2, _ => match i with | 0 | 1 | 2 | 3 => simp [W4.inc, W4.at] | i + 4 => simp [W4.inc, W4.at]
 | 3, _ => match i with | 0 | 1 | 2 | 3 => simp [W4.inc, W4.at] | i + 4 => simp [W4.inc, W4.at]
theorem waysTo_inc (r : Rm) (w : W4) (n : Nat) (hn : n < 4) : ∀ k, k ≤ r.settings.length → waysTo r (w.inc n) k = if n < k then plus (waysTo r w k) (gainN r n) else waysTo r w k
 | 0, _ => by simp [waysTo]
 | k + 1, hk => by
  have ih := waysTo_inc r w n hn k (by omega)
  rw [waysTo_succ (w := w.inc n) hk, waysTo_succ (w := w) hk, ih, inc_at w n k hn]
  by_cases h1 : n < k
  ·rw [if_pos h1, if_pos (show n < k + 1 by omega), if_neg (show ¬ k = n by omega)]
   simp only [plus, Span.mk.injEq]; omega
  ·by_cases h2 : n = k
   ·subst h2
    rw [if_neg (show ¬ n < n by omega), if_pos (show n < n + 1 by omega), if_pos rfl]
    have hg : gainN r n = r.settings[n].gain := gainN_eq (show (n : Int).toNat < _ from hk)
    rw [hg]
    have e1 := Int.add_mul (w.at n) 1 r.settings[n].gain.lo
    have e2 := Int.add_mul (w.at n) 1 r.settings[n].gain.hi
    simp only [plus, Span.mk.injEq]; omega
   ·rw [if_neg h1, if_neg (show ¬ n < k + 1 by omega), if_neg (show ¬ k = n by omega)]
theorem waySum_inc {r : Rm} (h4 : r.settings.length ≤ 4) (w : W4) {n : Nat} (hn : n < r.settings.length) : waySum r (w.inc n) = plus (waySum r w) (gainN r n) := by
 rw [waySum, waysTo_inc r w n (by omega) _ (Nat.le_refl _), if_pos hn]; rfl
theorem waySum_incs {r : Rm} (h4 : r.settings.length ≤ 4) : ∀ (c : List Int) (w : W4), (∀ n ∈ c, 0 ≤ n ∧ n < r.settings.length) → waySum r (w.incs c) = plus (waySum r w) (sumS r c)
 | [], w, _ => by simp [W4.incs, sumS, plus]
 | n :: c, w, h => by
  have hn := h n (by simp)
  rw [W4.incs, waySum_incs h4 c _ fun m hm => h m (List.mem_cons_of_mem _ hm), waySum_inc h4 w (by omega), sumS, plus_assoc, show ((n.toNat : Nat) : Int) = n by omega]
def W4.zero : W4 := ⟨0, 0, 0, 0⟩
theorem waysTo_zero (r : Rm) : ∀ k, k ≤ r.settings.length → waysTo r W4.zero k = ⟨0, 0⟩
 | 0, _ => rfl
 | k + 1, h => by
  rw [waysTo_succ h, waysTo_zero r k (by omega)]
  have : W4.zero.at k = 0 := by match k with | 0 | 1 | 2 | 3 => rfl | k + 4 => rfl
  simp [plus, this]
theorem gives_eq {r : Rm} (h4 : r.settings.length ≤ 4) (now : Span) (want : Int) (c : List Int) (h : ∀ n ∈ c, 0 ≤ n ∧ n < r.settings.length) : givesW r now (W4.zero.incs c) want = givesOf r now c want := by
 have e : waySum r W4.zero = ⟨0, 0⟩ := waysTo_zero r _ (Nat.le_refl _)
 rw [givesW, waySum_incs h4 c _ h, e]
 simp [givesOf, colours, plus]
theorem findSome_numbers {α : Type} {g : Int → Option α} : ∀ {K : Nat} {a : Int} {n : Nat} {x : α}, n < K → g (a + n) = some x → (∀ i : Nat, i < n → g (a + i) = none) → (numbers a K).findSome? g = some x
 | 0, a, n, x, hn, _, _ => by omega
 | K + 1, a, 0, x, hn, hx, _ => by
  rw [numbers, List.findSome?_cons]
  have : g a = some x := by simpa using hx
  rw [this]
 | K + 1, a, n + 1, x, hn, hx, hlt => by
  rw [numbers, List.findSome?_cons]
  have h0 := hlt 0 (by omega)
  have : g a = none := by simpa using h0
  rw [this]
  refine findSome_numbers (n := n) (by omega) ?_ fun i hi => ?_
  ·rw [show a + 1 + (n : Int) = a + ((n + 1 : Nat) : Int) by omega]; exact hx
  ·rw [show a + 1 + (i : Int) = a + ((i + 1 : Nat) : Int) by omega]; exact hlt (i + 1) (by omega)
theorem find_at {α : Type} {p : α → Bool} : ∀ {l : List α} {j : Nat} {x : α}, l[j]? = some x → p x = true → (∀ (j' : Nat) y, j' < j → l[j']? = some y → p y = false) → l.find? p = some x
 | [], j, x, h, _, _ => by simp at h
 | a :: l, 0, x, h, hp, _ => by
  simp at h; subst h
  rw [List.find?_cons, hp]
 | a :: l, j + 1, x, h, hp, hlt => by
  rw [List.find?_cons, hlt 0 a (by omega) rfl]
  exact find_at (by simpa using h) hp fun j' y hj hy => hlt (j' + 1) y (by omega) (by simpa using hy)
def Pl.zero : Pl := ⟨[], W4.zero, 0⟩
def firstS (r : Rm) (now : Span) (b : Int) (many : Nat) (want : Int) (M : Memo) : Option Pl × Memo := overN (fun ch M => nextS r now want ch many Pl.zero b M) (min r.opens many + 1).toNat 0 M
theorem first_law {r : Rm} (hv : Vd r) (now : Span) (b : Int) (many : Nat) (want : Int) (M : Memo) : (firstS r now b many want M).1 = (bestOf r now b many want).map fun x => Pl.zero.adds b x.1 := by
 have h4 := hv.nset.2
 have hsp := listsOf_spec r.settings.length many
 have hlaw := overN_law (β := Unit) (f := fun ch M => nextS r now want ch many Pl.zero b M) (g := fun ch => ((listsOf r.settings.length many).find? fun c => decide (changesOf b c = ch) && givesOf r now c want).map (Pl.zero.adds b)) (by
  intro n M
  rw [next_law]
  congr 1
  refine find_congr fun c hc => ?_
  have e1 : Pl.zero.w = W4.zero := rfl
  have e2 : Pl.zero.c = 0 := rfl
  rw [e1, e2, gives_eq h4 now want c (hsp c hc).2, Int.zero_add]) (min r.opens many + 1).toNat 0 M
 rw [firstS, hlaw, findSome_omap]
 have ho := hv.opens
 rcases best_cases r now b many want with ⟨h1, h2⟩ | ⟨j, l, h1, h2, h3, h4, h5⟩
 ·rw [h1]
  have : (numbers ((0 : Nat) : Int) (min r.opens many + 1).toNat).findSome? (fun ch => (listsOf r.settings.length many).find? fun c => decide (changesOf b c = ch) && givesOf r now c want) = none := by
   rw [List.findSome?_eq_none_iff]
   intro ch hch
   rw [List.find?_eq_none]
   intro c hc
   simp only [Bool.and_eq_true, decide_eq_true_eq, not_and]
   rintro rfl hg
   rw [numbers_mem] at hch
   exact h2 c hc ⟨by omega, hg⟩
  rw [this]; rfl
 ·rw [h2]
  have hmem := List.mem_of_getElem? h1
  have hbd := changesOf_bd l b
  have hlen := (hsp l hmem).1
  have hopn := h3.1
  have : (numbers ((0 : Nat) : Int) (min r.opens many + 1).toNat).findSome? (fun ch => (listsOf r.settings.length many).find? fun c => decide (changesOf b c = ch) && givesOf r now c want) = some l := by
   refine findSome_numbers (n := (changesOf b l).toNat) (by omega) ?_ fun i hi => ?_
   ·refine find_at h1 ?_ fun j' y hj hy => ?_
    ·simp only [Bool.and_eq_true, decide_eq_true_eq]; exact ⟨by omega, h3.2⟩
    ·rw [Bool.eq_false_iff]
     simp only [ne_eq, Bool.and_eq_true, decide_eq_true_eq, not_and]
     intro he hg
     have := h5 j' y hj hy ⟨by omega, hg⟩
     omega
   ·rw [List.find?_eq_none]
    intro c hc
    simp only [Bool.and_eq_true, decide_eq_true_eq, not_and]
    intro he hg
    have := h4 c hc ⟨by omega, hg⟩
    omega
  rw [this]; rfl
end Go.Am.Room
set_option maxRecDepth 4000
namespace Go.Am.Room
def QXRm28 := And.intro @Nat.mul_one (And.intro @Int.toNat_natCast (And.intro @encSpan_eq (And.intro @Nat.add_lt_add_iff_left (And.intro @Nat.lt_add_right_iff_pos (And.intro @T_sapp (And.intro @encW_eq (And.intro @List.length_append.{0} (@rb_4))))))))
theorem C_yield (i : Nat) : cellsOk 1 (.yield i) = true := by simp [cellsOk, AV.cells, AV.cell]
theorem K_yield (i : Nat) : (AV.yield i).cells = [.yield i] := by simp [AV.cells]
theorem rK_range {f : AOpd} {g : FuncId} {first cap : List AV} {ps : List Nat} {a b : ACode} {e : Env} {σ : St} {K : KJ} {R : Out → Prop} (hf : f.ev e = .func g first cap)
  (h : Run T (.call g (first ++ [.yield σ.length] ++ cap) (σ ++ [.loop .ready none e ps a b])) R)
  (h1 : ∀ o, R o → ∃ st pend env' ps' a' b', o.σ[σ.length]? = some (.loop st pend env' ps' a' b') ∧ st ≠ .busy ∧ K pend e (o.σ.set σ.length .dead)) : rK (K := ⟨K⟩) T (.rangeFunc f ps a b) e σ := .rangeFunc hf h h1
theorem does_memo {S : Memo → St} {r : Rm} {ps : Nat → Span} {p m N : Nat} (hR : RoomAt S r ps p m N) {f : FuncId} {first cap args : List AV} {af : AFunc} {v : AV} {M M' : Memo} (hf : T f = some af) (hn : (first ++ args ++ cap).length ≤ af.ntmps)
  (h : wp T af.body (argsEnv 0 (first ++ args ++ cap)) (S M) (fun j e σ1 => (j = none ∨ j = some .ret) ∧ ∃ v0 τ, resOf af.results e σ1 = some v0 ∧ σ1 = S M' ++ τ ∧ snapM σ1 N 20 v0 = some v)) : Does T (.func f first cap) args (S M) v (S M') := by
 refine .callf (.call hf hn (run_wp h fun o ho => ho) fun o ho => ?_)
 obtain ⟨hj, v0, τ, hres, hσ, h4⟩ := ho
 refine ⟨hj, v0, hres, ?_⟩
 unfold snapM at h4
 cases hs : snap o.σ N 20 v0 with
 | none => rw [hs] at h4; cases h4
 | some v1 =>
  rw [hs] at h4
  simp at h4
  refine .inr ⟨20, v1, v, by rw [hR.len]; exact hs, .inr h4.symm, hR.kept hσ, ?_, rfl, ?_⟩
  ·rw [hσ, List.length_append, hR.len, hR.len]; omega
  ·rw [hσ, hR.len, ← hR.len M', List.take_left]
def fst6 (now : Span) (want : Int) (p N : Nat) : St :=
 [.cells [.ptr p 0], .cells [.int .i64 now.lo, .int .i64 now.hi], .cells [.int .i64 want], .cells zeroP, .cells [.bool false], .cells [.func 112 [] [.ptr (N + 1) 0, .ptr N 0, .ptr (N + 2) 0]]]
def fst4 (b many ch : Int) (p : Nat) : St := [.cells [.ptr p 0], .cells [.int .i64 b], .cells [.int .i64 many], .cells [.int .i64 ch]]
theorem plans1_run {S : Memo → St} {r : Rm} {ps : Nat → Span} {p m N : Nat} (hR : RoomAt S r ps p m N) (hv : Vd r) (now : Span) (want b ch : Int) (many : Nat) (h0 : 0 ≤ now.lo) (h1 : now.lo < 1000) (h2 : 0 ≤ now.hi) (h3 : now.hi < 1000)
  (e : Env) (e10 : Env.get e 10 = .ptr (N + 3) 0) (e11 : Env.get e 11 = .ptr (N + 4) 0) (e12 : Env.get e 12 = .ptr (N + 5) 0) (hmany : many ≤ 8) (M : Memo) :
  Run T (.call 121 [.yield (N + 10), .ptr (N + 8) 0, .ptr (N + 9) 0, .ptr (N + 6) 0, .ptr (N + 7) 0] (S M ++ (fst6 now want p N ++ (fst4 b many ch p ++ [lpB .ready none e])))) fun o =>
   match nextS r now want ch many Pl.zero b M with
   | (some x, M') => ∃ f' tk' plan τ', (∀ t, tk' = some t → N ≤ t) ∧ o.σ = S M' ++ (fst now want b many ch p N (planOfP x f' tk') true (lpB .done (some .ret) e) plan ++ τ')
   | (none, M') => o.σ = S M' ++ fst now want b many ch p N zeroP false (lpB .ready none e) zeroP := by
 refine .call (af := a121) rfl (by simp [a121]) (run_wp (K := fun j e' σ1 => (j = none ∨ j = some .ret) ∧ 
   match nextS r now want ch many Pl.zero b M with
   | (some x, M') => ∃ f' tk' plan τ', (∀ t, tk' = some t → N ≤ t) ∧ σ1 = S M' ++ (fst now want b many ch p N (planOfP x f' tk') true (lpB .done (some .ret) e) plan ++ τ')
   | (none, M') => σ1 = S M' ++ fst now want b many ch p N zeroP false (lpB .ready none e) zeroP) ?_ fun o ho => ho) fun o ho => ⟨ho.1, .tuple [], rfl, .inl ho.2⟩
 have hn := next_ok hR hv now want b ch many h0 h1 h2 h3 e e10 e11 e12 hmany many Pl.zero b M true none [] (by simp [Pl.zero]) (fun i => by simp [Pl.zero, W4.zero]; match i with | 0 | 1 | 2 | 3 => simp [W4.at] | i + 4 => simp [W4.at]) (by simp [Pl.zero]) (fun t h => by cases h)
 obtain ⟨R, hR0⟩ : ∃ R, nextS r now want ch many Pl.zero b M = R := ⟨_, rfl⟩
 rw [hR0] at hn ⊢
 simp only [fst, fst6, fst4, planOfP, planC, NEXT, Pl.zero, List.map_nil, W4.zero, lpB, zeroP] at hn ⊢
 try simp only [↓QA, QB, Nat.reduceLT, reduceIte, Nat.reduceEqDiff, Nat.reduceAdd, Nat.reduceLeDiff, Nat.reduceMul, Nat.reduceBEq, QXRm28, hR.len, hR.base, hR.base0, hR.bset, hR.bset0, hR.at1, hR.at0, hR.map1, hR.map0] at hn
 (repeat (first | simp only [↓QA, QB, Nat.reduceLT, reduceIte, Nat.reduceEqDiff, Nat.reduceAdd, Nat.reduceLeDiff, Nat.reduceMul, Nat.reduceBEq, QXRm28, hR.len, hR.base, hR.base0, hR.bset, hR.bset0, hR.at1, hR.at0, hR.map1, hR.map0, a121, C_yield, K_yield] | refine rd0 rfl ?_))
 refine .mono hn fun o ho => ?_
 obtain ⟨x, M'⟩ := R
 cases x with
 | none =>
  simp only at ho ⊢
  rw [ho.1, ho.2]
  (repeat (first | simp only [↓QA, QB, Nat.reduceLT, reduceIte, Nat.reduceEqDiff, Nat.reduceAdd, Nat.reduceLeDiff, Nat.reduceMul, Nat.reduceBEq, QXRm28, hR.len, hR.base, hR.base0, hR.bset, hR.bset0, hR.at1, hR.at0, hR.map1, hR.map0] | refine rd0 rfl ?_))
 | some x =>
  simp only at ho ⊢
  rw [ho.1]
  (repeat (first | simp only [↓QA, QB, Nat.reduceLT, reduceIte, Nat.reduceEqDiff, Nat.reduceAdd, Nat.reduceLeDiff, Nat.reduceMul, Nat.reduceBEq, QXRm28, hR.len, hR.base, hR.base0, hR.bset, hR.bset0, hR.at1, hR.at0, hR.map1, hR.map0] | refine rd0 rfl ?_))
  exact ho.2
theorem first_range {S : Memo → St} {r : Rm} {ps : Nat → Span} {p m N : Nat} (hR : RoomAt S r ps p m N) (hv : Vd r) (now : Span) (want b ch : Int) (many : Nat) (h0 : 0 ≤ now.lo) (h1 : now.lo < 1000) (h2 : 0 ≤ now.hi) (h3 : now.hi < 1000)
  (e : Env) (e10 : Env.get e 10 = .ptr (N + 3) 0) (e11 : Env.get e 11 = .ptr (N + 4) 0) (e12 : Env.get e 12 = .ptr (N + 5) 0) (e31 : Env.get e 31 = .func 121 [] [.ptr (N + 8) 0, .ptr (N + 9) 0, .ptr (N + 6) 0, .ptr (N + 7) 0]) (hmany : many ≤ 8) (M : Memo) (K : KJ)
  (hS : ∀ x M' f' tk' plan τ', nextS r now want ch many Pl.zero b M = (some x, M') → (∀ t, tk' = some t → N ≤ t) → K (some .ret) e (S M' ++ (fst now want b many ch p N (planOfP x f' tk') true .dead plan ++ τ')))
  (hN : ∀ M', nextS r now want ch many Pl.zero b M = (none, M') → K none e (S M' ++ fst now want b many ch p N zeroP false .dead zeroP)) :
  rK (K := ⟨K⟩) T (.rangeFunc (.t 31) [32] RA F88_0) e (S M ++ (fst6 now want p N ++ fst4 b many ch p)) := by
 have hl : (S M ++ (fst6 now want p N ++ fst4 b many ch p)).length = N + 10 := by simp [List.length_append, hR.len, fst6, fst4]
 have hp := plans1_run hR hv now want b ch many h0 h1 h2 h3 e e10 e11 e12 hmany M
 refine rK_range (by rw [q_evt, e31]) (by rw [hl, List.append_assoc, List.append_assoc]; exact hp) fun o ho => ?_
 rw [hl]
 have hid : ∀ (M : Memo) (υ : St), (S M ++ υ)[N + 10]? = υ[10]? := fun M υ => by rw [← hR.len M]; exact st_get _ _ _
 cases hx : nextS r now want ch many Pl.zero b M with
 | mk x M' =>
  rw [hx] at ho
  cases x with
  | none =>
   simp only at ho
   rw [ho, hid, hR.bset]
   exact ⟨_, _, _, _, _, _, rfl, by simp, hN M' hx⟩
  | some x =>
   simp only at ho
   obtain ⟨f', tk', plan, τ', htk, hσ⟩ := ho
   rw [hσ, hid, hR.bset]
   exact ⟨_, _, _, _, _, _, rfl, by simp, hS x M' f' tk' plan τ' hx htk⟩
def firstV (o : Option Pl) : AV := match o with
 | none => .tuple [.agg (planC [] false none W4.zero 0), .bool false]
 | some x => .tuple [.agg (planC (x.l.map (.int .i64)) false none x.w x.c), .bool true]
theorem first_does {S : Memo → St} {r : Rm} {ps : Nat → Span} {p m N : Nat} (hR : RoomAt S r ps p m N) (hv : Vd r) (now : Span) (want b : Int) (many : Nat) (h0 : 0 ≤ now.lo) (h1 : now.lo < 1000) (h2 : 0 ≤ now.hi) (h3 : now.hi < 1000) (hmany : many ≤ 8) (M : Memo) (fs az : List AV) (hfa : fs ++ az ++ [] = [.ptr p 0, encSpan now, .int .i64 b, .int .i64 many, .int .i64 want]) :
  Does T (.func 88 fs []) az (S M) (firstV (firstS r now b many want M).1) (S (firstS r now b many want M).2) := by
 have ho := hv.opens
 obtain ⟨K, hK⟩ : ∃ K, (min r.opens many + 1).toNat = K := ⟨_, rfl⟩
 have hwK : IntKind.i64.wrap (min r.opens (many : Int) + 1) = (K : Int) := by rw [wrap64 ⟨by omega, by omega⟩]; omega
 have hK8 : K ≤ 7 := by omega
 obtain ⟨F, hF⟩ : ∃ F : Nat → Memo → Option Pl × Memo, F = fun (ch : Nat) M => nextS r now want ch many Pl.zero b M := ⟨_, rfl⟩
 have hspec : firstS r now b many want M = overN F K 0 M := by rw [hF, ← hK]; rfl
 obtain ⟨R, hR0⟩ : ∃ R, overN F K 0 M = R := ⟨_, rfl⟩
 rw [hspec, hR0]
 refine does_memo hR (af := a88) rfl (by rw [hfa]; simp [a88]) ?_
 rw [hfa]
 (repeat (first | simp only [↓QA, QB, Nat.reduceLT, reduceIte, Nat.reduceEqDiff, Nat.reduceAdd, Nat.reduceLeDiff, Nat.reduceMul, Nat.reduceBEq, QXRm28, hR.len, hR.base, hR.base0, hR.bset, hR.bset0, hR.at1, hR.at0, hR.map1, hR.map0, a88, hwK] | refine rd0 rfl ?_))
 refine loopE (S := Nat × Memo) (0, M) (fun s => s.1 ≤ K ∧ overN F (K - s.1) s.1 s.2 = R) (fun s => K - s.1)
  (fun s => [(2, .int .i64 b), (3, .int .i64 many), (5, .ptr N 0), (10, .ptr (N + 3) 0), (11, .ptr (N + 4) 0), (12, .ptr (N + 5) 0), (23, .int .i64 K), (24, .int .i64 s.1)])
  (fun s => S s.2 ++ fst6 now want p N) ⟨by simp, hR0⟩ rfl ?_ fun s hs => ?_
 ·try simp only [TrimX, QE, Nat.reduceLT, reduceIte, Nat.reduceEqDiff, Nat.reduceAdd, Nat.reduceLeDiff, Nat.reduceMul, Nat.reduceBEq, QXRm28, hR.len, hR.base, hR.base0, hR.bset, hR.bset0, hR.at1, hR.at0, hR.map1, hR.map0]
  try simp
 ·obtain ⟨n, M2⟩ := s
  obtain ⟨hn, hq⟩ := hs
  simp only at hn hq
  simp only [fst6, zeroP]
  (repeat (first | simp only [↓QA, QB, Nat.reduceLT, reduceIte, Nat.reduceEqDiff, Nat.reduceAdd, Nat.reduceLeDiff, Nat.reduceMul, Nat.reduceBEq, QXRm28, hR.len, hR.base, hR.base0, hR.bset, hR.bset0, hR.at1, hR.at0, hR.map1, hR.map0, L88_0] | refine rd0 rfl ?_))
  refine iteP_intro (fun h => ?_) fun h => ?_
  ·have hn1 : n < K := by simpa using h
   have hw1 := wrapN hn1 (by omega)
   rw [show K - n = (K - (n + 1)) + 1 by omega] at hq
   simp only [overN] at hq
   (repeat (first | simp only [↓QA, QB, Nat.reduceLT, reduceIte, Nat.reduceEqDiff, Nat.reduceAdd, Nat.reduceLeDiff, Nat.reduceMul, Nat.reduceBEq, QXRm28, hR.len, hR.base, hR.base0, hR.bset, hR.bset0, hR.at1, hR.at0, hR.map1, hR.map0] | refine rd0 rfl ?_))
   refine callK_in rfl (by simp [a114]) ?_
   (repeat (first | simp only [↓QA, QB, Nat.reduceLT, reduceIte, Nat.reduceEqDiff, Nat.reduceAdd, Nat.reduceLeDiff, Nat.reduceMul, Nat.reduceBEq, QXRm28, hR.len, hR.base, hR.base0, hR.bset, hR.bset0, hR.at1, hR.at0, hR.map1, hR.map0, a114] | refine rd0 rfl ?_))
   have hFn : F n M2 = nextS r now want n many Pl.zero b M2 := by rw [hF]
   refine first_range hR hv now want b n many h0 h1 h2 h3 _ ?_ ?_ ?_ ?_ hmany M2 _ ?_ ?_
   ·try simp only [TrimX, QE, Nat.reduceLT, reduceIte, Nat.reduceEqDiff, Nat.reduceAdd, Nat.reduceLeDiff, Nat.reduceMul, Nat.reduceBEq, QXRm28, hR.len, hR.base, hR.base0, hR.bset, hR.bset0, hR.at1, hR.at0, hR.map1, hR.map0]
   ·try simp only [TrimX, QE, Nat.reduceLT, reduceIte, Nat.reduceEqDiff, Nat.reduceAdd, Nat.reduceLeDiff, Nat.reduceMul, Nat.reduceBEq, QXRm28, hR.len, hR.base, hR.base0, hR.bset, hR.bset0, hR.at1, hR.at0, hR.map1, hR.map0]
   ·try simp only [TrimX, QE, Nat.reduceLT, reduceIte, Nat.reduceEqDiff, Nat.reduceAdd, Nat.reduceLeDiff, Nat.reduceMul, Nat.reduceBEq, QXRm28, hR.len, hR.base, hR.base0, hR.bset, hR.bset0, hR.at1, hR.at0, hR.map1, hR.map0]
   ·try simp only [TrimX, QE, Nat.reduceLT, reduceIte, Nat.reduceEqDiff, Nat.reduceAdd, Nat.reduceLeDiff, Nat.reduceMul, Nat.reduceBEq, QXRm28, hR.len, hR.base, hR.base0, hR.bset, hR.bset0, hR.at1, hR.at0, hR.map1, hR.map0]
   ·intro x M' f' tk' plan τ' hx htk
    rw [hFn, hx] at hq
    simp only at hq
    subst hq
    simp only [fst, planOfP, planC, firstV]
    (repeat (first | simp only [↓QA, QB, Nat.reduceLT, reduceIte, Nat.reduceEqDiff, Nat.reduceAdd, Nat.reduceLeDiff, Nat.reduceMul, Nat.reduceBEq, QXRm28, hR.len, hR.base, hR.base0, hR.bset, hR.bset0, hR.at1, hR.at0, hR.map1, hR.map0] | refine rd0 rfl ?_))
    refine ⟨_, _, rfl, rfl, ?_⟩
    cases tk' with
    | none => try simp only [QS, QC, Nat.reduceLT, reduceIte, Nat.reduceEqDiff, Nat.reduceAdd, Nat.reduceLeDiff, Nat.reduceMul, Nat.reduceBEq, QXRm28, hR.len, hR.base, hR.base0, hR.bset, hR.bset0, hR.at1, hR.at0, hR.map1, hR.map0, Bool.and_false]
    | some t =>
     have := htk t rfl
     try simp only [QS, QC, Nat.reduceLT, reduceIte, Nat.reduceEqDiff, Nat.reduceAdd, Nat.reduceLeDiff, Nat.reduceMul, Nat.reduceBEq, QXRm28, hR.len, hR.base, hR.base0, hR.bset, hR.bset0, hR.at1, hR.at0, hR.map1, hR.map0, Nat.not_lt.2 this]
   ·intro M' hx
    rw [hFn, hx] at hq
    simp only at hq
    simp only [fst, zeroP]
    (repeat (first | simp only [↓QA, QB, Nat.reduceLT, reduceIte, Nat.reduceEqDiff, Nat.reduceAdd, Nat.reduceLeDiff, Nat.reduceMul, Nat.reduceBEq, QXRm28, hR.len, hR.base, hR.base0, hR.bset, hR.bset0, hR.at1, hR.at0, hR.map1, hR.map0, hw1] | refine rd0 rfl ?_))
    refine ⟨(n + 1, M'), ⟨by simp only; omega, hq⟩, by simp only; omega, ?_⟩
    try simp only [TrimX, QE, Nat.reduceLT, reduceIte, Nat.reduceEqDiff, Nat.reduceAdd, Nat.reduceLeDiff, Nat.reduceMul, Nat.reduceBEq, QXRm28, hR.len, hR.base, hR.base0, hR.bset, hR.bset0, hR.at1, hR.at0, hR.map1, hR.map0, hw1, hR.eqS, T_sr, T_sr0]
    try simp [okBlk, okVs, okV]
  ·have hn1 : n = K := by simp at h; omega
   rw [hn1, Nat.sub_self] at hq
   simp only [overN] at hq
   subst hq
   (repeat (first | simp only [↓QA, QB, Nat.reduceLT, reduceIte, Nat.reduceEqDiff, Nat.reduceAdd, Nat.reduceLeDiff, Nat.reduceMul, Nat.reduceBEq, QXRm28, hR.len, hR.base, hR.base0, hR.bset, hR.bset0, hR.at1, hR.at0, hR.map1, hR.map0] | refine rd0 rfl ?_))
   refine ⟨_, _, rfl, rfl, ?_⟩
   try simp only [QS, QC, Nat.reduceLT, reduceIte, Nat.reduceEqDiff, Nat.reduceAdd, Nat.reduceLeDiff, Nat.reduceMul, Nat.reduceBEq, QXRm28, hR.len, hR.base, hR.base0, hR.bset, hR.bset0, hR.at1, hR.at0, hR.map1, hR.map0, firstV, planC, W4.zero]
end Go.Am.Room
set_option maxRecDepth 4000
namespace Go.Am.Room
def QXRm29 := And.intro @setE_eq (And.intro @bits_len (And.intro @bits_cell (And.intro @bits_take (And.intro @bits_drop (And.intro @bits_zero (And.intro @Nat.mul_one (And.intro @Int.toNat_natCast (And.intro @encRoom_eq (And.intro @roomCells_eq (And.intro @encSetting_eq (And.intro @encLook_eq (And.intro @encSpan_eq (And.intro @S_bits (And.intro @Nat.add_lt_add_iff_left (And.intro @Nat.lt_add_right_iff_pos (And.intro @T_sapp (@List.length_append.{0})))))))))))))))))
def entS (σ : St) (r : Rm) (ps : Nat → Span) (M : Memo) : St := σ ++ [.cells (roomCells r), .cells (roomCells r), .map (memoEs r M), .cells (rb r ps (σ.length + 2))]
theorem room_at (σ : St) (r : Rm) (ps : Nat → Span) : RoomAt (entS σ r ps) r ps (σ.length + 3) (σ.length + 2) (σ.length + 4) :=
 ⟨fun M => by simp [entS], fun M => by simp [entS, M_base, M_atS, M_at0], fun M => by rw [entS, st_get]; rfl, fun M M' => by rw [entS, entS, st_set]; rfl, by omega, by omega⟩
theorem enterSt_eq (σ : St) (r : Rm) (eo : Int) (h : enterE r eo = 0) : enterSt σ r eo = entS σ r (psB r []) [] := by rw [enterSt, if_pos h]; rfl
theorem first_at {S : Memo → St} {r : Rm} {ps : Nat → Span} {p m N : Nat} (hR : RoomAt S r ps p m N) (hv : Vd r) (now : Span) (want b : Int) (many : Nat) (h0 : 0 ≤ now.lo) (h1 : now.lo < 1000) (h2 : 0 ≤ now.hi) (h3 : now.hi < 1000) (hmany : many ≤ 8) (M : Memo) (fs az : List AV) (hfa : fs ++ az ++ [] = [.ptr p 0, encSpan now, .int .i64 b, .int .i64 many, .int .i64 want]) :
  ∃ M', Does T (.func 88 fs []) az (S M) (firstV ((bestOf r now b many want).map fun x => Pl.zero.adds b x.1)) (S M') :=
 ⟨(firstS r now b many want M).2, by rw [← first_law hv now b many want M]; exact first_does hR hv now want b many h0 h1 h2 h3 hmany M fs az hfa⟩
theorem best_changes {r : Rm} {s : Span} {b c : Int} {many : Nat} {x : List Int × Int} (h : bestOf r s b many c = some x) : x.2 = changesOf b x.1 := by
 rcases best_cases r s b many c with ⟨h1, _⟩ | ⟨j, l, _, h2, _⟩
 ·rw [h1] at h; cases h
 ·rw [h2] at h; cases h; rfl
theorem plan_ok (r : Rm) (day c : Int) (hf : Fits r) : Pure T 29 [encRoom r, .int .i64 day, .int .i64 c] (encLNE (planOf r day c)) := by
 refine pure_fn (af := a29) rfl (by simp [a29]) dd ?_
 (repeat (first | simp only [↓QA, QB, Nat.reduceLT, reduceIte, Nat.reduceEqDiff, Nat.reduceAdd, Nat.reduceLeDiff, Nat.reduceMul, Nat.reduceBEq, QXRm29, a29] | refine rd0 rfl ?_))
 refine callD_do (within_run _ _ _) ?_
 (repeat (first | simp only [↓QA, QB, Nat.reduceLT, reduceIte, Nat.reduceEqDiff, Nat.reduceAdd, Nat.reduceLeDiff, Nat.reduceMul, Nat.reduceBEq, QXRm29] | refine rd0 rfl ?_))
 obtain ⟨eo, heo⟩ : ∃ eo, eo = withinE [day, (r.ran.length : Int), r.days, c, 1, 7] := ⟨_, rfl⟩
 refine callD_do (enter_run _ r _ eo hf ?_) ?_
 ·intro _
  have := within1_ok [.cells (roomCells r), .cells [.lit [.int .i64 day, .int .i64 r.ran.length, .int .i64 r.days, .int .i64 c, .int .i64 1, .int .i64 7] true none], .cells (roomCells r)] 1 [day, r.ran.length, r.days, c, 1, 7] true none (by simp) (by simp [cellsAt]) (by simp)
  rw [roomCells_eq, ← heo] at this
  try simp only [↓QA, QB, Nat.reduceLT, reduceIte, Nat.reduceEqDiff, Nat.reduceAdd, Nat.reduceLeDiff, Nat.reduceMul, Nat.reduceBEq, QXRm29]
  exact this
 have he : enterE r eo = planErr r day c := by
  rw [heo]
  simp only [enterE, planErr, errWant, errAsk, withinE, isColour]
  congr 1
  by_cases hc : (check r).2.2 = 0
  ·simp only [hc, if_true]
   cases inR day r.ran.length r.days
   ·simp
   ·simp; rfl
  ·simp [hc]
 by_cases h0 : planErr r day c = 0
 ·obtain ⟨h1, hs⟩ := errKnown_ok h0
  obtain ⟨h2, hc1, hc2⟩ := errWant_ok h1
  obtain ⟨hv, hd0, hd1⟩ := errAsk_ok h2
  have hdd := hv.days
  have hdr := hv.ranLen
  obtain ⟨b0, b1, b2, _⟩ := now_is hv hs
  have i1 : (0 : Int) ≤ (r.ran.length : Int) ∧ (r.ran.length : Int) < ((7 : Nat) : Int) := ⟨by omega, by omega⟩
  have c1 : 7 + r.ran.length * 2 + 2 ≤ 22 := by omega
  have t1 := fun m => rb_at r (psB r []) m r.ran.length (by omega)
  have hsub : IntKind.i64.wrap (day - (r.ran.length : Int)) = (((day - r.ran.length).toNat : Nat) : Int) := by rw [wrap64 ⟨by omega, by omega⟩]; omega
  rw [psB_pts hv hs (Nat.le_refl _)] at t1
  rw [enterSt_eq _ _ _ (he.trans h0)]
  simp only [enterV, he, h0, if_true]
  have hR := (room_at [.cells (roomCells r), .cells [.lit [.int .i64 day, .int .i64 r.ran.length, .int .i64 r.days, .int .i64 c, .int .i64 1, .int .i64 7] true none]] r (psB r [])).app [.cells zeroP]
  obtain ⟨M', hfirst⟩ := first_at hR hv (ptsS r r.ran.length) c (beforeOf r) (day - r.ran.length).toNat b0 (by omega) (by omega) (by omega) (by omega) [] [] [.ptr 5 0, encSpan (ptsS r r.ran.length), .int .i64 (beforeOf r), .int .i64 ((day - r.ran.length).toNat : Int), .int .i64 c] rfl
  simp only [entS, zeroP] at hfirst ⊢
  try simp only [↓QA, QB, Nat.reduceLT, reduceIte, Nat.reduceEqDiff, Nat.reduceAdd, Nat.reduceLeDiff, Nat.reduceMul, Nat.reduceBEq, QXRm29] at hfirst
  (repeat (first | simp only [↓QA, QB, Nat.reduceLT, reduceIte, Nat.reduceEqDiff, Nat.reduceAdd, Nat.reduceLeDiff, Nat.reduceMul, Nat.reduceBEq, QXRm29, show ((0 : Int) == 0) = true from rfl] | refine rd0 rfl ?_))
  refine rK_dreg1 [.cells zeroP] rfl ?_
  (repeat (first | simp only [↓QA, QB, Nat.reduceLT, reduceIte, Nat.reduceEqDiff, Nat.reduceAdd, Nat.reduceLeDiff, Nat.reduceMul, Nat.reduceBEq, QXRm29, zeroP] | refine rd0 rfl ?_))
  refine callD_same (today_m _ 5 r (psB r []) 4 (by simp [cellsAt])) ?_
  (repeat (first | simp only [↓QA, QB, Nat.reduceLT, reduceIte, Nat.reduceEqDiff, Nat.reduceAdd, Nat.reduceLeDiff, Nat.reduceMul, Nat.reduceBEq, QXRm29, i1, c1, t1, rb_len] | refine rd0 rfl ?_))
  refine callD_same (before_m _ 5 r (psB r []) 4 hf (by simp [cellsAt])) ?_
  (repeat (first | simp only [↓QA, QB, Nat.reduceLT, reduceIte, Nat.reduceEqDiff, Nat.reduceAdd, Nat.reduceLeDiff, Nat.reduceMul, Nat.reduceBEq, QXRm29, i1, c1, t1, rb_len] | refine rd0 rfl ?_))
  refine callD_same (today_m _ 5 r (psB r []) 4 (by simp [cellsAt])) ?_
  (repeat (first | simp only [↓QA, QB, Nat.reduceLT, reduceIte, Nat.reduceEqDiff, Nat.reduceAdd, Nat.reduceLeDiff, Nat.reduceMul, Nat.reduceBEq, QXRm29, i1, c1, t1, rb_len, hsub] | refine rd0 rfl ?_))
  refine callD_do hfirst ?_
  have hp : planOf r day c = match bestOf r (ptsS r r.ran.length) (beforeOf r) (day - r.ran.length).toNat c with | none => ([], 0, 9) | some x => (x.1, x.2, 0) := by rw [planOf, if_pos h0]; rfl
  rw [hp]
  cases hb : bestOf r (ptsS r r.ran.length) (beforeOf r) (day - r.ran.length).toNat c with
  | none =>
   (repeat (first | simp only [↓QA, QB, Nat.reduceLT, reduceIte, Nat.reduceEqDiff, Nat.reduceAdd, Nat.reduceLeDiff, Nat.reduceMul, Nat.reduceBEq, QXRm29, Option.map_none, firstV, planC, encLNE, rb_len, c1, t1, List.map_nil] | refine rd0 rfl ?_))
  | some x =>
   have hx := best_changes hb
   (repeat (first | simp only [↓QA, QB, Nat.reduceLT, reduceIte, Nat.reduceEqDiff, Nat.reduceAdd, Nat.reduceLeDiff, Nat.reduceMul, Nat.reduceBEq, QXRm29, Option.map_some, firstV, planC, encLNE, Pl.adds, Pl.zero, rb_len, c1, t1, hx, Int.zero_add] | refine rd0 rfl ?_))
 ·have h0' : (planErr r day c == 0) = false := by simpa using h0
  have hp : planOf r day c = ([], 0, planErr r day c) := by rw [planOf, if_neg h0]
  simp only [enterV, enterSt, he]
  rw [if_neg h0, if_neg h0, hp]
  (repeat (first | simp only [↓QA, QB, Nat.reduceLT, reduceIte, Nat.reduceEqDiff, Nat.reduceAdd, Nat.reduceLeDiff, Nat.reduceMul, Nat.reduceBEq, QXRm29, h0', encLNE] | refine rd0 rfl ?_))
  rfl
end Go.Am.Room
set_option maxRecDepth 4000
namespace Go.Am.Room
def QXRm30 := And.intro @setE_eq (And.intro @bits_len (And.intro @bits_cell (And.intro @bits_take (And.intro @bits_drop (And.intro @bits_zero (And.intro @Nat.mul_one (And.intro @Int.toNat_natCast (And.intro @encRoom_eq (And.intro @roomCells_eq (And.intro @encSetting_eq (And.intro @encLook_eq (And.intro @encSpan_eq (And.intro @S_bits (And.intro @Nat.add_lt_add_iff_left (And.intro @Nat.lt_add_right_iff_pos (And.intro @T_sapp (@List.length_append.{0})))))))))))))))))
theorem memo_okT (r : Rm) (M : Memo) (k : Nat) : okBlk k (.map (memoEs r M)) = True := eq_true (RoomAt.memo_ok r M k)
theorem rb_okT (r : Rm) (ps : Nat → Span) {m k : Nat} (h : m < k) : okBlk k (.cells (rb r ps m)) = True := eq_true (rb_ok r ps h)
theorem append_intT {σ : St} {l : List Int} {a : Int} {ex : Bool} {t : Nat} (hn : l.length < 100) (ht : σ[t]? = some (.tok 1 l.length ex)) : appendAV 1 8 σ (.lit (l.map (.int .i64)) false (some t)) (.lit [.int .i64 a] true none) = some (.lit ((l ++ [a]).map (.int .i64)) false (some t), σ.set t (.tok 1 (l.length + 1) true)) := by
 rw [app_tok (ex := ex) ⟨L_allM 1 _ l (fun x => C_int _ _), by simp [allCells, AV.cells, AV.cell], by simp [room]; omega, by simp [room]; omega⟩ (by simp) (by simpa using ht)]
 simp
theorem reach_ok (r : Rm) (day : Int) (hf : Fits r) : Pure T 26 [encRoom r, .int .i64 day] (encLE (reachOf r day)) := by
 refine pure_fn (af := a26) rfl (by simp [a26]) dd ?_
 (repeat (first | simp only [↓QA, QB, Nat.reduceLT, reduceIte, Nat.reduceEqDiff, Nat.reduceAdd, Nat.reduceLeDiff, Nat.reduceMul, Nat.reduceBEq, QXRm30, a26] | refine rd0 rfl ?_))
 refine callD_do (within_run _ _ _) ?_
 (repeat (first | simp only [↓QA, QB, Nat.reduceLT, reduceIte, Nat.reduceEqDiff, Nat.reduceAdd, Nat.reduceLeDiff, Nat.reduceMul, Nat.reduceBEq, QXRm30] | refine rd0 rfl ?_))
 obtain ⟨eo, heo⟩ : ∃ eo, eo = withinE [day, (r.ran.length : Int), r.days] := ⟨_, rfl⟩
 refine callD_do (enter_run _ r _ eo hf ?_) ?_
 ·intro _
  have := within1_ok [.cells (roomCells r), .cells [.lit [.int .i64 day, .int .i64 r.ran.length, .int .i64 r.days] true none], .cells (roomCells r)] 1 [day, r.ran.length, r.days] true none (by simp) (by simp [cellsAt]) (by simp)
  rw [roomCells_eq, ← heo] at this
  try simp only [↓QA, QB, Nat.reduceLT, reduceIte, Nat.reduceEqDiff, Nat.reduceAdd, Nat.reduceLeDiff, Nat.reduceMul, Nat.reduceBEq, QXRm30]
  exact this
 have he : enterE r eo = reachErr r day := by
  rw [heo]
  simp only [enterE, reachErr, errAsk, withinE]
 by_cases h0 : reachErr r day = 0
 ·obtain ⟨h1, hs⟩ := errKnown_ok h0
  obtain ⟨hv, hd0, hd1⟩ := errAsk_ok h1
  have hdd := hv.days
  have hdr := hv.ranLen
  obtain ⟨b0, b1, b2, _⟩ := now_is hv hs
  have i1 : (0 : Int) ≤ (r.ran.length : Int) ∧ (r.ran.length : Int) < ((7 : Nat) : Int) := ⟨by omega, by omega⟩
  have c1 : 7 + r.ran.length * 2 + 2 ≤ 22 := by omega
  have t1 := fun m => rb_at r (psB r []) m r.ran.length (by omega)
  have hsub : IntKind.i64.wrap (day - (r.ran.length : Int)) = (((day - r.ran.length).toNat : Nat) : Int) := by rw [wrap64 ⟨by omega, by omega⟩]; omega
  rw [psB_pts hv hs (Nat.le_refl _)] at t1
  rw [enterSt_eq _ _ _ (he.trans h0)]
  simp only [enterV, he, h0, if_true]
  have hp : reachOf r day = ((numbers 1 7).filter (reaches r day), 0) := by rw [reachOf, if_pos h0]
  rw [hp]
  obtain ⟨R, hRR⟩ : ∃ R, (numbers 1 7).filter (reaches r day) = R := ⟨_, rfl⟩
  rw [hRR]
  simp only [entS]
  (repeat (first | simp only [↓QA, QB, Nat.reduceLT, reduceIte, Nat.reduceEqDiff, Nat.reduceAdd, Nat.reduceLeDiff, Nat.reduceMul, Nat.reduceBEq, QXRm30, show ((0 : Int) == 0) = true from rfl] | refine rd0 rfl ?_))
  refine ghostK 4 1 [] rfl ?_
  refine loopE (S := Nat × List Int × Bool × Memo) (0, [], false, []) (fun s => s.1 ≤ 7 ∧ s.2.1.length ≤ s.1 ∧ s.2.1 ++ (numbers (1 + (s.1 : Int)) (7 - s.1)).filter (reaches r day) = R) (fun s => 7 - s.1)
   (fun s => [(1, .int .i64 day), (6, .ptr 5 0), (7, .func 88 [.ptr 5 0] []), (4, .lit (s.2.1.map (.int .i64)) false (some 6)), (5, .int .i64 0), (29, .int .i64 s.1)])
   (fun s => [.cells (roomCells r), .cells [.lit [.int .i64 day, .int .i64 r.ran.length, .int .i64 r.days] true none], .cells (roomCells r), .cells (roomCells r), .map (memoEs r s.2.2.2), .cells (rb r (psB r []) 4), .tok 1 s.2.1.length s.2.2.1]) ⟨by simp, by simp, by simpa using hRR⟩ (by simp [roomCells, ints]) ?_ fun s hs => ?_
  ·try simp only [TrimX, QE, Nat.reduceLT, reduceIte, Nat.reduceEqDiff, Nat.reduceAdd, Nat.reduceLeDiff, Nat.reduceMul, Nat.reduceBEq, QXRm30]
   try simp
  ·obtain ⟨k, acc, ex, M⟩ := s
   obtain ⟨hk, hal, hacc⟩ := hs
   simp only at hk hal hacc
   (repeat (first | simp only [↓QA, QB, Nat.reduceLT, reduceIte, Nat.reduceEqDiff, Nat.reduceAdd, Nat.reduceLeDiff, Nat.reduceMul, Nat.reduceBEq, QXRm30, L26_0] | refine rd0 rfl ?_))
   refine iteP_intro (fun h => ?_) fun h => ?_
   ·have hk1 : k < 7 := by simp at h; omega
    have hw : IntKind.i64.wrap ((k : Int) + 1) = ((k + 1 : Nat) : Int) := wrapN hk1 (by omega)
    rw [show 7 - k = (7 - (k + 1)) + 1 by omega] at hacc
    simp only [numbers, List.filter_cons] at hacc
    have hR := (room_at [.cells (roomCells r), .cells [.lit [.int .i64 day, .int .i64 r.ran.length, .int .i64 r.days] true none]] r (psB r [])).app [.tok 1 acc.length ex, .cells zeroP]
    obtain ⟨M', hfirst⟩ := first_at hR hv (ptsS r r.ran.length) ((k : Int) + 1) (beforeOf r) (day - r.ran.length).toNat b0 (by omega) (by omega) (by omega) (by omega) M [.ptr 5 0] [encSpan (ptsS r r.ran.length), .int .i64 (beforeOf r), .int .i64 ((day - r.ran.length).toNat : Int), .int .i64 ((k : Int) + 1)] rfl
    simp only [entS, zeroP] at hfirst
    rw [show ((k : Int) + 1) = ((k + 1 : Nat) : Int) by omega] at hfirst
    try simp only [↓QA, QB, Nat.reduceLT, reduceIte, Nat.reduceEqDiff, Nat.reduceAdd, Nat.reduceLeDiff, Nat.reduceMul, Nat.reduceBEq, QXRm30] at hfirst
    (repeat (first | simp only [↓QA, QB, Nat.reduceLT, reduceIte, Nat.reduceEqDiff, Nat.reduceAdd, Nat.reduceLeDiff, Nat.reduceMul, Nat.reduceBEq, QXRm30] | refine rd0 rfl ?_))
    refine rK_dreg1 [.cells zeroP] rfl ?_
    (repeat (first | simp only [↓QA, QB, Nat.reduceLT, reduceIte, Nat.reduceEqDiff, Nat.reduceAdd, Nat.reduceLeDiff, Nat.reduceMul, Nat.reduceBEq, QXRm30, zeroP] | refine rd0 rfl ?_))
    refine callD_same (today_m _ 5 r (psB r []) 4 (by simp [cellsAt])) ?_
    (repeat (first | simp only [↓QA, QB, Nat.reduceLT, reduceIte, Nat.reduceEqDiff, Nat.reduceAdd, Nat.reduceLeDiff, Nat.reduceMul, Nat.reduceBEq, QXRm30, i1, c1, t1, rb_len] | refine rd0 rfl ?_))
    refine callD_same (before_m _ 5 r (psB r []) 4 hf (by simp [cellsAt])) ?_
    (repeat (first | simp only [↓QA, QB, Nat.reduceLT, reduceIte, Nat.reduceEqDiff, Nat.reduceAdd, Nat.reduceLeDiff, Nat.reduceMul, Nat.reduceBEq, QXRm30, i1, c1, t1, rb_len] | refine rd0 rfl ?_))
    refine callD_same (today_m _ 5 r (psB r []) 4 (by simp [cellsAt])) ?_
    (repeat (first | simp only [↓QA, QB, Nat.reduceLT, reduceIte, Nat.reduceEqDiff, Nat.reduceAdd, Nat.reduceLeDiff, Nat.reduceMul, Nat.reduceBEq, QXRm30, i1, c1, t1, rb_len, hsub, hw] | refine rd0 rfl ?_))
    refine callD_do hfirst ?_
    have hrc : reaches r day (1 + (k : Int)) = (bestOf r (ptsS r r.ran.length) (beforeOf r) (day - r.ran.length).toNat ((k + 1 : Nat) : Int)).isSome := by
     rw [reaches, show (1 + (k : Int)) = ((k + 1 : Nat) : Int) by omega]
    rw [hrc] at hacc
    rw [show (1 + (k : Int) + 1) = 1 + ((k + 1 : Nat) : Int) by omega] at hacc
    cases hb : bestOf r (ptsS r r.ran.length) (beforeOf r) (day - r.ran.length).toNat ((k + 1 : Nat) : Int) with
    | none =>
     rw [hb] at hacc
     (repeat (first | simp only [↓QA, QB, Nat.reduceLT, reduceIte, Nat.reduceEqDiff, Nat.reduceAdd, Nat.reduceLeDiff, Nat.reduceMul, Nat.reduceBEq, QXRm30, Option.map_none, firstV, planC, encLE, rb_len, c1, t1, List.map_nil, hw] | refine rd0 rfl ?_))
     refine ⟨(k + 1, acc, ex, M'), ⟨by simp only; omega, by simp only; omega, by simpa using hacc⟩, by simp only; omega, ?_⟩
     try simp only [TrimX, QE, Nat.reduceLT, reduceIte, Nat.reduceEqDiff, Nat.reduceAdd, Nat.reduceLeDiff, Nat.reduceMul, Nat.reduceBEq, QXRm30, hw, memo_okT, rb_okT, S_mapI]
    | some x =>
     rw [hb] at hacc
     have hap := fun (τ : St) => append_intT (σ := .cells (roomCells r) :: .cells [.lit [.int .i64 day, .int .i64 r.ran.length, .int .i64 r.days] true none] :: .cells (roomCells r) :: .cells (roomCells r) :: .map (memoEs r M') :: .cells (rb r (psB r []) 4) :: .tok 1 acc.length ex :: τ) (l := acc) (a := ((k + 1 : Nat) : Int)) (ex := ex) (t := 6) (by omega) rfl
     rw [roomCells_eq] at hap
     (repeat (first | simp only [↓QA, QB, Nat.reduceLT, reduceIte, Nat.reduceEqDiff, Nat.reduceAdd, Nat.reduceLeDiff, Nat.reduceMul, Nat.reduceBEq, QXRm30, Option.map_some, firstV, planC, encLE, Pl.adds, Pl.zero, rb_len, c1, t1, Int.zero_add, hw, hap] | refine rd0 rfl ?_))
     refine ⟨(k + 1, acc ++ [((k + 1 : Nat) : Int)], true, M'), ⟨by simp only; omega, by simp only [List.length_append, List.length_cons, List.length_nil]; omega, by
      simp only [Option.isSome_some, if_true] at hacc
      rw [← hacc, show (1 + (k : Int)) = ((k + 1 : Nat) : Int) by omega]; simp⟩, by simp only; omega, ?_⟩
     try simp only [TrimX, QE, Nat.reduceLT, reduceIte, Nat.reduceEqDiff, Nat.reduceAdd, Nat.reduceLeDiff, Nat.reduceMul, Nat.reduceBEq, QXRm30, hw, memo_okT, rb_okT, S_mapI, List.map_append, List.map_cons, List.map_nil]
     try simp [okBlk]
   ·have hk1 : k = 7 := by simp at h; omega
    rw [hk1] at hacc
    simp only [Nat.sub_self, numbers, List.filter_nil, List.append_nil] at hacc
    (repeat (first | simp only [↓QA, QB, Nat.reduceLT, reduceIte, Nat.reduceEqDiff, Nat.reduceAdd, Nat.reduceLeDiff, Nat.reduceMul, Nat.reduceBEq, QXRm30, hacc, encLE] | refine rd0 rfl ?_))
 ·have h0' : (reachErr r day == 0) = false := by simpa using h0
  have hp : reachOf r day = ([], reachErr r day) := by rw [reachOf, if_neg h0]
  simp only [enterV, enterSt, he]
  rw [if_neg h0, if_neg h0, hp]
  (repeat (first | simp only [↓QA, QB, Nat.reduceLT, reduceIte, Nat.reduceEqDiff, Nat.reduceAdd, Nat.reduceLeDiff, Nat.reduceMul, Nat.reduceBEq, QXRm30, h0', encLE] | refine rd0 rfl ?_))
  rfl
theorem less_trans : ∀ {a b c : List Int}, less a b = true → less b c = true → less a c = true
 | a, b, [], h1, h2 => by cases b <;> simp [less] at h2
 | a, [], c :: cs, h1, h2 => by cases a <;> simp [less] at h1
 | [], b :: bs, c :: cs, h1, h2 => by simp [less]
 | a :: az, b :: bs, c :: cs, h1, h2 => by
  simp only [less] at *
  by_cases hab : a = b
  ·subst hab
   by_cases hac : a = c
   ·subst hac
    simp only [if_true] at *
    exact less_trans h1 h2
   ·simp only [hac, if_false, if_true] at *
    exact h2
  ·by_cases hbc : b = c
   ·subst hbc
    simp only [hab, if_false, if_true, decide_eq_true_eq] at *
    exact h1
   ·simp only [hab, hbc, if_false, decide_eq_true_eq] at *
    rw [if_neg (by omega)]
    simp; omega
theorem fewer_irr (a : List Int) : fewer a a = false := by simp [fewer, less_irr]
theorem fewer_trans {a b c : List Int} (h1 : fewer a b = true) (h2 : fewer b c = true) : fewer a c = true := by
 simp only [fewer] at *
 by_cases e1 : a.length = b.length <;> by_cases e2 : b.length = c.length
 ·simp only [e1, e2, if_true] at *; exact less_trans h1 h2
 ·simp only [e1, e2, if_true, if_false, decide_eq_true_eq] at *; exact h2
 ·rw [if_neg e1] at h1; rw [if_neg (by omega)]; simp at h1 ⊢; omega
 ·simp only [e1, e2, if_false, decide_eq_true_eq] at *
  rw [if_neg (by omega)]; simp; omega
theorem fewer_tri {a b : List Int} (h1 : fewer a b = false) (h2 : fewer b a = false) : a = b := by
 simp only [fewer] at *
 by_cases e1 : a.length = b.length
 ·simp only [e1, if_true] at *
  exact less_tri a b h1 h2
 ·rw [if_neg e1] at h1; rw [if_neg (Ne.symm e1)] at h2
  simp at h1 h2; omega
theorem nfewer_trans {a b c : List Int} (h1 : fewer b a = false) (h2 : fewer c b = false) : fewer c a = false := by
 rw [Bool.eq_false_iff]
 intro h
 by_cases hab : fewer a b = true
 ·rw [fewer_trans h hab] at h2; cases h2
 ·have := fewer_tri (by simpa using hab) h1
  subst this
  rw [h] at h2; cases h2
def lst (n s : Nat) : List Int := (numbers 0 n).filter fun i => decide (s / 2 ^ i.toNat % 2 = 1)
theorem lst_in : ∀ n : Fin 5, ∀ s : Fin 16, s.val < 2 ^ n.val → lst n s ∈ choices n (lst n s).length := by decide +kernel
theorem in_lst : ∀ n m : Fin 5, ∀ c ∈ choices n m, ∃ s : Fin 16, s.val < 2 ^ n.val ∧ lst n s = c := by decide +kernel
theorem choices_sorted : ∀ n m : Fin 5, (choices n m).Pairwise fun a b => less a b = true := by decide +kernel
theorem choices_one : ∀ n : Fin 5, (choices n n).length = 1 := by decide +kernel
theorem lst_len (n s : Nat) : (lst n s).length ≤ n := by
 have := List.length_filter_le (fun i : Int => decide (s / 2 ^ i.toNat % 2 = 1)) (numbers 0 n)
 rw [numbers_len] at this
 exact this
theorem wrong_spec (r : Rm) (hN : r.looks.length ≤ 4) (hall : ∀ c ∈ choices r.looks.length r.looks.length, someB r c = true) : ∀ k m, k + m = r.looks.length → (∀ m', m' < m → ∀ c ∈ choices r.looks.length m', someB r c = false) →
  wrongFrom r k m ∈ choices r.looks.length (wrongFrom r k m).length ∧ someB r (wrongFrom r k m) = true ∧ ∀ m', m' ≤ r.looks.length → ∀ c ∈ choices r.looks.length m', someB r c = true → fewer c (wrongFrom r k m) = false
 | 0, m, hk, hlow => by
  have h1 := choices_one ⟨r.looks.length, by omega⟩
  simp only at h1
  obtain ⟨w, hw⟩ := List.length_eq_one_iff.1 h1
  have hww : wrongFrom r 0 m = w := by simp [wrongFrom, hw]
  have hmem : w ∈ choices r.looks.length r.looks.length := by rw [hw]; simp
  have hlen := (choices_spec _ _ _ hmem).1
  rw [hww, hlen]
  refine ⟨hmem, hall w hmem, fun m' hm' c hc hs => ?_⟩
  by_cases he : m' = r.looks.length
  ·subst he
   rw [hw] at hc
   simp at hc
   subst hc
   exact fewer_irr _
  ·rw [hlow m' (by omega) c hc] at hs; cases hs
 | k + 1, m, hk, hlow => by
  simp only [wrongFrom]
  cases hf : (choices r.looks.length m).find? (someB r) with
  | none =>
   simp only
   refine wrong_spec r hN hall k (m + 1) (by omega) fun m' hm' c hc => ?_
   by_cases he : m' = m
   ·subst he
    rw [List.find?_eq_none] at hf
    simpa using hf c hc
   ·exact hlow m' (by omega) c hc
  | some l =>
   simp only
   have hmem := List.mem_of_find?_eq_some hf
   have hs := List.find?_some hf
   have hlen := (choices_spec _ _ _ hmem).1
   rw [hlen]
   refine ⟨hmem, hs, fun m' hm' c hc hsc => ?_⟩
   have hcl := (choices_spec _ _ _ hc).1
   by_cases h1 : m' < m
   ·rw [hlow m' h1 c hc] at hsc; cases hsc
   ·by_cases he : m' = m
    ·subst he
     rw [Bool.eq_false_iff]
     intro hlt
     simp only [fewer, hcl, hlen, if_true] at hlt
     -- the first one is the least
     obtain ⟨pre, post, e1, e2⟩ := (List.find?_eq_some_iff_append.1 hf).2
     have hpw := choices_sorted ⟨r.looks.length, by omega⟩ ⟨m', by omega⟩
     simp only at hpw
     rw [e1] at hc hpw
     rcases List.mem_append.1 hc with hc | hc
     ·have := e2 c hc
      rw [hsc] at this; cases this
     ·rcases List.mem_cons.1 hc with rfl | hc
      ·rw [less_irr] at hlt; cases hlt
      ·have := (List.pairwise_append.1 hpw).2.1
       have := (List.pairwise_cons.1 this).1 c hc
       have h3 := less_trans hlt this
       rw [less_irr] at h3; cases h3
    ·simp only [fewer]; rw [if_neg (by omega)]; simp; omega
theorem seenS_none (day : Int) (but : List Int) : ∀ (l : List Look) (i : Nat), (∀ j, i ≤ j → j < i + l.length → but.contains (j : Int) = true) → seenS day but l i = ⟨0, 1000⟩
 | [], _, _ => rfl
 | x :: l, i, h => by
  have h0 := h i (Nat.le_refl _) (by simp)
  simp only [seenS, h0, Bool.not_true, Bool.and_false, Bool.false_eq_true, if_false]
  exact seenS_none day but l (i + 1) fun j h1 h2 => h j (by omega) (by simp at h2 ⊢; omega)
theorem some_all {r : Rm} (hv : Vd r) {but : List Int} (h : ∀ j, j < r.looks.length → but.contains (j : Int) = true) : someB r but = true := by
 rw [someB_eq hv]
 have hdd := hv.days
 have hdr := hv.ranLen
 have key : ∀ d, d ≤ r.ran.length → (fwd r but d).isSome = true := by
  intro d
  induction d with
  | zero =>
   intro _
   have hs := hv.start
   simp only [fwd, seenS_none 0 but r.looks 0 fun j _ hj => h j (by omega), ne, both]
   rw [if_pos (by omega)]; rfl
  | succ d ih =>
   intro hd
   obtain ⟨s, hs⟩ := Option.isSome_iff_exists.1 (ih (by omega))
   have hb := fwd_bd hv but d (by omega) s hs
   have hg := gain_bd hv (show d < r.ran.length by omega)
   simp only [fwd, hs, Option.bind_some, seenS_none _ but r.looks 0 fun j _ hj => h j (by omega), ne, both, plus]
   rw [if_pos (by omega)]; rfl
 exact key _ (Nat.le_refl _)
theorem all_contains : ∀ n : Fin 5, ∀ c ∈ choices n n, ∀ j : Fin 5, j.val < n.val → c.contains ((j.val : Nat) : Int) = true := by decide +kernel
theorem some_full {r : Rm} (hv : Vd r) : ∀ c ∈ choices r.looks.length r.looks.length, someB r c = true := fun c hc => by
 have hl := hv.looksLen
 exact some_all hv fun j hj => all_contains ⟨r.looks.length, by omega⟩ c hc ⟨j, by omega⟩ hj
def wrStep (r : Rm) (o : Option (List Int)) (l : List Int) : Option (List Int) := match o with
 | none => if someB r l = true then some l else none
 | some b => if fewer b l = true then some b else if someB r l = true then some l else some b
def wrFold (r : Rm) (n : Nat) : Nat → Nat → Option (List Int) → Option (List Int)
 | 0, _, o => o
 | k + 1, s, o => wrFold r n k (s + 1) (wrStep r o (lst n s))
theorem wrFold_spec (r : Rm) (n : Nat) : ∀ k s o, (∀ w, o = some w → someB r w = true ∧ ∃ t, t < s ∧ w = lst n t ∧ ∀ t', t' < s → someB r (lst n t') = true → fewer (lst n t') w = false) → (o = none → ∀ t, t < s → someB r (lst n t) = false) →
  (∀ w, wrFold r n k s o = some w → someB r w = true ∧ ∃ t, t < s + k ∧ w = lst n t ∧ ∀ t', t' < s + k → someB r (lst n t') = true → fewer (lst n t') w = false) ∧ (wrFold r n k s o = none → ∀ t, t < s + k → someB r (lst n t) = false)
 | 0, s, o, h1, h2 => ⟨h1, h2⟩
 | k + 1, s, o, h1, h2 => by
  have ih := wrFold_spec r n k (s + 1) (wrStep r o (lst n s))
  rw [show s + 1 + k = s + (k + 1) by omega] at ih
  simp only [wrFold]
  have last : ∀ (w : List Int) t', t' < s + 1 → (∀ t'', t'' < s → someB r (lst n t'') = true → fewer (lst n t'') w = false) → (someB r (lst n s) = true → fewer (lst n s) w = false) → someB r (lst n t') = true → fewer (lst n t') w = false := by
   intro w t' ht h3 h4 hs
   by_cases he : t' = s
   ·subst he; exact h4 hs
   ·exact h3 t' (by omega) hs
  refine ih (fun w hw => ?_) fun hn t ht => ?_
  ·cases o with
   | none =>
    simp only [wrStep] at hw
    split at hw
    ·rename_i hs
     simp only [Option.some.injEq] at hw
     subst hw
     refine ⟨hs, s, by omega, rfl, fun t' ht hst => last _ t' ht (fun t'' h4 h5 => by rw [h2 rfl t'' h4] at h5; cases h5) (fun _ => fewer_irr _) hst⟩
    ·cases hw
   | some b =>
    obtain ⟨q1, t, q2, q3, q4⟩ := h1 b rfl
    simp only [wrStep] at hw
    split at hw
    ·rename_i hf
     simp only [Option.some.injEq] at hw
     subst hw
     refine ⟨q1, t, by omega, q3, fun t' ht hst => last _ t' ht q4 (fun _ => ?_) hst⟩
     rw [Bool.eq_false_iff]
     intro h5
     have := fewer_trans hf h5
     rw [fewer_irr] at this; cases this
    ·rename_i hf
     split at hw
     ·rename_i hs
      simp only [Option.some.injEq] at hw
      subst hw
      refine ⟨hs, s, by omega, rfl, fun t' ht hst => last _ t' ht (fun t'' h4 h5 => ?_) (fun _ => fewer_irr _) hst⟩
      exact nfewer_trans (by simpa using hf) (q4 t'' h4 h5)
     ·rename_i hs
      simp only [Option.some.injEq] at hw
      subst hw
      exact ⟨q1, t, by omega, q3, fun t' ht hst => last _ t' ht q4 (fun h5 => absurd h5 hs) hst⟩
  ·cases o with
   | none =>
    simp only [wrStep] at hn
    split at hn
    ·cases hn
    ·rename_i hs
     by_cases he : t = s
     ·subst he; simpa using hs
     ·exact h2 rfl t (by omega)
   | some b =>
    simp only [wrStep] at hn
    split at hn
    ·cases hn
    ·split at hn <;> cases hn
theorem wrong_eq {r : Rm} (hv : Vd r) : wrFold r r.looks.length (2 ^ r.looks.length) 0 none = some (wrongFrom r r.looks.length 0) := by
 have hl := hv.looksLen
 have hp : 2 ^ r.looks.length ≤ 2 ^ 4 := Nat.pow_le_pow_right (by omega) hl
 obtain ⟨w1, w2, w3⟩ := wrong_spec r hl (some_full hv) r.looks.length 0 (by omega) (fun m' h => by omega)
 obtain ⟨s1, s2⟩ := wrFold_spec r r.looks.length (2 ^ r.looks.length) 0 none (fun w h => by cases h) (fun _ t h => by omega)
 rw [Nat.zero_add] at s1 s2
 obtain ⟨W, hW⟩ : ∃ W, wrongFrom r r.looks.length 0 = W := ⟨_, rfl⟩
 rw [hW] at w1 w2 w3 ⊢
 have hwl : W.length ≤ 4 := by
  by_cases h : W.length ≤ r.looks.length
  ·omega
  ·exfalso
   have h3 : ∀ n i c, c ∈ choices n i → i ≤ n := by
    intro n i
    cases i with
    | zero => intros; omega
    | succ i =>
     intro c hc
     have h1 := (choices_spec n (i + 1) c hc).1
     have h2 := (choices_spec n (i + 1) c hc).2
     simp only [choices, List.mem_flatMap, nexts, List.mem_map, numbers_mem] at hc
     obtain ⟨d, hd, x, hx, rfl⟩ := hc
     have key : ∀ j (d : List Int), d ∈ choices n j → (j : Int) ≤ least j d := by
      intro j
      induction j with
      | zero => intro d _; simp [least]
      | succ j ih =>
       intro d hd
       simp only [choices, List.mem_flatMap, nexts, List.mem_map, numbers_mem] at hd
       obtain ⟨d', hd', y, hy, rfl⟩ := hd
       have h5 := ih d' hd'
       have h6 := (choices_spec n j d' hd').1
       simp only [least, Nat.succ_pos, if_true, Nat.add_sub_cancel]
       rw [List.getElem?_append_right (by omega), h6, Nat.sub_self]
       simp only [List.getElem?_cons_zero, Option.getD_some]
       omega
     have := key i d hd
     omega
   exact h (h3 _ _ _ w1)
 obtain ⟨t, ht, hlt⟩ := in_lst ⟨r.looks.length, by omega⟩ ⟨W.length, by omega⟩ W w1
 simp only at ht hlt
 cases hf : wrFold r r.looks.length (2 ^ r.looks.length) 0 none with
 | none =>
  have := s2 hf t.val ht
  rw [hlt, w2] at this; cases this
 | some w =>
  obtain ⟨q1, t', q2, q3, q4⟩ := s1 w hf
  have a1 := q4 t.val ht (by rw [hlt]; exact w2)
  rw [hlt] at a1
  have hin := lst_in ⟨r.looks.length, by omega⟩ ⟨t', by omega⟩ q2
  simp only at hin
  rw [← q3] at hin
  have hle : w.length ≤ r.looks.length := by rw [q3]; exact lst_len _ _
  have a2 := w3 w.length hle w hin q1
  rw [fewer_tri a1 a2]
end Go.Am.Room
set_option maxRecDepth 4000
namespace Go.Am.Room
def QXRm31 := And.intro @setE_eq (And.intro @bits_len (And.intro @bits_cell (And.intro @bits_take (And.intro @bits_drop (And.intro @bits_zero (And.intro @Nat.mul_one (And.intro @Int.toNat_natCast (And.intro @encRoom_eq (And.intro @roomCells_eq (And.intro @encSetting_eq (And.intro @encLook_eq (And.intro @encSpan_eq (And.intro @S_bits (And.intro @Nat.add_lt_add_iff_left (And.intro @Nat.lt_add_right_iff_pos (And.intro @T_sapp (@List.length_append.{0})))))))))))))))))
theorem look_at (σ : St) (r : Rm) (ps : Nat → Span) : RoomAt (fun M => σ ++ [.cells (roomCells r), .map (memoEs r M), .cells (rb r ps (σ.length + 1))]) r ps (σ.length + 2) (σ.length + 1) (σ.length + 3) :=
 ⟨fun M => by simp, fun M => by simp [M_base, M_atS, M_at0], fun M => by rw [st_get]; rfl, fun M M' => by rw [st_set]; rfl, by omega, by omega⟩
def rr (r : Rm) : Rm := { r with ran := [], looks := [] }
theorem sum_rr (r : Rm) : ∀ l, sumS (rr r) l = sumS r l
 | [] => rfl
 | n :: l => by simp only [sumS, sum_rr r l]; rfl
theorem gives_rr (r : Rm) (s : Span) (l : List Int) (c : Int) : givesOf (rr r) s l c = givesOf r s l c := by simp only [givesOf, sum_rr]
theorem bestIx_rr (r : Rm) (s : Span) (b c : Int) : ∀ (ls : List (List Int)) i o, bestIx (rr r) s b c ls i o = bestIx r s b c ls i o
 | [], _, _ => rfl
 | l :: ls, i, o => by simp only [bestIx, gives_rr, bestIx_rr r s b c ls]; rfl
theorem best_rr (r : Rm) (s : Span) (b : Int) (many : Nat) (c : Int) : bestOf (rr r) s b many c = bestOf r s b many c := by
 simp only [bestOf, show (rr r).settings = r.settings from rfl, bestIx_rr]
theorem vd_rr {r : Rm} (hv : Vd r) : Vd (rr r) :=
 ⟨hv.days, hv.start, hv.nset, hv.gains, hv.opens, by have := hv.days; simp [rr]; omega, by simp [rr], by simp [rr], by simp [rr]⟩
theorem fill_ok (r : Rm) (day c : Int) (hf : Fits r) : Pure T 31 [encRoom r, .int .i64 day, .int .i64 c] (encLE (fillOf r day c)) := by
 refine pure_fn (af := a31) rfl (by simp [a31]) dd ?_
 have err : ∀ e, fillErr r day c = e → e ≠ 0 → fillOf r day c = ([], e) := fun e h1 h2 => by rw [fillOf, if_neg (by rw [h1]; exact h2), h1]
 (repeat (first | simp only [↓QA, QB, Nat.reduceLT, reduceIte, Nat.reduceEqDiff, Nat.reduceAdd, Nat.reduceLeDiff, Nat.reduceMul, Nat.reduceBEq, QXRm31, a31] | refine rd0 rfl ?_))
 ((first | refine callK_d (check_ok r hf) rfl dd ?_ | refine callD_d (check_ok r hf) rfl dd ?_); (repeat (first | simp only [↓QA, QB, Nat.reduceLT, reduceIte, Nat.reduceEqDiff, Nat.reduceAdd, Nat.reduceLeDiff, Nat.reduceMul, Nat.reduceBEq, QXRm31, enc3] | refine rd0 rfl ?_)))
 cases h0 : ((check r).2.2 == 0)
 ·have h0' : (check r).2.2 ≠ 0 := by simpa using h0
  rw [err (check r).2.2 (by simp [fillErr, errAsk, errWant, h0']) h0']
  (repeat (first | simp only [↓QA, QB, Nat.reduceLT, reduceIte, Nat.reduceEqDiff, Nat.reduceAdd, Nat.reduceLeDiff, Nat.reduceMul, Nat.reduceBEq, QXRm31, h0, encLE] | refine rd0 rfl ?_))
  rfl
 ·have h0' : (check r).2.2 = 0 := by simpa using h0
  have hv := vd_of_check h0'
  have hdd := hv.days
  have hst := hv.start
  have hfe : fillErr r day c = withinE [day, 0, r.days, c, 1, 7] := by
   simp only [fillErr, errAsk, errWant, withinE, isColour, h0', if_true]
   cases inR day 0 r.days
   ·simp
   ·simp; rfl
  obtain ⟨eo, heo⟩ : ∃ eo, eo = withinE [day, 0, r.days, c, 1, 7] := ⟨_, rfl⟩
  have hin := within1_ok [.cells (roomCells r), .cells [.lit [.int .i64 day, .int .i64 0, .int .i64 r.days, .int .i64 c, .int .i64 1, .int .i64 7] true none]] 1 [day, 0, r.days, c, 1, 7] true none (by simp) (by simp [cellsAt]) (by simp)
  rw [← heo] at hin hfe
  try simp only [↓QA, QB, Nat.reduceLT, reduceIte, Nat.reduceEqDiff, Nat.reduceAdd, Nat.reduceLeDiff, Nat.reduceMul, Nat.reduceBEq, QXRm31] at hin
  (repeat (first | simp only [↓QA, QB, Nat.reduceLT, reduceIte, Nat.reduceEqDiff, Nat.reduceAdd, Nat.reduceLeDiff, Nat.reduceMul, Nat.reduceBEq, QXRm31, h0] | refine rd0 rfl ?_))
  refine callK_do (within_run _ _ _) ?_
  (repeat (first | simp only [↓QA, QB, Nat.reduceLT, reduceIte, Nat.reduceEqDiff, Nat.reduceAdd, Nat.reduceLeDiff, Nat.reduceMul, Nat.reduceBEq, QXRm31] | refine rd0 rfl ?_))
  refine callK_same hin ?_
  cases h1 : (eo == 0)
  ·have h1' : eo ≠ 0 := by simpa using h1
   rw [err eo hfe h1']
   (repeat (first | simp only [↓QA, QB, Nat.reduceLT, reduceIte, Nat.reduceEqDiff, Nat.reduceAdd, Nat.reduceLeDiff, Nat.reduceMul, Nat.reduceBEq, QXRm31, h1, encLE] | refine rd0 rfl ?_))
   rfl
  ·have h1' : eo = 0 := by simpa using h1
   have h2 : fillErr r day c = 0 := hfe.trans h1'
   obtain ⟨h3, hc1, hc2⟩ := errWant_ok h2
   obtain ⟨_, hd0, hd1⟩ := errAsk_ok h3
   have hp : fillOf r day c = ((numbers 0 (day + 1).toNat).filter (fills r day c), 0) := by rw [fillOf, if_pos h2]
   rw [hp]
   obtain ⟨D, hD⟩ : ∃ D, (day + 1).toNat = D := ⟨_, rfl⟩
   rw [hD]
   obtain ⟨R, hRR⟩ : ∃ R, (numbers 0 D).filter (fills r day c) = R := ⟨_, rfl⟩
   rw [hRR]
   have hwD : IntKind.i64.wrap (day + 1) = (D : Int) := by rw [wrap64 ⟨by omega, by omega⟩]; omega
   have hlk := fun σ => look_runC σ (rr r) 0 [] (vd_rr hv) but0 (.agg [.int .i64 r.days, .int .i64 r.start.lo, .int .i64 r.start.hi, .lit (r.settings.map encSetting) false none, .int .i64 r.opens, .lit [] true none, .lit [] true none]) (.inr (by
    simp [clr, clrs, (datas_map data_setting r.settings).2, encRoom, roomCells, rr, ints]))
   (repeat (first | simp only [↓QA, QB, Nat.reduceLT, reduceIte, Nat.reduceEqDiff, Nat.reduceAdd, Nat.reduceLeDiff, Nat.reduceMul, Nat.reduceBEq, QXRm31, h1] | refine rd0 rfl ?_))
   refine .mono (hlk _) fun o ho => ?_
   obtain ⟨ps, hov, hoσ, _⟩ := ho
   rw [hov, hoσ]
   (repeat (first | simp only [↓QA, QB, Nat.reduceLT, reduceIte, Nat.reduceEqDiff, Nat.reduceAdd, Nat.reduceLeDiff, Nat.reduceMul, Nat.reduceBEq, QXRm31, List.length_append, lookSt, hwD] | refine rd0 rfl ?_))
   refine ghostK 6 1 [] rfl ?_
   refine loopE (S := Nat × List Int × Bool × Memo) (0, [], false, []) (fun s => s.1 ≤ D ∧ s.2.1.length ≤ s.1 ∧ s.2.1 ++ (numbers (s.1 : Int) (D - s.1)).filter (fills r day c) = R) (fun s => D - s.1)
    (fun s => [(1, .int .i64 day), (2, .int .i64 c), (3, .ptr 0 0), (8, .ptr 4 0), (6, .lit (s.2.1.map (.int .i64)) false (some 5)), (7, .int .i64 0), (39, .int .i64 D), (40, .int .i64 s.1)])
    (fun s => [.cells [.int .i64 r.days, .int .i64 r.start.lo, .int .i64 r.start.hi, .lit (r.settings.map encSetting) false none, .int .i64 r.opens, .lit [] true none, .lit [] true none], .cells [.lit [.int .i64 day, .int .i64 0, .int .i64 r.days, .int .i64 c, .int .i64 1, .int .i64 7] true none], .cells (roomCells (rr r)), .map (memoEs (rr r) s.2.2.2), .cells (rb (rr r) ps 3), .tok 1 s.2.1.length s.2.2.1]) ⟨by simp, by simp, by simpa using hRR⟩ (by simp [roomCells, ints, memoEs]) ?_ fun s hs => ?_
   ·try simp only [TrimX, QE, Nat.reduceLT, reduceIte, Nat.reduceEqDiff, Nat.reduceAdd, Nat.reduceLeDiff, Nat.reduceMul, Nat.reduceBEq, QXRm31, h1']
    try simp
    try simp [h1']
   ·obtain ⟨k, acc, ex, M⟩ := s
    obtain ⟨hk, hal, hacc⟩ := hs
    simp only at hk hal hacc
    (repeat (first | simp only [↓QA, QB, Nat.reduceLT, reduceIte, Nat.reduceEqDiff, Nat.reduceAdd, Nat.reduceLeDiff, Nat.reduceMul, Nat.reduceBEq, QXRm31, L31_0] | refine rd0 rfl ?_))
    refine iteP_intro (fun h => ?_) fun h => ?_
    ·have hk1 : k < D := by simp at h; omega
     have hw : IntKind.i64.wrap ((k : Int) + 1) = ((k + 1 : Nat) : Int) := wrapN hk1 (by omega)
     have hsub : IntKind.i64.wrap (day - (k : Int)) = (((day - k).toNat : Nat) : Int) := by rw [wrap64 ⟨by omega, by omega⟩]; omega
     rw [show D - k = (D - (k + 1)) + 1 by omega] at hacc
     simp only [numbers, List.filter_cons] at hacc
     have hR := (look_at [.cells [.int .i64 r.days, .int .i64 r.start.lo, .int .i64 r.start.hi, .lit (r.settings.map encSetting) false none, .int .i64 r.opens, .lit [] true none, .lit [] true none], .cells [.lit [.int .i64 day, .int .i64 0, .int .i64 r.days, .int .i64 c, .int .i64 1, .int .i64 7] true none]] (rr r) ps).app [.tok 1 acc.length ex]
     obtain ⟨M', hfirst⟩ := first_at hR (vd_rr hv) r.start c (-1) (day - k).toNat hst.1 (by omega) (by omega) (by omega) (by omega) M [] [.ptr 4 0, encSpan r.start, .int .i64 (-1), .int .i64 ((day - k).toNat : Int), .int .i64 c] rfl
     rw [best_rr] at hfirst
     try simp only [↓QA, QB, Nat.reduceLT, reduceIte, Nat.reduceEqDiff, Nat.reduceAdd, Nat.reduceLeDiff, Nat.reduceMul, Nat.reduceBEq, QXRm31] at hfirst
     (repeat (first | simp only [↓QA, QB, Nat.reduceLT, reduceIte, Nat.reduceEqDiff, Nat.reduceAdd, Nat.reduceLeDiff, Nat.reduceMul, Nat.reduceBEq, QXRm31, hsub] | refine rd0 rfl ?_))
     refine callK_do hfirst ?_
     have hrc : fills r day c (k : Int) = (bestOf r r.start (-1) (day - k).toNat c).isSome := rfl
     rw [hrc] at hacc
     cases hb : bestOf r r.start (-1) (day - k).toNat c with
     | none =>
      rw [hb] at hacc
      (repeat (first | simp only [↓QA, QB, Nat.reduceLT, reduceIte, Nat.reduceEqDiff, Nat.reduceAdd, Nat.reduceLeDiff, Nat.reduceMul, Nat.reduceBEq, QXRm31, Option.map_none, firstV, planC, List.map_nil, hw] | refine rd0 rfl ?_))
      refine ⟨(k + 1, acc, ex, M'), ⟨by simp only; omega, by simp only; omega, by simpa using hacc⟩, by simp only; omega, ?_⟩
      try simp only [TrimX, QE, Nat.reduceLT, reduceIte, Nat.reduceEqDiff, Nat.reduceAdd, Nat.reduceLeDiff, Nat.reduceMul, Nat.reduceBEq, QXRm31, hw, memo_okT, rb_okT, S_mapI]
      try simp [okBlk]
     | some x =>
      rw [hb] at hacc
      have hap := fun (b0 b1 b2 b3 b4 : ABlk) (τ : St) => append_intT (σ := b0 :: b1 :: b2 :: b3 :: b4 :: .tok 1 acc.length ex :: τ) (l := acc) (a := (k : Int)) (ex := ex) (t := 5) (by omega) rfl
      (repeat (first | simp only [↓QA, QB, Nat.reduceLT, reduceIte, Nat.reduceEqDiff, Nat.reduceAdd, Nat.reduceLeDiff, Nat.reduceMul, Nat.reduceBEq, QXRm31, Option.map_some, firstV, planC, Pl.adds, Pl.zero, Int.zero_add, hw, hap] | refine rd0 rfl ?_))
      refine ⟨(k + 1, acc ++ [(k : Int)], true, M'), ⟨by simp only; omega, by simp only [List.length_append, List.length_cons, List.length_nil]; omega, by
       simp only [Option.isSome_some, if_true] at hacc
       rw [← hacc]; simp⟩, by simp only; omega, ?_⟩
      try simp only [TrimX, QE, Nat.reduceLT, reduceIte, Nat.reduceEqDiff, Nat.reduceAdd, Nat.reduceLeDiff, Nat.reduceMul, Nat.reduceBEq, QXRm31, hw, memo_okT, rb_okT, S_mapI, List.map_append, List.map_cons, List.map_nil]
      try simp [okBlk]
    ·have hk1 : k = D := by simp at h; omega
     rw [hk1] at hacc
     simp only [Nat.sub_self, numbers, List.filter_nil, List.append_nil] at hacc
     (repeat (first | simp only [↓QA, QB, Nat.reduceLT, reduceIte, Nat.reduceEqDiff, Nat.reduceAdd, Nat.reduceLeDiff, Nat.reduceMul, Nat.reduceBEq, QXRm31, hacc, encLE] | refine rd0 rfl ?_))
end Go.Am.Room
set_option maxRecDepth 4000
namespace Go.Am.Room
def QXRm32 := And.intro @setE_eq (And.intro @bits_len (And.intro @bits_cell (And.intro @bits_take (And.intro @bits_drop (And.intro @bits_zero (And.intro @Nat.mul_one (And.intro @Int.toNat_natCast (And.intro @encRoom_eq (And.intro @roomCells_eq (And.intro @encSetting_eq (And.intro @encLook_eq (And.intro @encSpan_eq (And.intro @S_bits (And.intro @Nat.add_lt_add_iff_left (And.intro @Nat.lt_add_right_iff_pos (And.intro @T_sapp (@List.length_append.{0})))))))))))))))))
theorem isnan_ok (n : Int) : Pure T 124 [.int .i64 n] (.bool false) := by
 refine pure_fn (af := a124) rfl (by simp [a124]) dd ?_
 (repeat (first | simp only [↓QA, QB, Nat.reduceLT, reduceIte, Nat.reduceEqDiff, Nat.reduceAdd, Nat.reduceLeDiff, Nat.reduceMul, Nat.reduceBEq, QXRm32, a124] | refine rd0 rfl ?_))
 try simp
def cmpI (a b : Int) : Int := if a < b then -1 else if b < a then 1 else 0
theorem cmp_ok (a b : Int) : Pure T 118 [.int .i64 a, .int .i64 b] (.int .i64 (cmpI a b)) := by
 refine pure_fn (af := a118) rfl (by simp [a118]) dd ?_
 (repeat (first | simp only [↓QA, QB, Nat.reduceLT, reduceIte, Nat.reduceEqDiff, Nat.reduceAdd, Nat.reduceLeDiff, Nat.reduceMul, Nat.reduceBEq, QXRm32, a118] | refine rd0 rfl ?_))
 ((first | refine callK_d (isnan_ok a) rfl dd ?_ | refine callD_d (isnan_ok a) rfl dd ?_); (repeat (first | simp only [↓QA, QB, Nat.reduceLT, reduceIte, Nat.reduceEqDiff, Nat.reduceAdd, Nat.reduceLeDiff, Nat.reduceMul, Nat.reduceBEq, QXRm32] | refine rd0 rfl ?_)))
 ((first | refine callK_d (isnan_ok b) rfl dd ?_ | refine callD_d (isnan_ok b) rfl dd ?_); (repeat (first | simp only [↓QA, QB, Nat.reduceLT, reduceIte, Nat.reduceEqDiff, Nat.reduceAdd, Nat.reduceLeDiff, Nat.reduceMul, Nat.reduceBEq, QXRm32] | refine rd0 rfl ?_)))
 cases h1 : decide (a < b)
 ·have h1' : ¬ a < b := by simpa using h1
  (repeat (first | simp only [↓QA, QB, Nat.reduceLT, reduceIte, Nat.reduceEqDiff, Nat.reduceAdd, Nat.reduceLeDiff, Nat.reduceMul, Nat.reduceBEq, QXRm32] | refine rd0 rfl ?_))
  cases h2 : decide (b < a)
  ·have h2' : ¬ b < a := by simpa using h2
   (repeat (first | simp only [↓QA, QB, Nat.reduceLT, reduceIte, Nat.reduceEqDiff, Nat.reduceAdd, Nat.reduceLeDiff, Nat.reduceMul, Nat.reduceBEq, QXRm32] | refine rd0 rfl ?_))
   simp [cmpI, h1', h2']
  ·have h2' : b < a := by simpa using h2
   (repeat (first | simp only [↓QA, QB, Nat.reduceLT, reduceIte, Nat.reduceEqDiff, Nat.reduceAdd, Nat.reduceLeDiff, Nat.reduceMul, Nat.reduceBEq, QXRm32] | refine rd0 rfl ?_))
   simp [cmpI, h1', h2']
 ·have h1' : a < b := by simpa using h1
  (repeat (first | simp only [↓QA, QB, Nat.reduceLT, reduceIte, Nat.reduceEqDiff, Nat.reduceAdd, Nat.reduceLeDiff, Nat.reduceMul, Nat.reduceBEq, QXRm32] | refine rd0 rfl ?_))
  simp [cmpI, h1']
def cmpL : List Int → List Int → Int
 | [], [] => 0
 | [], _ :: _ => -1
 | _ :: _, [] => 1
 | a :: az, b :: bs => if cmpI a b = 0 then cmpL az bs else cmpI a b
theorem cmpL_less : ∀ a b : List Int, decide (0 < cmpL a b) = less b a
 | [], [] => rfl
 | [], b :: bs => rfl
 | a :: az, [] => rfl
 | a :: az, b :: bs => by
  have ih := cmpL_less az bs
  simp only [cmpL, less, cmpI]
  by_cases h1 : a < b
  ·simp [h1, show ¬ b = a by omega]; omega
  ·by_cases h2 : b < a
   ·simp [h1, h2, show ¬ b = a by omega]
   ·have : b = a := by omega
    subst this
    simp [ih]
theorem scmp_ok (a b : List Int) (ha : a.length < 9223372036854775808) (hb : b.length < 9223372036854775808) : Pure T 93 [ints a, ints b] (.int .i64 (cmpL a b)) := by
 refine pure_fn (af := a93) rfl (by simp [a93]) dd ?_
 (repeat (first | simp only [↓QA, QB, Nat.reduceLT, reduceIte, Nat.reduceEqDiff, Nat.reduceAdd, Nat.reduceLeDiff, Nat.reduceMul, Nat.reduceBEq, QXRm32, a93] | refine rd0 rfl ?_))
 refine loopE (S := Nat) 0 (fun k => k ≤ a.length ∧ k ≤ b.length ∧ cmpL (a.drop k) (b.drop k) = cmpL a b) (fun k => a.length - k) (fun k => [(0, ints a), (1, ints b), (9, ints a), (10, .int .i64 a.length), (11, .int .i64 k)]) (fun _ => []) ⟨by simp, by simp, by simp⟩ rfl ?_ fun k hk => ?_
 ·try simp only [TrimX, QE, Nat.reduceLT, reduceIte, Nat.reduceEqDiff, Nat.reduceAdd, Nat.reduceLeDiff, Nat.reduceMul, Nat.reduceBEq, QXRm32]
  try simp
 ·obtain ⟨hk, hkb, hq⟩ := hk
  (repeat (first | simp only [↓QA, QB, Nat.reduceLT, reduceIte, Nat.reduceEqDiff, Nat.reduceAdd, Nat.reduceLeDiff, Nat.reduceMul, Nat.reduceBEq, QXRm32, L93_0] | refine rd0 rfl ?_))
  refine iteP_intro (fun h => ?_) fun h => ?_
  ·have hk1 : k < a.length := by simpa using h
   have hw := wrapN hk1 ha
   rw [List.drop_eq_getElem_cons hk1] at hq
   (repeat (first | simp only [↓QA, QB, Nat.reduceLT, reduceIte, Nat.reduceEqDiff, Nat.reduceAdd, Nat.reduceLeDiff, Nat.reduceMul, Nat.reduceBEq, QXRm32, hk1] | refine rd0 rfl ?_))
   refine iteP_intro (fun h2 => ?_) fun h2 => ?_
   ·have hk2 : k = b.length := by simp at h2; omega
    have hd : b.drop k = [] := by rw [hk2, List.drop_length]
    rw [hd] at hq
    simp only [cmpL] at hq
    (repeat (first | simp only [↓QA, QB, Nat.reduceLT, reduceIte, Nat.reduceEqDiff, Nat.reduceAdd, Nat.reduceLeDiff, Nat.reduceMul, Nat.reduceBEq, QXRm32, hk1, ← hq] | refine rd0 rfl ?_))
   ·have hk2 : k < b.length := by simp at h2; omega
    rw [List.drop_eq_getElem_cons hk2] at hq
    simp only [cmpL] at hq
    (repeat (first | simp only [↓QA, QB, Nat.reduceLT, reduceIte, Nat.reduceEqDiff, Nat.reduceAdd, Nat.reduceLeDiff, Nat.reduceMul, Nat.reduceBEq, QXRm32, hk1, hk2] | refine rd0 rfl ?_))
    ((first | refine callK_d (cmp_ok a[k] b[k]) rfl dd ?_ | refine callD_d (cmp_ok a[k] b[k]) rfl dd ?_); (repeat (first | simp only [↓QA, QB, Nat.reduceLT, reduceIte, Nat.reduceEqDiff, Nat.reduceAdd, Nat.reduceLeDiff, Nat.reduceMul, Nat.reduceBEq, QXRm32, hk1, hk2] | refine rd0 rfl ?_)))
    cases h3 : (cmpI a[k] b[k] == 0)
    ·have h3' : cmpI a[k] b[k] ≠ 0 := by simpa using h3
     rw [if_neg h3'] at hq
     (repeat (first | simp only [↓QA, QB, Nat.reduceLT, reduceIte, Nat.reduceEqDiff, Nat.reduceAdd, Nat.reduceLeDiff, Nat.reduceMul, Nat.reduceBEq, QXRm32, h3, hk1, hk2, hq] | refine rd0 rfl ?_))
    ·have h3' : cmpI a[k] b[k] = 0 := by simpa using h3
     rw [if_pos h3'] at hq
     (repeat (first | simp only [↓QA, QB, Nat.reduceLT, reduceIte, Nat.reduceEqDiff, Nat.reduceAdd, Nat.reduceLeDiff, Nat.reduceMul, Nat.reduceBEq, QXRm32, h3, hk1, hk2] | refine rd0 rfl ?_))
     refine ⟨k + 1, ⟨by omega, by omega, hq⟩, by omega, ?_⟩
     try simp only [TrimX, QE, Nat.reduceLT, reduceIte, Nat.reduceEqDiff, Nat.reduceAdd, Nat.reduceLeDiff, Nat.reduceMul, Nat.reduceBEq, QXRm32, hw]
  ·have hk1 : k = a.length := by simp at h; omega
   rw [hk1, List.drop_length] at hq
   (repeat (first | simp only [↓QA, QB, Nat.reduceLT, reduceIte, Nat.reduceEqDiff, Nat.reduceAdd, Nat.reduceLeDiff, Nat.reduceMul, Nat.reduceBEq, QXRm32] | refine rd0 rfl ?_))
   refine iteP_intro (fun h2 => ?_) fun h2 => ?_
   ·have hk2 : a.length < b.length := by simpa using h2
    rw [List.drop_eq_getElem_cons hk2] at hq
    (repeat (first | simp only [↓QA, QB, Nat.reduceLT, reduceIte, Nat.reduceEqDiff, Nat.reduceAdd, Nat.reduceLeDiff, Nat.reduceMul, Nat.reduceBEq, QXRm32, ← hq, cmpL] | refine rd0 rfl ?_))
   ·have hk2 : a.length = b.length := by simp at h2; omega
    rw [hk2, List.drop_length] at hq
    (repeat (first | simp only [↓QA, QB, Nat.reduceLT, reduceIte, Nat.reduceEqDiff, Nat.reduceAdd, Nat.reduceLeDiff, Nat.reduceMul, Nat.reduceBEq, QXRm32, ← hq, cmpL] | refine rd0 rfl ?_))
theorem list_ok (s n : Nat) (hs : s < 9223372036854775808) (hn : n ≤ 60) : Pure T 92 [.int .i64 s, .int .i64 n] (ints (lst n s)) := by
 refine pure_fn (af := a92) rfl (by simp [a92]) dd ?_
 (repeat (first | simp only [↓QA, QB, Nat.reduceLT, reduceIte, Nat.reduceEqDiff, Nat.reduceAdd, Nat.reduceLeDiff, Nat.reduceMul, Nat.reduceBEq, QXRm32, a92] | refine rd0 rfl ?_))
 obtain ⟨R, hRR⟩ : ∃ R, lst n s = R := ⟨_, rfl⟩
 have hRR' : [] ++ (numbers ((0 : Nat) : Int) (n - 0)).filter (fun i => decide (s / 2 ^ i.toNat % 2 = 1)) = R := hRR
 rw [hRR]
 refine ghostK 4 1 [] rfl ?_
 refine loopE (S := Nat × List Int × Bool) (0, [], false) (fun x => x.1 ≤ n ∧ x.2.1.length ≤ x.1 ∧ x.2.1 ++ (numbers (x.1 : Int) (n - x.1)).filter (fun i => decide (s / 2 ^ i.toNat % 2 = 1)) = R) (fun x => n - x.1)
  (fun x => [(0, .int .i64 s), (4, .lit (x.2.1.map (.int .i64)) false (some 0)), (6, .int .i64 n), (7, .int .i64 x.1)]) (fun x => [.tok 1 x.2.1.length x.2.2]) ⟨by simp, by simp, hRR'⟩ rfl ?_ fun x hx => ?_
 ·try simp only [TrimX, QE, Nat.reduceLT, reduceIte, Nat.reduceEqDiff, Nat.reduceAdd, Nat.reduceLeDiff, Nat.reduceMul, Nat.reduceBEq, QXRm32]
  try simp
 ·obtain ⟨k, acc, ex⟩ := x
  obtain ⟨hk, hal, hacc⟩ := hx
  simp only at hk hal hacc
  (repeat (first | simp only [↓QA, QB, Nat.reduceLT, reduceIte, Nat.reduceEqDiff, Nat.reduceAdd, Nat.reduceLeDiff, Nat.reduceMul, Nat.reduceBEq, QXRm32, L92_0] | refine rd0 rfl ?_))
  refine iteP_intro (fun h => ?_) fun h => ?_
  ·have hk1 : k < n := by simpa using h
   have hw := wrapN hk1 (by omega)
   rw [show n - k = (n - (k + 1)) + 1 by omega] at hacc
   simp only [numbers, List.filter_cons, Int.toNat_natCast] at hacc
   rw [show ((k : Int) + 1) = ((k + 1 : Nat) : Int) by omega] at hacc
   have vs := V_shr s k (by omega)
   have va := V_and1 (s / 2 ^ k) (Nat.lt_of_le_of_lt (Nat.div_le_self _ _) hs)
   have hbit : (((s / 2 ^ k % 2 : Nat) : Int) == 1) = decide (s / 2 ^ k % 2 = 1) := by
    generalize s / 2 ^ k % 2 = q
    rw [Bool.eq_iff_iff, beq_iff_eq, decide_eq_true_eq]; omega
   (repeat (first | simp only [↓QA, QB, Nat.reduceLT, reduceIte, Nat.reduceEqDiff, Nat.reduceAdd, Nat.reduceLeDiff, Nat.reduceMul, Nat.reduceBEq, QXRm32, vs, va, hbit] | refine rd0 rfl ?_))
   cases hb : decide (s / 2 ^ k % 2 = 1)
   ·simp only [hb, Bool.false_eq_true, if_false] at hacc
    (repeat (first | simp only [↓QA, QB, Nat.reduceLT, reduceIte, Nat.reduceEqDiff, Nat.reduceAdd, Nat.reduceLeDiff, Nat.reduceMul, Nat.reduceBEq, QXRm32, hw] | refine rd0 rfl ?_))
    refine ⟨(k + 1, acc, ex), ⟨by simp only; omega, by simp only; omega, by simpa using hacc⟩, by simp only; omega, ?_⟩
    try simp only [TrimX, QE, Nat.reduceLT, reduceIte, Nat.reduceEqDiff, Nat.reduceAdd, Nat.reduceLeDiff, Nat.reduceMul, Nat.reduceBEq, QXRm32, hw, S_mapI]
    try simp [okBlk]
   ·simp only [hb, if_true] at hacc
    have hap := fun (τ : St) => append_intT (σ := .tok 1 acc.length ex :: τ) (l := acc) (a := (k : Int)) (ex := ex) (t := 0) (by omega) rfl
    (repeat (first | simp only [↓QA, QB, Nat.reduceLT, reduceIte, Nat.reduceEqDiff, Nat.reduceAdd, Nat.reduceLeDiff, Nat.reduceMul, Nat.reduceBEq, QXRm32, hw, hap] | refine rd0 rfl ?_))
    refine ⟨(k + 1, acc ++ [(k : Int)], true), ⟨by simp only; omega, by simp only [List.length_append, List.length_cons, List.length_nil]; omega, by
     rw [← hacc]; simp⟩, by simp only; omega, ?_⟩
    try simp only [TrimX, QE, Nat.reduceLT, reduceIte, Nat.reduceEqDiff, Nat.reduceAdd, Nat.reduceLeDiff, Nat.reduceMul, Nat.reduceBEq, QXRm32, hw, S_mapI, List.map_append, List.map_cons, List.map_nil]
    try simp [okBlk]
  ·have hk1 : k = n := by simp at h; omega
   rw [hk1] at hacc
   simp only [Nat.sub_self, numbers, List.filter_nil, List.append_nil] at hacc
   (repeat (first | simp only [↓QA, QB, Nat.reduceLT, reduceIte, Nat.reduceEqDiff, Nat.reduceAdd, Nat.reduceLeDiff, Nat.reduceMul, Nat.reduceBEq, QXRm32, hacc, ints] | refine rd0 rfl ?_))
end Go.Am.Room
set_option maxRecDepth 4000
namespace Go.Am.Room
def QXRm33 := And.intro @setE_eq (And.intro @bits_len (And.intro @bits_cell (And.intro @bits_take (And.intro @bits_drop (And.intro @bits_zero (And.intro @Nat.mul_one (And.intro @Int.toNat_natCast (And.intro @encRoom_eq (And.intro @roomCells_eq (And.intro @encSetting_eq (And.intro @encLook_eq (And.intro @encSpan_eq (And.intro @S_bits (And.intro @Nat.add_lt_add_iff_left (And.intro @Nat.lt_add_right_iff_pos (And.intro @T_sapp (@List.length_append.{0})))))))))))))))))
theorem V_shl1 (n : Nat) (h : n ≤ 8) : binAV .shl (.int .i64 1) (.int .i64 (n : Int)) = some (.int .i64 ((2 ^ n : Nat) : Int)) := by
 have hm : Nat.min n 64 = n := Nat.min_eq_left (by omega)
 have h0 : ¬ (n : Int) < 0 := by omega
 have hp : 2 ^ n ≤ 2 ^ 8 := Nat.pow_le_pow_right (by omega) h
 have hc : (1 : Int) * 2 ^ n = ((2 ^ n : Nat) : Int) := by rw [Int.one_mul, Int.natCast_pow]; rfl
 simp only [binAV, h0, if_false, IntKind.bits, Int.toNat_natCast, hm, Option.some.injEq, AV.int.injEq, true_and]
 rw [hc]
 generalize 2 ^ n = q at hp
 exact wrap64 ⟨by omega, by omega⟩
theorem lst_but : ∀ n : Fin 5, ∀ s : Fin 16, s.val < 2 ^ n.val → ∀ i : Fin 4, i.val < n.val → (((s.val / 2 ^ i.val % 2 : Nat) : Int) == 0) = !(lst n s).contains (i.val : Int) := by decide +kernel
theorem lst_but2 : ∀ n : Fin 5, ∀ s : Fin 16, s.val < 2 ^ n.val → ∀ i : Fin 4, n.val ≤ i.val → (((s.val / 2 ^ i.val % 2 : Nat) : Int) == 0) = !(lst n s).contains (i.val : Int) := by decide +kernel
theorem but_lst {n s : Nat} (hn : n ≤ 4) (hs : s < 2 ^ n) : ButIs s (lst n s) := by
 have hp : 2 ^ n ≤ 2 ^ 4 := Nat.pow_le_pow_right (by omega) hn
 refine ⟨by omega, fun i hi => ?_⟩
 by_cases h : i < n
 ·exact lst_but ⟨n, by omega⟩ ⟨s, by omega⟩ hs ⟨i, hi⟩ h
 ·exact lst_but2 ⟨n, by omega⟩ ⟨s, by omega⟩ hs ⟨i, hi⟩ (by simp only; omega)
theorem pwrong_ok (r : Rm) (hf : Fits r) : Pure T 33 [encRoom r] (encLE (wrongOf r)) := by
 refine pure_fn (af := a33) rfl (by simp [a33]) dd ?_
 (repeat (first | simp only [↓QA, QB, Nat.reduceLT, reduceIte, Nat.reduceEqDiff, Nat.reduceAdd, Nat.reduceLeDiff, Nat.reduceMul, Nat.reduceBEq, QXRm33, a33] | refine rd0 rfl ?_))
 ((first | refine callK_d (check_ok r hf) rfl dd ?_ | refine callD_d (check_ok r hf) rfl dd ?_); (repeat (first | simp only [↓QA, QB, Nat.reduceLT, reduceIte, Nat.reduceEqDiff, Nat.reduceAdd, Nat.reduceLeDiff, Nat.reduceMul, Nat.reduceBEq, QXRm33, enc3] | refine rd0 rfl ?_)))
 cases h0 : ((check r).2.2 == 0)
 ·have h0' : (check r).2.2 ≠ 0 := by simpa using h0
  have hwo : wrongOf r = ([], (check r).2.2) := if_neg h0'
  rw [hwo]
  (repeat (first | simp only [↓QA, QB, Nat.reduceLT, reduceIte, Nat.reduceEqDiff, Nat.reduceAdd, Nat.reduceLeDiff, Nat.reduceMul, Nat.reduceBEq, QXRm33, h0, encLE] | refine rd0 rfl ?_))
  try rfl
 ·have h0' : (check r).2.2 = 0 := by simpa using h0
  have hwo : wrongOf r = (wrongFrom r r.looks.length 0, 0) := if_pos h0'
  rw [hwo]
  have hv := vd_of_check h0'
  have hll := hv.looksLen
  have hwe := wrong_eq hv
  obtain ⟨N, hN⟩ : ∃ N, r.looks.length = N := ⟨_, rfl⟩
  rw [hN] at hwe hll ⊢
  obtain ⟨W, hW⟩ : ∃ W, wrongFrom r N 0 = W := ⟨_, rfl⟩
  rw [hW] at hwe ⊢
  have hp : 2 ^ N ≤ 2 ^ 4 := Nat.pow_le_pow_right (by omega) hll
  have hshl := V_shl1 N (by omega)
  obtain ⟨P, hP⟩ : ∃ P, 2 ^ N = P := ⟨_, rfl⟩
  rw [hP] at hp hshl hwe
  (repeat (first | simp only [↓QA, QB, Nat.reduceLT, reduceIte, Nat.reduceEqDiff, Nat.reduceAdd, Nat.reduceLeDiff, Nat.reduceMul, Nat.reduceBEq, QXRm33, h0, hN, hshl] | refine rd0 rfl ?_))
  refine loopE (S := Nat × Option (List Int)) (0, none) (fun x => x.1 ≤ P ∧ wrFold r N (P - x.1) x.1 x.2 = some W ∧ (x.2.getD []).length ≤ N) (fun x => P - x.1)
   (fun x => [(1, .ptr 0 0), (2, ints (x.2.getD [])), (3, .int .i64 0), (4, .bool x.2.isSome), (21, .int .i64 P), (22, .int .i64 x.1)]) (fun _ => [.cells (roomCells r)]) ⟨by simp, by simpa using hwe, by simp⟩ (by simp [roomCells, ints]) ?_ fun x hx => ?_
  ·try simp only [TrimX, QE, Nat.reduceLT, reduceIte, Nat.reduceEqDiff, Nat.reduceAdd, Nat.reduceLeDiff, Nat.reduceMul, Nat.reduceBEq, QXRm33, ints]
   try simp [clr, clrs, h0']
  ·obtain ⟨s, o⟩ := x
   obtain ⟨hs, hq, hol⟩ := hx
   simp only at hs hq hol
   (repeat (first | simp only [↓QA, QB, Nat.reduceLT, reduceIte, Nat.reduceEqDiff, Nat.reduceAdd, Nat.reduceLeDiff, Nat.reduceMul, Nat.reduceBEq, QXRm33, L33_0, hN] | refine rd0 rfl ?_))
   refine iteP_intro (fun h => ?_) fun h => ?_
   ·have hs1 : s < P := by simpa using h
    have hw := wrapN hs1 (by omega)
    have hlen := lst_len N s
    have hbut := but_lst hll (by rw [hP]; exact hs1)
    rw [show P - s = (P - (s + 1)) + 1 by omega] at hq
    simp only [wrFold] at hq
    obtain ⟨L, hL⟩ : ∃ L, lst N s = L := ⟨_, rfl⟩
    rw [hL] at hq hlen hbut
    have hlo := list_ok s N (by omega) (by omega)
    rw [hL] at hlo
    (repeat (first | simp only [↓QA, QB, Nat.reduceLT, reduceIte, Nat.reduceEqDiff, Nat.reduceAdd, Nat.reduceLeDiff, Nat.reduceMul, Nat.reduceBEq, QXRm33, hN, Option.getD_some] | refine rd0 rfl ?_))
    ((first | refine callK_d (hlo) rfl dd ?_ | refine callD_d (hlo) rfl dd ?_); (repeat (first | simp only [↓QA, QB, Nat.reduceLT, reduceIte, Nat.reduceEqDiff, Nat.reduceAdd, Nat.reduceLeDiff, Nat.reduceMul, Nat.reduceBEq, QXRm33, hN] | refine rd0 rfl ?_)))
    cases o with
    | none =>
     have hst : wrStep r none L = if someB r L = true then some L else none := rfl
     (repeat (first | simp only [↓QA, QB, Nat.reduceLT, reduceIte, Nat.reduceEqDiff, Nat.reduceAdd, Nat.reduceLeDiff, Nat.reduceMul, Nat.reduceBEq, QXRm33, hN, Option.isSome_none, Option.getD_none] | refine rd0 rfl ?_))
     refine .mono (look_run _ r s L hv hbut) fun o2 ho2 => ?_
     obtain ⟨ps, hov, hoσ, _⟩ := ho2
     rw [hov, hoσ]
     cases hsm : someB r L
     ·rw [hsm] at hst
      simp only [Bool.false_eq_true, if_false] at hst
      (repeat (first | simp only [↓QA, QB, Nat.reduceLT, reduceIte, Nat.reduceEqDiff, Nat.reduceAdd, Nat.reduceLeDiff, Nat.reduceMul, Nat.reduceBEq, QXRm33, lookSt, hw, List.length_append] | refine rd0 rfl ?_))
      refine ⟨(s + 1, none), ⟨by simp only; omega, by rw [hst] at hq; exact hq, by simp only; first | exact hol | simp⟩, by simp only; omega, ?_⟩
      try simp only [TrimX, QE, Nat.reduceLT, reduceIte, Nat.reduceEqDiff, Nat.reduceAdd, Nat.reduceLeDiff, Nat.reduceMul, Nat.reduceBEq, QXRm33, hw, S_mapI]
      try simp [okBlk, ints]
     ·rw [hsm] at hst
      simp only [if_true] at hst
      (repeat (first | simp only [↓QA, QB, Nat.reduceLT, reduceIte, Nat.reduceEqDiff, Nat.reduceAdd, Nat.reduceLeDiff, Nat.reduceMul, Nat.reduceBEq, QXRm33, lookSt, hw, List.length_append] | refine rd0 rfl ?_))
      refine ⟨(s + 1, some L), ⟨by simp only; omega, by rw [hst] at hq; exact hq, by simpa using hlen⟩, by simp only; omega, ?_⟩
      try simp only [TrimX, QE, Nat.reduceLT, reduceIte, Nat.reduceEqDiff, Nat.reduceAdd, Nat.reduceLeDiff, Nat.reduceMul, Nat.reduceBEq, QXRm33, hw, S_mapI]
      try simp [okBlk, ints]
    | some b =>
     simp only [Option.getD_some] at hol
     simp only [Option.isSome_some, iteP_true]
     (repeat (first | simp only [↓QA, QB, Nat.reduceLT, reduceIte, Nat.reduceEqDiff, Nat.reduceAdd, Nat.reduceLeDiff, Nat.reduceMul, Nat.reduceBEq, QXRm33, hN, Option.isSome_some, Option.getD_some] | refine rd0 rfl ?_))
     cases h1 : decide ((b.length : Int) < (L.length : Int))
     ·have h1' : ¬ b.length < L.length := by simpa using h1
      (repeat (first | simp only [↓QA, QB, Nat.reduceLT, reduceIte, Nat.reduceEqDiff, Nat.reduceAdd, Nat.reduceLeDiff, Nat.reduceMul, Nat.reduceBEq, QXRm33, hN, Option.getD_some] | refine rd0 rfl ?_))
      cases h2 : ((L.length : Int) == (b.length : Int))
      ·have h2' : ¬ b.length = L.length := by intro h; rw [h] at h2; simp at h2
       have hst : wrStep r (some b) L = if someB r L = true then some L else some b := by
        have : fewer b L = false := by simp [fewer, h1', h2']
        simp only [wrStep, this]; rfl
       (repeat (first | simp only [↓QA, QB, Nat.reduceLT, reduceIte, Nat.reduceEqDiff, Nat.reduceAdd, Nat.reduceLeDiff, Nat.reduceMul, Nat.reduceBEq, QXRm33, hN, Option.getD_some] | refine rd0 rfl ?_))
       refine .mono (look_run _ r s L hv hbut) fun o2 ho2 => ?_
       obtain ⟨ps, hov, hoσ, _⟩ := ho2
       rw [hov, hoσ]
       cases hsm : someB r L
       ·rw [hsm] at hst
        simp only [Bool.false_eq_true, if_false] at hst
        (repeat (first | simp only [↓QA, QB, Nat.reduceLT, reduceIte, Nat.reduceEqDiff, Nat.reduceAdd, Nat.reduceLeDiff, Nat.reduceMul, Nat.reduceBEq, QXRm33, lookSt, hw, List.length_append] | refine rd0 rfl ?_))
        refine ⟨(s + 1, some b), ⟨by simp only; omega, by rw [hst] at hq; exact hq, by simp only; first | exact hol | simp⟩, by simp only; omega, ?_⟩
        try simp only [TrimX, QE, Nat.reduceLT, reduceIte, Nat.reduceEqDiff, Nat.reduceAdd, Nat.reduceLeDiff, Nat.reduceMul, Nat.reduceBEq, QXRm33, hw, S_mapI]
        try simp [okBlk, ints]
       ·rw [hsm] at hst
        simp only [if_true] at hst
        (repeat (first | simp only [↓QA, QB, Nat.reduceLT, reduceIte, Nat.reduceEqDiff, Nat.reduceAdd, Nat.reduceLeDiff, Nat.reduceMul, Nat.reduceBEq, QXRm33, lookSt, hw, List.length_append] | refine rd0 rfl ?_))
        refine ⟨(s + 1, some L), ⟨by simp only; omega, by rw [hst] at hq; exact hq, by simpa using hlen⟩, by simp only; omega, ?_⟩
        try simp only [TrimX, QE, Nat.reduceLT, reduceIte, Nat.reduceEqDiff, Nat.reduceAdd, Nat.reduceLeDiff, Nat.reduceMul, Nat.reduceBEq, QXRm33, hw, S_mapI]
        try simp [okBlk, ints]
      ·have h2' : b.length = L.length := by simp at h2; omega
       (repeat (first | simp only [↓QA, QB, Nat.reduceLT, reduceIte, Nat.reduceEqDiff, Nat.reduceAdd, Nat.reduceLeDiff, Nat.reduceMul, Nat.reduceBEq, QXRm33, hN, Option.getD_some] | refine rd0 rfl ?_))
       ((first | refine callK_d (scmp_ok L b (by omega) (by omega)) rfl dd ?_ | refine callD_d (scmp_ok L b (by omega) (by omega)) rfl dd ?_); (repeat (first | simp only [↓QA, QB, Nat.reduceLT, reduceIte, Nat.reduceEqDiff, Nat.reduceAdd, Nat.reduceLeDiff, Nat.reduceMul, Nat.reduceBEq, QXRm33, cmpL_less, hN, Option.getD_some] | refine rd0 rfl ?_)))
       cases h3 : less b L
       ·have hst : wrStep r (some b) L = if someB r L = true then some L else some b := by
         have : fewer b L = false := by simp [fewer, h2', h3]
         simp only [wrStep, this]; rfl
        (repeat (first | simp only [↓QA, QB, Nat.reduceLT, reduceIte, Nat.reduceEqDiff, Nat.reduceAdd, Nat.reduceLeDiff, Nat.reduceMul, Nat.reduceBEq, QXRm33, hN, Option.getD_some] | refine rd0 rfl ?_))
        refine .mono (look_run _ r s L hv hbut) fun o2 ho2 => ?_
        obtain ⟨ps, hov, hoσ, _⟩ := ho2
        rw [hov, hoσ]
        cases hsm : someB r L
        ·rw [hsm] at hst
         simp only [Bool.false_eq_true, if_false] at hst
         (repeat (first | simp only [↓QA, QB, Nat.reduceLT, reduceIte, Nat.reduceEqDiff, Nat.reduceAdd, Nat.reduceLeDiff, Nat.reduceMul, Nat.reduceBEq, QXRm33, lookSt, hw, List.length_append] | refine rd0 rfl ?_))
         refine ⟨(s + 1, some b), ⟨by simp only; omega, by rw [hst] at hq; exact hq, by simp only; first | exact hol | simp⟩, by simp only; omega, ?_⟩
         try simp only [TrimX, QE, Nat.reduceLT, reduceIte, Nat.reduceEqDiff, Nat.reduceAdd, Nat.reduceLeDiff, Nat.reduceMul, Nat.reduceBEq, QXRm33, hw, S_mapI]
         try simp [okBlk, ints]
        ·rw [hsm] at hst
         simp only [if_true] at hst
         (repeat (first | simp only [↓QA, QB, Nat.reduceLT, reduceIte, Nat.reduceEqDiff, Nat.reduceAdd, Nat.reduceLeDiff, Nat.reduceMul, Nat.reduceBEq, QXRm33, lookSt, hw, List.length_append] | refine rd0 rfl ?_))
         refine ⟨(s + 1, some L), ⟨by simp only; omega, by rw [hst] at hq; exact hq, by simpa using hlen⟩, by simp only; omega, ?_⟩
         try simp only [TrimX, QE, Nat.reduceLT, reduceIte, Nat.reduceEqDiff, Nat.reduceAdd, Nat.reduceLeDiff, Nat.reduceMul, Nat.reduceBEq, QXRm33, hw, S_mapI]
         try simp [okBlk, ints]
       ·have hst : wrStep r (some b) L = some b := by
         have : fewer b L = true := by simp [fewer, h2', h3]
         simp only [wrStep, this, if_true]
        (repeat (first | simp only [↓QA, QB, Nat.reduceLT, reduceIte, Nat.reduceEqDiff, Nat.reduceAdd, Nat.reduceLeDiff, Nat.reduceMul, Nat.reduceBEq, QXRm33, hN, hw, Option.getD_some] | refine rd0 rfl ?_))
        refine ⟨(s + 1, some b), ⟨by simp only; omega, by rw [hst] at hq; exact hq, hol⟩, by simp only; omega, ?_⟩
        try simp only [TrimX, QE, Nat.reduceLT, reduceIte, Nat.reduceEqDiff, Nat.reduceAdd, Nat.reduceLeDiff, Nat.reduceMul, Nat.reduceBEq, QXRm33, hw, S_mapI]
        try simp [okBlk, ints]
     ·have h1' : b.length < L.length := by simpa using h1
      have hst : wrStep r (some b) L = some b := by
       have : fewer b L = true := by simp [fewer, h1', show ¬ b.length = L.length by omega]
       simp only [wrStep, this, if_true]
      (repeat (first | simp only [↓QA, QB, Nat.reduceLT, reduceIte, Nat.reduceEqDiff, Nat.reduceAdd, Nat.reduceLeDiff, Nat.reduceMul, Nat.reduceBEq, QXRm33, hN, hw, Option.getD_some] | refine rd0 rfl ?_))
      refine ⟨(s + 1, some b), ⟨by simp only; omega, by rw [hst] at hq; exact hq, hol⟩, by simp only; omega, ?_⟩
      try simp only [TrimX, QE, Nat.reduceLT, reduceIte, Nat.reduceEqDiff, Nat.reduceAdd, Nat.reduceLeDiff, Nat.reduceMul, Nat.reduceBEq, QXRm33, hw, S_mapI]
      try simp [okBlk, ints]
   ·have hs1 : s = P := by simp at h; omega
    rw [hs1, Nat.sub_self] at hq
    simp only [wrFold] at hq
    subst hq
    (repeat (first | simp only [↓QA, QB, Nat.reduceLT, reduceIte, Nat.reduceEqDiff, Nat.reduceAdd, Nat.reduceLeDiff, Nat.reduceMul, Nat.reduceBEq, QXRm33, encLE, Option.getD_some] | refine rd0 rfl ?_))
def someC (r : Rm) (but : List Int) : Bool := (fwd r but r.ran.length).isSome
def knownC (r : Rm) (e : Int) : Int := if e = 0 then (if someC r [] = true then 0 else 8) else e
theorem known_eq {r : Rm} {e : Int} (h : e = 0 → Vd r) : errKnown r e = knownC r e := by
 simp only [errKnown, knownC]
 split
 ·rename_i h0; rw [someB_eq (h h0)]; rfl
 ·rfl
def pointsC (r : Rm) (day : Int) : Span × Int := if knownC r (errAsk r day 0 r.ran.length) = 0 then (ptsS r day.toNat, 0) else (⟨0, 0⟩, knownC r (errAsk r day 0 r.ran.length))
theorem points_eq (r : Rm) (day : Int) : pointsOf r day = pointsC r day := by
 have hk := known_eq (r := r) (e := errAsk r day 0 r.ran.length) fun h => (errAsk_ok h).1
 simp only [pointsOf, pointsC, ← hk]
 split
 ·rename_i h0
  obtain ⟨h1, hs⟩ := errKnown_ok h0
  rw [ptsS_eq (errAsk_ok h1).1]
 ·rfl
def coloursC (r : Rm) (day : Int) : Span × Int := if (pointsC r day).2 = 0 then (colours (pointsC r day).1, 0) else (⟨0, 0⟩, (pointsC r day).2)
theorem colours_eq (r : Rm) (day : Int) : coloursOf r day = coloursC r day := by simp only [coloursOf, coloursC, points_eq]
def becomeC (r : Rm) (l : List Int) : Span × Int := if knownC r (errSets r l) = 0 then (colours (plus (ptsS r r.ran.length) (sumS r l)), 0) else (⟨0, 0⟩, knownC r (errSets r l))
theorem become_eq (r : Rm) (l : List Int) : becomeOf r l = becomeC r l := by
 simp only [becomeOf, becomeC, known_eq (r := r) (e := errSets r l) fun h => (errSets_ok h).1]
def planC' (r : Rm) (day c : Int) : List Int × Int × Int :=
 if knownC r (errWant (errAsk r day r.ran.length r.days) c) = 0 then (match bestOf r (ptsS r r.ran.length) (beforeOf r) (day - r.ran.length).toNat c with | none => ([], 0, 9) | some x => (x.1, x.2, 0)) else ([], 0, knownC r (errWant (errAsk r day r.ran.length r.days) c))
theorem plan_eq (r : Rm) (day c : Int) : planOf r day c = planC' r day c := by
 simp only [planOf, planC', planErr, known_eq (r := r) (e := errWant (errAsk r day r.ran.length r.days) c) fun h => (errAsk_ok (errWant_ok h).1).1]
 rfl
def reachC (r : Rm) (day : Int) : List Int × Int := if knownC r (errAsk r day r.ran.length r.days) = 0 then ((numbers 1 7).filter (reaches r day), 0) else ([], knownC r (errAsk r day r.ran.length r.days))
theorem reach_eq (r : Rm) (day : Int) : reachOf r day = reachC r day := by
 simp only [reachOf, reachC, reachErr, known_eq (r := r) (e := errAsk r day r.ran.length r.days) fun h => (errAsk_ok h).1]
def wrongFromC (r : Rm) : Nat → Nat → List Int
 | 0, _ => ((choices r.looks.length r.looks.length)[0]?).getD []
 | k + 1, m => match (choices r.looks.length m).find? (someC r) with
  | some l => l
  | none => wrongFromC r k (m + 1)
theorem wrongFrom_eq {r : Rm} (hv : Vd r) : ∀ k m, wrongFrom r k m = wrongFromC r k m
 | 0, m => rfl
 | k + 1, m => by
  have e : someB r = someC r := by funext but; exact someB_eq hv but
  rw [wrongFrom, wrongFromC, e, wrongFrom_eq hv k (m + 1)]
  rfl
def wrongC (r : Rm) : List Int × Int := if (check r).2.2 = 0 then (wrongFromC r r.looks.length 0, 0) else ([], (check r).2.2)
theorem wrongC_eq (r : Rm) : wrongOf r = wrongC r := by
 simp only [wrongOf, wrongC]
 split
 ·rename_i h; rw [wrongFrom_eq (vd_of_check h)]
 ·rfl
def exR (l : List Look) : Rm := ⟨5, ⟨3, 8⟩, [⟨⟨#[99, 111, 111, 108]⟩, ⟨1, 2⟩⟩, ⟨⟨#[119, 97, 114, 109]⟩, ⟨5, 7⟩⟩, ⟨⟨#[103, 97, 115]⟩, ⟨9, 10⟩⟩], 2, [1, 1], l⟩
def exL : Rm := exR [⟨1, 1⟩]
def exW : Rm := exR [⟨1, 1⟩, ⟨2, 3⟩]
def exO : Rm := { exL with opens := 1 }
theorem e1 : pointsOf (exR []) 2 = (⟨13, 22⟩, 0) := by rw [points_eq]; decide +kernel
theorem e2 : pointsOf exL 2 = (⟨13, 16⟩, 0) := by rw [points_eq]; decide +kernel
theorem e3 : coloursOf (exR []) 2 = (⟨2, 3⟩, 0) := by rw [colours_eq]; decide +kernel
theorem e4 : pointsOf exL 0 = (⟨3, 4⟩, 0) := by rw [points_eq]; decide +kernel
theorem e5 : becomeOf exL [2] = (⟨3, 3⟩, 0) := by rw [become_eq]; decide +kernel
theorem e6 : planOf exL 4 3 = ([0, 2], 2, 0) := by rw [plan_eq]; decide +kernel
theorem e7 : planOf exO 4 3 = ([], 0, 9) := by rw [plan_eq]; decide +kernel
theorem e8 : reachOf exL 3 = ([2, 3], 0) := by rw [reach_eq]; decide +kernel
theorem e9 : fillOf (exR []) 5 4 = ([2], 0) := by decide +kernel
theorem e10 : wrongOf exW = ([0], 0) := by rw [wrongC_eq]; decide +kernel
theorem e11 : reachOf exW 2 = ([], 8) := by rw [reach_eq]; decide +kernel
theorem k1 : pointsOf (exR []) 1 = (⟨8, 15⟩, 0) := by rw [points_eq]; decide +kernel
theorem k2 : pointsOf exL 1 = (⟨8, 9⟩, 0) := by rw [points_eq]; decide +kernel
theorem k3 : coloursOf exL 2 = (⟨2, 2⟩, 0) := by rw [colours_eq]; decide +kernel
theorem k4 : pointsOf (exR []) 0 = (⟨3, 8⟩, 0) := by rw [points_eq]; decide +kernel
theorem k5 : becomeOf exL [1] = (⟨2, 3⟩, 0) := by rw [become_eq]; decide +kernel
end Go.Am.Room
set_option maxRecDepth 8000
namespace Go.Am.Room
def QXLaw1 := And.intro @encRoom_eq (And.intro @roomCells_eq (And.intro @encSetting_eq (And.intro @encLook_eq (And.intro @encSpan_eq (And.intro @T_sapp (@List.length_append.{0}))))))
theorem span_ok (a b : Int) : Pure T 37 [.int .i64 a, .int .i64 b] (encSpan ⟨a, b⟩) := by
 refine pure_fn (af := a37) rfl (by simp [a37]) dd ?_
 (repeat (first | simp only [↓QA, QB, Nat.reduceLT, reduceIte, Nat.reduceEqDiff, Nat.reduceAdd, Nat.reduceLeDiff, Nat.reduceMul, Nat.reduceBEq, QXLaw1, a37] | refine rd0 rfl ?_))
theorem lseen_ok (a b : Int) : Pure T 36 [.int .i64 a, .int .i64 b] (encLook ⟨a, b⟩) := by
 refine pure_fn (af := a36) rfl (by simp [a36]) dd ?_
 (repeat (first | simp only [↓QA, QB, Nat.reduceLT, reduceIte, Nat.reduceEqDiff, Nat.reduceAdd, Nat.reduceLeDiff, Nat.reduceMul, Nat.reduceBEq, QXLaw1, a36] | refine rd0 rfl ?_))
theorem data_looks (l : List Look) : Data (.lit (l.map encLook) false none) := data_list data_look l
instance (l : List Look) : Dat (.lit (l.map encLook) false none) := ⟨data_looks l⟩
theorem exroom_ok (l : List Look) : Pure T 35 [.lit (l.map encLook) false none] (encRoom (exR l)) := by
 refine pure_fn (af := a35) rfl (by simp [a35]) (datas_cons (data_looks l) datas_nil) ?_
 (repeat (first | simp only [↓QA, QB, Nat.reduceLT, reduceIte, Nat.reduceEqDiff, Nat.reduceAdd, Nat.reduceLeDiff, Nat.reduceMul, Nat.reduceBEq, QXLaw1, a35] | refine rd0 rfl ?_))
 ((first | refine callK_d (span_ok 3 8) rfl dd ?_ | refine callD_d (span_ok 3 8) rfl dd ?_); (repeat (first | simp only [↓QA, QB, Nat.reduceLT, reduceIte, Nat.reduceEqDiff, Nat.reduceAdd, Nat.reduceLeDiff, Nat.reduceMul, Nat.reduceBEq, QXLaw1] | refine rd0 rfl ?_)))
 ((first | refine callK_d (span_ok 1 2) rfl dd ?_ | refine callD_d (span_ok 1 2) rfl dd ?_); (repeat (first | simp only [↓QA, QB, Nat.reduceLT, reduceIte, Nat.reduceEqDiff, Nat.reduceAdd, Nat.reduceLeDiff, Nat.reduceMul, Nat.reduceBEq, QXLaw1] | refine rd0 rfl ?_)))
 ((first | refine callK_d (span_ok 5 7) rfl dd ?_ | refine callD_d (span_ok 5 7) rfl dd ?_); (repeat (first | simp only [↓QA, QB, Nat.reduceLT, reduceIte, Nat.reduceEqDiff, Nat.reduceAdd, Nat.reduceLeDiff, Nat.reduceMul, Nat.reduceBEq, QXLaw1] | refine rd0 rfl ?_)))
 ((first | refine callK_d (span_ok 9 10) rfl dd ?_ | refine callD_d (span_ok 9 10) rfl dd ?_); (repeat (first | simp only [↓QA, QB, Nat.reduceLT, reduceIte, Nat.reduceEqDiff, Nat.reduceAdd, Nat.reduceLeDiff, Nat.reduceMul, Nat.reduceBEq, QXLaw1] | refine rd0 rfl ?_)))
 (repeat (first | simp only [↓QA, QB, Nat.reduceLT, reduceIte, Nat.reduceEqDiff, Nat.reduceAdd, Nat.reduceLeDiff, Nat.reduceMul, Nat.reduceBEq, QXLaw1, S_mapLook, exR, List.map_cons, List.map_nil] | refine rd0 rfl ?_))
theorem fits_ex (l : List Look) (h : l.length ≤ 100) : Fits (exR l) := ⟨by simp [exR], by simp [exR], by simp [exR]; omega, by simp [exR]; decide⟩
def u8s (l : List Int) : AV := .lit (l.map (.int .u8)) false none
theorem data_u8s (l : List Int) : Data (u8s l) := data_list (data_int .u8) l
instance (l : List Int) : Dat (u8s l) := ⟨data_u8s l⟩
def wantDay (r : Rm) (x : Int) : Int := r.ran.length + x.tmod (r.days - r.ran.length + 1)
def wantColour (x : Int) : Int := 1 + x.tmod 7
theorem want_bd {r : Rm} (hv : Vd r) {x : Int} (h : 0 ≤ x) : (r.ran.length : Int) ≤ wantDay r x ∧ wantDay r x ≤ r.days := by
 have := hv.ranLen
 have h1 := Int.tmod_nonneg (r.days - r.ran.length + 1) h
 have h2 := Int.tmod_lt_of_pos x (show 0 < r.days - (r.ran.length : Int) + 1 by omega)
 simp only [wantDay]; omega
theorem wantC_bd {x : Int} (h : 0 ≤ x) : 1 ≤ wantColour x ∧ wantColour x ≤ 7 := by
 have h1 := Int.tmod_nonneg 7 h
 have h2 := Int.tmod_lt_of_pos x (show (0 : Int) < 7 by omega)
 simp only [wantColour]; omega
def encWanted (x y : Int) : AV := .agg [.int .u8 x, .int .u8 y]
theorem data_wanted (x y : Int) : Data (encWanted x y) := data_agg (datas_cons (data_int _ _) (datas_cons (data_int _ _) datas_nil))
instance (x y : Int) : Dat (encWanted x y) := ⟨data_wanted x y⟩
theorem wanted_ok (r : Rm) (x y : Int) (hv : Vd r) (hx : 0 ≤ x ∧ x < 256) (hy : 0 ≤ y ∧ y < 256) : Pure T 46 [encWanted x y, encRoom r] (.tuple [.int .i64 (wantDay r x), .int .i64 (wantColour y)]) := by
 refine pure_fn (af := a46) rfl (by simp [a46]) (datas_cons (data_wanted x y) (datas_cons (data_room r) datas_nil)) ?_
 have h1 := hv.ranLen
 have h2 := hv.days
 have hd := want_bd hv hx.1
 have hc := wantC_bd hy.1
 simp only [wantDay, wantColour] at hd hc
 have w1 : IntKind.i64.wrap (r.days - (r.ran.length : Int)) = r.days - r.ran.length := wrap64 ⟨by omega, by omega⟩
 have w2 : IntKind.i64.wrap (r.days - (r.ran.length : Int) + 1) = r.days - r.ran.length + 1 := wrap64 ⟨by omega, by omega⟩
 have w3 : IntKind.i64.wrap x = x := wrap64 ⟨by omega, by omega⟩
 have w4 : IntKind.i64.wrap y = y := wrap64 ⟨by omega, by omega⟩
 have w5 : IntKind.i64.wrap ((r.ran.length : Int) + x.tmod (r.days - r.ran.length + 1)) = (r.ran.length : Int) + x.tmod (r.days - r.ran.length + 1) := wrap64 ⟨by omega, by omega⟩
 have w6 : IntKind.i64.wrap (1 + y.tmod 7) = 1 + y.tmod 7 := wrap64 ⟨by omega, by omega⟩
 (repeat (first | simp only [↓QA, QB, Nat.reduceLT, reduceIte, Nat.reduceEqDiff, Nat.reduceAdd, Nat.reduceLeDiff, Nat.reduceMul, Nat.reduceBEq, QXLaw1, a46, encWanted, w1, w2, w3, w4, V_rem _ _ _ (show (r.days - (r.ran.length : Int) + 1 : Int) ≠ 0 by omega), V_rem _ _ _ (show (7 : Int) ≠ 0 by decide), w5, w6, wantDay, wantColour] | refine rd0 rfl ?_))
end Go.Am.Room
set_option maxRecDepth 8000
namespace Go.Am.Room
def QXLaw2 := And.intro @encRoom_eq (And.intro @roomCells_eq (And.intro @encSetting_eq (And.intro @encLook_eq (And.intro @encSpan_eq (And.intro @T_sapp (@List.length_append.{0}))))))
theorem fx (l : List Look) (h : l.length ≤ 100 := by decide) : Fits (exR l) := fits_ex l h
theorem fO : Fits exO := ⟨by simp [exO, exL, exR], by simp [exO, exL, exR], by simp [exO, exL, exR], by simp [exO, exL, exR]; decide⟩
set_option maxHeartbeats 1000000 in
theorem awake_ok : Pure T 23 [] (.bool true) := by
 refine pure_fn (af := a23) rfl (by simp [a23]) datas_nil ?_
 (repeat (first | simp only [↓QA, QB, Nat.reduceLT, reduceIte, Nat.reduceEqDiff, Nat.reduceAdd, Nat.reduceLeDiff, Nat.reduceMul, Nat.reduceBEq, QXLaw2, a23] | refine rd0 rfl ?_))
 refine callK_v (exroom_ok []) (by simp [clr, clrs]) (by simp [okV, okVs]) ?_
 (repeat (first | simp only [↓QA, QB, Nat.reduceLT, reduceIte, Nat.reduceEqDiff, Nat.reduceAdd, Nat.reduceLeDiff, Nat.reduceMul, Nat.reduceBEq, QXLaw2] | refine rd0 rfl ?_))
 ((first | refine callK_d (lseen_ok 1 1) rfl dd ?_ | refine callD_d (lseen_ok 1 1) rfl dd ?_); (repeat (first | simp only [↓QA, QB, Nat.reduceLT, reduceIte, Nat.reduceEqDiff, Nat.reduceAdd, Nat.reduceLeDiff, Nat.reduceMul, Nat.reduceBEq, QXLaw2] | refine rd0 rfl ?_)))
 refine callK_v (exroom_ok [⟨1, 1⟩]) (by simp [clr, clrs, encLook]) (by simp [okV, okVs]) ?_
 (repeat (first | simp only [↓QA, QB, Nat.reduceLT, reduceIte, Nat.reduceEqDiff, Nat.reduceAdd, Nat.reduceLeDiff, Nat.reduceMul, Nat.reduceBEq, QXLaw2] | refine rd0 rfl ?_))
 ((first | refine callK_d (lseen_ok 1 1) rfl dd ?_ | refine callD_d (lseen_ok 1 1) rfl dd ?_); (repeat (first | simp only [↓QA, QB, Nat.reduceLT, reduceIte, Nat.reduceEqDiff, Nat.reduceAdd, Nat.reduceLeDiff, Nat.reduceMul, Nat.reduceBEq, QXLaw2] | refine rd0 rfl ?_)))
 ((first | refine callK_d (lseen_ok 2 3) rfl dd ?_ | refine callD_d (lseen_ok 2 3) rfl dd ?_); (repeat (first | simp only [↓QA, QB, Nat.reduceLT, reduceIte, Nat.reduceEqDiff, Nat.reduceAdd, Nat.reduceLeDiff, Nat.reduceMul, Nat.reduceBEq, QXLaw2] | refine rd0 rfl ?_)))
 refine callK_v (exroom_ok [⟨1, 1⟩, ⟨2, 3⟩]) (by simp [clr, clrs, encLook]) (by simp [okV, okVs]) ?_
 (repeat (first | simp only [↓QA, QB, Nat.reduceLT, reduceIte, Nat.reduceEqDiff, Nat.reduceAdd, Nat.reduceLeDiff, Nat.reduceMul, Nat.reduceBEq, QXLaw2] | refine rd0 rfl ?_))
 ((first | refine callK_d (points_ok (exR []) 2 (fx _)) rfl dd ?_ | refine callD_d (points_ok (exR []) 2 (fx _)) rfl dd ?_); (repeat (first | simp only [↓QA, QB, Nat.reduceLT, reduceIte, Nat.reduceEqDiff, Nat.reduceAdd, Nat.reduceLeDiff, Nat.reduceMul, Nat.reduceBEq, QXLaw2, e1, encSE] | refine rd0 rfl ?_)))
 ((first | refine callK_d (points_ok exL 2 (fx _)) rfl dd ?_ | refine callD_d (points_ok exL 2 (fx _)) rfl dd ?_); (repeat (first | simp only [↓QA, QB, Nat.reduceLT, reduceIte, Nat.reduceEqDiff, Nat.reduceAdd, Nat.reduceLeDiff, Nat.reduceMul, Nat.reduceBEq, QXLaw2, e2, encSE] | refine rd0 rfl ?_)))
 ((first | refine callK_d (colours_ok (exR []) 2 (fx _)) rfl dd ?_ | refine callD_d (colours_ok (exR []) 2 (fx _)) rfl dd ?_); (repeat (first | simp only [↓QA, QB, Nat.reduceLT, reduceIte, Nat.reduceEqDiff, Nat.reduceAdd, Nat.reduceLeDiff, Nat.reduceMul, Nat.reduceBEq, QXLaw2, e3, encSE] | refine rd0 rfl ?_)))
 ((first | refine callK_d (began_ok exL (fx _)) rfl dd ?_ | refine callD_d (began_ok exL (fx _)) rfl dd ?_); (repeat (first | simp only [↓QA, QB, Nat.reduceLT, reduceIte, Nat.reduceEqDiff, Nat.reduceAdd, Nat.reduceLeDiff, Nat.reduceMul, Nat.reduceBEq, QXLaw2, e4, encSE] | refine rd0 rfl ?_)))
 refine callK_v (become_ok exL [2] (fx _) (by simp)) (by simp [clr, clrs, ints, exL, exR, encRoom, roomCells, encSetting, encLook]) (by simp [okV, okVs, exR, encSetting, encLook]) ?_
 (repeat (first | simp only [↓QA, QB, Nat.reduceLT, reduceIte, Nat.reduceEqDiff, Nat.reduceAdd, Nat.reduceLeDiff, Nat.reduceMul, Nat.reduceBEq, QXLaw2, e5, encSE] | refine rd0 rfl ?_))
 ((first | refine callK_d (plan_ok exL 4 3 (fx _)) rfl dd ?_ | refine callD_d (plan_ok exL 4 3 (fx _)) rfl dd ?_); (repeat (first | simp only [↓QA, QB, Nat.reduceLT, reduceIte, Nat.reduceEqDiff, Nat.reduceAdd, Nat.reduceLeDiff, Nat.reduceMul, Nat.reduceBEq, QXLaw2, e6, encLNE] | refine rd0 rfl ?_)))
 ((first | refine callK_d (plan_ok exO 4 3 fO) rfl dd ?_ | refine callD_d (plan_ok exO 4 3 fO) rfl dd ?_); (repeat (first | simp only [↓QA, QB, Nat.reduceLT, reduceIte, Nat.reduceEqDiff, Nat.reduceAdd, Nat.reduceLeDiff, Nat.reduceMul, Nat.reduceBEq, QXLaw2, e7, encLNE] | refine rd0 rfl ?_)))
 ((first | refine callK_d (reach_ok exL 3 (fx _)) rfl dd ?_ | refine callD_d (reach_ok exL 3 (fx _)) rfl dd ?_); (repeat (first | simp only [↓QA, QB, Nat.reduceLT, reduceIte, Nat.reduceEqDiff, Nat.reduceAdd, Nat.reduceLeDiff, Nat.reduceMul, Nat.reduceBEq, QXLaw2, e8, encLE] | refine rd0 rfl ?_)))
 ((first | refine callK_d (fill_ok (exR []) 5 4 (fx _)) rfl dd ?_ | refine callD_d (fill_ok (exR []) 5 4 (fx _)) rfl dd ?_); (repeat (first | simp only [↓QA, QB, Nat.reduceLT, reduceIte, Nat.reduceEqDiff, Nat.reduceAdd, Nat.reduceLeDiff, Nat.reduceMul, Nat.reduceBEq, QXLaw2, e9, encLE] | refine rd0 rfl ?_)))
 ((first | refine callK_d (pwrong_ok exW (fx _)) rfl dd ?_ | refine callD_d (pwrong_ok exW (fx _)) rfl dd ?_); (repeat (first | simp only [↓QA, QB, Nat.reduceLT, reduceIte, Nat.reduceEqDiff, Nat.reduceAdd, Nat.reduceLeDiff, Nat.reduceMul, Nat.reduceBEq, QXLaw2, e10, encLE] | refine rd0 rfl ?_)))
 ((first | refine callK_d (reach_ok exW 2 (fx _)) rfl dd ?_ | refine callD_d (reach_ok exW 2 (fx _)) rfl dd ?_); (repeat (first | simp only [↓QA, QB, Nat.reduceLT, reduceIte, Nat.reduceEqDiff, Nat.reduceAdd, Nat.reduceLeDiff, Nat.reduceMul, Nat.reduceBEq, QXLaw2, e11, encLE] | refine rd0 rfl ?_)))
 ((first | refine callK_d (span_ok 13 22) rfl dd ?_ | refine callD_d (span_ok 13 22) rfl dd ?_); (repeat (first | simp only [↓QA, QB, Nat.reduceLT, reduceIte, Nat.reduceEqDiff, Nat.reduceAdd, Nat.reduceLeDiff, Nat.reduceMul, Nat.reduceBEq, QXLaw2] | refine rd0 rfl ?_)))
 ((first | refine callK_d (span_ok 13 16) rfl dd ?_ | refine callD_d (span_ok 13 16) rfl dd ?_); (repeat (first | simp only [↓QA, QB, Nat.reduceLT, reduceIte, Nat.reduceEqDiff, Nat.reduceAdd, Nat.reduceLeDiff, Nat.reduceMul, Nat.reduceBEq, QXLaw2] | refine rd0 rfl ?_)))
 ((first | refine callK_d (span_ok 2 3) rfl dd ?_ | refine callD_d (span_ok 2 3) rfl dd ?_); (repeat (first | simp only [↓QA, QB, Nat.reduceLT, reduceIte, Nat.reduceEqDiff, Nat.reduceAdd, Nat.reduceLeDiff, Nat.reduceMul, Nat.reduceBEq, QXLaw2] | refine rd0 rfl ?_)))
 ((first | refine callK_d (span_ok 3 4) rfl dd ?_ | refine callD_d (span_ok 3 4) rfl dd ?_); (repeat (first | simp only [↓QA, QB, Nat.reduceLT, reduceIte, Nat.reduceEqDiff, Nat.reduceAdd, Nat.reduceLeDiff, Nat.reduceMul, Nat.reduceBEq, QXLaw2] | refine rd0 rfl ?_)))
 ((first | refine callK_d (span_ok 3 3) rfl dd ?_ | refine callD_d (span_ok 3 3) rfl dd ?_); (repeat (first | simp only [↓QA, QB, Nat.reduceLT, reduceIte, Nat.reduceEqDiff, Nat.reduceAdd, Nat.reduceLeDiff, Nat.reduceMul, Nat.reduceBEq, QXLaw2] | refine rd0 rfl ?_)))
 ((first | refine callK_v (ints_ok [0, 2] [0, 2] (by simp) (by simp)) (by simp [clr, clrs, ints]) (by simp [okV, okVs]) ?_ | refine callD_v (ints_ok [0, 2] [0, 2] (by simp) (by simp)) (by simp [clr, clrs, ints]) (by simp [okV, okVs]) ?_); (repeat (first | simp only [↓QA, QB, Nat.reduceLT, reduceIte, Nat.reduceEqDiff, Nat.reduceAdd, Nat.reduceLeDiff, Nat.reduceMul, Nat.reduceBEq, QXLaw2, eq_self] | refine rd0 rfl ?_)))
 ((first | refine callK_v (ints_ok [2, 3] [2, 3] (by simp) (by simp)) (by simp [clr, clrs, ints]) (by simp [okV, okVs]) ?_ | refine callD_v (ints_ok [2, 3] [2, 3] (by simp) (by simp)) (by simp [clr, clrs, ints]) (by simp [okV, okVs]) ?_); (repeat (first | simp only [↓QA, QB, Nat.reduceLT, reduceIte, Nat.reduceEqDiff, Nat.reduceAdd, Nat.reduceLeDiff, Nat.reduceMul, Nat.reduceBEq, QXLaw2, eq_self] | refine rd0 rfl ?_)))
 ((first | refine callK_v (ints_ok [2] [2] (by simp) (by simp)) (by simp [clr, clrs, ints]) (by simp [okV, okVs]) ?_ | refine callD_v (ints_ok [2] [2] (by simp) (by simp)) (by simp [clr, clrs, ints]) (by simp [okV, okVs]) ?_); (repeat (first | simp only [↓QA, QB, Nat.reduceLT, reduceIte, Nat.reduceEqDiff, Nat.reduceAdd, Nat.reduceLeDiff, Nat.reduceMul, Nat.reduceBEq, QXLaw2, eq_self] | refine rd0 rfl ?_)))
 ((first | refine callK_v (ints_ok [0] [0] (by simp) (by simp)) (by simp [clr, clrs, ints]) (by simp [okV, okVs]) ?_ | refine callD_v (ints_ok [0] [0] (by simp) (by simp)) (by simp [clr, clrs, ints]) (by simp [okV, okVs]) ?_); (repeat (first | simp only [↓QA, QB, Nat.reduceLT, reduceIte, Nat.reduceEqDiff, Nat.reduceAdd, Nat.reduceLeDiff, Nat.reduceMul, Nat.reduceBEq, QXLaw2, eq_self] | refine rd0 rfl ?_)))
end Go.Am.Room
