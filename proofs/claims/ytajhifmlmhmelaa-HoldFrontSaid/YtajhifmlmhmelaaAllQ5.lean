/- A part of the proofs: an abstract machine, or what functions come to on it. -/
import Derived.Test.YtajhifmlmhmelaaAllQ4
set_option linter.unusedVariables false
set_option linter.unusedSimpArgs false
set_option linter.defProp false
set_option maxRecDepth 4000
namespace Go.Am.Room
def QXHHdP9 := And.intro @encShip_eq (And.intro @shipCells_eq (And.intro @encHold_eq (And.intro @encLine_eq (And.intro @encSpan_eq (And.intro @S_mapHold (And.intro @S_mapLine (And.intro @List.length_append.{0} (And.intro @sb_0 (And.intro @sb_1 (And.intro @sb_2 (And.intro @sb_3 (And.intro @sb_4 (And.intro @sb_5 (And.intro @sb_6 (And.intro @sb_7 (And.intro @sb_8 (And.intro @sb_9 (And.intro @T_sapp (And.intro @Nat.add_lt_add_iff_left (And.intro @Nat.lt_add_right_iff_pos (And.intro @Nat.mul_one (@Int.toNat_natCast))))))))))))))))))))))
def crsAll (s : Ship) (bl : List Int) (c set : Nat) : List Hold → Nat → List (List Way) → Memo → Option (List (List Way)) × Memo
 | [], _, acc, M => (some acc, M)
 | x :: xs, h, acc, M => if crsWays s bl x h (coolB set h) (coolB (andN set c) h) = [] then (none, crsMemo s bl x h (coolB set h) (coolB (andN set c) h) M) else crsAll s bl c set xs (h + 1) (acc ++ [crsWays s bl x h (coolB set h) (coolB (andN set c) h)]) (crsMemo s bl x h (coolB set h) (coolB (andN set c) h) M)
theorem S_crss (s : Ship) (σ : St) (m d : Nat) (l : List (List Way)) : snapMs σ m d (l.map (crssAV s)) = some (l.map (crssAV s)) := S_datas (datas_map (data_crss s) l) σ m d
theorem allCells_crss (s : Ship) (l : List (List Way)) : allCells 1 (l.map (crssAV s)) = true := L_allM 1 (crssAV s) l fun x => by simp [cellsOk, crssAV, AV.cells, AV.cell]
theorem crssAV_eq (s : Ship) (l : List Way) : crssAV s l = .lit (l.map (crsOf s)) false none := by simp only [crssAV]
theorem lists_in {S : Memo → St} {s : Ship} {b c p m N : Nat} (hR : ShipAt S s b c p m N) (hv : Vd s) (bl : List Int) (hb : ButIs b bl) (hcl : c < 1000000) (set : Nat) (hset : set < 1000000) (q : Nat) (yc : Nat) (hq : ∀ M τ, cellsAt (S M ++ τ) q = some [.ptr p 0]) (hql : q < N) (M : Memo) (e : Env) (K : KJ)
  (e1 : Env.get e 1 = .ptr q 0) (e2 : Env.get e 2 = .ptr yc 0) (e3 : Env.get e 3 = .int .i64 set) (e4 : Env.get e 4 = .lit [] false (some N)) (e15 : Env.get e 15 = .int .i64 s.holds.length) (e16 : Env.get e 16 = .int .i64 0) (hyl : yc < N)
  (hKs : ∀ ls M' e' ex, crsAll s bl c set s.holds 0 [] M = (some ls, M') → Env.get e' 2 = .ptr yc 0 → Env.get e' 3 = .int .i64 set → Env.get e' 4 = .lit (ls.map (crssAV s)) false (some N) → K (some (.exit 2)) e' (S M' ++ [.tok 1 ls.length ex]))
  (hKn : ∀ M' e' n ex, crsAll s bl c set s.holds 0 [] M = (none, M') → K (some (.exit 1)) e' (S M' ++ [.tok 1 n ex])) :
  rK (K := ⟨K⟩) T (.loop L93_2) e (S M ++ [.tok 1 0 false]) := by
 have hno := hv.nholds
 have hpl := hR.pl
 obtain ⟨R, hRR⟩ : ∃ R, crsAll s bl c set s.holds 0 [] M = R := ⟨_, rfl⟩
 rw [hRR] at hKs hKn
 refine loopE (S := Nat × List (List Way) × Bool × Memo) (0, [], false, M) (fun a => a.1 ≤ s.holds.length ∧ a.2.1.length ≤ a.1 ∧ crsAll s bl c set (s.holds.drop a.1) a.1 a.2.1 a.2.2.2 = R) (fun a => s.holds.length - a.1)
  (fun a => [(1, .ptr q 0), (2, .ptr yc 0), (3, .int .i64 set), (4, .lit (a.2.1.map (crssAV s)) false (some N)), (15, .int .i64 s.holds.length), (16, .int .i64 a.1)])
  (fun a => S a.2.2.2 ++ [.tok 1 a.2.1.length a.2.2.1]) ⟨Nat.zero_le _, Nat.le_refl _, by simpa using hRR⟩ rfl ?_ fun a ha => ?_
 ·try simp only [TrimX, QE, Nat.reduceLT, reduceIte, Nat.reduceEqDiff, Nat.reduceAdd, Nat.reduceLeDiff, Nat.reduceMul, Nat.reduceBEq, QXHHdP9, hR.len, hR.base, hR.base0, hR.bset, hR.bset0, hR.at1, hR.at0, crssAV_eq, e1, e2, e3, e4, e15, e16]
  try simp
 ·obtain ⟨h, acc, ex, M1⟩ := a
  obtain ⟨hh, hal, hacc⟩ := ha
  simp only at hh hal hacc
  have hq' := fun M τ => hq M τ
  (repeat (first | simp only [↓QA, QB, Nat.reduceLT, reduceIte, Nat.reduceEqDiff, Nat.reduceAdd, Nat.reduceLeDiff, Nat.reduceMul, Nat.reduceBEq, QXHHdP9, hR.len, hR.base, hR.base0, hR.bset, hR.bset0, hR.at1, hR.at0, crssAV_eq, L93_2] | refine rd0 rfl ?_))
  refine iteP_intro (fun hd => ?_) fun hd => ?_
  ·have hh1 : h < s.holds.length := by simpa using hd
   have hw := wrapN hh1 (by omega)
   rw [List.drop_eq_getElem_cons hh1] at hacc
   simp only [crsAll] at hacc
   obtain ⟨x, hx⟩ : ∃ x, s.holds[h] = x := ⟨_, rfl⟩
   have hcr := courses_does (hR.app [.tok 1 acc.length ex]) hv bl hb M1 h set hh1 hset hcl
   rw [hx] at hcr hacc
   obtain ⟨ws, hws⟩ : ∃ ws, crsWays s bl x h (coolB set h) (coolB (andN set c) h) = ws := ⟨_, rfl⟩
   obtain ⟨M2, hM2⟩ : ∃ M2, crsMemo s bl x h (coolB set h) (coolB (andN set c) h) M1 = M2 := ⟨_, rfl⟩
   rw [hws, hM2] at hcr hacc
   try simp only [↓QA, QB, Nat.reduceLT, reduceIte, Nat.reduceEqDiff, Nat.reduceAdd, Nat.reduceLeDiff, Nat.reduceMul, Nat.reduceBEq, QXHHdP9, hR.len, hR.base, hR.base0, hR.bset, hR.bset0, hR.at1, hR.at0, crssAV_eq] at hcr
   have hap := append_at (σ := S M2 ++ (.tok 1 acc.length ex :: [])) (t := N) (ex := ex) (sz := 1) (b := 24) (xs := acc.map (crssAV s)) (ys := [crssAV s ws]) (f := true) (tk := none) ⟨allCells_crss s acc, rfl, by simp [room]; omega, by simp [room]; omega⟩ (by simp) acc.length (by simp) (by rw [← hR.len M2]; simp)
   try simp only [↓QA, QB, Nat.reduceLT, reduceIte, Nat.reduceEqDiff, Nat.reduceAdd, Nat.reduceLeDiff, Nat.reduceMul, Nat.reduceBEq, QXHHdP9, hR.len, hR.base, hR.base0, hR.bset, hR.bset0, hR.at1, hR.at0, crssAV_eq] at hap
   (repeat (first | simp only [↓QA, QB, Nat.reduceLT, reduceIte, Nat.reduceEqDiff, Nat.reduceAdd, Nat.reduceLeDiff, Nat.reduceMul, Nat.reduceBEq, QXHHdP9, hR.len, hR.base, hR.base0, hR.bset, hR.bset0, hR.at1, hR.at0, crssAV_eq, hq'] | refine rd0 rfl ?_))
   refine callK_do hcr ?_
   (repeat (first | simp only [↓QA, QB, Nat.reduceLT, reduceIte, Nat.reduceEqDiff, Nat.reduceAdd, Nat.reduceLeDiff, Nat.reduceMul, Nat.reduceBEq, QXHHdP9, hR.len, hR.base, hR.base0, hR.bset, hR.bset0, hR.at1, hR.at0, crssAV_eq, hq'] | refine rd0 rfl ?_))
   cases h0 : ((ws.length : Int) == 0)
   ·have h0' : ws ≠ [] := by rintro rfl; simp at h0
    rw [if_neg h0'] at hacc
    (repeat (first | simp only [↓QA, QB, Nat.reduceLT, reduceIte, Nat.reduceEqDiff, Nat.reduceAdd, Nat.reduceLeDiff, Nat.reduceMul, Nat.reduceBEq, QXHHdP9, hR.len, hR.base, hR.base0, hR.bset, hR.bset0, hR.at1, hR.at0, crssAV_eq, hq', hap] | refine rd0 rfl ?_))
    refine ⟨(h + 1, acc ++ [ws], true, M2), ⟨by simp only; omega, by simp only [List.length_append, List.length_cons, List.length_nil]; omega, hacc⟩, by simp only; omega, ?_⟩
    try simp only [TrimX, QE, Nat.reduceLT, reduceIte, Nat.reduceEqDiff, Nat.reduceAdd, Nat.reduceLeDiff, Nat.reduceMul, Nat.reduceBEq, QXHHdP9, hR.len, hR.base, hR.base0, hR.bset, hR.bset0, hR.at1, hR.at0, crssAV_eq, hw, hR.eqS, T_sr, T_sr0, List.map_append, List.map_cons, List.map_nil, S_crss, S_crs]
    try simp [okBlk, okVs, okV]
    try omega
   ·have h0' : ws = [] := by simpa using h0
    rw [if_pos h0'] at hacc
    (repeat (first | simp only [↓QA, QB, Nat.reduceLT, reduceIte, Nat.reduceEqDiff, Nat.reduceAdd, Nat.reduceLeDiff, Nat.reduceMul, Nat.reduceBEq, QXHHdP9, hR.len, hR.base, hR.base0, hR.bset, hR.bset0, hR.at1, hR.at0, crssAV_eq, hq'] | refine rd0 rfl ?_))
    exact hKn M2 _ _ _ hacc.symm
  ·have hh1 : h = s.holds.length := by simp at hd; omega
   rw [hh1, List.drop_length] at hacc
   simp only [crsAll] at hacc
   (repeat (first | simp only [↓QA, QB, Nat.reduceLT, reduceIte, Nat.reduceEqDiff, Nat.reduceAdd, Nat.reduceLeDiff, Nat.reduceMul, Nat.reduceBEq, QXHHdP9, hR.len, hR.base, hR.base0, hR.bset, hR.bset0, hR.at1, hR.at0, crssAV_eq] | refine rd0 rfl ?_))
   refine hKs acc M1 _ ex hacc.symm ?_ ?_ ?_
   all_goals try simp only [TrimX, QE, Nat.reduceLT, reduceIte, Nat.reduceEqDiff, Nat.reduceAdd, Nat.reduceLeDiff, Nat.reduceMul, Nat.reduceBEq, QXHHdP9, hR.len, hR.base, hR.base0, hR.bset, hR.bset0, hR.at1, hR.at0, crssAV_eq]
end Go.Am.Room
set_option maxRecDepth 4000
namespace Go.Am.Room
def QXHHdPA := And.intro @encShip_eq (And.intro @shipCells_eq (And.intro @encHold_eq (And.intro @encLine_eq (And.intro @encSpan_eq (And.intro @S_mapHold (And.intro @S_mapLine (And.intro @List.length_append.{0} (And.intro @sb_0 (And.intro @sb_1 (And.intro @sb_2 (And.intro @sb_3 (And.intro @sb_4 (And.intro @sb_5 (And.intro @sb_6 (And.intro @sb_7 (And.intro @sb_8 (And.intro @sb_9 (And.intro @T_sapp (And.intro @Nat.add_lt_add_iff_left (And.intro @Nat.lt_add_right_iff_pos (And.intro @Nat.mul_one (@Int.toNat_natCast))))))))))))))))))))))
structure Fam1 {X : Type} (Z ZD : X → Memo → St) (s : Ship) (b c p m q N : Nat) : Prop where
 ship : ∀ x, ShipAt (Z x) s b c p m N
 lenD : ∀ x M, (ZD x M).length = N
 atq0 : ∀ x M, cellsAt (Z x M) q = some [.ptr p 0]
 keep : ∀ x M y M' k i, N ≤ k → i < N → blkKept (Z x M) (Z y M') k i
 keepD : ∀ x M y M' k i, N ≤ k → i < N → blkKept (Z x M) (ZD y M') k i
 ql : q < N
 pl : p < N
namespace Fam1
variable {X : Type} {Z ZD : X → Memo → St} {s : Ship} {b c p m q N : Nat}
theorem atq1 (h : Fam1 Z ZD s b c p m q N) (x : X) (M : Memo) (τ : St) : cellsAt (Z x M ++ τ) q = some [.ptr p 0] := by
 have := h.atq0 x M
 have hl := h.ql
 rw [← (h.ship x).len M] at hl
 simp only [cellsAt] at this ⊢
 rw [List.getElem?_append_left hl]
 exact this
def out (Z ZD : X → Memo → St) (r : X × Bool) (M : Memo) : St := if r.2 = true then Z r.1 M else ZD r.1 M
end Fam1
abbrev TV := Nat × List (List Way)
def YieldsT {X : Type} (Z ZD : X → Memo → St) (id : Nat) (s : Ship) (P : TV → Prop) (f : TV → X → X × Bool) : Prop :=
 ∀ t, P t → ∀ (fl : Bool) (tk : Option Nat) x M τ, Run T (.callv (.yield id) [.int .i64 t.1, .lit (t.2.map (crssAV s)) fl tk] (Z x M ++ τ)) fun o => o.v = .bool (f t x).2 ∧ ∃ τ', o.σ = Fam1.out Z ZD (f t x) M ++ (τ ++ τ')
def perSet {X : Type} (s : Ship) (bl : List Int) (c : Nat) (f : TV → X → X × Bool) (set : Nat) (x : X × Memo) : (X × Memo) × Bool :=
 match crsAll s bl c set s.holds 0 [] x.2 with
 | (none, M') => ((x.1, M'), true)
 | (some ls, M') => (((f (set, ls) x.1).1, M'), (f (set, ls) x.1).2)
def RA2 : ACode := .reg [⟨some 3, .mov (.t 9), none⟩]
def lpT (st : LS) (pend : Option AJump) (e : Env) : ABlk := .loop st pend e [9] RA2 F93_1
def famZ {X : Type} (Z : X → Memo → St) (id p : Nat) (lp : ABlk) (x : X × Memo) : St := Z x.1 x.2 ++ [.cells [.yield id], .cells [.ptr p 0], lp]
theorem fam2 {X : Type} {Z ZD : X → Memo → St} {s : Ship} {b c p m q N : Nat} (h : Fam1 Z ZD s b c p m q N) (id : Nat) (e : Env) : Fam (famZ Z id p (lpT .ready none e)) (famZ ZD id p (lpT .done (some .ret) e)) s b c p m (N + 1) (N + 3) := by
 have hl : ∀ x M, (Z x M).length = N := fun x M => (h.ship x).len M
 have pre : ∀ (A B : St) (U V : St) (k i : Nat), A.length = N → B.length = N → i < N → blkKept A B k i → blkKept (A ++ U) (B ++ V) k i := by
  intro A B U V k i hA hB hi hk
  have e1 : (A ++ U)[i]? = A[i]? := List.getElem?_append_left (by omega)
  have e2 : (B ++ V)[i]? = B[i]? := List.getElem?_append_left (by omega)
  simp only [blkKept, e1, e2] at hk ⊢
  exact hk
 have post : ∀ (A B : St) (l1 l2 : ABlk) (i : Nat), A.length = N → B.length = N → N ≤ i → i < N + 3 → ((A ++ [.cells [.yield id], .cells [.ptr p 0], l1])[i]? = (B ++ [ABlk.cells [.yield id], .cells [.ptr p 0], l2])[i]? ∨ (i = N + 2 ∧ (A ++ [.cells [.yield id], .cells [.ptr p 0], l1])[i]? = some l1 ∧ (B ++ [.cells [.yield id], .cells [.ptr p 0], l2])[i]? = some l2)) := by
  intro A B l1 l2 i hA hB h1 h2
  have e1 : (A ++ [.cells [.yield id], .cells [.ptr p 0], l1])[i]? = [.cells [.yield id], .cells [.ptr p 0], l1][i - N]? := by rw [List.getElem?_append_right (by omega), hA]
  have e2 : (B ++ [.cells [.yield id], .cells [.ptr p 0], l2])[i]? = [.cells [.yield id], .cells [.ptr p 0], l2][i - N]? := by rw [List.getElem?_append_right (by omega), hB]
  have : i = N ∨ i = N + 1 ∨ i = N + 2 := by omega
  rcases this with rfl | rfl | rfl
  ·left; rw [e1, e2]; simp
  ·left; rw [e1, e2]; simp
  ·right; refine ⟨rfl, ?_, ?_⟩
   ·rw [e1]; simp
   ·rw [e2]; simp
 refine ⟨fun x => by simp [famZ, hl], fun x => by simp [famZ, h.lenD], fun x => (h.ship x.1).at1 x.2 _, fun x => ?_, fun x y k i hk hi => ?_, fun x y k i hk hi => ?_, by have := h.pl; omega, by omega⟩
 ·have := hl x.1 x.2
  simp [famZ, cellsAt, List.getElem?_append_right, this]
 ·by_cases hn : i < N
  ·exact pre _ _ _ _ k i (hl _ _) (hl _ _) hn (h.keep x.1 x.2 y.1 y.2 k i (by omega) hn)
  ·rcases post (Z x.1 x.2) (Z y.1 y.2) (lpT .ready none e) (lpT .ready none e) i (hl _ _) (hl _ _) (by omega) hi with h1 | ⟨_, h1, h2⟩
   ·exact .inl h1.symm
   ·exact .inl (by rw [famZ, famZ, h1, h2])
 ·by_cases hn : i < N
  ·exact pre _ _ _ _ k i (hl _ _) (h.lenD _ _) hn (h.keepD x.1 x.2 y.1 y.2 k i (by omega) hn)
  ·rcases post (Z x.1 x.2) (ZD y.1 y.2) (lpT .ready none e) (lpT .done (some .ret) e) i (hl _ _) (h.lenD _ _) (by omega) hi with h1 | ⟨_, h1, h2⟩
   ·exact .inl h1.symm
   ·exact .inr (.inr ⟨_, _, _, _, _, _, _, _, h1, h2⟩)
theorem perSet_body {S : Memo → St} {s : Ship} {b c p m N : Nat} (hR : ShipAt S s b c p m N) (hv : Vd s) (bl : List Int) (hb : ButIs b bl) (hcl : c < 1000000) (set : Nat) (hset : set < 1000000) (q yc id : Nat) (hq : ∀ M τ, cellsAt (S M ++ τ) q = some [.ptr p 0]) (hyc : ∀ M τ, cellsAt (S M ++ τ) yc = some [.yield id]) (hql : q < N) (hycl : yc < N) (M : Memo) (e : Env)
  (e1 : Env.get e 1 = .ptr q 0) (e2 : Env.get e 2 = .ptr yc 0) (e3 : Env.get e 3 = .int .i64 set) (V : List (List Way) → Bool) (W : List (List Way) → Memo → St)
  (hcall : ∀ ls M' fl tk τ, crsAll s bl c set s.holds 0 [] M = (some ls, M') → Run T (.callv (.yield id) [.int .i64 set, .lit (ls.map (crssAV s)) fl tk] (S M' ++ τ)) fun o => o.v = .bool (V ls) ∧ ∃ τ', o.σ = W ls M' ++ τ') :
  wp T F93_1 e (S M) (fun j e' σ' => match crsAll s bl c set s.holds 0 [] M with
   | (none, M') => j = none ∧ ∃ τ', σ' = S M' ++ τ'
   | (some ls, M') => ((V ls = true ∧ j = none) ∨ (V ls = false ∧ j = some .ret)) ∧ ∃ τ', σ' = W ls M' ++ τ') := by
 obtain ⟨R, hRR⟩ : ∃ R, crsAll s bl c set s.holds 0 [] M = R := ⟨_, rfl⟩
 have hq0 := fun M => by simpa using hq M []
 (repeat (first | simp only [↓QA, QB, Nat.reduceLT, reduceIte, Nat.reduceEqDiff, Nat.reduceAdd, Nat.reduceLeDiff, Nat.reduceMul, Nat.reduceBEq, QXHHdPA, hR.len, hR.base, hR.base0, hR.bset, hR.bset0, hR.at1, hR.at0, F93_1, e1, hq, hq0] | refine rd0 rfl ?_))
 refine ghostK 4 1 [] rfl ?_
 (repeat (first | simp only [↓QA, QB, Nat.reduceLT, reduceIte, Nat.reduceEqDiff, Nat.reduceAdd, Nat.reduceLeDiff, Nat.reduceMul, Nat.reduceBEq, QXHHdPA, hR.len, hR.base, hR.base0, hR.bset, hR.bset0, hR.at1, hR.at0, hR.len] | refine rd0 rfl ?_))
 refine lists_in hR hv bl hb hcl set hset q yc hq hql M _ _ ?_ ?_ ?_ ?_ ?_ ?_ hycl ?_ ?_
 ·try simp only [TrimX, QE, Nat.reduceLT, reduceIte, Nat.reduceEqDiff, Nat.reduceAdd, Nat.reduceLeDiff, Nat.reduceMul, Nat.reduceBEq, QXHHdPA, hR.len, hR.base, hR.base0, hR.bset, hR.bset0, hR.at1, hR.at0, e1]
 ·try simp only [TrimX, QE, Nat.reduceLT, reduceIte, Nat.reduceEqDiff, Nat.reduceAdd, Nat.reduceLeDiff, Nat.reduceMul, Nat.reduceBEq, QXHHdPA, hR.len, hR.base, hR.base0, hR.bset, hR.bset0, hR.at1, hR.at0, e2]
 ·try simp only [TrimX, QE, Nat.reduceLT, reduceIte, Nat.reduceEqDiff, Nat.reduceAdd, Nat.reduceLeDiff, Nat.reduceMul, Nat.reduceBEq, QXHHdPA, hR.len, hR.base, hR.base0, hR.bset, hR.bset0, hR.at1, hR.at0, e3]
 ·try simp only [TrimX, QE, Nat.reduceLT, reduceIte, Nat.reduceEqDiff, Nat.reduceAdd, Nat.reduceLeDiff, Nat.reduceMul, Nat.reduceBEq, QXHHdPA, hR.len, hR.base, hR.base0, hR.bset, hR.bset0, hR.at1, hR.at0]
 ·try simp only [TrimX, QE, Nat.reduceLT, reduceIte, Nat.reduceEqDiff, Nat.reduceAdd, Nat.reduceLeDiff, Nat.reduceMul, Nat.reduceBEq, QXHHdPA, hR.len, hR.base, hR.base0, hR.bset, hR.bset0, hR.at1, hR.at0]
 ·try simp only [TrimX, QE, Nat.reduceLT, reduceIte, Nat.reduceEqDiff, Nat.reduceAdd, Nat.reduceLeDiff, Nat.reduceMul, Nat.reduceBEq, QXHHdPA, hR.len, hR.base, hR.base0, hR.bset, hR.bset0, hR.at1, hR.at0]
 ·intro ls M' e' ex hls q2 q3 q4
  rw [hRR] at hls
  have hc := hcall ls M' false (some N) [.tok 1 ls.length ex] (by rw [hRR]; exact hls)
  rw [hls] at hRR
  (repeat (first | simp only [↓QA, QB, Nat.reduceLT, reduceIte, Nat.reduceEqDiff, Nat.reduceAdd, Nat.reduceLeDiff, Nat.reduceMul, Nat.reduceBEq, QXHHdPA, hR.len, hR.base, hR.base0, hR.bset, hR.bset0, hR.at1, hR.at0, q2, q3, q4, hyc] | refine rd0 rfl ?_))
  refine .mono hc fun o ho => ?_
  obtain ⟨hv1, τ', hσ⟩ := ho
  rw [hv1, hσ, hRR]
  cases hV : V ls
  ·(repeat (first | simp only [↓QA, QB, Nat.reduceLT, reduceIte, Nat.reduceEqDiff, Nat.reduceAdd, Nat.reduceLeDiff, Nat.reduceMul, Nat.reduceBEq, QXHHdPA, hR.len, hR.base, hR.base0, hR.bset, hR.bset0, hR.at1, hR.at0, q2, q3, q4] | refine rd0 rfl ?_))
   exact ⟨by simp [hV], _, rfl⟩
  ·(repeat (first | simp only [↓QA, QB, Nat.reduceLT, reduceIte, Nat.reduceEqDiff, Nat.reduceAdd, Nat.reduceLeDiff, Nat.reduceMul, Nat.reduceBEq, QXHHdPA, hR.len, hR.base, hR.base0, hR.bset, hR.bset0, hR.at1, hR.at0, q2, q3, q4] | refine rd0 rfl ?_))
   exact ⟨by simp [hV], _, rfl⟩
 ·intro M' e' n ex hls
  (repeat (first | simp only [↓QA, QB, Nat.reduceLT, reduceIte, Nat.reduceEqDiff, Nat.reduceAdd, Nat.reduceLeDiff, Nat.reduceMul, Nat.reduceBEq, QXHHdPA, hR.len, hR.base, hR.base0, hR.bset, hR.bset0, hR.at1, hR.at0, hls] | refine rd0 rfl ?_))
  exact ⟨_, rfl⟩
theorem perSet_yields {X : Type} {Z ZD : X → Memo → St} {s : Ship} {b c p m q N : Nat} (hF : Fam1 Z ZD s b c p m q N) (hv : Vd s) (bl : List Int) (hb : ButIs b bl) (hcl : c < 1000000) {id : Nat} {P : TV → Prop} {f : TV → X → X × Bool} (hy : YieldsT Z ZD id s P f)
  (e : Env) (e1 : Env.get e 1 = .ptr q 0) (e2 : Env.get e 2 = .ptr N 0) :
  Yields (famZ Z id p (lpT .ready none e)) (famZ ZD id p (lpT .done (some .ret) e)) (N + 2) (fun a : Nat => [.int .i64 a]) (fun set => set < 1000000 ∧ ∀ M ls, (crsAll s bl c set s.holds 0 [] M).1 = some ls → P (set, ls)) (perSet s bl c f) := by
 rintro set ⟨hset, hPs⟩ ⟨x, M⟩ τ
 have hl : ∀ x M, (Z x M).length = N := fun x M => (hF.ship x).len M
 have hidA : ∀ (A : St) (υ : St), A.length = N → (A ++ υ)[N + 2]? = υ[2]? := fun A υ hA => by rw [← hA]; exact st_get _ _ _
 have hsetA : ∀ (A : St) (υ : St) (y : ABlk), A.length = N → (A ++ υ).set (N + 2) y = A ++ υ.set 2 y := fun A υ y hA => by rw [← hA]; exact st_set _ _ _ _
 obtain ⟨r, hr⟩ : ∃ r, perSet s bl c f set (x, M) = r := ⟨_, rfl⟩
 rw [hr]
 have hZ : ∀ (y : X) (M : Memo) (st : LS) (pe : Option AJump), famZ Z id p (lpT st pe e) (y, M) = Z y M ++ [.cells [.yield id], .cells [.ptr p 0], lpT st pe e] := fun _ _ _ _ => rfl
 refine .round (env := e) (ps := [9]) (a := RA2) (b := F93_1)
  (R := fun o => o.j = none ∧ Env.get o.env 1 = .ptr q 0 ∧ Env.get o.env 2 = .ptr N 0 ∧ Env.get o.env 3 = .int .i64 set ∧ o.σ = Z x M ++ (.cells [.yield id] :: .cells [.ptr p 0] :: lpT .ready none e :: τ))
  (S := fun o => ∃ τ', (r.2 = true ∧ o.j = none ∧ o.σ = Z r.1.1 r.1.2 ++ (.cells [.yield id] :: .cells [.ptr p 0] :: lpT .busy none e :: (τ ++ τ'))) ∨ (r.2 = false ∧ o.j = some .ret ∧ o.σ = ZD r.1.1 r.1.2 ++ (.cells [.yield id] :: .cells [.ptr p 0] :: lpT .busy none e :: (τ ++ τ')))) ?_ rfl ?_ ?_ ?_ ?_
 ·rw [hZ, List.append_assoc, hidA _ _ (hl x M)]; rfl
 ·refine run_wp (K := fun j e' σ' => j = none ∧ Env.get e' 1 = .ptr q 0 ∧ Env.get e' 2 = .ptr N 0 ∧ Env.get e' 3 = .int .i64 set ∧ σ' = Z x M ++ (.cells [.yield id] :: .cells [.ptr p 0] :: lpT .ready none e :: τ)) ?_ fun o ho => ho
  rw [hZ]
  simp only [RA2, bindPs, lpT]
  try simp only [↓QA, QB, Nat.reduceLT, reduceIte, Nat.reduceEqDiff, e1, e2]
  try simp
 ·rintro o ⟨hj, _, _, _, hσ⟩
  refine ⟨hj, ?_⟩
  rw [hσ, hidA _ _ (hl x M)]; rfl
 ·rintro o ⟨hj, q1, q2, q3, hσ⟩
  rw [hσ, hsetA _ _ _ (hl x M)]
  have hset2 : (ABlk.cells [.yield id] :: .cells [.ptr p 0] :: lpT .ready none e :: τ).set 2 (.loop .busy none e [9] RA2 F93_1) = .cells [.yield id] :: .cells [.ptr p 0] :: lpT .busy none e :: τ := rfl
  rw [hset2]
  obtain ⟨U, hU⟩ : ∃ U, (ABlk.cells [.yield id] :: .cells [.ptr p 0] :: lpT .busy none e :: τ) = U := ⟨_, rfl⟩
  rw [hU]
  have hUl : 0 < U.length := by rw [← hU]; simp
  have hbd := perSet_body ((hF.ship x).app U) hv bl hb hcl set hset q N id (fun M τ' => by rw [List.append_assoc]; exact hF.atq1 x M _) (fun M τ' => by
   have e0 : cellsAt (Z x M ++ (U ++ τ')) N = cellsAt (U ++ τ') 0 := by
    have := M_base (Z x M) (U ++ τ') 0
    rwa [hl x M] at this
   rw [List.append_assoc, e0, ← hU]; rfl) (by have := hF.ql; omega) (by omega) M o.env q1 q2 q3 (fun ls => (f (set, ls) x).2) (fun ls M' => Fam1.out Z ZD (f (set, ls) x) M' ++ U) (fun ls M' fl tk τ' hls => by
    have := hy (set, ls) (hPs M ls (by rw [hls])) fl tk x M' (U ++ τ')
    rw [List.append_assoc]
    refine .mono this fun o ho => ?_
    obtain ⟨h1, τ'', h2⟩ := ho
    exact ⟨h1, τ' ++ τ'', by rw [h2]; simp⟩)
  refine run_wp hbd fun o ho => ?_
  rw [← hr]
  simp only [perSet]
  cases hca : crsAll s bl c set s.holds 0 [] M with
  | mk a M' =>
   rw [hca] at ho
   cases a with
   | none =>
    obtain ⟨hj, τ', hσ⟩ := ho
    exact ⟨τ', .inl ⟨rfl, hj, by rw [hσ, ← hU]; simp⟩⟩
   | some ls =>
    simp only at ho ⊢
    obtain ⟨hj, τ', hσ⟩ := ho
    rcases hj with ⟨hV, hj⟩ | ⟨hV, hj⟩
    ·exact ⟨τ', .inl ⟨hV, hj, by rw [hσ, ← hU, Fam1.out, if_pos hV]; simp⟩⟩
    ·exact ⟨τ', .inr ⟨hV, hj, by rw [hσ, ← hU, Fam1.out, hV]; simp⟩⟩
 ·rintro o ⟨τ', ⟨hr2, hj, hσ⟩ | ⟨hr2, hj, hσ⟩⟩
  ·rw [hσ, hidA _ _ (hl _ _), hsetA _ _ _ (hl _ _), hj]
   refine ⟨rfl, by rw [hr2]; rfl, τ', ?_⟩
   simp only [Fam.out, hr2, if_true, famZ]
   simp [lpT]
  ·rw [hσ, hidA _ _ (hF.lenD _ _), hsetA _ _ _ (hF.lenD _ _), hj]
   refine ⟨rfl, by rw [hr2]; rfl, τ', ?_⟩
   simp only [Fam.out, hr2, Bool.false_eq_true, if_false, famZ]
   simp [lpT]
end Go.Am.Room
set_option maxRecDepth 4000
namespace Go.Am.Room
def QXHHdPB := And.intro @encShip_eq (And.intro @shipCells_eq (And.intro @encHold_eq (And.intro @encLine_eq (And.intro @encSpan_eq (And.intro @S_mapHold (And.intro @S_mapLine (And.intro @List.length_append.{0} (And.intro @sb_0 (And.intro @sb_1 (And.intro @sb_2 (And.intro @sb_3 (And.intro @sb_4 (And.intro @sb_5 (And.intro @sb_6 (And.intro @sb_7 (And.intro @sb_8 (And.intro @sb_9 (And.intro @T_sapp (And.intro @Nat.add_lt_add_iff_left (And.intro @Nat.lt_add_right_iff_pos (And.intro @Nat.mul_one (And.intro @Int.toNat_natCast (And.intro @C_yield (@K_yield))))))))))))))))))))))))
theorem sets1_run {X : Type} {Z ZD : X → St} {s : Ship} {b c p m q N : Nat} (hR : Fam Z ZD s b c p m q N) (hv : Vd s) {id : Nat} {P : Nat → Prop} {f : Nat → X → X × Bool} (hy : Yields Z ZD id (fun a : Nat => [.int .i64 a]) P f) (hP : ∀ a ∈ nextL s.holds 0 0, P a) (x : X) :
  Run T (.call 98 [.yield id, .ptr q 0] (Z x)) fun o => ∃ τ', o.σ = Fam.out Z ZD (iterF f (nextL s.holds 0 0) x) ++ τ' := by
 have hn : Does T (NEXT N q) [.int .i64 0, .int .i64 0] (Z x ++ (setsB id N q ++ [])) (.bool (iterF f (nextL s.holds 0 0) x).2) (Fam.out Z ZD (iterF f (nextL s.holds 0 0) x) ++ (setsB id N q ++ [])) :=
  next_ok hR hv hy s.holds.length 0 0 x [] (by omega) (by simp) hP
 obtain ⟨r, hr⟩ : ∃ r, iterF f (nextL s.holds 0 0) x = r := ⟨_, rfl⟩
 rw [hr] at hn ⊢
 refine .call (af := a98) rfl (by simp [a98]) (run_wp (K := fun j e σ' => (j = none ∨ j = some .ret) ∧ ∃ τ', σ' = Fam.out Z ZD r ++ τ') ?_ fun o ho => ho) fun o ho => ⟨ho.1, .tuple [], rfl, .inl ho.2⟩
 simp only [setsB, NEXT, rulesC, List.append_nil] at hn
 (repeat (first | simp only [↓QA, QB, Nat.reduceLT, reduceIte, Nat.reduceEqDiff, Nat.reduceAdd, Nat.reduceLeDiff, Nat.reduceMul, Nat.reduceBEq, QXHHdPB, hR.len, hR.base, hR.base0, hR.bset, hR.bset0, hR.at1, hR.atq1, a98] | refine rd0 rfl ?_))
 refine callK_d rules_ok rfl datas_nil ?_
 (repeat (first | simp only [↓QA, QB, Nat.reduceLT, reduceIte, Nat.reduceEqDiff, Nat.reduceAdd, Nat.reduceLeDiff, Nat.reduceMul, Nat.reduceBEq, QXHHdPB, hR.len, hR.base, hR.base0, hR.bset, hR.bset0, hR.at1, hR.atq1, rulesC] | refine rd0 rfl ?_))
 refine callK_do hn ?_
 (repeat (first | simp only [↓QA, QB, Nat.reduceLT, reduceIte, Nat.reduceEqDiff, Nat.reduceAdd, Nat.reduceLeDiff, Nat.reduceMul, Nat.reduceBEq, QXHHdPB, hR.len, hR.base, hR.base0, hR.bset, hR.bset0, hR.at1, hR.atq1] | refine rd0 rfl ?_))
 exact ⟨_, rfl⟩
end Go.Am.Room
set_option maxRecDepth 4000
namespace Go.Am.Room
def QXHHdPC := And.intro @encShip_eq (And.intro @shipCells_eq (And.intro @encHold_eq (And.intro @encLine_eq (And.intro @encSpan_eq (And.intro @S_mapHold (And.intro @S_mapLine (And.intro @List.length_append.{0} (And.intro @sb_0 (And.intro @sb_1 (And.intro @sb_2 (And.intro @sb_3 (And.intro @sb_4 (And.intro @sb_5 (And.intro @sb_6 (And.intro @sb_7 (And.intro @sb_8 (And.intro @sb_9 (And.intro @T_sapp (And.intro @Nat.add_lt_add_iff_left (And.intro @Nat.lt_add_right_iff_pos (And.intro @Nat.mul_one (And.intro @Int.toNat_natCast (And.intro @C_yield (@K_yield))))))))))))))))))))))))
def allSets {X : Type} (s : Ship) (bl : List Int) (c : Nat) (f : TV → X → X × Bool) (x : X) (M : Memo) : (X × Memo) × Bool := iterF (perSet s bl c f) (nextL s.holds 0 0) (x, M)
theorem sets_lt {s : Ship} (hv : Vd s) : ∀ a ∈ nextL s.holds 0 0, a < 16 := by
 intro a ha
 have := nextL_lt s.holds 0 0 (by simp) a ha
 have hno := hv.nholds
 refine Nat.lt_of_lt_of_le this ?_
 calc 2 ^ (0 + s.holds.length) ≤ 2 ^ 4 := Nat.pow_le_pow_right (by omega) (by omega)
  _ = 16 := by decide
theorem truths1_run {X : Type} {Z ZD : X → Memo → St} {s : Ship} {b c p m q N : Nat} (hF : Fam1 Z ZD s b c p m q N) (hv : Vd s) (bl : List Int) (hb : ButIs b bl) (hcl : c < 1000000) {id : Nat} {P : TV → Prop} {f : TV → X → X × Bool} (hy : YieldsT Z ZD id s P f)
  (hP : ∀ set, set ∈ nextL s.holds 0 0 → ∀ M ls, (crsAll s bl c set s.holds 0 [] M).1 = some ls → P (set, ls)) (x : X) (M : Memo) :
  Run T (.call 93 [.yield id, .ptr q 0] (Z x M)) fun o => ∃ τ', o.σ = Fam1.out Z ZD ((allSets s bl c f x M).1.1, (allSets s bl c f x M).2) (allSets s bl c f x M).1.2 ++ τ' := by
 have hR := hF.ship x
 have hq := fun M τ => hF.atq1 x M τ
 have hq0 := fun M => by simpa using hq M []
 obtain ⟨r, hr⟩ : ∃ r, allSets s bl c f x M = r := ⟨_, rfl⟩
 rw [hr]
 refine .call (af := a93) rfl (by simp [a93]) (run_wp (K := fun j e σ' => (j = none ∨ j = some .ret) ∧ ∃ τ', σ' = Fam1.out Z ZD (r.1.1, r.2) r.1.2 ++ τ') ?_ fun o ho => ho) fun o ho => ⟨ho.1, .tuple [], rfl, .inl ho.2⟩
 (repeat (first | simp only [↓QA, QB, Nat.reduceLT, reduceIte, Nat.reduceEqDiff, Nat.reduceAdd, Nat.reduceLeDiff, Nat.reduceMul, Nat.reduceBEq, QXHHdPC, hR.len, hR.base, hR.base0, hR.bset, hR.bset0, hR.at1, hR.at0, a93, hq, hq0] | refine rd0 rfl ?_))
 refine callK_in rfl (by simp [a94]) ?_
 (repeat (first | simp only [↓QA, QB, Nat.reduceLT, reduceIte, Nat.reduceEqDiff, Nat.reduceAdd, Nat.reduceLeDiff, Nat.reduceMul, Nat.reduceBEq, QXHHdPC, hR.len, hR.base, hR.base0, hR.bset, hR.bset0, hR.at1, hR.at0, a94, hq, hq0] | refine rd0 rfl ?_))
 have hlen : (Z x M ++ [ABlk.cells [.yield id], .cells [.ptr p 0]]).length = N + 2 := by simp [hR.len]
 have hout : ∀ (W : St) (lp : ABlk) (τ' : St), W.length = N → (W ++ [ABlk.cells [.yield id], .cells [.ptr p 0], lp] ++ τ')[N + 2]? = some lp ∧ (W ++ [ABlk.cells [.yield id], .cells [.ptr p 0], lp] ++ τ').set (N + 2) .dead = W ++ (.cells [.yield id] :: .cells [.ptr p 0] :: .dead :: τ') := by
  intro W lp τ' hW
  constructor
  ·rw [List.append_assoc, ← hW, st_get]; rfl
  ·rw [List.append_assoc, ← hW, st_set]; rfl
 refine rK_range (R := fun o => ∃ e τ', Env.get e 1 = .ptr q 0 ∧ o.σ = Fam.out (famZ Z id p (lpT .ready none e)) (famZ ZD id p (lpT .done (some .ret) e)) r ++ τ') rfl ?_ fun o ho => ?_
 ·rw [hlen, List.append_assoc (Z x M)]
  refine .mono (sets1_run (fam2 hF id _) hv (perSet_yields hF hv bl hb hcl hy _ ?_ ?_) (fun a ha => ⟨by have := sets_lt hv a ha; omega, hP a ha⟩) (x, M)) fun o ho => ?_
  ·try simp only [TrimX, QE, Nat.reduceLT, reduceIte, Nat.reduceEqDiff, Nat.reduceAdd, Nat.reduceLeDiff, Nat.reduceMul, Nat.reduceBEq, QXHHdPC, hR.len, hR.base, hR.base0, hR.bset, hR.bset0, hR.at1, hR.at0]
  ·try simp only [TrimX, QE, Nat.reduceLT, reduceIte, Nat.reduceEqDiff, Nat.reduceAdd, Nat.reduceLeDiff, Nat.reduceMul, Nat.reduceBEq, QXHHdPC, hR.len, hR.base, hR.base0, hR.bset, hR.bset0, hR.at1, hR.at0]
  ·obtain ⟨τ', hσ⟩ := ho
   refine ⟨_, τ', ?_, by rw [hσ, ← hr]; rfl⟩
   try simp only [TrimX, QE, Nat.reduceLT, reduceIte, Nat.reduceEqDiff, Nat.reduceAdd, Nat.reduceLeDiff, Nat.reduceMul, Nat.reduceBEq, QXHHdPC, hR.len, hR.base, hR.base0, hR.bset, hR.bset0, hR.at1, hR.at0]
 ·obtain ⟨e, τ', he, hσ⟩ := ho
  rw [hlen, hσ]
  cases hr2 : r.2
  ·have ho : Fam.out (famZ Z id p (lpT .ready none e)) (famZ ZD id p (lpT .done (some .ret) e)) r = ZD r.1.1 r.1.2 ++ [.cells [.yield id], .cells [.ptr p 0], lpT .done (some .ret) e] := by rw [Fam.out, hr2]; rfl
   obtain ⟨g1, g2⟩ := hout (ZD r.1.1 r.1.2) (lpT .done (some .ret) e) τ' (hF.lenD _ _)
   rw [ho, g1, g2]
   refine ⟨_, _, _, _, _, _, rfl, by simp, ?_⟩
   (repeat (first | simp only [↓QA, QB, Nat.reduceLT, reduceIte, Nat.reduceEqDiff, Nat.reduceAdd, Nat.reduceLeDiff, Nat.reduceMul, Nat.reduceBEq, QXHHdPC, hR.len, hR.base, hR.base0, hR.bset, hR.bset0, hR.at1, hR.at0] | refine rd0 rfl ?_))
   exact ⟨.cells [.yield id] :: .cells [.ptr p 0] :: .dead :: τ', by simp [Fam1.out]⟩
  ·have ho : Fam.out (famZ Z id p (lpT .ready none e)) (famZ ZD id p (lpT .done (some .ret) e)) r = Z r.1.1 r.1.2 ++ [.cells [.yield id], .cells [.ptr p 0], lpT .ready none e] := by rw [Fam.out, hr2]; rfl
   obtain ⟨g1, g2⟩ := hout (Z r.1.1 r.1.2) (lpT .ready none e) τ' ((hF.ship _).len _)
   rw [ho, g1, g2]
   refine ⟨_, _, _, _, _, _, rfl, by simp, ?_⟩
   (repeat (first | simp only [↓QA, QB, Nat.reduceLT, reduceIte, Nat.reduceEqDiff, Nat.reduceAdd, Nat.reduceLeDiff, Nat.reduceMul, Nat.reduceBEq, QXHHdPC, hR.len, hR.base, hR.base0, hR.bset, hR.bset0, hR.at1, hR.at0] | refine rd0 rfl ?_))
   exact ⟨.cells [.yield id] :: .cells [.ptr p 0] :: .dead :: τ', by simp [Fam1.out]⟩
theorem cells_lt {σ : St} {i : Nat} {cs : List AV} (h : cellsAt σ i = some cs) : i < σ.length := by
 unfold cellsAt at h
 by_cases hi : i < σ.length
 ·exact hi
 ·rw [List.getElem?_eq_none (by omega)] at h
  cases h
theorem cells_set {σ : St} {i : Nat} (h : i < σ.length) (cs : List AV) : cellsAt (σ.set i (.cells cs)) i = some cs := by
 simp [cellsAt, h]
theorem cells_app {σ : St} {i : Nat} {cs : List AV} (h : cellsAt σ i = some cs) (τ : St) : cellsAt (σ ++ τ) i = some cs := by
 have hl := cells_lt h
 simp only [cellsAt] at h ⊢
 rw [List.getElem?_append_left hl]
 exact h
end Go.Am.Room
set_option maxRecDepth 4000
namespace Go.Am.Room
def QXHHdPD := And.intro @encShip_eq (And.intro @shipCells_eq (And.intro @encHold_eq (And.intro @encLine_eq (And.intro @encSpan_eq (@List.set_set)))))
def tallyStep (t : Int × Int) (b : Bool) : Int × Int := (if b = true then IntKind.i64.wrap (t.1 + 1) else t.1, IntKind.i64.wrap (t.2 + 1))
def tallyC (t : Int × Int) : List AV := [.int .i64 t.1, .int .i64 t.2]
theorem tally_add (σ : St) (i : Nat) (t : Int × Int) (b : Bool) (h : cellsAt σ i = some (tallyC t)) : Does T (.func 74 [] []) [.ptr i 0, .bool b] σ (.tuple []) (σ.set i (.cells (tallyC (tallyStep t b)))) := by
 have hl := cells_lt h
 obtain ⟨y, a⟩ := t
 simp only [tallyC] at h
 refine .callf (.call (af := a74) rfl (by simp [a74]) (run_wp (K := fun j e σ1 => (j = none ∨ j = some .ret) ∧ σ1 = σ.set i (.cells (tallyC (tallyStep (y, a) b)))) ?_ fun o ho => ho) fun o ho => ⟨ho.1, .tuple [], rfl, .inl ⟨rfl, ho.2⟩⟩)
 cases b
 ·(repeat (first | simp only [↓QA, QB, Nat.reduceLT, reduceIte, Nat.reduceEqDiff, Nat.reduceAdd, Nat.reduceLeDiff, Nat.reduceMul, Nat.reduceBEq, QXHHdPD, a74, h, cells_set hl, tallyC, tallyStep, Bool.false_eq_true] | refine rd0 rfl ?_))
 ·(repeat (first | simp only [↓QA, QB, Nat.reduceLT, reduceIte, Nat.reduceEqDiff, Nat.reduceAdd, Nat.reduceLeDiff, Nat.reduceMul, Nat.reduceBEq, QXHHdPD, a74, h, cells_set hl, tallyC, tallyStep] | refine rd0 rfl ?_))
def howI (t : Int × Int) : Int := if t.1 = t.2 then 1 else if t.1 = 0 then 2 else 0
theorem how_ok (t : Int × Int) : Pure T 75 [.agg (tallyC t)] (.int .i64 (howI t)) := by
 obtain ⟨y, a⟩ := t
 simp only [tallyC]
 refine pure_fn (af := a75) rfl (by simp [a75]) dd ?_
 (repeat (first | simp only [↓QA, QB, Nat.reduceLT, reduceIte, Nat.reduceEqDiff, Nat.reduceAdd, Nat.reduceLeDiff, Nat.reduceMul, Nat.reduceBEq, QXHHdPD, a75] | refine rd0 rfl ?_))
 cases h0 : (y == a)
 ·have h0' : y ≠ a := by simpa using h0
  (repeat (first | simp only [↓QA, QB, Nat.reduceLT, reduceIte, Nat.reduceEqDiff, Nat.reduceAdd, Nat.reduceLeDiff, Nat.reduceMul, Nat.reduceBEq, QXHHdPD, h0] | refine rd0 rfl ?_))
  cases h1 : (y == 0)
  ·have h1' : y ≠ 0 := by simpa using h1
   (repeat (first | simp only [↓QA, QB, Nat.reduceLT, reduceIte, Nat.reduceEqDiff, Nat.reduceAdd, Nat.reduceLeDiff, Nat.reduceMul, Nat.reduceBEq, QXHHdPD, h1, howI, h0', h1'] | refine rd0 rfl ?_))
  ·have h1' : y = 0 := by simpa using h1
   subst h1'
   (repeat (first | simp only [↓QA, QB, Nat.reduceLT, reduceIte, Nat.reduceEqDiff, Nat.reduceAdd, Nat.reduceLeDiff, Nat.reduceMul, Nat.reduceBEq, QXHHdPD, h1, howI, h0'] | refine rd0 rfl ?_))
 ·have h0' : y = a := by simpa using h0
  (repeat (first | simp only [↓QA, QB, Nat.reduceLT, reduceIte, Nat.reduceEqDiff, Nat.reduceAdd, Nat.reduceLeDiff, Nat.reduceMul, Nat.reduceBEq, QXHHdPD, h0, howI, h0'] | refine rd0 rfl ?_))
def spanStep (t : Span × Bool) (n : Int) : Span × Bool := (join (if t.2 = true then t.1 else ⟨n, n⟩) n, true)
def spanC (t : Span × Bool) : List AV := [.int .i64 t.1.lo, .int .i64 t.1.hi, .bool t.2]
theorem span_add (σ : St) (i : Nat) (t : Span × Bool) (n : Int) (h : cellsAt σ i = some (spanC t)) : Does T (.func 67 [] []) [.ptr i 0, .int .i64 n] σ (.tuple []) (σ.set i (.cells (spanC (spanStep t n)))) := by
 have hl := cells_lt h
 obtain ⟨⟨lo, hi⟩, any⟩ := t
 simp only [spanC] at h
 refine .callf (.call (af := a67) rfl (by simp [a67]) (run_wp (K := fun j e σ1 => (j = none ∨ j = some .ret) ∧ σ1 = σ.set i (.cells (spanC (spanStep (⟨lo, hi⟩, any) n)))) ?_ fun o ho => ho) fun o ho => ⟨ho.1, .tuple [], rfl, .inl ⟨rfl, ho.2⟩⟩)
 cases any
 ·(repeat (first | simp only [↓QA, QB, Nat.reduceLT, reduceIte, Nat.reduceEqDiff, Nat.reduceAdd, Nat.reduceLeDiff, Nat.reduceMul, Nat.reduceBEq, QXHHdPD, a67, h, cells_set hl, spanC, spanStep, join, Bool.false_eq_true] | refine rd0 rfl ?_))
 ·(repeat (first | simp only [↓QA, QB, Nat.reduceLT, reduceIte, Nat.reduceEqDiff, Nat.reduceAdd, Nat.reduceLeDiff, Nat.reduceMul, Nat.reduceBEq, QXHHdPD, a67, h, cells_set hl, spanC, spanStep, join] | refine rd0 rfl ?_))
theorem reach1_ok (σ : St) (i : Nat) (mo n : Int) (h : cellsAt σ i = some [.int .i64 mo]) : Same T (.func 73 [] [.ptr i 0]) [.int .i64 n] σ (.bool (decide (n ≤ mo))) := by
 refine same_fn (af := a73) rfl (by simp [a73]) ?_
 (repeat (first | simp only [↓QA, QB, Nat.reduceLT, reduceIte, Nat.reduceEqDiff, Nat.reduceAdd, Nat.reduceLeDiff, Nat.reduceMul, Nat.reduceBEq, QXHHdPD, a73, h] | refine rd0 rfl ?_))
 refine baseR [] (by first | rfl | simp) ?_
 try simp only [QS, QC, Nat.reduceLT, reduceIte, Nat.reduceEqDiff, Nat.reduceAdd, Nat.reduceLeDiff, Nat.reduceMul, Nat.reduceBEq, QXHHdPD]
end Go.Am.Room
set_option maxRecDepth 4000
namespace Go.Am.Room
def QXHHdPE := And.intro @encShip_eq (And.intro @shipCells_eq (And.intro @encHold_eq (And.intro @encLine_eq (And.intro @encSpan_eq (And.intro @encCrs_eq (And.intro @S_mapHold (And.intro @S_mapLine (And.intro @List.length_append.{0} (And.intro @sb_0 (And.intro @sb_1 (And.intro @sb_2 (And.intro @sb_3 (And.intro @sb_4 (And.intro @sb_5 (And.intro @sb_6 (And.intro @sb_7 (And.intro @sb_8 (And.intro @sb_9 (And.intro @T_sapp (And.intro @Nat.add_lt_add_iff_left (And.intro @Nat.lt_add_right_iff_pos (And.intro @Nat.mul_one (And.intro @Int.toNat_natCast (And.intro @arr_len (And.intro @arr_take (And.intro @arr_drop (@arr_cell)))))))))))))))))))))))))))
def sameArr (f g : Nat → Int) : Bool := (List.range 7).all fun i => f i == g i
theorem arr_ne (f g : Nat → Int) : eqCells [.i, .i, .i, .i, .i, .i, .i] (arr7 f) (arr7 g) = some (sameArr f g) := by
 have key : ∀ p q : Bool, p = q → some p = some q := fun p q h => by rw [h]
 simp only [arr7, V_eqC1, V_eqC0, V_eqI, V_oand]
 refine key _ _ ?_
 simp [sameArr, List.range_succ, Bool.and_assoc]
def okW (x : Hold) (f : Nat → Int) (w : Nat) : Bool := (x.keep.lo == 0 && x.keep.hi == 80) || inR (f w) x.keep.lo x.keep.hi
def keptF (s : Ship) (x : Hold) (f : Nat → Int) : Bool := (List.range 7).all fun w => !(decide (s.frm ≤ (w : Int)) && decide (w ≤ s.heat.length)) || okW x f w
def outF (a : Nat) (ok : Nat → Bool) (k : Nat) : Nat → Int := fun j => if (decide (a ≤ j) && decide (j < a + k) && !ok j) = true then 1 else 0
theorem outF_bad {a k : Nat} {ok : Nat → Bool} (h : ok (a + k) = false) : updF (outF a ok k) (a + k) 1 = outF a ok (k + 1) := by
 funext j
 simp only [updF, outF]
 by_cases h1 : j = a + k
 ·subst h1; simp [h]
 ·have : decide (j < a + (k + 1)) = decide (j < a + k) := by rw [Bool.eq_iff_iff]; simp; omega
  simp [h1, this]
theorem outF_ok {a k : Nat} {ok : Nat → Bool} (h : ok (a + k) = true) : outF a ok (k + 1) = outF a ok k := by
 funext j
 simp only [outF]
 by_cases h1 : j = a + k
 ·subst h1; simp [h]
 ·have : decide (j < a + (k + 1)) = decide (j < a + k) := by rw [Bool.eq_iff_iff]; simp; omega
  simp [this]
theorem kept_m (σ : St) (p : Nat) (s : Ship) (b c m : Nat) (hp : cellsAt σ p = some (sb s b c m)) (hv : Vd s) (h : Nat) (hh : h < s.holds.length) (f : Nat → Int) : Same T (.func 96 [.ptr p 0] []) [.int .i64 h, encCrs f] σ (.bool (keptF s s.holds[h] f)) := by
 have hnh := hv.nheat
 have hfr := hv.frm
 obtain ⟨x, hx⟩ : ∃ x, s.holds[h] = x := ⟨_, rfl⟩
 rw [hx]
 obtain ⟨a, ha⟩ : ∃ a : Nat, s.frm = a := ⟨s.frm.toNat, by omega⟩
 obtain ⟨L, hL⟩ : ∃ L, s.heat.length = L := ⟨_, rfl⟩
 have hpa := fun τ => cells_app hp τ
 obtain ⟨ok, hok⟩ : ∃ ok : Nat → Bool, okW x f = ok := ⟨_, rfl⟩
 have hfin : sameArr (outF a ok (L + 1 - a)) (fun _ => 0) = keptF s x f := by
  simp only [sameArr, keptF, hok, ha, hL]
  congr 1
  funext w
  simp only [outF]
  have e1 : decide (w < a + (L + 1 - a)) = decide (w ≤ L) := by rw [Bool.eq_iff_iff]; simp; omega
  have e2 : decide (((a : Nat) : Int) ≤ (w : Int)) = decide (a ≤ w) := by rw [Bool.eq_iff_iff]; simp
  rw [e1, e2]
  cases decide (a ≤ w) <;> cases decide (w ≤ L) <;> cases ok w <;> simp
 have hz : outF a ok 0 = fun _ => 0 := by
  funext j
  simp only [outF]
  have : (decide (a ≤ j) && decide (j < a + 0)) = false := by
   by_cases h1 : a ≤ j
   ·have : ¬ j < a + 0 := by omega
    simp [this]
   ·simp [h1]
  rw [this, Bool.false_and]
  rfl
 rw [ha, hL] at hfr
 rw [hL] at hnh
 refine same_fn (af := a96) rfl (by simp [a96]) ?_
 (repeat (first | simp only [↓QA, QB, Nat.reduceLT, reduceIte, Nat.reduceEqDiff, Nat.reduceAdd, Nat.reduceLeDiff, Nat.reduceMul, Nat.reduceBEq, QXHHdPE, a96, hp, hpa, ha, hL, ← arr_zero] | refine rd0 rfl ?_))
 refine loopE (S := Nat) 0 (fun k => k ≤ L + 1 - a) (fun k => L + 1 - a - k)
  (fun k => [(0, .ptr p 0), (1, .int .i64 h), (5, .ptr σ.length 0), (7, .ptr (σ.length + 1) 0), (8, .ptr (σ.length + 2) 0), (9, .int .i64 ((a + k : Nat) : Int))])
  (fun k => σ ++ [.cells (arr7 f), .cells (arr7 (outF a ok k)), .cells [.int .i64 0, .int .i64 80]]) (Nat.zero_le _) (by simp only [hz]) ?_ fun k hk => ?_
 ·try simp only [TrimX, QE, Nat.reduceLT, reduceIte, Nat.reduceEqDiff, Nat.reduceAdd, Nat.reduceLeDiff, Nat.reduceMul, Nat.reduceBEq, QXHHdPE]
  try simp
 ·(repeat (first | simp only [↓QA, QB, Nat.reduceLT, reduceIte, Nat.reduceEqDiff, Nat.reduceAdd, Nat.reduceLeDiff, Nat.reduceMul, Nat.reduceBEq, QXHHdPE, L96_0, hp, hpa, ha, hL] | refine rd0 rfl ?_))
  refine iteP_intro (fun hd => ?_) fun hd => ?_
  ·have hk1 : a + k ≤ L := by simp at hd; omega
   have hw : IntKind.i64.wrap (((a + k : Nat) : Int) + 1) = ((a + (k + 1) : Nat) : Int) := by rw [wrap64 ⟨by omega, by omega⟩]; omega
   have i1 : (0 : Int) ≤ ((a + k : Nat) : Int) ∧ ((a + k : Nat) : Int) < ((7 : Nat) : Int) := ⟨by omega, by omega⟩
   have c1 : a + k ≤ 6 := by omega
   have hg := arr_get f (a + k) (by omega)
   have hs := arr_set (outF a ok k) 1 (a + k) (by omega)
   have hokv : ok (a + k) = ((x.keep.lo == 0 && x.keep.hi == 80) || inR (f (a + k)) x.keep.lo x.keep.hi) := by rw [← hok]; rfl
   obtain ⟨w, hwe⟩ : ∃ w, a + k = w := ⟨_, rfl⟩
   cases h1 : (x.keep.lo == 0 && x.keep.hi == 80)
   ·rw [h1, Bool.false_or] at hokv
    (repeat (first | simp only [↓QA, QB, Nat.reduceLT, reduceIte, Nat.reduceEqDiff, Nat.reduceAdd, Nat.reduceLeDiff, Nat.reduceMul, Nat.reduceBEq, QXHHdPE, hp, hpa, hh, hx, h1, i1, c1, hg] | refine rd0 rfl ?_))
    ((first | refine callK_v (beyond_ok x.keep.lo x.keep.hi [f (a + k)] (by simp)) (by simp [clr, clrs, ints]) (by simp [okV, okVs]) ?_ | refine callD_v (beyond_ok x.keep.lo x.keep.hi [f (a + k)] (by simp)) (by simp [clr, clrs, ints]) (by simp [okV, okVs]) ?_); (repeat (first | simp only [↓QA, QB, Nat.reduceLT, reduceIte, Nat.reduceEqDiff, Nat.reduceAdd, Nat.reduceLeDiff, Nat.reduceMul, Nat.reduceBEq, QXHHdPE, beyond1, hp, hpa, hh, hx, h1, i1, c1, hg] | refine rd0 rfl ?_)))
    cases h2 : inR (f (a + k)) x.keep.lo x.keep.hi
    ·rw [h2] at hokv
     rw [outF_bad hokv] at hs
     (repeat (first | simp only [↓QA, QB, Nat.reduceLT, reduceIte, Nat.reduceEqDiff, Nat.reduceAdd, Nat.reduceLeDiff, Nat.reduceMul, Nat.reduceBEq, QXHHdPE, hp, hpa, hh, hx, h1, i1, c1, hg, hs] | refine rd0 rfl ?_))
     refine ⟨k + 1, by omega, by omega, ?_⟩
     try simp only [TrimX, QE, Nat.reduceLT, reduceIte, Nat.reduceEqDiff, Nat.reduceAdd, Nat.reduceLeDiff, Nat.reduceMul, Nat.reduceBEq, QXHHdPE, hw]
     have := cells_lt hp
     simp [okBlk, okVs, okV, arr_ok]
     try omega
    ·rw [h2] at hokv
     have hsame := outF_ok hokv
     (repeat (first | simp only [↓QA, QB, Nat.reduceLT, reduceIte, Nat.reduceEqDiff, Nat.reduceAdd, Nat.reduceLeDiff, Nat.reduceMul, Nat.reduceBEq, QXHHdPE, hp, hpa, hh, hx, h1, i1, c1, hg] | refine rd0 rfl ?_))
     refine ⟨k + 1, by omega, by omega, ?_⟩
     rw [hsame]
     try simp only [TrimX, QE, Nat.reduceLT, reduceIte, Nat.reduceEqDiff, Nat.reduceAdd, Nat.reduceLeDiff, Nat.reduceMul, Nat.reduceBEq, QXHHdPE, hw]
     have := cells_lt hp
     simp [okBlk, okVs, okV, arr_ok]
     try omega
   ·rw [h1, Bool.true_or] at hokv
    have hsame := outF_ok hokv
    (repeat (first | simp only [↓QA, QB, Nat.reduceLT, reduceIte, Nat.reduceEqDiff, Nat.reduceAdd, Nat.reduceLeDiff, Nat.reduceMul, Nat.reduceBEq, QXHHdPE, hp, hpa, hh, hx, h1, i1, c1, hg] | refine rd0 rfl ?_))
    refine ⟨k + 1, by omega, by omega, ?_⟩
    rw [hsame]
    try simp only [TrimX, QE, Nat.reduceLT, reduceIte, Nat.reduceEqDiff, Nat.reduceAdd, Nat.reduceLeDiff, Nat.reduceMul, Nat.reduceBEq, QXHHdPE, hw]
    have := cells_lt hp
    simp [okBlk, okVs, okV, arr_ok]
    try omega
  ·have hk1 : k = L + 1 - a := by simp at hd; omega
   rw [hk1]
   (repeat (first | simp only [↓QA, QB, Nat.reduceLT, reduceIte, Nat.reduceEqDiff, Nat.reduceAdd, Nat.reduceLeDiff, Nat.reduceMul, Nat.reduceBEq, QXHHdPE, ← arr_zero, arr_ne] | refine rd0 rfl ?_))
   refine baseR _ rfl ?_
   rw [← hfin]
   try simp only [QS, QC, Nat.reduceLT, reduceIte, Nat.reduceEqDiff, Nat.reduceAdd, Nat.reduceLeDiff, Nat.reduceMul, Nat.reduceBEq, QXHHdPE]
end Go.Am.Room
set_option maxRecDepth 4000
namespace Go.Am.Room
def crsLs (s : Ship) (bl : List Int) (c set : Nat) : List Hold → Nat → Option (List (List Way))
 | [], _ => some []
 | x :: xs, h => if crsWays s bl x h (coolB set h) (coolB (andN set c) h) = [] then none else (crsLs s bl c set xs (h + 1)).map fun l => crsWays s bl x h (coolB set h) (coolB (andN set c) h) :: l
theorem crsAll_fst (s : Ship) (bl : List Int) (c set : Nat) : ∀ (xs : List Hold) (h : Nat) (acc : List (List Way)) (M : Memo), (crsAll s bl c set xs h acc M).1 = (crsLs s bl c set xs h).map fun l => acc ++ l
 | [], _, acc, M => by simp [crsAll, crsLs]
 | x :: xs, h, acc, M => by
  simp only [crsAll, crsLs]
  split
  ·rfl
  ·rw [crsAll_fst s bl c set xs]
   simp only [Option.map_map]
   congr 1
   funext l
   simp
def TL (s : Ship) (bl : List Int) (c : Nat) : List TV := (nextL s.holds 0 0).filterMap fun set => (crsLs s bl c set s.holds 0).map fun ls => (set, ls)
theorem allSets_fst {X : Type} (s : Ship) (bl : List Int) (c : Nat) (f : TV → X → X × Bool) (x : X) (M : Memo) : ((allSets s bl c f x M).1.1, (allSets s bl c f x M).2) = iterF f (TL s bl c) x := by
 have key : ∀ (l : List Nat) (x : X) (M : Memo), ((iterF (perSet s bl c f) l (x, M)).1.1, (iterF (perSet s bl c f) l (x, M)).2) = iterF f (l.filterMap fun set => (crsLs s bl c set s.holds 0).map fun ls => (set, ls)) x := by
  intro l
  induction l with
  | nil => intro x M; rfl
  | cons set l ih =>
   intro x M
   have hf := crsAll_fst s bl c set s.holds 0 [] M
   simp only [List.nil_append, Option.map_id'] at hf
   simp only [iterF, List.filterMap_cons]
   cases hc : crsAll s bl c set s.holds 0 [] M with
   | mk a M' =>
    rw [hc] at hf
    simp only at hf
    rw [← hf]
    cases a with
    | none =>
     have hp : perSet s bl c f set (x, M) = ((x, M'), true) := by simp only [perSet, hc]
     rw [hp]
     simp only [if_true, Option.map_none]
     exact ih x M'
    | some ls =>
     have hp : perSet s bl c f set (x, M) = (((f (set, ls) x).1, M'), (f (set, ls) x).2) := by simp only [perSet, hc]
     rw [hp]
     simp only [Option.map_some, iterF]
     split
     ·exact ih _ M'
     ·rfl
 exact key _ x M
theorem TL_in {s : Ship} {bl : List Int} {c set : Nat} {M : Memo} {ls : List (List Way)} (hs : set ∈ nextL s.holds 0 0) (h : (crsAll s bl c set s.holds 0 [] M).1 = some ls) : (set, ls) ∈ TL s bl c := by
 rw [crsAll_fst] at h
 simp only [List.nil_append, Option.map_id'] at h
 exact List.mem_filterMap.2 ⟨set, hs, by rw [h]; rfl⟩
theorem fam1_of {X : Type} {S : Memo → St} {s : Ship} {b c p m N : Nat} (hS : ShipAt S s b c p m N) (U UD : X → St) (n : Nat) (hU : ∀ x, (U x).length = n) (hUD : ∀ x, (UD x).length = n) (ok : ∀ x y, y ∈ U x → ∀ k, N ≤ k → okBlk k y) (okD : ∀ x y, y ∈ UD x → ∀ k, N ≤ k → okBlk k y)
  (env : Env) (ps : List Nat) (a bb : ACode) (st st' : LS) (pe pe' : Option AJump) :
  Fam1 (fun x M => S M ++ (U x ++ [.cells [.ptr p 0], .loop st pe env ps a bb])) (fun x M => S M ++ (UD x ++ [.cells [.ptr p 0], .loop st' pe' env ps a bb])) s b c p m (N + n) (N + n + 2) := by
 have hpl := hS.pl
 have low : ∀ (M M' : Memo) (A B : St) (k i : Nat), i < N → blkKept (S M ++ A) (S M' ++ B) k i := by
  intro M M' A B k i hi
  have e1 : (S M ++ A)[i]? = (S M)[i]? := List.getElem?_append_left (by rw [hS.len]; exact hi)
  have e2 : (S M' ++ B)[i]? = (S M')[i]? := List.getElem?_append_left (by rw [hS.len]; exact hi)
  simp only [blkKept, e1, e2]
  by_cases him : i = m
  ·subst him
   exact .inr (.inl ⟨_, hS.map0 M', ShipAt.memo_ok s M' k⟩)
  ·exact .inl (hS.keep M M' i him)
 have high : ∀ (M M' : Memo) (A B : St) (l1 l2 : ABlk) (k i : Nat), A.length = n → B.length = n → (∀ y ∈ B, okBlk k y) → N ≤ i → i < N + n + 2 → (l1 = l2 ∨ ∃ st pe st' pe' env ps a b, l1 = .loop st pe env ps a b ∧ l2 = .loop st' pe' env ps a b) →
   blkKept (S M ++ (A ++ [.cells [.ptr p 0], l1])) (S M' ++ (B ++ [.cells [.ptr p 0], l2])) k i := by
  intro M M' A B l1 l2 k i hA hB hk h1 h2 hl
  have e1 : (S M ++ (A ++ [.cells [.ptr p 0], l1]))[i]? = (A ++ [.cells [.ptr p 0], l1])[i - N]? := by rw [List.getElem?_append_right (by rw [hS.len]; exact h1), hS.len]
  have e2 : (S M' ++ (B ++ [.cells [.ptr p 0], l2]))[i]? = (B ++ [.cells [.ptr p 0], l2])[i - N]? := by rw [List.getElem?_append_right (by rw [hS.len]; exact h1), hS.len]
  simp only [blkKept, e1, e2]
  obtain ⟨j, hj⟩ : ∃ j, i - N = j := ⟨_, rfl⟩
  rw [hj]
  by_cases hjn : j < n
  ·right; left
   have hb : j < B.length := by omega
   refine ⟨B[j], ?_, hk _ (List.getElem_mem hb)⟩
   rw [List.getElem?_append_left hb, List.getElem?_eq_getElem hb]
  ·have : j = n ∨ j = n + 1 := by omega
   rcases this with rfl | rfl
   ·left
    rw [List.getElem?_append_right (by omega), List.getElem?_append_right (by omega), hA, hB]
    simp
   ·rw [List.getElem?_append_right (by omega), List.getElem?_append_right (by omega), hA, hB]
    simp only [Nat.add_sub_cancel_left, List.getElem?_cons_succ, List.getElem?_cons_zero]
    rcases hl with rfl | ⟨_, _, _, _, _, _, _, _, rfl, rfl⟩
    ·exact .inl rfl
    ·exact .inr (.inr ⟨_, _, _, _, _, _, _, _, rfl, rfl⟩)
 refine ⟨fun x => ?_, fun x M => ?_, fun x M => ?_, fun x M y M' k i hk hi => ?_, fun x M y M' k i hk hi => ?_, by omega, by omega⟩
 ·have := hS.app (U x ++ [.cells [.ptr p 0], .loop st pe env ps a bb])
  rw [List.length_append, hU] at this
  exact this
 ·simp [hS.len, hUD]; omega
 ·have e : N + n = (S M).length + n := by rw [hS.len]
  rw [e, M_base]
  have : n = (U x).length := by rw [hU]
  rw [this]
  exact M_base0 _ _
 ·by_cases h : i < N
  ·exact low _ _ _ _ _ _ h
  ·exact high _ _ _ _ _ _ _ _ (hU x) (hU y) (fun z hz => ok y z hz k (by omega)) (by omega) hi (.inl rfl)
 ·by_cases h : i < N
  ·exact low _ _ _ _ _ _ h
  ·exact high _ _ _ _ _ _ _ _ (hU x) (hUD y) (fun z hz => okD y z hz k (by omega)) (by omega) hi (.inr ⟨_, _, _, _, _, _, _, _, rfl, rfl⟩)
end Go.Am.Room
set_option maxRecDepth 4000
namespace Go.Am.Room
def QXHHdPG := And.intro @encShip_eq (And.intro @shipCells_eq (And.intro @encHold_eq (And.intro @encLine_eq (And.intro @encSpan_eq (And.intro @S_mapHold (And.intro @S_mapLine (And.intro @List.length_append.{0} (And.intro @sb_0 (And.intro @sb_1 (And.intro @sb_2 (And.intro @sb_3 (And.intro @sb_4 (And.intro @sb_5 (And.intro @sb_6 (And.intro @sb_7 (And.intro @sb_8 (And.intro @sb_9 (And.intro @T_sapp (And.intro @Nat.add_lt_add_iff_left (And.intro @Nat.lt_add_right_iff_pos (And.intro @Nat.mul_one (And.intro @Int.toNat_natCast (And.intro @C_yield (@K_yield))))))))))))))))))))))))
theorem truths_range {X : Type} {S : Memo → St} {s : Ship} {b c p m N : Nat} (hS : ShipAt S s b c p m N) (hv : Vd s) (bl : List Int) (hb : ButIs b bl) (hcl : c < 1000000) (U UD : X → St) (n : Nat) (hU : ∀ x, (U x).length = n) (hUD : ∀ x, (UD x).length = n) (ok : ∀ x y, y ∈ U x → ∀ k, N ≤ k → okBlk k y) (okD : ∀ x y, y ∈ UD x → ∀ k, N ≤ k → okBlk k y)
  (J : AJump) {P : TV → Prop} {f : TV → X → X × Bool} (e : Env) (k : Nat) (ps : List Nat) (a bb : ACode) (ek : Env.get e k = .func 93 [] [.ptr (N + n) 0])
  (hy : YieldsT (fun x M => S M ++ (U x ++ [.cells [.ptr p 0], .loop .ready none e ps a bb])) (fun x M => S M ++ (UD x ++ [.cells [.ptr p 0], .loop .done (some J) e ps a bb])) (N + n + 1) s P f)
  (hP : ∀ t ∈ TL s bl c, P t) (x : X) (M : Memo) (K : KJ)
  (hT : ∀ τ, (iterF f (TL s bl c) x).2 = true → K none e (S (allSets s bl c f x M).1.2 ++ (U (iterF f (TL s bl c) x).1 ++ (.cells [.ptr p 0] :: .dead :: τ))))
  (hD : ∀ τ, (iterF f (TL s bl c) x).2 = false → K (some J) e (S (allSets s bl c f x M).1.2 ++ (UD (iterF f (TL s bl c) x).1 ++ (.cells [.ptr p 0] :: .dead :: τ)))) :
  rK (K := ⟨K⟩) T (.rangeFunc (.t k) ps a bb) e (S M ++ (U x ++ [.cells [.ptr p 0]])) := by
 have hlen : (S M ++ (U x ++ [ABlk.cells [.ptr p 0]])).length = N + n + 1 := by simp [hS.len, hU]; omega
 have hfst := allSets_fst s bl c f x M
 have hrun := truths1_run (fam1_of hS U UD n hU hUD ok okD e ps a bb .ready .done none (some J)) hv bl hb hcl hy (fun set hs M ls hls => hP _ (TL_in hs hls)) x M
 have hrr : ((allSets s bl c f x M).1.1, (allSets s bl c f x M).2) = iterF f (TL s bl c) x := hfst
 rw [hrr] at hrun
 have e2 : (allSets s bl c f x M).2 = (iterF f (TL s bl c) x).2 := by rw [← hrr]
 have hout : ∀ (A W : St) (lp : ABlk) (τ' : St), A.length = N → W.length = n → (A ++ (W ++ [ABlk.cells [.ptr p 0], lp]) ++ τ')[N + n + 1]? = some lp ∧ (A ++ (W ++ [ABlk.cells [.ptr p 0], lp]) ++ τ').set (N + n + 1) .dead = A ++ (W ++ (.cells [.ptr p 0] :: .dead :: τ')) := by
  intro A W lp τ' hA hW
  have h1 : N + n + 1 = (A ++ W).length + 1 := by simp [hA, hW]
  have h2 : A ++ (W ++ [ABlk.cells [.ptr p 0], lp]) ++ τ' = (A ++ W) ++ (.cells [.ptr p 0] :: lp :: τ') := by simp
  rw [h1, h2]
  constructor
  ·rw [st_get]; rfl
  ·rw [st_set]; simp
 refine rK_range (by rw [q_evt, ek]) (by
  rw [hlen, List.append_assoc (S M), List.append_assoc (U x)]
  exact hrun) fun o ho => ?_
 obtain ⟨τ', hσ⟩ := ho
 rw [hlen, hσ]
 obtain ⟨r, hr⟩ : ∃ r, iterF f (TL s bl c) x = r := ⟨_, rfl⟩
 rw [hr] at hT hD ⊢
 cases hr2 : r.2
 ·have hD' := hD τ' hr2
  obtain ⟨g1, g2⟩ := hout (S (allSets s bl c f x M).1.2) (UD r.1) (.loop .done (some J) e ps a bb) τ' (hS.len _) (hUD _)
  simp only [Fam1.out, hr2, Bool.false_eq_true, if_false]
  rw [g1, g2]
  exact ⟨_, _, _, _, _, _, rfl, by simp, hD'⟩
 ·have hT' := hT τ' hr2
  obtain ⟨g1, g2⟩ := hout (S (allSets s bl c f x M).1.2) (U r.1) (.loop .ready none e ps a bb) τ' (hS.len _) (hU _)
  simp only [Fam1.out, hr2, if_true]
  rw [g1, g2]
  exact ⟨_, _, _, _, _, _, rfl, by simp, hT'⟩
theorem yields_of {X : Type} {S : Memo → St} {s : Ship} {b c p m N : Nat} (hS : ShipAt S s b c p m N) (U UD : X → St) (n : Nat) (hU : ∀ x, (U x).length = n) (hUD : ∀ x, (UD x).length = n) (J : AJump) (e : Env) (ps : List Nat) (hps : ps.length = 2) (a bb : ACode) {P : TV → Prop} {f : TV → X → X × Bool}
  (h : ∀ t, P t → ∀ (fl : Bool) (tk : Option Nat) x M τ, wp T a (bindPs e ps [.int .i64 t.1, .lit (t.2.map (crssAV s)) fl tk]) (S M ++ (U x ++ (.cells [.ptr p 0] :: .loop .ready none e ps a bb :: τ))) (fun j e' σ' => j = none ∧ σ' = S M ++ (U x ++ (.cells [.ptr p 0] :: .loop .ready none e ps a bb :: τ)) ∧
   wp T bb e' (S M ++ (U x ++ (.cells [.ptr p 0] :: .loop .busy none e ps a bb :: τ))) (fun j e'' σ'' => ((f t x).2 = true ∧ j = none ∧ ∃ τ', σ'' = S M ++ (U (f t x).1 ++ (.cells [.ptr p 0] :: .loop .busy none e ps a bb :: (τ ++ τ')))) ∨
    ((f t x).2 = false ∧ j = some J ∧ ∃ τ', σ'' = S M ++ (UD (f t x).1 ++ (.cells [.ptr p 0] :: .loop .busy none e ps a bb :: (τ ++ τ'))))))) :
  YieldsT (fun x M => S M ++ (U x ++ [.cells [.ptr p 0], .loop .ready none e ps a bb])) (fun x M => S M ++ (UD x ++ [.cells [.ptr p 0], .loop .done (some J) e ps a bb])) (N + n + 1) s P f := by
 intro t ht fl tk x M τ
 have hget : ∀ (A W : St) (lp : ABlk) (υ : St), A.length = N → W.length = n → (A ++ (W ++ (ABlk.cells [.ptr p 0] :: lp :: υ)))[N + n + 1]? = some lp := by
  intro A W lp υ hA hW
  have h1 : N + n + 1 = (A ++ W).length + 1 := by simp [hA, hW]
  rw [h1, ← List.append_assoc, st_get]; rfl
 have hset : ∀ (A W : St) (lp l2 : ABlk) (υ : St), A.length = N → W.length = n → (A ++ (W ++ (ABlk.cells [.ptr p 0] :: lp :: υ))).set (N + n + 1) l2 = A ++ (W ++ (ABlk.cells [.ptr p 0] :: l2 :: υ)) := by
  intro A W lp l2 υ hA hW
  have h1 : N + n + 1 = (A ++ W).length + 1 := by simp [hA, hW]
  rw [h1, ← List.append_assoc, st_set]
  simp
 obtain ⟨r, hr⟩ : ∃ r, f t x = r := ⟨_, rfl⟩
 have h := h t ht fl tk x M τ
 rw [hr] at h ⊢
 have hst : (fun x M => S M ++ (U x ++ [ABlk.cells [.ptr p 0], .loop .ready none e ps a bb])) x M ++ τ = S M ++ (U x ++ (.cells [.ptr p 0] :: .loop .ready none e ps a bb :: τ)) := by simp
 rw [hst]
 refine .round (env := e) (ps := ps) (a := a) (b := bb)
  (R := fun o => o.j = none ∧ o.σ = S M ++ (U x ++ (.cells [.ptr p 0] :: .loop .ready none e ps a bb :: τ)) ∧ wp T bb o.env (S M ++ (U x ++ (.cells [.ptr p 0] :: .loop .busy none e ps a bb :: τ))) (fun j e'' σ'' => (r.2 = true ∧ j = none ∧ ∃ τ', σ'' = S M ++ (U r.1 ++ (.cells [.ptr p 0] :: .loop .busy none e ps a bb :: (τ ++ τ')))) ∨
    (r.2 = false ∧ j = some J ∧ ∃ τ', σ'' = S M ++ (UD r.1 ++ (.cells [.ptr p 0] :: .loop .busy none e ps a bb :: (τ ++ τ'))))))
  (S := fun o => (r.2 = true ∧ o.j = none ∧ ∃ τ', o.σ = S M ++ (U r.1 ++ (.cells [.ptr p 0] :: .loop .busy none e ps a bb :: (τ ++ τ')))) ∨ (r.2 = false ∧ o.j = some J ∧ ∃ τ', o.σ = S M ++ (UD r.1 ++ (.cells [.ptr p 0] :: .loop .busy none e ps a bb :: (τ ++ τ'))))) (hget _ _ _ _ (hS.len _) (hU _)) (by rw [hps]; rfl) (run_wp h fun o ho => ho) ?_ ?_ ?_
 ·rintro o ⟨hj, hσ, _⟩
  exact ⟨hj, by rw [hσ]; exact hget _ _ _ _ (hS.len _) (hU _)⟩
 ·rintro o ⟨_, hσ, hw⟩
  rw [hσ, hset _ _ _ _ _ (hS.len _) (hU _)]
  exact run_wp hw fun o ho => ho
 ·rintro o (⟨hr2, hj, τ', hσ⟩ | ⟨hr2, hj, τ', hσ⟩)
  ·rw [hσ, hj, hget _ _ _ _ (hS.len _) (hU _), hset _ _ _ _ _ (hS.len _) (hU _)]
   refine ⟨rfl, by rw [hr2]; rfl, τ', ?_⟩
   simp [Fam1.out, hr2]
  ·rw [hσ, hj, hget _ _ _ _ (hS.len _) (hUD _), hset _ _ _ _ _ (hS.len _) (hUD _)]
   refine ⟨rfl, by rw [hr2]; rfl, τ', ?_⟩
   simp [Fam1.out, hr2]
theorem iterF_go {A X : Type} {f : A → X → X × Bool} (h : ∀ a x, (f a x).2 = true) : ∀ (l : List A) (x : X), iterF f l x = (l.foldl (fun x a => (f a x).1) x, true)
 | [], x => rfl
 | a :: az, x => by simp only [iterF, h, if_true, List.foldl_cons]; exact iterF_go h az _
def stopF (_ : TV) (x : Unit) : Unit × Bool := (x, false)
theorem stop_iter (l : List TV) : (iterF stopF l ()).2 = l.isEmpty := by
 cases l <;> simp [iterF, stopF]
def someMemo (s : Ship) (bl : List Int) (c : Nat) (M : Memo) : Memo := (allSets s bl c stopF () M).1.2
theorem some_does {S : Memo → St} {s : Ship} {b c p m N : Nat} (hR : ShipAt S s b c p m N) (hv : Vd s) (bl : List Int) (hb : ButIs b bl) (hcl : c < 1000000) (M : Memo) :
  Does T (.func 86 [] []) [.ptr p 0] (S M) (.bool !(TL s bl c).isEmpty) (S (someMemo s bl c M)) := by
 have hit := stop_iter (TL s bl c)
 refine does_memo hR (af := a86) rfl (by simp [a86]) ?_
 (repeat (first | simp only [↓QA, QB, Nat.reduceLT, reduceIte, Nat.reduceEqDiff, Nat.reduceAdd, Nat.reduceLeDiff, Nat.reduceMul, Nat.reduceBEq, QXHHdPG, hR.len, hR.base, hR.base0, hR.bset, hR.bset0, hR.at1, hR.at0, a86] | refine rd0 rfl ?_))
 refine callK_in rfl (by simp [a66]) ?_
 (repeat (first | simp only [↓QA, QB, Nat.reduceLT, reduceIte, Nat.reduceEqDiff, Nat.reduceAdd, Nat.reduceLeDiff, Nat.reduceMul, Nat.reduceBEq, QXHHdPG, hR.len, hR.base, hR.base0, hR.bset, hR.bset0, hR.at1, hR.at0, a66] | refine rd0 rfl ?_))
 refine truths_range hR hv bl hb hcl (fun _ : Unit => [.cells [.bool false]]) (fun _ => [.cells [.bool true]]) 1 (fun _ => rfl) (fun _ => rfl) (fun _ y hy k _ => by simp at hy; subst hy; simp [okBlk, okVs, okV]) (fun _ y hy k _ => by simp at hy; subst hy; simp [okBlk, okVs, okV]) .ret (P := fun _ => True) (f := stopF) _ 4 [5, 6] _ _ ?_ ?_ (fun _ _ => trivial) () M _ ?_ ?_
 ·try simp only [TrimX, QE, Nat.reduceLT, reduceIte, Nat.reduceEqDiff, Nat.reduceAdd, Nat.reduceLeDiff, Nat.reduceMul, Nat.reduceBEq, QXHHdPG, hR.len, hR.base, hR.base0, hR.bset, hR.bset0, hR.at1, hR.at0]
 ·refine yields_of hR _ _ 1 (fun _ => rfl) (fun _ => rfl) .ret _ _ rfl _ _ ?_
  rintro ⟨set, ls⟩ _ fl tk x M' τ
  simp only [bindPs]
  (repeat (first | simp only [↓QA, QB, Nat.reduceLT, reduceIte, Nat.reduceEqDiff, Nat.reduceAdd, Nat.reduceLeDiff, Nat.reduceMul, Nat.reduceBEq, QXHHdPG, hR.len, hR.base, hR.base0, hR.bset, hR.bset0, hR.at1, hR.at0, F86_0, stopF] | refine rd0 rfl ?_))
  exact .inr ⟨[], by simp⟩
 ·intro τ h2
  rw [hit] at h2
  (repeat (first | simp only [↓QA, QB, Nat.reduceLT, reduceIte, Nat.reduceEqDiff, Nat.reduceAdd, Nat.reduceLeDiff, Nat.reduceMul, Nat.reduceBEq, QXHHdPG, hR.len, hR.base, hR.base0, hR.bset, hR.bset0, hR.at1, hR.at0, h2] | refine rd0 rfl ?_))
  refine ⟨_, _, rfl, rfl, ?_⟩
  try simp only [QS, QC, Nat.reduceLT, reduceIte, Nat.reduceEqDiff, Nat.reduceAdd, Nat.reduceLeDiff, Nat.reduceMul, Nat.reduceBEq, QXHHdPG, hR.len, hR.base, hR.base0, hR.bset, hR.bset0, hR.at1, hR.at0]
 ·intro τ h2
  rw [hit] at h2
  (repeat (first | simp only [↓QA, QB, Nat.reduceLT, reduceIte, Nat.reduceEqDiff, Nat.reduceAdd, Nat.reduceLeDiff, Nat.reduceMul, Nat.reduceBEq, QXHHdPG, hR.len, hR.base, hR.base0, hR.bset, hR.bset0, hR.at1, hR.at0, h2] | refine rd0 rfl ?_))
  refine ⟨_, _, rfl, rfl, ?_⟩
  try simp only [QS, QC, Nat.reduceLT, reduceIte, Nat.reduceEqDiff, Nat.reduceAdd, Nat.reduceLeDiff, Nat.reduceMul, Nat.reduceBEq, QXHHdPG, hR.len, hR.base, hR.base0, hR.bset, hR.bset0, hR.at1, hR.at0]
theorem mem_truths {s : Ship} {but : List Int} {t : Truth} : t ∈ truths s but ↔ t.blocked ∈ setsOf s ∧ t.starts = (List.range s.holds.length).map (fun h => startsOf s h t.blocked but) ∧ ∀ h, h < s.holds.length → startsOf s h t.blocked but ≠ [] := by
 simp only [truths, List.mem_filterMap, truthOf]
 constructor
 ·rintro ⟨bl, hbl, h⟩
  split at h
  ·rename_i ha
   cases h
   refine ⟨hbl, rfl, fun h hh => ?_⟩
   have := List.all_eq_true.1 ha (startsOf s h bl but) (List.mem_map.2 ⟨h, List.mem_range.2 hh, rfl⟩)
   simpa using this
  ·cases h
 ·rintro ⟨h1, h2, h3⟩
  refine ⟨t.blocked, h1, ?_⟩
  rw [if_pos]
  ·rw [← h2]
  ·rw [List.all_eq_true]
   intro x hx
   obtain ⟨h, hh, rfl⟩ := List.mem_map.1 hx
   have := h3 h (List.mem_range.1 hh)
   simpa using this
theorem starts_at {s : Ship} {but : List Int} {t : Truth} (ht : t ∈ truths s but) {h : Nat} (hh : h < s.holds.length) : (t.starts[h]?).getD [] = startsOf s h t.blocked but := by
 rw [(mem_truths.1 ht).2.1]
 simp [hh]
theorem mem_starts {s : Ship} {h : Nat} (hh : h < s.holds.length) {bl but : List Int} {n : Int} : n ∈ startsOf s h bl but ↔ (s.holds[h].start.lo ≤ n ∧ n ≤ s.holds[h].start.hi) ∧ linesOk s h (marksAt s h n (cooled bl h)) but = true := by
 simp only [startsOf, List.getElem?_eq_getElem hh, List.mem_filter, numbers_mem]
 constructor
 ·rintro ⟨h1, h2⟩; exact ⟨by omega, h2⟩
 ·rintro ⟨h1, h2⟩; exact ⟨by omega, h2⟩
theorem lines_iff {s : Ship} {h : Nat} {c : Nat → Int} {but : List Int} : linesOk s h c but = true ↔ ∀ i (hi : i < s.log.length), lineOk h c but i s.log[i] = true := by
 simp only [linesOk, List.all_eq_true, List.mem_range]
 constructor
 ·intro h1 i hi
  have := h1 i hi
  rwa [List.getElem?_eq_getElem hi] at this
 ·intro h1 i hi
  rw [List.getElem?_eq_getElem hi]
  exact h1 i hi
theorem numbers_snoc : ∀ (n : Nat) (a : Int), numbers a (n + 1) = numbers a n ++ [a + n]
 | 0, a => by simp [numbers]
 | n + 1, a => by
  rw [numbers, numbers_snoc n (a + 1)]
  simp only [numbers, List.cons_append]
  congr 3
  omega
def SetOk (s : Ship) (n : Nat) (bl : List Int) : Prop := bl = (numbers 0 n).filter (fun h => bl.contains h) ∧ ∀ h (hh : h < s.holds.length), h < n → (s.holds[h].duct = 0 → ¬ (h : Int) ∈ bl) ∧ (s.holds[h].duct = 1 → (h : Int) ∈ bl)
theorem setok_lt {s : Ship} {n : Nat} {bl : List Int} (h : SetOk s n bl) {x : Int} (hx : x ∈ bl) : 0 ≤ x ∧ x < n := by
 rw [h.1] at hx; have hx := (List.mem_filter.1 hx).1
 have := (numbers_mem _ _ _).1 hx
 omega
theorem filter_up {n : Nat} {bl l : List Int} (h : ∀ x : Int, 0 ≤ x → x < n → (x ∈ bl ↔ x ∈ l)) : (numbers 0 n).filter (fun h => bl.contains h) = (numbers 0 n).filter (fun h => l.contains h) := by
 refine List.filter_congr fun x hx => ?_
 have := (numbers_mem _ _ _).1 hx
 have := h x (by omega) (by omega)
 rw [Bool.eq_iff_iff]
 simpa using this
theorem mem_setsUp {s : Ship} : ∀ {n : Nat} {bl : List Int}, n ≤ s.holds.length → (bl ∈ setsUp s n ↔ SetOk s n bl)
 | 0, bl, _ => by
  simp only [setsUp, List.mem_singleton, SetOk, numbers, List.filter_nil]
  exact ⟨fun h => ⟨h, fun h _ hh => absurd hh (by omega)⟩, fun h => h.1⟩
 | n + 1, bl, hn => by
  have hlt : n < s.holds.length := by omega
  simp only [setsUp, List.getElem?_eq_getElem hlt, List.mem_flatMap]
  constructor
  ·rintro ⟨l, hl, hg⟩
   have ih := (mem_setsUp (by omega)).1 hl
   have hnl : ¬ (n : Int) ∈ l := fun hx => by have := setok_lt ih hx; omega
   simp only [grow, List.mem_append] at hg
   rcases hg with hg | hg
   ·split at hg
    ·simp at hg
    ·rename_i hd
     simp at hg
     subst hg
     refine ⟨?_, fun h hh h1 => ?_⟩
     ·rw [numbers_snoc, List.filter_append]
      have : List.filter (fun h => bl.contains h) [(0 : Int) + n] = [] := by simp; exact hnl
      rw [this, List.append_nil]
      exact ih.1
     ·by_cases he : h = n
      ·subst he; exact ⟨fun _ => hnl, fun h2 => absurd h2 hd⟩
      ·exact ih.2 h hh (by omega)
   ·split at hg
    ·simp at hg
    ·rename_i hd
     simp at hg
     subst hg
     refine ⟨?_, fun h hh h1 => ?_⟩
     ·rw [numbers_snoc, List.filter_append]
      have : List.filter (fun h => (l ++ [(n : Int)]).contains h) [(0 : Int) + n] = [(n : Int)] := by simp
      rw [this, filter_up (l := l) (fun x h1 h2 => by simp; omega), ← ih.1]
     ·by_cases he : h = n
      ·subst he; exact ⟨fun h2 => absurd h2 hd, fun _ => by simp⟩
      ·have := ih.2 h hh (by omega)
       have hne : (h : Int) ≠ n := by omega
       simpa [hne] using this
  ·intro h
   have hd := h.2 n hlt (by omega)
   refine ⟨(numbers 0 n).filter (fun x => bl.contains x), (mem_setsUp (by omega)).2 ⟨?_, fun k hk hkn => ?_⟩, ?_⟩
   ·refine (filter_up fun x h1 h2 => ?_).symm
    simp only [List.mem_filter, numbers_mem, List.contains_iff_mem]
    exact ⟨fun h => h.2, fun h => ⟨by omega, h⟩⟩
   ·have := h.2 k hk (by omega)
    simp only [List.mem_filter, numbers_mem, List.contains_iff_mem]
    exact ⟨fun h1 h2 => this.1 h1 h2.2, fun h1 => ⟨by omega, this.2 h1⟩⟩
   ·have e := h.1
    rw [numbers_snoc, List.filter_append] at e
    simp only [grow, List.mem_append]
    by_cases hb : (n : Int) ∈ bl
    ·right
     rw [if_neg (fun h0 => hd.1 h0 hb), List.mem_singleton]
     have : List.filter (fun h => bl.contains h) [(0 : Int) + n] = [(n : Int)] := by simp [hb]
     rw [this] at e
     exact e
    ·left
     rw [if_neg (fun h0 => hb (hd.2 h0)), List.mem_singleton]
     have : List.filter (fun h => bl.contains h) [(0 : Int) + n] = [] := by simp [hb]
     rw [this, List.append_nil] at e
     exact e
theorem mem_sets {s : Ship} {bl : List Int} : bl ∈ setsOf s ↔ SetOk s s.holds.length bl := mem_setsUp (Nat.le_refl _)
end Go.Am.Room
set_option maxRecDepth 4000
namespace Go.Am.Room
theorem setsUp_succ {s : Ship} {n : Nat} (h : n < s.holds.length) : setsUp s (n + 1) = (setsUp s n).flatMap (grow s.holds[n] n) := by simp [setsUp, h]
theorem grow_len (x : Hold) (n : Nat) (l : List Int) : (grow x n l).length ≤ 2 := by
 simp only [grow, List.length_append]
 split <;> split <;> simp
theorem setsUp_len (s : Ship) : ∀ n, (setsUp s n).length ≤ 2 ^ n
 | 0 => by simp [setsUp]
 | n + 1 => by
  have h1 := setsUp_len s n
  simp only [setsUp]
  split
  ·rename_i x _
   have h2 := flat_le (grow x n) 2 (setsUp s n) fun c _ => grow_len x n c
   rw [Nat.pow_succ]
   exact Nat.le_trans h2 (Nat.mul_le_mul_right _ h1)
  ·rw [Nat.pow_succ]; omega
theorem setsUp_in (s : Ship) : ∀ n, ∀ c ∈ setsUp s n, c.length ≤ n
 | 0 => by simp [setsUp]
 | n + 1 => by
  intro c hc
  simp only [setsUp] at hc
  split at hc
  ·simp only [List.mem_flatMap, grow, List.mem_append] at hc
   obtain ⟨d, hd, h⟩ := hc
   have := setsUp_in s n d hd
   rcases h with h | h
   ·split at h
    ·simp at h
    ·simp at h; subst h; omega
   ·split at h
    ·simp at h
    ·simp at h; subst h; simp; omega
  ·have := setsUp_in s n c hc
   omega
theorem sets_small {s : Ship} (hv : Vd s) : (setsOf s).length ≤ 16 ∧ ∀ c ∈ setsOf s, c.length ≤ 4 := by
 have h := hv.nholds
 refine ⟨Nat.le_trans (setsUp_len s _) ?_, fun c hc => Nat.le_trans (setsUp_in s _ c hc) h.2⟩
 calc 2 ^ s.holds.length ≤ 2 ^ 4 := Nat.pow_le_pow_right (by omega) h.2
  _ = 16 := by decide
theorem mem_lst {n s : Nat} {x : Int} : x ∈ lst n s ↔ (0 ≤ x ∧ x < n) ∧ s.testBit x.toNat = true := by
 simp only [lst, List.mem_filter, numbers_mem, bit_div]
 constructor
 ·rintro ⟨h1, h2⟩; exact ⟨by omega, h2⟩
 ·rintro ⟨h1, h2⟩; exact ⟨by omega, h2⟩
theorem has_lst {n s i : Nat} (h : i < n) : (lst n s).contains (i : Int) = s.testBit i := by
 rw [Bool.eq_iff_iff, List.contains_iff_mem, mem_lst]
 simp only [Int.toNat_natCast]
 constructor
 ·rintro ⟨_, h2⟩; exact h2
 ·intro h2; exact ⟨⟨by omega, by omega⟩, h2⟩
theorem cool_iff {set h : Nat} : coolB set h = true ↔ ∀ i, i < h + 1 → set.testBit i = false := by
 simp only [coolB, decide_eq_true_eq, low_zero]
theorem cooled_iff {bl : List Int} {h : Nat} : cooled bl h = true ↔ ∀ i, i < h + 1 → bl.contains (i : Int) = false := by
 simp [cooled]
theorem cool_lst {n set h : Nat} (hh : h < n) : coolB set h = cooled (lst n set) h := by
 rw [Bool.eq_iff_iff, cool_iff, cooled_iff]
 constructor
 ·intro h1 i hi; rw [has_lst (by omega)]; exact h1 i hi
 ·intro h1 i hi; have := h1 i hi; rwa [has_lst (by omega)] at this
theorem cool_rest {n set c h : Nat} (hh : h < n) (hs : set < 9223372036854775808) (hc : c < 9223372036854775808) : coolB (andN set c) h = cooled (restOf (lst n set) (lst n c)) h := by
 rw [Bool.eq_iff_iff, cool_iff, cooled_iff]
 have key : ∀ i, i < n → ((restOf (lst n set) (lst n c)).contains (i : Int)) = (andN set c).testBit i := by
  intro i hi
  rw [andN_bit hc set i hs, ← has_lst hi, ← has_lst hi, Bool.eq_iff_iff]
  simp [restOf]
 constructor
 ·intro h1 i hi; rw [key i (by omega)]; exact h1 i hi
 ·intro h1 i hi; have := h1 i hi; rwa [key i (by omega)] at this
theorem lst_succ (n s : Nat) : lst (n + 1) s = lst n s ++ (if s.testBit n = true then [(n : Int)] else []) := by
 simp only [lst, numbers_snoc, List.filter_append, Int.zero_add]
 congr 1
 simp only [List.filter_cons, List.filter_nil, Int.toNat_natCast, bit_div]
theorem lst_low {n s t : Nat} (h : ∀ i, i < n → s.testBit i = t.testBit i) : lst n s = lst n t := by
 simp only [lst]
 refine List.filter_congr fun x hx => ?_
 have := (numbers_mem _ _ _).1 hx
 rw [← bit_div, ← bit_div, h x.toNat (by omega)]
theorem lst_skip {n s : Nat} (h : s < 2 ^ n) : lst (n + 1) s = lst n s := by
 rw [lst_succ, Nat.testBit_lt_two_pow h]
 simp
theorem lst_take {n s : Nat} (h : s < 2 ^ n) : lst (n + 1) (s ||| 2 ^ n) = lst n s ++ [(n : Int)] := by
 rw [lst_succ, lst_low (t := s)]
 ·simp [Nat.testBit_or, Nat.testBit_two_pow_self]
 ·intro i hi
  rw [Nat.testBit_or, Nat.testBit_two_pow_of_ne (by omega), Bool.or_false]
def goL : List Hold → Nat → List Int → List (List Int)
 | [], _, l => [l]
 | x :: xs, h, l => (grow x h l).flatMap (goL xs (h + 1))
theorem goL_sets (s : Ship) : ∀ (k h : Nat), h + k = s.holds.length → (setsUp s h).flatMap (goL (s.holds.drop h) h) = setsOf s
 | 0, h, hk => by
  have hh : h = s.holds.length := by omega
  rw [hh, List.drop_length]
  have : goL [] s.holds.length = fun l => [l] := by funext l; rfl
  rw [this]
  simp [setsOf]
 | k + 1, h, hk => by
  have hh : h < s.holds.length := by omega
  rw [← goL_sets s k (h + 1) (by omega), setsUp_succ hh, List.flatMap_assoc, List.drop_eq_getElem_cons hh]
  rfl
theorem goL_next : ∀ (xs : List Hold) (h set : Nat), set < 2 ^ h → goL xs h (lst h set) = (nextL xs h set).map (lst (h + xs.length))
 | [], h, set, hs => by simp [goL, nextL]
 | x :: xs, h, set, hs => by
  have h1 : set < 2 ^ (h + 1) := by rw [Nat.pow_succ]; omega
  have h2 : set ||| 2 ^ h < 2 ^ (h + 1) := Nat.or_lt_two_pow h1 (by rw [Nat.pow_succ]; have := Nat.two_pow_pos h; omega)
  have i1 := goL_next xs (h + 1) set h1
  have i2 := goL_next xs (h + 1) (set ||| 2 ^ h) h2
  rw [lst_skip hs] at i1
  rw [lst_take hs] at i2
  have e : h + (x :: xs).length = h + 1 + xs.length := by simp; omega
  rw [e]
  simp only [goL, grow, nextL, List.flatMap_append, List.map_append]
  congr 1
  ·split
   ·rfl
   ·simp [i1]
  ·split
   ·rfl
   ·simp [i2]
theorem sets_next (s : Ship) : setsOf s = (nextL s.holds 0 0).map (lst s.holds.length) := by
 rw [← goL_sets s s.holds.length 0 (by omega), List.drop_zero]
 have := goL_next s.holds 0 0 (by simp)
 rw [Nat.zero_add] at this
 rw [← this]
 simp [setsUp, lst, numbers]
def truthsP (s : Ship) (bl : List Int) : List (Nat × Truth) := (nextL s.holds 0 0).filterMap fun set => (truthOf s bl (lst s.holds.length set)).map fun t => (set, t)
theorem truthsP_snd (s : Ship) (bl : List Int) : (truthsP s bl).map (·.2) = truths s bl := by
 simp only [truthsP, truths, sets_next, List.filterMap_map, List.map_filterMap]
 congr 1
 funext set
 simp only [Function.comp_apply, Option.map_map]
 cases truthOf s bl (lst s.holds.length set) <;> rfl
def waysIn (s : Ship) (c : Nat) (q : Nat × Truth) : List (List Way) := (List.range s.holds.length).map fun (h : Nat) => ((q.2.starts[h]?).getD []).map fun m => (⟨h, m, coolB (andN q.1 c) h⟩ : Way)
theorem crsLs_eq (s : Ship) (bl : List Int) (c set : Nat) : ∀ (k h : Nat), h + k = s.holds.length →
  crsLs s bl c set (s.holds.drop h) h = if ((List.range' h k).all fun j => !(startsOf s j (lst s.holds.length set) bl).isEmpty) = true then some ((List.range' h k).map fun (j : Nat) => (startsOf s j (lst s.holds.length set) bl).map fun m => (⟨j, m, coolB (andN set c) j⟩ : Way)) else none
 | 0, h, hk => by
  have hh : h = s.holds.length := by omega
  rw [hh, List.drop_length]
  rfl
 | k + 1, h, hk => by
  have hh : h < s.holds.length := by omega
  have ih := crsLs_eq s bl c set k (h + 1) (by omega)
  rw [List.drop_eq_getElem_cons hh]
  have hw : crsWays s bl s.holds[h] h (coolB set h) (coolB (andN set c) h) = (startsOf s h (lst s.holds.length set) bl).map fun m => (⟨h, m, coolB (andN set c) h⟩ : Way) := by
   simp only [crsWays, startsOf, List.getElem?_eq_getElem hh, cool_lst hh, rangeOf]
   rfl
  simp only [crsLs, hw, ih, List.range'_succ, List.all_cons, List.map_cons]
  cases hl : startsOf s h (lst s.holds.length set) bl with
  | nil => simp
  | cons y ys =>
   simp only [List.map_cons, reduceCtorEq, if_false, List.isEmpty_cons, Bool.not_false, Bool.true_and]
   split
   ·rfl
   ·rfl
theorem TL_eq (s : Ship) (bl : List Int) (c : Nat) : TL s bl c = (truthsP s bl).map fun q => (q.1, waysIn s c q) := by
 simp only [TL, truthsP, List.map_filterMap]
 congr 1
 funext set
 have := crsLs_eq s bl c set s.holds.length 0 (by omega)
 rw [List.drop_zero, ← List.range_eq_range'] at this
 rw [this]
 simp only [Option.map_map, truthOf, List.all_map]
 have hall : (List.range s.holds.length).all ((fun x : List Int => !x.isEmpty) ∘ fun h => startsOf s h (lst s.holds.length set) bl) = (List.range s.holds.length).all fun j => !(startsOf s j (lst s.holds.length set) bl).isEmpty := rfl
 rw [hall]
 split
 ·simp only [Option.map_some, Function.comp_apply, waysIn, Option.some.injEq, Prod.mk.injEq, true_and]
  refine List.map_congr_left fun j hj => ?_
  have := List.mem_range.1 hj
  simp [this]
 ·rfl
theorem TL_some (s : Ship) (bl : List Int) (c : Nat) : (TL s bl c).isEmpty = (truths s bl).isEmpty := by
 rw [TL_eq, ← truthsP_snd]
 simp
end Go.Am.Room
set_option maxRecDepth 4000
namespace Go.Am.Room
theorem starts_len {s : Ship} (hv : Vd s) (h : Nat) (bl but : List Int) : (startsOf s h bl but).length ≤ 81 := by
 unfold startsOf
 split
 ·rename_i x hx
  have hs := (hv.holds x (List.mem_of_getElem? hx)).start
  refine Nat.le_trans (List.length_filter_le _ _) ?_
  rw [numbers_len]
  omega
 ·simp
theorem truths_len {s : Ship} (hv : Vd s) (but : List Int) : (truths s but).length ≤ 16 := Nat.le_trans (List.length_filterMap_le _ _) (sets_small hv).1
end Go.Am.Room
set_option maxRecDepth 4000
namespace Go.Am.Room
theorem errAsk_ok {s : Ship} {n : Int} (h : errAsk s n = 0) : Vd s ∧ 0 ≤ n ∧ n < s.holds.length := by
 unfold errAsk at h
 split at h
 ·rename_i h0
  split at h
  ·rename_i h1; have := inR_iff.1 h1; exact ⟨vd_of_check h0, by omega, by omega⟩
  ·omega
 ·rename_i h0; exact absurd h h0
theorem errWithin_ok {n most e : Int} (h : errWithin n most e = 0) : e = 0 ∧ 0 ≤ n ∧ n ≤ most := by
 unfold errWithin at h
 split at h
 ·rename_i h0
  split at h
  ·rename_i h1; have := inR_iff.1 h1; exact ⟨h0, by omega, by omega⟩
  ·omega
 ·rename_i h0; exact absurd h h0
theorem errKnown_ok {s : Ship} {e : Int} (h : errKnown s e = 0) : e = 0 ∧ truths s [] ≠ [] := by
 unfold errKnown at h
 split at h
 ·rename_i h0
  split at h
  ·omega
  ·rename_i h1; exact ⟨h0, by simpa using h1⟩
 ·rename_i h0; exact absurd h h0
def reachedL (most : Int) : List Int → Nat → Int
 | [], _ => -1
 | x :: xs, k => if x ≤ most then k else reachedL most xs (k + 1)
theorem reachedL_eq (most : Int) (c : Nat → Int) : ∀ k w, reachedL most ((List.range' w k).map c) w = reachedFrom c most k w
 | 0, w => rfl
 | k + 1, w => by
  simp only [List.range'_succ, List.map_cons, reachedL, reachedFrom, reachedL_eq most c k (w + 1)]
theorem reached_eq (s : Ship) (c : Nat → Int) (most : Int) : reachedL most ((List.range (s.heat.length + 1)).map c) 0 = reached s c most := by
 rw [List.range_eq_range', reachedL_eq]; rfl
end Go.Am.Room
set_option maxRecDepth 4000
namespace Go.Am.Room
def QXHHdPH := And.intro @encShip_eq (And.intro @shipCells_eq (And.intro @encHold_eq (And.intro @encLine_eq (And.intro @encSpan_eq (And.intro @S_mapHold (And.intro @S_mapLine (And.intro @List.length_append.{0} (And.intro @T_sapp (And.intro @Nat.add_lt_add_iff_left (And.intro @Nat.lt_add_right_iff_pos (And.intro @Nat.mul_one (@Int.toNat_natCast))))))))))))
theorem but0 : ButIs 0 [] := ⟨by omega, fun i hi => by simp⟩
def entS (σ : St) (s : Ship) (c : Nat) (M : Memo) : St := σ ++ [.cells (shipCells s), .cells (shipCells s), .map (memoEs s M), .cells (sb s 0 c (σ.length + 2))]
theorem ship_at (σ : St) (s : Ship) (c : Nat) : ShipAt (entS σ s c) s 0 c (σ.length + 3) (σ.length + 2) (σ.length + 4) :=
 ⟨fun M => by simp [entS], fun M => by simp [entS, M_base, M_atS, M_at0], fun M => by rw [entS, st_get]; rfl, fun M M' => by rw [entS, entS, st_set]; rfl, by omega, by omega⟩
def enterE (s : Ship) (h n most : Int) : Int := errKnown s (errWithin n most (errAsk s h))
def enterV (s : Ship) (h n most : Int) (k : Nat) : AV := if enterE s h n most = 0 then .tuple [.ptr (k + 3) 0, .int .i64 0] else .tuple [.nilPtr, .int .i64 (enterE s h n most)]
def memo0 (s : Ship) : Memo := someMemo s [] 0 []
def enterSt (σ : St) (s : Ship) (h n most : Int) : St := if enterE s h n most = 0 then entS σ s 0 (memo0 s) else σ
theorem enter_run (σ : St) (s : Ship) (h n most : Int) (hf : Fits s) : Does T (.func 65 [] []) [encShip s, .int .i64 h, .int .i64 n, .int .i64 most] σ (enterV s h n most σ.length) (enterSt σ s h n most) := by
 refine .callf (.call (af := a65) rfl (by simp [a65]) (run_wp (K := fun j e σ1 => (j = none ∨ j = some .ret) ∧ (if enterE s h n most = 0 then Env.get e 8 = .ptr (σ.length + 3) 0 ∧ Env.get e 9 = .int .i64 0 ∧ σ1 = entS σ s 0 (memo0 s) else Env.get e 8 = .nilPtr ∧ Env.get e 9 = .int .i64 (enterE s h n most) ∧ ∃ τ, σ1 = σ ++ τ)) ?_ fun o ho => ho) fun o ho => ?_)
 ·have hws : IntKind.i64.wrap ((s.holds.length : Int) - 1) = (s.holds.length : Int) - 1 := wrap64 ⟨by omega, by have := hf.holds; omega⟩
  obtain ⟨E, hE⟩ : ∃ E, enterE s h n most = E := ⟨_, rfl⟩
  have hE2 : errKnown s (errWithin n most (errAsk s h)) = E := hE
  rw [hE]
  (repeat (first | simp only [↓QA, QB, Nat.reduceLT, reduceIte, Nat.reduceEqDiff, Nat.reduceAdd, Nat.reduceLeDiff, Nat.reduceMul, Nat.reduceBEq, QXHHdPH, a65] | refine rd0 rfl ?_))
  ((first | refine callK_d (check_ok s hf) rfl dd ?_ | refine callD_d (check_ok s hf) rfl dd ?_); (repeat (first | simp only [↓QA, QB, Nat.reduceLT, reduceIte, Nat.reduceEqDiff, Nat.reduceAdd, Nat.reduceLeDiff, Nat.reduceMul, Nat.reduceBEq, QXHHdPH, enc3] | refine rd0 rfl ?_)))
  cases h0 : ((check s).2.2 == 0)
  ·have h0' : (check s).2.2 ≠ 0 := by simpa using h0
   have he : E = (check s).2.2 := by rw [← hE2]; simp [errAsk, errWithin, h0', errKnown]
   (repeat (first | simp only [↓QA, QB, Nat.reduceLT, reduceIte, Nat.reduceEqDiff, Nat.reduceAdd, Nat.reduceLeDiff, Nat.reduceMul, Nat.reduceBEq, QXHHdPH, h0] | refine rd0 rfl ?_))
   rw [he, if_neg h0']
   simp
  ·have h0' : (check s).2.2 = 0 := by simpa using h0
   have hv := vd_of_check h0'
   (repeat (first | simp only [↓QA, QB, Nat.reduceLT, reduceIte, Nat.reduceEqDiff, Nat.reduceAdd, Nat.reduceLeDiff, Nat.reduceMul, Nat.reduceBEq, QXHHdPH, h0, hws] | refine rd0 rfl ?_))
   ((first | refine callK_v (beyond_ok 0 ((s.holds.length : Int) - 1) [h] (by simp)) (by simp [clr, clrs, ints]) (by simp [okV, okVs]) ?_ | refine callD_v (beyond_ok 0 ((s.holds.length : Int) - 1) [h] (by simp)) (by simp [clr, clrs, ints]) (by simp [okV, okVs]) ?_); (repeat (first | simp only [↓QA, QB, Nat.reduceLT, reduceIte, Nat.reduceEqDiff, Nat.reduceAdd, Nat.reduceLeDiff, Nat.reduceMul, Nat.reduceBEq, QXHHdPH, beyond1] | refine rd0 rfl ?_)))
   cases h1 : inR h 0 ((s.holds.length : Int) - 1)
   ·have he : E = 4 := by rw [← hE2]; simp [errAsk, errWithin, h0', h1, errKnown]
    subst he
    (repeat (first | simp only [↓QA, QB, Nat.reduceLT, reduceIte, Nat.reduceEqDiff, Nat.reduceAdd, Nat.reduceLeDiff, Nat.reduceMul, Nat.reduceBEq, QXHHdPH] | refine rd0 rfl ?_))
    simp
   ·(repeat (first | simp only [↓QA, QB, Nat.reduceLT, reduceIte, Nat.reduceEqDiff, Nat.reduceAdd, Nat.reduceLeDiff, Nat.reduceMul, Nat.reduceBEq, QXHHdPH] | refine rd0 rfl ?_))
    ((first | refine callK_v (beyond_ok 0 most [n] (by simp)) (by simp [clr, clrs, ints]) (by simp [okV, okVs]) ?_ | refine callD_v (beyond_ok 0 most [n] (by simp)) (by simp [clr, clrs, ints]) (by simp [okV, okVs]) ?_); (repeat (first | simp only [↓QA, QB, Nat.reduceLT, reduceIte, Nat.reduceEqDiff, Nat.reduceAdd, Nat.reduceLeDiff, Nat.reduceMul, Nat.reduceBEq, QXHHdPH, beyond1] | refine rd0 rfl ?_)))
    cases h2 : inR n 0 most
    ·have he : E = 7 := by rw [← hE2]; simp [errAsk, errWithin, h0', h1, h2, errKnown]
     subst he
     (repeat (first | simp only [↓QA, QB, Nat.reduceLT, reduceIte, Nat.reduceEqDiff, Nat.reduceAdd, Nat.reduceLeDiff, Nat.reduceMul, Nat.reduceBEq, QXHHdPH] | refine rd0 rfl ?_))
     simp
    ·have hEk : E = errKnown s 0 := by rw [← hE2]; simp [errAsk, errWithin, h0', h1, h2]
     have hlk := look_run (σ ++ [.cells (shipCells s)]) s 0
     have hso := some_does (ship_at σ s 0) hv [] but0 (by omega) []
     rw [TL_some] at hso
     have e0 : memoEs s [] = [] := rfl
     simp only [entS, lookSt, e0] at hso hlk
     try simp only [↓QA, QB, Nat.reduceLT, reduceIte, Nat.reduceEqDiff, Nat.reduceAdd, Nat.reduceLeDiff, Nat.reduceMul, Nat.reduceBEq, QXHHdPH, List.append_assoc] at hso hlk
     (repeat (first | simp only [↓QA, QB, Nat.reduceLT, reduceIte, Nat.reduceEqDiff, Nat.reduceAdd, Nat.reduceLeDiff, Nat.reduceMul, Nat.reduceBEq, QXHHdPH] | refine rd0 rfl ?_))
     refine callK_do hlk ?_
     (repeat (first | simp only [↓QA, QB, Nat.reduceLT, reduceIte, Nat.reduceEqDiff, Nat.reduceAdd, Nat.reduceLeDiff, Nat.reduceMul, Nat.reduceBEq, QXHHdPH] | refine rd0 rfl ?_))
     refine callK_do hso ?_
     cases hs : (truths s []).isEmpty
     ·have he : E = 0 := by rw [hEk]; simp [errKnown, hs]
      subst he
      (repeat (first | simp only [↓QA, QB, Nat.reduceLT, reduceIte, Nat.reduceEqDiff, Nat.reduceAdd, Nat.reduceLeDiff, Nat.reduceMul, Nat.reduceBEq, QXHHdPH] | refine rd0 rfl ?_))
      simp [entS, memo0, shipCells, ints]
     ·have he : E = 8 := by rw [hEk]; simp [errKnown, hs]
      subst he
      (repeat (first | simp only [↓QA, QB, Nat.reduceLT, reduceIte, Nat.reduceEqDiff, Nat.reduceAdd, Nat.reduceLeDiff, Nat.reduceMul, Nat.reduceBEq, QXHHdPH] | refine rd0 rfl ?_))
      simp
 ·obtain ⟨hj, ho⟩ := ho
  by_cases he : enterE s h n most = 0
  ·rw [if_pos he] at ho
   refine ⟨hj, enterV s h n most σ.length, ?_, .inl ⟨rfl, ?_⟩⟩
   ·simp [resOf, resAV, a65, ho.1, ho.2.1, enterV, he]
   ·rw [ho.2.2, enterSt, if_pos he]
  ·rw [if_neg he] at ho
   obtain ⟨h4, h5, τ, hσ⟩ := ho
   refine ⟨hj, enterV s h n most σ.length, ?_, .inr ⟨20, enterV s h n most σ.length, enterV s h n most σ.length, ?_, .inl rfl, fun i hi => .inl (by rw [hσ]; exact List.getElem?_append_left hi), by rw [hσ]; simp, rfl, by rw [hσ]; simp [enterSt, he]⟩⟩
   ·simp [resOf, resAV, a65, h4, h5, enterV, he]
   ·simp [enterV, he, snap, snaps]
end Go.Am.Room
set_option maxRecDepth 4000
namespace Go.Am.Room
def QXHHdPI := And.intro @encShip_eq (And.intro @shipCells_eq (And.intro @encHold_eq (And.intro @encLine_eq (And.intro @encSpan_eq (And.intro @encCrs_eq (And.intro @S_mapHold (And.intro @S_mapLine (And.intro @List.length_append.{0} (And.intro @sb_0 (And.intro @sb_1 (And.intro @sb_2 (And.intro @sb_3 (And.intro @sb_4 (And.intro @sb_5 (And.intro @sb_6 (And.intro @sb_7 (And.intro @sb_8 (And.intro @sb_9 (And.intro @T_sapp (And.intro @T_sapp0 (And.intro @Nat.add_lt_add_iff_left (And.intro @Nat.lt_add_right_iff_pos (And.intro @Nat.mul_one (And.intro @Int.toNat_natCast (And.intro @C_yield (And.intro @K_yield (And.intro @arr_len (And.intro @arr_take (And.intro @arr_drop (And.intro @arr_cell (And.intro @crsOf_eq (And.intro @S_arr (And.intro @S_crs (And.intro @S_crss (@crssAV_eq)))))))))))))))))))))))))))))))))))
theorem tallyC_eq (t : Int × Int) : tallyC t = [.int .i64 t.1, .int .i64 t.2] := by simp only [tallyC]
def TVok (s : Ship) (t : TV) : Prop := t.2.length = s.holds.length ∧ ∀ ws ∈ t.2, ws.length ≤ 81
theorem TL_ok {s : Ship} (hv : Vd s) (bl : List Int) (c : Nat) : ∀ t ∈ TL s bl c, TVok s t := by
 intro t ht
 rw [TL_eq] at ht
 obtain ⟨q, hq, rfl⟩ := List.mem_map.1 ht
 refine ⟨by simp [waysIn], fun ws hw => ?_⟩
 simp only [waysIn, List.mem_map, List.mem_range] at hw
 obtain ⟨h, hh, rfl⟩ := hw
 have hq2 : q.2 ∈ truths s bl := by rw [← truthsP_snd]; exact List.mem_map.2 ⟨q, hq, rfl⟩
 rw [starts_at hq2 hh, List.length_map]
 simp only [startsOf, List.getElem?_eq_getElem hh]
 have hs := (hv.holds _ (List.getElem_mem hh)).start
 refine Nat.le_trans (List.length_filter_le _ _) ?_
 rw [numbers_len]
 omega
def wayAt (t : TV) (h : Nat) : List Way := (t.2[h]?).getD []
def keepF (s : Ship) (x : Hold) (h : Nat) (t : TV) (a : Int × Int) : (Int × Int) × Bool := ((wayAt t h).foldl (fun a w => tallyStep a (keptF s x (crs s w))) a, true)
def keepU (N p h : Nat) (a : Int × Int) : St := [.cells [.int .i64 h], .cells (tallyC a), .cells [.func 96 [.ptr p 0] []]]
theorem keeps_body {S : Memo → St} {s : Ship} {b c p m N : Nat} (hR : ShipAt S s b c p m N) (hv : Vd s) (h : Nat) (hh : h < s.holds.length) (t : TV) (ht : TVok s t) (fl : Bool) (tk : Option Nat) (x : Int × Int) (M : Memo) (lp : ABlk) (τ : St) (e : Env) (G : Option AJump → St → Prop)
  (e3 : Env.get e 3 = .ptr N 0) (e5 : Env.get e 5 = .ptr (N + 1) 0) (e6 : Env.get e 6 = .ptr (N + 2) 0) (e8 : Env.get e 8 = .lit (t.2.map (crssAV s)) fl tk) (R : (Int × Int) × Bool) (hRr : keepF s s.holds[h] h t x = R) :
  wp T F79_1 e (S M ++ (keepU N p h x ++ (.cells [.ptr p 0] :: lp :: τ))) (fun j e'' σ'' => (R.2 = true ∧ j = none ∧ ∃ τ', σ'' = S M ++ (keepU N p h R.1 ++ (.cells [.ptr p 0] :: lp :: (τ ++ τ')))) ∨ G j σ'') := by
 obtain ⟨hl, hwl⟩ := ht
 have hht : h < t.2.length := by omega
 obtain ⟨x0, hx0⟩ : ∃ x, s.holds[h] = x := ⟨_, rfl⟩
 obtain ⟨ws, hws⟩ : ∃ ws, t.2[h] = ws := ⟨_, rfl⟩
 have hw81 := hwl _ (List.getElem_mem hht)
 rw [hws] at hw81
 rw [hx0] at hRr
 obtain ⟨g, hg⟩ : ∃ g : Int × Int → Way → Int × Int, (fun a w => tallyStep a (keptF s x0 (crs s w))) = g := ⟨_, rfl⟩
 have hR1 : R = (ws.foldl g x, true) := by
  rw [← hRr, ← hg, ← hws]
  simp only [keepF, wayAt, List.getElem?_eq_getElem hht, Option.getD_some]
 obtain ⟨Y, hY⟩ : ∃ Y, ws.foldl g x = Y := ⟨_, rfl⟩
 rw [hY] at hR1
 subst hR1
 simp only [keepU]
 (repeat (first | simp only [↓QA, QB, Nat.reduceLT, reduceIte, Nat.reduceEqDiff, Nat.reduceAdd, Nat.reduceLeDiff, Nat.reduceMul, Nat.reduceBEq, QXHHdPI, hR.len, hR.base, hR.base0, hR.bset, hR.bset0, hR.at1, hR.at0, tallyC_eq, F79_1, e3, e5, e6, e8, hht, hws] | refine rd0 rfl ?_))
 refine loopE (S := Nat × Int × Int) (0, x) (fun a => a.1 ≤ ws.length ∧ (ws.drop a.1).foldl g a.2 = Y) (fun a => ws.length - a.1)
  (fun a => [(3, .ptr N 0), (5, .ptr (N + 1) 0), (6, .ptr (N + 2) 0), (20, crssAV s ws), (21, .int .i64 ws.length), (22, .int .i64 a.1)])
  (fun a => S M ++ (.cells [.int .i64 h] :: .cells (tallyC a.2) :: .cells [.func 96 [.ptr p 0] []] :: .cells [.ptr p 0] :: lp :: τ)) ⟨Nat.zero_le _, by simpa using hY⟩ (by simp [tallyC]) ?_ fun a ha => ?_
 ·try simp only [TrimX, QE, Nat.reduceLT, reduceIte, Nat.reduceEqDiff, Nat.reduceAdd, Nat.reduceLeDiff, Nat.reduceMul, Nat.reduceBEq, QXHHdPI, hR.len, hR.base, hR.base0, hR.bset, hR.bset0, hR.at1, hR.at0, tallyC_eq, e3, e5, e6]
  try simp
 ·obtain ⟨i, x⟩ := a
  obtain ⟨hi, hq⟩ := ha
  simp only at hi hq
  (repeat (first | simp only [↓QA, QB, Nat.reduceLT, reduceIte, Nat.reduceEqDiff, Nat.reduceAdd, Nat.reduceLeDiff, Nat.reduceMul, Nat.reduceBEq, QXHHdPI, hR.len, hR.base, hR.base0, hR.bset, hR.bset0, hR.at1, hR.at0, tallyC_eq, L79_2] | refine rd0 rfl ?_))
  refine iteP_intro (fun hd => ?_) fun hd => ?_
  ·have hi1 : i < ws.length := by simpa using hd
   have hw := wrapN hi1 (by omega)
   rw [List.drop_eq_getElem_cons hi1, List.foldl_cons] at hq
   have hta := fun bb υ => tally_add (S M ++ (.cells [.int .i64 h] :: .cells (tallyC x) :: .cells [.func 96 [.ptr p 0] []] :: .cells [.ptr p 0] :: lp :: υ)) (N + 1) x bb (by rw [hR.base]; rfl)
   have hkm := fun υ => kept_m (S M ++ (.cells [.int .i64 h] :: .cells (tallyC x) :: .cells [.func 96 [.ptr p 0] []] :: .cells [.ptr p 0] :: lp :: υ)) p s b c m (hR.at1 M _) hv h hh (crs s ws[i])
   rw [hx0] at hkm
   obtain ⟨v, hve⟩ : ∃ v, keptF s x0 (crs s ws[i]) = v := ⟨_, rfl⟩
   rw [hve] at hkm
   have hgv : g x ws[i] = tallyStep x v := by rw [← hg, ← hve]
   rw [hgv] at hq
   try simp only [↓QA, QB, Nat.reduceLT, reduceIte, Nat.reduceEqDiff, Nat.reduceAdd, Nat.reduceLeDiff, Nat.reduceMul, Nat.reduceBEq, QXHHdPI, hR.len, hR.base, hR.base0, hR.bset, hR.bset0, hR.at1, hR.at0, tallyC_eq] at hta hkm
   (repeat (first | simp only [↓QA, QB, Nat.reduceLT, reduceIte, Nat.reduceEqDiff, Nat.reduceAdd, Nat.reduceLeDiff, Nat.reduceMul, Nat.reduceBEq, QXHHdPI, hR.len, hR.base, hR.base0, hR.bset, hR.bset0, hR.at1, hR.at0, tallyC_eq, hi1, ← arr_zero] | refine rd0 rfl ?_))
   refine callK_same (hkm _) ?_
   (repeat (first | simp only [↓QA, QB, Nat.reduceLT, reduceIte, Nat.reduceEqDiff, Nat.reduceAdd, Nat.reduceLeDiff, Nat.reduceMul, Nat.reduceBEq, QXHHdPI, hR.len, hR.base, hR.base0, hR.bset, hR.bset0, hR.at1, hR.at0, tallyC_eq, hi1] | refine rd0 rfl ?_))
   refine callK_do (hta v _) ?_
   (repeat (first | simp only [↓QA, QB, Nat.reduceLT, reduceIte, Nat.reduceEqDiff, Nat.reduceAdd, Nat.reduceLeDiff, Nat.reduceMul, Nat.reduceBEq, QXHHdPI, hR.len, hR.base, hR.base0, hR.bset, hR.bset0, hR.at1, hR.at0, tallyC_eq, hw] | refine rd0 rfl ?_))
   refine ⟨(i + 1, tallyStep x v), ⟨by simp only; omega, hq⟩, by simp only; omega, ?_⟩
   try simp only [TrimX, QE, Nat.reduceLT, reduceIte, Nat.reduceEqDiff, Nat.reduceAdd, Nat.reduceLeDiff, Nat.reduceMul, Nat.reduceBEq, QXHHdPI, hR.len, hR.base, hR.base0, hR.bset, hR.bset0, hR.at1, hR.at0, tallyC_eq, hw]
   try simp [okBlk, okVs, okV]
   try omega
  ·have hi1 : i = ws.length := by simp at hd; omega
   rw [hi1, List.drop_length] at hq
   simp only [List.foldl_nil] at hq
   subst hq
   (repeat (first | simp only [↓QA, QB, Nat.reduceLT, reduceIte, Nat.reduceEqDiff, Nat.reduceAdd, Nat.reduceLeDiff, Nat.reduceMul, Nat.reduceBEq, QXHHdPI, hR.len, hR.base, hR.base0, hR.bset, hR.bset0, hR.at1, hR.at0, tallyC_eq] | refine rd0 rfl ?_))
   exact .inl ⟨[], by simp⟩
def keepsSum (s : Ship) (x : Hold) (bl : List Int) (c h : Nat) : Int × Int := (TL s bl c).foldl (fun a t => (keepF s x h t a).1) (0, 0)
def keepsMemo (s : Ship) (x : Hold) (bl : List Int) (c h : Nat) (M : Memo) : Memo := (allSets s bl c (keepF s x h) (0, 0) M).1.2
theorem keeps_does {S : Memo → St} {s : Ship} {b c p m N : Nat} (hR : ShipAt S s b c p m N) (hv : Vd s) (bl : List Int) (hb : ButIs b bl) (hcl : c < 1000000) (h : Nat) (hh : h < s.holds.length) (M : Memo) :
  Does T (.func 79 [] []) [.ptr p 0, .int .i64 h] (S M) (.int .i64 (howI (keepsSum s s.holds[h] bl c h))) (S (keepsMemo s s.holds[h] bl c h M)) := by
 have hgo := iterF_go (f := keepF s s.holds[h] h) (fun _ _ => rfl) (TL s bl c) (0, 0)
 have hpl := hR.pl
 have hok : ∀ (x : Int × Int) (y : ABlk), y ∈ keepU N p h x → ∀ k, N ≤ k → okBlk k y := by
  intro x y hy k hk
  simp only [keepU, List.mem_cons, List.not_mem_nil, or_false] at hy
  rcases hy with rfl | rfl | rfl
  ·simp [okBlk, okVs, okV]
  ·simp [okBlk, okVs, okV, tallyC]
  ·simp [okBlk, okVs, okV]; omega
 obtain ⟨Y, hY⟩ : ∃ Y, keepsSum s s.holds[h] bl c h = Y := ⟨_, rfl⟩
 have hgoY : iterF (keepF s s.holds[h] h) (TL s bl c) (0, 0) = (Y, true) := by rw [hgo, ← hY]; rfl
 rw [hY]
 refine does_memo hR (af := a79) rfl (by simp [a79]) ?_
 (repeat (first | simp only [↓QA, QB, Nat.reduceLT, reduceIte, Nat.reduceEqDiff, Nat.reduceAdd, Nat.reduceLeDiff, Nat.reduceMul, Nat.reduceBEq, QXHHdPI, hR.len, hR.base, hR.base0, hR.bset, hR.bset0, hR.at1, hR.at0, tallyC_eq, a79] | refine rd0 rfl ?_))
 refine callK_in rfl (by simp [a66]) ?_
 (repeat (first | simp only [↓QA, QB, Nat.reduceLT, reduceIte, Nat.reduceEqDiff, Nat.reduceAdd, Nat.reduceLeDiff, Nat.reduceMul, Nat.reduceBEq, QXHHdPI, hR.len, hR.base, hR.base0, hR.bset, hR.bset0, hR.at1, hR.at0, tallyC_eq, a66] | refine rd0 rfl ?_))
 refine truths_range hR hv bl hb hcl (keepU N p h) (keepU N p h) 3 (fun _ => rfl) (fun _ => rfl) hok hok .ret (P := TVok s) (f := keepF s s.holds[h] h) _ 14 [15, 16] _ _ ?_ ?_ (TL_ok hv bl c) (0, 0) M _ ?_ ?_
 ·try simp only [TrimX, QE, Nat.reduceLT, reduceIte, Nat.reduceEqDiff, Nat.reduceAdd, Nat.reduceLeDiff, Nat.reduceMul, Nat.reduceBEq, QXHHdPI, hR.len, hR.base, hR.base0, hR.bset, hR.bset0, hR.at1, hR.at0, tallyC_eq]
 ·refine yields_of hR (keepU N p h) (keepU N p h) 3 (fun _ => rfl) (fun _ => rfl) .ret _ _ rfl _ _ ?_
  intro t ht fl tk x M' τ
  simp only [bindPs]
  (repeat (first | simp only [↓QA, QB, Nat.reduceLT, reduceIte, Nat.reduceEqDiff, Nat.reduceAdd, Nat.reduceLeDiff, Nat.reduceMul, Nat.reduceBEq, QXHHdPI, hR.len, hR.base, hR.base0, hR.bset, hR.bset0, hR.at1, hR.at0, tallyC_eq] | refine rd0 rfl ?_))
  obtain ⟨R, hRr⟩ : ∃ R, keepF s s.holds[h] h t x = R := ⟨_, rfl⟩
  rw [hRr]
  refine keeps_body hR hv h hh t ht fl tk x M' _ τ _ _ ?_ ?_ ?_ ?_ R hRr
  all_goals try simp only [TrimX, QE, Nat.reduceLT, reduceIte, Nat.reduceEqDiff, Nat.reduceAdd, Nat.reduceLeDiff, Nat.reduceMul, Nat.reduceBEq, QXHHdPI, hR.len, hR.base, hR.base0, hR.bset, hR.bset0, hR.at1, hR.at0, tallyC_eq]
 ·intro τ h2
  rw [hgoY]
  simp only [keepU]
  (repeat (first | simp only [↓QA, QB, Nat.reduceLT, reduceIte, Nat.reduceEqDiff, Nat.reduceAdd, Nat.reduceLeDiff, Nat.reduceMul, Nat.reduceBEq, QXHHdPI, hR.len, hR.base, hR.base0, hR.bset, hR.bset0, hR.at1, hR.at0, tallyC_eq] | refine rd0 rfl ?_))
  refine callK_d (how_ok Y) rfl (by rw [tallyC_eq]; exact dd) ?_
  (repeat (first | simp only [↓QA, QB, Nat.reduceLT, reduceIte, Nat.reduceEqDiff, Nat.reduceAdd, Nat.reduceLeDiff, Nat.reduceMul, Nat.reduceBEq, QXHHdPI, hR.len, hR.base, hR.base0, hR.bset, hR.bset0, hR.at1, hR.at0, tallyC_eq] | refine rd0 rfl ?_))
  exact ⟨_, _, rfl, rfl, by try simp only [QS, QC, Nat.reduceLT, reduceIte, Nat.reduceEqDiff, Nat.reduceAdd, Nat.reduceLeDiff, Nat.reduceMul, Nat.reduceBEq, QXHHdPI, hR.len, hR.base, hR.base0, hR.bset, hR.bset0, hR.at1, hR.at0, tallyC_eq]⟩
 ·intro τ h2
  rw [hgoY] at h2
  cases h2
end Go.Am.Room
set_option maxRecDepth 4000
namespace Go.Am.Room
structure TOk (s : Ship) (t : Truth) : Prop where
 len : t.starts.length = s.holds.length
 bl : t.blocked.length ≤ 4
 st : ∀ x ∈ t.starts, x.length ≤ 81 ∧ x ≠ [] ∧ ∀ m ∈ x, 0 ≤ m ∧ m ≤ 80
theorem tok_of {s : Ship} (hv : Vd s) {but : List Int} {t : Truth} (h : t ∈ truths s but) : TOk s t := by
 obtain ⟨h1, h2, h3⟩ := mem_truths.1 h
 refine ⟨by rw [h2]; simp, (sets_small hv).2 _ h1, fun x hx => ?_⟩
 rw [h2] at hx
 obtain ⟨k, hk, rfl⟩ := List.mem_map.1 hx
 have hk := List.mem_range.1 hk
 refine ⟨starts_len hv _ _ _, h3 k hk, fun m hm => ?_⟩
 have := ((mem_starts hk).1 hm).1
 have := (hv.holds _ (List.getElem_mem hk)).start
 omega
def prs (l : List Truth) (n : Nat) : List (Int × List Int) := l.flatMap fun t => ((t.starts[n]?).getD []).map fun m => (m, t.blocked)
theorem prs_len {s : Ship} {l : List Truth} {n : Nat} (h : ∀ t ∈ l, TOk s t) : (prs l n).length ≤ l.length * 81 := by
 refine flat_le _ 81 l fun t ht => ?_
 rw [List.length_map]
 by_cases hn : n < t.starts.length
 ·rw [List.getElem?_eq_getElem hn]
  exact ((h t ht).st _ (List.getElem_mem hn)).1
 ·rw [List.getElem?_eq_none (by omega)]
  simp
theorem courses_prs (s : Ship) (l : List Truth) (h : Nat) (clear : List Int) : coursesIn s l h clear = (prs l h).map fun p => marksAt s h p.1 (cooled (restOf p.2 clear) h) := by
 simp only [coursesIn, prs, List.map_flatMap, List.map_map]
 rfl
end Go.Am.Room
set_option maxRecDepth 4000
namespace Go.Am.Room
def encSE (x : Span × Int) : AV := .tuple [encSpan x.1, .int .i64 x.2]
def encSNE (x : Span × Int × Int) : AV := .tuple [encSpan x.1, .int .i64 x.2.1, .int .i64 x.2.2]
theorem join_self (x : Int) : join ⟨x, x⟩ x = ⟨x, x⟩ := by simp [join]
theorem truthsP_in {s : Ship} {bl : List Int} {q : Nat × Truth} (h : q ∈ truthsP s bl) : q.1 ∈ nextL s.holds 0 0 ∧ q.2.blocked = lst s.holds.length q.1 ∧ q.2 ∈ truths s bl := by
 have h3 : q.2 ∈ truths s bl := by rw [← truthsP_snd]; exact List.mem_map.2 ⟨q, h, rfl⟩
 simp only [truthsP, List.mem_filterMap] at h
 obtain ⟨set, h1, h2⟩ := h
 cases ht : truthOf s bl (lst s.holds.length set) with
 | none => rw [ht] at h2; cases h2
 | some t =>
  rw [ht] at h2
  simp at h2
  subst h2
  refine ⟨h1, ?_, h3⟩
  simp only [truthOf] at ht
  split at ht
  ·cases ht; rfl
  ·cases ht
theorem ways_courses {s : Ship} (hv : Vd s) (bl : List Int) (c : Nat) (hc : c < 1000000) (h : Nat) (hh : h < s.holds.length) {β : Type} (F : Way → β) (G : (Nat → Int) → β)
  (hFG : ∀ m c2, 0 ≤ m → m ≤ 80 → F ⟨h, m, c2⟩ = G (marksAt s h m c2)) : ((TL s bl c).flatMap fun t => wayAt t h).map F = (coursesIn s (truths s bl) h (lst s.holds.length c)).map G := by
 rw [TL_eq, ← truthsP_snd, coursesIn, List.flatMap_map, List.flatMap_map, List.map_flatMap, List.map_flatMap]
 simp only [List.flatMap_def]
 congr 1
 refine List.map_congr_left fun q hq => ?_
 obtain ⟨h1, h2, h3⟩ := truthsP_in hq
 have hlt := sets_lt hv _ h1
 have hco : coolB (andN q.1 c) h = cooled (restOf q.2.blocked (lst s.holds.length c)) h := by rw [h2]; exact cool_rest hh (by omega) (by omega)
 have hw : wayAt (q.1, waysIn s c q) h = ((q.2.starts[h]?).getD []).map fun m => (⟨h, m, coolB (andN q.1 c) h⟩ : Way) := by
  simp [wayAt, waysIn, hh]
 rw [hw, List.map_map, List.map_map]
 refine List.map_congr_left fun m hm => ?_
 rw [starts_at h3 hh] at hm
 have hb := ((mem_starts hh).1 hm).1
 have hs := (hv.holds _ (List.getElem_mem hh)).start
 simp only [Function.comp_apply]
 rw [hFG m _ (by omega) (by omega), hco]
theorem fold_ways {X : Type} (g : X → Way → X) (h : Nat) : ∀ (l : List TV) (x : X), l.foldl (fun x t => (wayAt t h).foldl g x) x = (l.flatMap fun t => wayAt t h).foldl g x
 | [], x => rfl
 | t :: l, x => by
  simp only [List.foldl_cons, List.flatMap_cons, List.foldl_append]
  exact fold_ways g h l _
theorem fold_tally : ∀ (bs : List Bool) (y a : Nat), a + bs.length < 4611686018427387904 → y ≤ a → bs.foldl tallyStep ((y : Int), (a : Int)) = (((y + (bs.filter id).length : Nat) : Int), ((a + bs.length : Nat) : Int))
 | [], y, a, _, _ => by simp
 | b :: bs, y, a, h, hy => by
  simp only [List.length_cons] at h
  have w1 : IntKind.i64.wrap ((a : Int) + 1) = ((a + 1 : Nat) : Int) := by rw [wrap64 ⟨by omega, by omega⟩]; omega
  have w2 : IntKind.i64.wrap ((y : Int) + 1) = ((y + 1 : Nat) : Int) := by rw [wrap64 ⟨by omega, by omega⟩]; omega
  simp only [List.foldl_cons, tallyStep, w1, w2]
  cases b
  ·simp only [Bool.false_eq_true, if_false]
   rw [fold_tally bs y (a + 1) (by omega) (by omega)]
   simp
   omega
  ·simp only [if_true]
   rw [fold_tally bs (y + 1) (a + 1) (by omega) (by omega)]
   simp
   omega
theorem courses_len {s : Ship} (hv : Vd s) (bl : List Int) (h : Nat) (clear : List Int) : (coursesIn s (truths s bl) h clear).length ≤ 16 * 81 := by
 rw [courses_prs, List.length_map]
 exact Nat.le_trans (prs_len fun t ht => tok_of hv ht) (Nat.mul_le_mul_right _ (truths_len hv bl))
theorem how_settled (y a : Nat) : howI ((y : Int), (a : Int)) = settled y a := by
 simp only [howI, settled]
 by_cases h1 : y = a
 ·simp [h1]
 ·have : ¬ (y : Int) = (a : Int) := by omega
  simp only [h1, this, if_false]
  by_cases h2 : y = 0
  ·simp [h2]
  ·have : ¬ (y : Int) = 0 := by omega
   simp [h2, this]
theorem tally_courses {s : Ship} (hv : Vd s) (bl : List Int) (c : Nat) (hc : c < 1000000) (h : Nat) (hh : h < s.holds.length) (F : Way → Bool) (G : (Nat → Int) → Bool)
  (hFG : ∀ m c2, 0 ≤ m → m ≤ 80 → F ⟨h, m, c2⟩ = G (marksAt s h m c2)) :
  (TL s bl c).foldl (fun x t => (wayAt t h).foldl (fun a w => tallyStep a (F w)) x) (0, 0) = (((((coursesIn s (truths s bl) h (lst s.holds.length c)).filter G).length : Nat) : Int), (((coursesIn s (truths s bl) h (lst s.holds.length c)).length : Nat) : Int)) := by
 rw [fold_ways, ← List.foldl_map (f := F) (g := tallyStep), ways_courses hv bl c hc h hh F G hFG]
 have hl := courses_len hv bl h (lst s.holds.length c)
 have := fold_tally ((coursesIn s (truths s bl) h (lst s.holds.length c)).map G) 0 0 (by rw [List.length_map]; omega) (Nat.le_refl _)
 simp only [Nat.zero_add, List.length_map, List.filter_map, Int.natCast_zero] at this
 rw [this]
 congr 3
theorem kept_eq {s : Ship} (hv : Vd s) {h : Nat} (hh : h < s.holds.length) (m : Int) (c2 : Bool) (h0 : 0 ≤ m) (h1 : m ≤ 80) : keptF s s.holds[h] (crs s ⟨h, m, c2⟩) = keptOf s h (marksAt s h m c2) := by
 have hnh := hv.nheat
 have hfr := hv.frm
 simp only [keptF, keptOf, List.getElem?_eq_getElem hh]
 rw [Bool.eq_iff_iff, List.all_eq_true, List.all_eq_true]
 simp only [List.mem_range, numbers_mem]
 have key : ∀ w : Nat, w ≤ s.heat.length → okW s.holds[h] (crs s ⟨h, m, c2⟩) w = inR (marksAt s h m c2 w) s.holds[h].keep.lo s.holds[h].keep.hi := by
  intro w hw
  have hc : crs s ⟨h, m, c2⟩ w = marksAt s h m c2 w := by simp only [crs, Int.toNat_natCast]; rw [Nat.min_eq_left hw]
  have hb := marks_bd hv (h := h) ⟨h0, h1⟩ c2 w hw
  simp only [okW, hc]
  by_cases hk : s.holds[h].keep.lo = 0 ∧ s.holds[h].keep.hi = 80
  ·rw [hk.1, hk.2]
   have : inR (marksAt s h m c2 w) 0 80 = true := inR_iff.2 ⟨hb.1, hb.2⟩
   simp [this]
  ·have : (s.holds[h].keep.lo == 0 && s.holds[h].keep.hi == 80) = false := by
    rw [Bool.eq_false_iff]
    intro h
    apply hk
    simpa using h
   rw [this, Bool.false_or]
 constructor
 ·intro hall w hw
  have hwn : w.toNat ≤ s.heat.length := by omega
  have := hall w.toNat (by omega)
  rw [key _ hwn] at this
  have e1 : decide (s.frm ≤ ((w.toNat : Nat) : Int)) = true := by simp; omega
  have e2 : decide (w.toNat ≤ s.heat.length) = true := by simp; omega
  rw [e1, e2] at this
  simpa using this
 ·intro hall w hw
  by_cases h2 : s.frm ≤ (w : Int) ∧ w ≤ s.heat.length
  ·have := hall (w : Int) (by omega)
   simp only [Int.toNat_natCast] at this
   rw [key w h2.2, this]
   simp
  ·have : (decide (s.frm ≤ (w : Int)) && decide (w ≤ s.heat.length)) = false := by
    rw [Bool.eq_false_iff]
    intro h
    apply h2
    simpa using h
   rw [this]
   rfl
theorem keeps_law {s : Ship} (hv : Vd s) (bl : List Int) (c : Nat) (hc : c < 1000000) (h : Nat) (hh : h < s.holds.length) : howI (keepsSum s s.holds[h] bl c h) = keepsIn s (truths s bl) h (lst s.holds.length c) := by
 have := tally_courses hv bl c hc h hh (fun w => keptF s s.holds[h] (crs s w)) (keptOf s h) (fun m c2 h0 h1 => kept_eq hv hh m c2 h0 h1)
 simp only [keepsSum, keepF]
 rw [this, how_settled]
 rfl
theorem lst_zero (n : Nat) : lst n 0 = [] := by
 simp only [lst, List.filter_eq_nil_iff]
 intro x _
 simp
end Go.Am.Room
set_option maxRecDepth 4000
namespace Go.Am.Room
def encLE (x : List Int × Int) : AV := .tuple [ints x.1, .int .i64 x.2]
def encIE (x : Int × Int) : AV := .tuple [.int .i64 x.1, .int .i64 x.2]
def encLLE (x : List Int × List Int × Int) : AV := .tuple [ints x.1, ints x.2.1, .int .i64 x.2.2]
end Go.Am.Room
set_option maxRecDepth 4000
namespace Go.Am.Room
def QXHHdPM := And.intro @encShip_eq (And.intro @shipCells_eq (And.intro @encHold_eq (And.intro @encLine_eq (And.intro @encSpan_eq (And.intro @S_mapHold (And.intro @S_mapLine (And.intro @List.length_append.{0} (And.intro @T_sapp (And.intro @T_sapp0 (And.intro @Nat.add_lt_add_iff_left (And.intro @Nat.lt_add_right_iff_pos (And.intro @Nat.mul_one (@Int.toNat_natCast)))))))))))))
theorem memo_okT (s : Ship) (M : Memo) (k : Nat) : okBlk k (.map (memoEs s M)) = True := eq_true (ShipAt.memo_ok s M k)
theorem sb_okT (s : Ship) (b c : Nat) {m k : Nat} (h : m < k) : okBlk k (.cells (sb s b c m)) = True := eq_true (sb_ok s b c h)
theorem within00 (e : Int) : errWithin 0 0 e = e := by
 unfold errWithin
 split
 ·rename_i h; rw [if_pos (by decide)]; exact h.symm
 ·rfl
theorem enter_keeps (s : Ship) (n : Int) : enterE s n 0 0 = keepsErr s n := by rw [enterE, within00]; rfl
theorem ask0 {s : Ship} : errAsk s 0 = (check s).2.2 := by
 unfold errAsk
 split
 ·rename_i h
  have := (vd_of_check h).nholds
  rw [if_pos (inR_iff.2 ⟨by omega, by omega⟩)]
  exact h.symm
 ·rfl
theorem enter_whole (s : Ship) : enterE s 0 0 0 = wholeErr s := by rw [enterE, within00, ask0]; rfl
theorem pkeeps_ok (s : Ship) (n : Int) (hf : Fits s) : Pure T 26 [encShip s, .int .i64 n] (encIE (keepsOf s n)) := by
 refine pure_fn (af := a26) rfl (by simp [a26]) dd ?_
 (repeat (first | simp only [↓QA, QB, Nat.reduceLT, reduceIte, Nat.reduceEqDiff, Nat.reduceAdd, Nat.reduceLeDiff, Nat.reduceMul, Nat.reduceBEq, QXHHdPM, a26] | refine rd0 rfl ?_))
 refine callK_do (enter_run _ s n 0 0 hf) ?_
 simp only [enterV, enterSt, enter_keeps]
 by_cases h0 : keepsErr s n = 0
 ·obtain ⟨ha, hne⟩ := errKnown_ok h0
  obtain ⟨hv, hn0, hn1⟩ := errAsk_ok ha
  obtain ⟨N, rfl⟩ : ∃ N : Nat, n = N := ⟨n.toNat, by omega⟩
  have hm : keepsOf s N = (keepsIn s (truths s []) N [], 0) := by rw [keepsOf, if_pos h0, Int.toNat_natCast]
  have hN : N < s.holds.length := by omega
  have hk := keeps_does (ship_at [.cells (shipCells s)] s 0) hv [] but0 (by omega) N hN (memo0 s)
  rw [keeps_law hv [] 0 (by omega) N hN, lst_zero] at hk
  rw [if_pos h0, if_pos h0, hm]
  simp only [entS] at hk ⊢
  try simp only [↓QA, QB, Nat.reduceLT, reduceIte, Nat.reduceEqDiff, Nat.reduceAdd, Nat.reduceLeDiff, Nat.reduceMul, Nat.reduceBEq, QXHHdPM] at hk
  (repeat (first | simp only [↓QA, QB, Nat.reduceLT, reduceIte, Nat.reduceEqDiff, Nat.reduceAdd, Nat.reduceLeDiff, Nat.reduceMul, Nat.reduceBEq, QXHHdPM, show ((0 : Int) == 0) = true from rfl] | refine rd0 rfl ?_))
  refine callK_do hk ?_
  (repeat (first | simp only [↓QA, QB, Nat.reduceLT, reduceIte, Nat.reduceEqDiff, Nat.reduceAdd, Nat.reduceLeDiff, Nat.reduceMul, Nat.reduceBEq, QXHHdPM, encIE] | refine rd0 rfl ?_))
 ·have h0' : (keepsErr s n == 0) = false := by simpa using h0
  have hm : keepsOf s n = (0, keepsErr s n) := by rw [keepsOf, if_neg h0]
  rw [if_neg h0, if_neg h0, hm]
  (repeat (first | simp only [↓QA, QB, Nat.reduceLT, reduceIte, Nat.reduceEqDiff, Nat.reduceAdd, Nat.reduceLeDiff, Nat.reduceMul, Nat.reduceBEq, QXHHdPM, h0', encIE] | refine rd0 rfl ?_))
theorem pspoils_ok (s : Ship) (hf : Fits s) : Pure T 28 [encShip s] (encLLE (spoilsOf s)) := by
 refine pure_fn (af := a28) rfl (by simp [a28]) dd ?_
 (repeat (first | simp only [↓QA, QB, Nat.reduceLT, reduceIte, Nat.reduceEqDiff, Nat.reduceAdd, Nat.reduceLeDiff, Nat.reduceMul, Nat.reduceBEq, QXHHdPM, a28] | refine rd0 rfl ?_))
 refine callK_do (enter_run _ s 0 0 0 hf) ?_
 simp only [enterV, enterSt, enter_whole]
 by_cases h0 : wholeErr s = 0
 ·obtain ⟨ha, hne⟩ := errKnown_ok h0
  have hv := vd_of_check ha
  have hno := hv.nholds
  obtain ⟨l, hle⟩ : ∃ l, truths s [] = l := ⟨_, rfl⟩
  obtain ⟨p, hp⟩ : ∃ p : Int → Bool, (fun h => decide (keepsIn s l h.toNat [] = 2)) = p := ⟨_, rfl⟩
  obtain ⟨q, hq⟩ : ∃ q : Int → Bool, (fun h => decide (keepsIn s l h.toNat [] ≠ 1)) = q := ⟨_, rfl⟩
  obtain ⟨A, hA⟩ : ∃ A, (numbers 0 s.holds.length).filter p = A := ⟨_, rfl⟩
  obtain ⟨B, hB⟩ : ∃ B, (numbers 0 s.holds.length).filter q = B := ⟨_, rfl⟩
  have hm : spoilsOf s = (A, B, 0) := by rw [spoilsOf, if_pos h0, hle, ← hA, ← hB, ← hp, ← hq]
  rw [if_pos h0, if_pos h0, hm]
  simp only [entS]
  (repeat (first | simp only [↓QA, QB, Nat.reduceLT, reduceIte, Nat.reduceEqDiff, Nat.reduceAdd, Nat.reduceLeDiff, Nat.reduceMul, Nat.reduceBEq, QXHHdPM, show ((0 : Int) == 0) = true from rfl] | refine rd0 rfl ?_))
  refine ghostK 2 1 [] rfl ?_
  refine ghostK 3 1 [] rfl ?_
  refine loopE (S := Nat × (List Int × Bool) × (List Int × Bool) × Memo) (0, ([], false), ([], false), memo0 s) (fun a => a.1 ≤ s.holds.length ∧ a.2.1.1.length ≤ a.1 ∧ a.2.2.1.1.length ≤ a.1 ∧ a.2.1.1 ++ (numbers a.1 (s.holds.length - a.1)).filter p = A ∧ a.2.2.1.1 ++ (numbers a.1 (s.holds.length - a.1)).filter q = B) (fun a => s.holds.length - a.1)
   (fun a => [(2, .lit (a.2.1.1.map (.int .i64)) false (some 5)), (3, .lit (a.2.2.1.1.map (.int .i64)) false (some 6)), (4, .int .i64 0), (5, .ptr 4 0), (18, .int .i64 s.holds.length), (19, .int .i64 a.1)])
   (fun a => [.cells (shipCells s), .cells (shipCells s), .cells (shipCells s), .map (memoEs s a.2.2.2), .cells (sb s 0 0 3), .tok 1 a.2.1.1.length a.2.1.2, .tok 1 a.2.2.1.1.length a.2.2.1.2]) ⟨Nat.zero_le _, Nat.le_refl _, Nat.le_refl _, by simpa using hA, by simpa using hB⟩ (by simp [shipCells, ints]) ?_ fun a ha => ?_
  ·try simp only [TrimX, QE, Nat.reduceLT, reduceIte, Nat.reduceEqDiff, Nat.reduceAdd, Nat.reduceLeDiff, Nat.reduceMul, Nat.reduceBEq, QXHHdPM]
   try simp
  ·obtain ⟨h, ⟨sure, ex1⟩, ⟨may, ex2⟩, M⟩ := a
   obtain ⟨hh, hsl, hml, hs, hq2⟩ := ha
   simp only at hh hsl hml hs hq2
   (repeat (first | simp only [↓QA, QB, Nat.reduceLT, reduceIte, Nat.reduceEqDiff, Nat.reduceAdd, Nat.reduceLeDiff, Nat.reduceMul, Nat.reduceBEq, QXHHdPM, L28_0] | refine rd0 rfl ?_))
   refine iteP_intro (fun hd => ?_) fun hd => ?_
   ·have hh1 : h < s.holds.length := by simpa using hd
    have hw := wrapN hh1 (by omega)
    rw [show s.holds.length - h = (s.holds.length - (h + 1)) + 1 by omega] at hs hq2
    simp only [numbers, List.filter_cons] at hs hq2
    obtain ⟨v, hve⟩ : ∃ v, keepsIn s l h [] = v := ⟨_, rfl⟩
    have hk := keeps_does ((ship_at [.cells (shipCells s)] s 0).app [.tok 1 sure.length ex1, .tok 1 may.length ex2]) hv [] but0 (by omega) h hh1 M
    obtain ⟨M2, hM2⟩ : ∃ M2, keepsMemo s s.holds[h] [] 0 h M = M2 := ⟨_, rfl⟩
    rw [keeps_law hv [] 0 (by omega) h hh1, lst_zero, hle, hve, hM2] at hk
    simp only [entS] at hk
    try simp only [↓QA, QB, Nat.reduceLT, reduceIte, Nat.reduceEqDiff, Nat.reduceAdd, Nat.reduceLeDiff, Nat.reduceMul, Nat.reduceBEq, QXHHdPM] at hk
    have hpv : p (h : Int) = (v == 2) := by rw [← hp, ← hve]; simp only [Int.toNat_natCast]; rw [Bool.eq_iff_iff]; simp
    have hqv : q (h : Int) = !(v == 1) := by rw [← hq, ← hve]; simp only [Int.toNat_natCast]; rw [Bool.eq_iff_iff]; simp
    rw [hpv] at hs
    rw [hqv] at hq2
    have ap1 := fun (b0 b1 b2 b3 b4 : ABlk) (τ : St) => append_at (σ := b0 :: b1 :: b2 :: b3 :: b4 :: .tok 1 sure.length ex1 :: τ) (t := 5) (ex := ex1) (sz := 1) (b := 8) (xs := sure.map (.int .i64)) (ys := [.int .i64 h]) (f := true) (tk := none) ⟨allCells_int sure, by simp [allCells, AV.cells, AV.cell], by simp [room]; omega, by simp [room]; omega⟩ (by simp) sure.length (by simp) rfl
    have ap2 := fun (b0 b1 b2 b3 b4 b5 : ABlk) (τ : St) => append_at (σ := b0 :: b1 :: b2 :: b3 :: b4 :: b5 :: .tok 1 may.length ex2 :: τ) (t := 6) (ex := ex2) (sz := 1) (b := 8) (xs := may.map (.int .i64)) (ys := [.int .i64 h]) (f := true) (tk := none) ⟨allCells_int may, by simp [allCells, AV.cells, AV.cell], by simp [room]; omega, by simp [room]; omega⟩ (by simp) may.length (by simp) rfl
    (repeat (first | simp only [↓QA, QB, Nat.reduceLT, reduceIte, Nat.reduceEqDiff, Nat.reduceAdd, Nat.reduceLeDiff, Nat.reduceMul, Nat.reduceBEq, QXHHdPM] | refine rd0 rfl ?_))
    refine callK_do hk ?_
    cases h2 : (v == 2)
    ·rw [h2] at hs
     cases h1 : (v == 1)
     ·rw [h1] at hq2
      (repeat (first | simp only [↓QA, QB, Nat.reduceLT, reduceIte, Nat.reduceEqDiff, Nat.reduceAdd, Nat.reduceLeDiff, Nat.reduceMul, Nat.reduceBEq, QXHHdPM, h1, h2, ap2] | refine rd0 rfl ?_))
      refine ⟨(h + 1, (sure, ex1), (may ++ [(h : Int)], true), M2), ⟨by simp only; omega, by simp only; omega, by simp only [List.length_append, List.length_cons, List.length_nil]; omega, by simpa using hs, by simpa using hq2⟩, by simp only; omega, ?_⟩
      try simp only [TrimX, QE, Nat.reduceLT, reduceIte, Nat.reduceEqDiff, Nat.reduceAdd, Nat.reduceLeDiff, Nat.reduceMul, Nat.reduceBEq, QXHHdPM, hw, memo_okT, sb_okT, List.map_append, List.map_cons, List.map_nil, List.length_append]
      try simp [okBlk]
     ·rw [h1] at hq2
      (repeat (first | simp only [↓QA, QB, Nat.reduceLT, reduceIte, Nat.reduceEqDiff, Nat.reduceAdd, Nat.reduceLeDiff, Nat.reduceMul, Nat.reduceBEq, QXHHdPM, h1, h2] | refine rd0 rfl ?_))
      refine ⟨(h + 1, (sure, ex1), (may, ex2), M2), ⟨by simp only; omega, by simp only; omega, by simp only; omega, by simpa using hs, by simpa using hq2⟩, by simp only; omega, ?_⟩
      try simp only [TrimX, QE, Nat.reduceLT, reduceIte, Nat.reduceEqDiff, Nat.reduceAdd, Nat.reduceLeDiff, Nat.reduceMul, Nat.reduceBEq, QXHHdPM, hw, memo_okT, sb_okT]
      try simp [okBlk]
    ·rw [h2] at hs
     have h1 : (v == 1) = false := by rw [beq_iff_eq] at h2; rw [h2]; rfl
     rw [h1] at hq2
     (repeat (first | simp only [↓QA, QB, Nat.reduceLT, reduceIte, Nat.reduceEqDiff, Nat.reduceAdd, Nat.reduceLeDiff, Nat.reduceMul, Nat.reduceBEq, QXHHdPM, h1, h2, ap1, ap2] | refine rd0 rfl ?_))
     refine ⟨(h + 1, (sure ++ [(h : Int)], true), (may ++ [(h : Int)], true), M2), ⟨by simp only; omega, by simp only [List.length_append, List.length_cons, List.length_nil]; omega, by simp only [List.length_append, List.length_cons, List.length_nil]; omega, by simpa using hs, by simpa using hq2⟩, by simp only; omega, ?_⟩
     try simp only [TrimX, QE, Nat.reduceLT, reduceIte, Nat.reduceEqDiff, Nat.reduceAdd, Nat.reduceLeDiff, Nat.reduceMul, Nat.reduceBEq, QXHHdPM, hw, memo_okT, sb_okT, List.map_append, List.map_cons, List.map_nil, List.length_append]
     try simp [okBlk]
   ·have hh1 : h = s.holds.length := by simp at hd; omega
    rw [hh1, Nat.sub_self] at hs hq2
    simp only [numbers, List.filter_nil, List.append_nil] at hs hq2
    subst hs
    subst hq2
    (repeat (first | simp only [↓QA, QB, Nat.reduceLT, reduceIte, Nat.reduceEqDiff, Nat.reduceAdd, Nat.reduceLeDiff, Nat.reduceMul, Nat.reduceBEq, QXHHdPM, encLLE] | refine rd0 rfl ?_))
    try try simp only [QS, QC, Nat.reduceLT, reduceIte, Nat.reduceEqDiff, Nat.reduceAdd, Nat.reduceLeDiff, Nat.reduceMul, Nat.reduceBEq, QXHHdPM]
 ·have h0' : (wholeErr s == 0) = false := by simpa using h0
  have hm : spoilsOf s = ([], [], wholeErr s) := by rw [spoilsOf, if_neg h0]
  rw [if_neg h0, if_neg h0, hm]
  (repeat (first | simp only [↓QA, QB, Nat.reduceLT, reduceIte, Nat.reduceEqDiff, Nat.reduceAdd, Nat.reduceLeDiff, Nat.reduceMul, Nat.reduceBEq, QXHHdPM, h0', encLLE] | refine rd0 rfl ?_))
  try rfl
end Go.Am.Room
set_option maxRecDepth 4000
namespace Go.Am.Room
def QXHHdPN := And.intro @encShip_eq (And.intro @shipCells_eq (And.intro @encHold_eq (And.intro @encLine_eq (And.intro @encSpan_eq (And.intro @encCrs_eq (And.intro @S_mapHold (And.intro @S_mapLine (And.intro @List.length_append.{0} (And.intro @sb_0 (And.intro @sb_1 (And.intro @sb_2 (And.intro @sb_3 (And.intro @sb_4 (And.intro @sb_5 (And.intro @sb_6 (And.intro @sb_7 (And.intro @sb_8 (And.intro @sb_9 (And.intro @T_sapp (And.intro @T_sapp0 (And.intro @Nat.add_lt_add_iff_left (And.intro @Nat.lt_add_right_iff_pos (And.intro @Nat.mul_one (And.intro @Int.toNat_natCast (And.intro @C_yield (And.intro @K_yield (And.intro @arr_len (And.intro @arr_take (And.intro @arr_drop (And.intro @arr_cell (And.intro @crsOf_eq (And.intro @S_arr (And.intro @S_crs (And.intro @S_crss (@crssAV_eq)))))))))))))))))))))))))))))))))))
theorem spanC_eq (t : Span × Bool) : spanC t = [.int .i64 t.1.lo, .int .i64 t.1.hi, .bool t.2] := by simp only [spanC]
theorem foldS_true : ∀ (xs : List Int) (sp : Span), xs.foldl spanStep (sp, true) = (xs.foldl join sp, true)
 | [], sp => rfl
 | x :: xs, sp => by simp only [List.foldl_cons, spanStep, if_true]; exact foldS_true xs _
theorem foldS_false (xs : List Int) : (xs.foldl spanStep (⟨0, 0⟩, false)).1 = spanL xs := by
 cases xs with
 | nil => rfl
 | cons x xs => simp only [List.foldl_cons, spanStep, Bool.false_eq_true, if_false, join_self, foldS_true, spanL]
def marksF (s : Ship) (h W : Nat) (t : TV) (a : Span × Bool) : (Span × Bool) × Bool := ((wayAt t h).foldl (fun a w => spanStep a (crs s w W)) a, true)
def spanU (a : Span × Bool) : St := [.cells (spanC a)]
theorem marks_body {S : Memo → St} {s : Ship} {b c p m N : Nat} (hR : ShipAt S s b c p m N) (hv : Vd s) (h : Nat) (hh : h < s.holds.length) (W : Nat) (hW : W < 7) (i4 i5 : Nat) (h4 : ∀ M τ, cellsAt (S M ++ τ) i4 = some [.int .i64 h]) (h5 : ∀ M τ, cellsAt (S M ++ τ) i5 = some [.int .i64 W]) (l4 : i4 < N) (l5 : i5 < N) (t : TV) (ht : TVok s t) (fl : Bool) (tk : Option Nat) (x : Span × Bool) (M : Memo) (lp : ABlk) (τ : St) (e : Env) (G : Option AJump → St → Prop)
  (e4 : Env.get e 4 = .ptr i4 0) (e5 : Env.get e 5 = .ptr i5 0) (e10 : Env.get e 10 = .ptr N 0) (e12 : Env.get e 12 = .lit (t.2.map (crssAV s)) fl tk) (R : (Span × Bool) × Bool) (hRr : marksF s h W t x = R) :
  wp T F18_1 e (S M ++ (spanU x ++ (.cells [.ptr p 0] :: lp :: τ))) (fun j e'' σ'' => (R.2 = true ∧ j = none ∧ ∃ τ', σ'' = S M ++ (spanU R.1 ++ (.cells [.ptr p 0] :: lp :: (τ ++ τ')))) ∨ G j σ'') := by
 obtain ⟨hl, hwl⟩ := ht
 have hht : h < t.2.length := by omega
 obtain ⟨ws, hws⟩ : ∃ ws, t.2[h] = ws := ⟨_, rfl⟩
 have hw81 := hwl _ (List.getElem_mem hht)
 rw [hws] at hw81
 obtain ⟨g, hg⟩ : ∃ g : Span × Bool → Way → Span × Bool, (fun a w => spanStep a (crs s w W)) = g := ⟨_, rfl⟩
 have hR1 : R = (ws.foldl g x, true) := by
  rw [← hRr, ← hg, ← hws]
  simp only [marksF, wayAt, List.getElem?_eq_getElem hht, Option.getD_some]
 obtain ⟨Y, hY⟩ : ∃ Y, ws.foldl g x = Y := ⟨_, rfl⟩
 rw [hY] at hR1
 subst hR1
 simp only [spanU]
 (repeat (first | simp only [↓QA, QB, Nat.reduceLT, reduceIte, Nat.reduceEqDiff, Nat.reduceAdd, Nat.reduceLeDiff, Nat.reduceMul, Nat.reduceBEq, QXHHdPN, hR.len, hR.base, hR.base0, hR.bset, hR.bset0, hR.at1, hR.at0, spanC_eq, F18_1, e4, e5, e10, e12, hht, hws, h4] | refine rd0 rfl ?_))
 refine loopE (S := Nat × Span × Bool) (0, x) (fun a => a.1 ≤ ws.length ∧ (ws.drop a.1).foldl g a.2 = Y) (fun a => ws.length - a.1)
  (fun a => [(5, .ptr i5 0), (10, .ptr N 0), (36, crssAV s ws), (37, .int .i64 ws.length), (38, .int .i64 a.1)])
  (fun a => S M ++ (.cells (spanC a.2) :: .cells [.ptr p 0] :: lp :: τ)) ⟨Nat.zero_le _, by simpa using hY⟩ (by simp [spanC]) ?_ fun a ha => ?_
 ·try simp only [TrimX, QE, Nat.reduceLT, reduceIte, Nat.reduceEqDiff, Nat.reduceAdd, Nat.reduceLeDiff, Nat.reduceMul, Nat.reduceBEq, QXHHdPN, hR.len, hR.base, hR.base0, hR.bset, hR.bset0, hR.at1, hR.at0, spanC_eq, e4, e5, e10]
  try simp
 ·obtain ⟨i, x⟩ := a
  obtain ⟨hi, hq⟩ := ha
  simp only at hi hq
  (repeat (first | simp only [↓QA, QB, Nat.reduceLT, reduceIte, Nat.reduceEqDiff, Nat.reduceAdd, Nat.reduceLeDiff, Nat.reduceMul, Nat.reduceBEq, QXHHdPN, hR.len, hR.base, hR.base0, hR.bset, hR.bset0, hR.at1, hR.at0, spanC_eq, L18_2] | refine rd0 rfl ?_))
  refine iteP_intro (fun hd => ?_) fun hd => ?_
  ·have hi1 : i < ws.length := by simpa using hd
   have hw := wrapN hi1 (by omega)
   rw [List.drop_eq_getElem_cons hi1, List.foldl_cons] at hq
   have hsa := fun v υ => span_add (S M ++ (.cells (spanC x) :: .cells [.ptr p 0] :: lp :: υ)) N x v (by rw [hR.base0]; rfl)
   have hgv : g x ws[i] = spanStep x (crs s ws[i] W) := by rw [← hg]
   rw [hgv] at hq
   have i1 : (0 : Int) ≤ (W : Int) ∧ (W : Int) < ((7 : Nat) : Int) := ⟨by omega, by omega⟩
   have hga := arr_get (crs s ws[i]) W hW
   try simp only [↓QA, QB, Nat.reduceLT, reduceIte, Nat.reduceEqDiff, Nat.reduceAdd, Nat.reduceLeDiff, Nat.reduceMul, Nat.reduceBEq, QXHHdPN, hR.len, hR.base, hR.base0, hR.bset, hR.bset0, hR.at1, hR.at0, spanC_eq] at hsa
   (repeat (first | simp only [↓QA, QB, Nat.reduceLT, reduceIte, Nat.reduceEqDiff, Nat.reduceAdd, Nat.reduceLeDiff, Nat.reduceMul, Nat.reduceBEq, QXHHdPN, hR.len, hR.base, hR.base0, hR.bset, hR.bset0, hR.at1, hR.at0, spanC_eq, hi1, ← arr_zero, h5, i1, hga] | refine rd0 rfl ?_))
   refine callK_do (hsa _ _) ?_
   (repeat (first | simp only [↓QA, QB, Nat.reduceLT, reduceIte, Nat.reduceEqDiff, Nat.reduceAdd, Nat.reduceLeDiff, Nat.reduceMul, Nat.reduceBEq, QXHHdPN, hR.len, hR.base, hR.base0, hR.bset, hR.bset0, hR.at1, hR.at0, spanC_eq, hw] | refine rd0 rfl ?_))
   refine ⟨(i + 1, spanStep x (crs s ws[i] W)), ⟨by simp only; omega, hq⟩, by simp only; omega, ?_⟩
   try simp only [TrimX, QE, Nat.reduceLT, reduceIte, Nat.reduceEqDiff, Nat.reduceAdd, Nat.reduceLeDiff, Nat.reduceMul, Nat.reduceBEq, QXHHdPN, hR.len, hR.base, hR.base0, hR.bset, hR.bset0, hR.at1, hR.at0, spanC_eq, hw]
   try simp [okBlk, okVs, okV]
   try omega
  ·have hi1 : i = ws.length := by simp at hd; omega
   rw [hi1, List.drop_length] at hq
   simp only [List.foldl_nil] at hq
   subst hq
   (repeat (first | simp only [↓QA, QB, Nat.reduceLT, reduceIte, Nat.reduceEqDiff, Nat.reduceAdd, Nat.reduceLeDiff, Nat.reduceMul, Nat.reduceBEq, QXHHdPN, hR.len, hR.base, hR.base0, hR.bset, hR.bset0, hR.at1, hR.at0, spanC_eq] | refine rd0 rfl ?_))
   exact .inl ⟨[], by simp⟩
end Go.Am.Room
set_option maxRecDepth 4000
namespace Go.Am.Room
def QXHHdPO := And.intro @encShip_eq (And.intro @shipCells_eq (And.intro @encHold_eq (And.intro @encLine_eq (And.intro @encSpan_eq (And.intro @encCrs_eq (And.intro @S_mapHold (And.intro @S_mapLine (And.intro @List.length_append.{0} (And.intro @T_sapp (And.intro @T_sapp0 (And.intro @Nat.add_lt_add_iff_left (And.intro @Nat.lt_add_right_iff_pos (And.intro @Nat.mul_one (And.intro @Int.toNat_natCast (And.intro @C_yield (@K_yield))))))))))))))))
def marksSum (s : Ship) (bl : List Int) (c h W : Nat) : Span × Bool := (TL s bl c).foldl (fun a t => (marksF s h W t a).1) (⟨0, 0⟩, false)
theorem marks_law {s : Ship} (hv : Vd s) (h : Nat) (hh : h < s.holds.length) (W : Nat) (hW : W ≤ s.heat.length) : (marksSum s [] 0 h W).1 = spanL ((coursesIn s (truths s []) h []).map fun c => c W) := by
 have hwc := ways_courses hv [] 0 (by omega) h hh (fun w => crs s w W) (fun c => c W) (fun m c2 _ _ => by simp only [crs, Int.toNat_natCast]; rw [Nat.min_eq_left hW])
 rw [lst_zero] at hwc
 simp only [marksSum, marksF]
 rw [fold_ways, ← List.foldl_map (f := fun w => crs s w W) (g := spanStep), hwc]
 exact foldS_false _
theorem pmarks_ok (s : Ship) (n w : Int) (hf : Fits s) : Pure T 18 [encShip s, .int .i64 n, .int .i64 w] (encSE (marksOf s n w)) := by
 refine pure_fn (af := a18) rfl (by simp [a18]) dd ?_
 (repeat (first | simp only [↓QA, QB, Nat.reduceLT, reduceIte, Nat.reduceEqDiff, Nat.reduceAdd, Nat.reduceLeDiff, Nat.reduceMul, Nat.reduceBEq, QXHHdPO, a18] | refine rd0 rfl ?_))
 refine callK_do (enter_run _ s n w s.heat.length hf) ?_
 have hE : enterE s n w s.heat.length = marksErr s n w := rfl
 simp only [enterV, enterSt, hE]
 by_cases h0 : marksErr s n w = 0
 ·obtain ⟨hw, hne⟩ := errKnown_ok h0
  obtain ⟨ha, hw0, hw1⟩ := errWithin_ok hw
  obtain ⟨hv, hn0, hn1⟩ := errAsk_ok ha
  have hnh := hv.nheat
  obtain ⟨N, rfl⟩ : ∃ N : Nat, n = N := ⟨n.toNat, by omega⟩
  obtain ⟨W, rfl⟩ : ∃ W : Nat, w = W := ⟨w.toNat, by omega⟩
  have hN : N < s.holds.length := by omega
  have hW : W ≤ s.heat.length := by omega
  have hlaw := marks_law hv N hN W hW
  have hm : marksOf s N W = ((marksSum s [] 0 N W).1, 0) := by rw [marksOf, if_pos h0, Int.toNat_natCast, Int.toNat_natCast, hlaw]
  obtain ⟨Y, hY⟩ : ∃ Y, marksSum s [] 0 N W = Y := ⟨_, rfl⟩
  have hgoY : iterF (marksF s N W) (TL s [] 0) (⟨0, 0⟩, false) = (Y, true) := by rw [iterF_go (fun _ _ => rfl), ← hY]; rfl
  rw [if_pos h0, if_pos h0, hm, hY]
  have hR := ship_at [.cells (shipCells s), .cells [.int .i64 N], .cells [.int .i64 W], .cells [.int .i64 0, .int .i64 0]] s 0
  have hrng := truths_range hR hv [] but0 (by omega) spanU spanU 1 (fun _ => rfl) (fun _ => rfl)
   (fun x y hy k _ => by simp only [spanU, List.mem_cons, List.not_mem_nil, or_false] at hy; subst hy; simp [okBlk, okVs, okV, spanC]) (fun x y hy k _ => by simp only [spanU, List.mem_cons, List.not_mem_nil, or_false] at hy; subst hy; simp [okBlk, okVs, okV, spanC])
   .ret (P := TVok s) (f := marksF s N W)
  simp only [entS] at hrng ⊢
  simp only [shipCells_eq] at hrng
  (repeat (first | simp only [↓QA, QB, Nat.reduceLT, reduceIte, Nat.reduceEqDiff, Nat.reduceAdd, Nat.reduceLeDiff, Nat.reduceMul, Nat.reduceBEq, QXHHdPO, show ((0 : Int) == 0) = true from rfl] | refine rd0 rfl ?_))
  refine callK_in rfl (by simp [a66]) ?_
  (repeat (first | simp only [↓QA, QB, Nat.reduceLT, reduceIte, Nat.reduceEqDiff, Nat.reduceAdd, Nat.reduceLeDiff, Nat.reduceMul, Nat.reduceBEq, QXHHdPO, a66] | refine rd0 rfl ?_))
  refine hrng _ 30 [31, 32] _ _ ?_ ?_ (TL_ok hv [] 0) (⟨0, 0⟩, false) (memo0 s) _ ?_ ?_
  ·try simp only [TrimX, QE, Nat.reduceLT, reduceIte, Nat.reduceEqDiff, Nat.reduceAdd, Nat.reduceLeDiff, Nat.reduceMul, Nat.reduceBEq, QXHHdPO]
  ·refine yields_of hR spanU spanU 1 (fun _ => rfl) (fun _ => rfl) .ret _ _ rfl _ _ ?_
   intro t ht fl tk x M' τ
   simp only [bindPs]
   (repeat (first | simp only [↓QA, QB, Nat.reduceLT, reduceIte, Nat.reduceEqDiff, Nat.reduceAdd, Nat.reduceLeDiff, Nat.reduceMul, Nat.reduceBEq, QXHHdPO] | refine rd0 rfl ?_))
   obtain ⟨R, hRr⟩ : ∃ R, marksF s N W t x = R := ⟨_, rfl⟩
   rw [hRr]
   refine marks_body hR hv N hN W (by omega) 1 2 (fun M τ => by simp [entS, cellsAt]) (fun M τ => by simp [entS, cellsAt]) (by simp) (by simp) t ht fl tk x M' _ τ _ _ ?_ ?_ ?_ ?_ R hRr
   all_goals try simp only [TrimX, QE, Nat.reduceLT, reduceIte, Nat.reduceEqDiff, Nat.reduceAdd, Nat.reduceLeDiff, Nat.reduceMul, Nat.reduceBEq, QXHHdPO]
  ·intro τ h2
   rw [hgoY]
   simp only [spanU, spanC]
   (repeat (first | simp only [↓QA, QB, Nat.reduceLT, reduceIte, Nat.reduceEqDiff, Nat.reduceAdd, Nat.reduceLeDiff, Nat.reduceMul, Nat.reduceBEq, QXHHdPO, encSE] | refine rd0 rfl ?_))
  ·intro τ h2
   rw [hgoY] at h2
   cases h2
 ·have h0' : (marksErr s n w == 0) = false := by simpa using h0
  have hm : marksOf s n w = (⟨0, 0⟩, marksErr s n w) := by rw [marksOf, if_neg h0]
  rw [if_neg h0, if_neg h0, hm]
  (repeat (first | simp only [↓QA, QB, Nat.reduceLT, reduceIte, Nat.reduceEqDiff, Nat.reduceAdd, Nat.reduceLeDiff, Nat.reduceMul, Nat.reduceBEq, QXHHdPO, h0', encSE] | refine rd0 rfl ?_))
end Go.Am.Room
set_option maxRecDepth 4000
namespace Go.Am.Room
def QXHHdPQ := And.intro @encShip_eq (And.intro @shipCells_eq (And.intro @encHold_eq (And.intro @encLine_eq (And.intro @encSpan_eq (And.intro @encCrs_eq (And.intro @S_mapHold (And.intro @S_mapLine (And.intro @List.length_append.{0} (And.intro @sb_0 (And.intro @sb_1 (And.intro @sb_2 (And.intro @sb_3 (And.intro @sb_4 (And.intro @sb_5 (And.intro @sb_6 (And.intro @sb_7 (And.intro @sb_8 (And.intro @sb_9 (And.intro @T_sapp (And.intro @T_sapp0 (And.intro @Nat.add_lt_add_iff_left (And.intro @Nat.lt_add_right_iff_pos (And.intro @Nat.mul_one (And.intro @Int.toNat_natCast (And.intro @C_yield (And.intro @K_yield (And.intro @arr_len (And.intro @arr_take (And.intro @arr_drop (And.intro @arr_cell (And.intro @crsOf_eq (And.intro @S_arr (And.intro @S_crs (And.intro @S_crss (And.intro @crssAV_eq (And.intro @spanC_eq (@tallyC_eq)))))))))))))))))))))))))))))))))))))
theorem V_sla (i k : Nat) (h : k ≤ 7) : vSlicea 7 1 (.ptr i 0) none (some (.int .i64 (k : Int))) = some (.ref i 0 k 1) := by
 simp [vSlicea, vBound, intOf]
 omega
def reachStep (a : (Span × Bool) × (Int × Int)) (v : Int) : (Span × Bool) × (Int × Int) := (if 0 ≤ v then spanStep a.1 v else a.1, tallyStep a.2 (decide (0 ≤ v)))
def idxW (s : Ship) (mo : Int) (f : Nat → Int) : Int := idxOf (fun n => decide (n ≤ mo)) ((List.range (s.heat.length + 1)).map f) 0
def reachF (s : Ship) (h : Nat) (mo : Int) (t : TV) (a : (Span × Bool) × (Int × Int)) : ((Span × Bool) × (Int × Int)) × Bool := ((wayAt t h).foldl (fun a w => reachStep a (idxW s mo (crs s w))) a, true)
def reachU (a : (Span × Bool) × (Int × Int)) : St := [.cells (spanC a.1), .cells (tallyC a.2)]
theorem reach_body {S : Memo → St} {s : Ship} {b c p m N : Nat} (hR : ShipAt S s b c p m N) (hv : Vd s) (h : Nat) (hh : h < s.holds.length) (mo : Int) (i3 i4 i5 : Nat) (h3 : ∀ M τ, cellsAt (S M ++ τ) i3 = some (shipCells s)) (h4 : ∀ M τ, cellsAt (S M ++ τ) i4 = some [.int .i64 h]) (h5 : ∀ M τ, cellsAt (S M ++ τ) i5 = some [.int .i64 mo]) (l3 : i3 < N) (l4 : i4 < N) (l5 : i5 < N) (t : TV) (ht : TVok s t) (fl : Bool) (tk : Option Nat) (x : (Span × Bool) × (Int × Int)) (M : Memo) (lp : ABlk) (τ : St) (e : Env) (G : Option AJump → St → Prop)
  (hix : ∀ (σ : St) (i : Nat) (f : Nat → Int), cellsAt σ i = some (arr7 f) → cellsAt σ i5 = some [.int .i64 mo] → Same T (.func 72 [] []) [.ref i 0 (s.heat.length + 1) 1, .func 73 [] [.ptr i5 0]] σ (.int .i64 (idxW s mo f)))
  (e3 : Env.get e 3 = .ptr i3 0) (e4 : Env.get e 4 = .ptr i4 0) (e5 : Env.get e 5 = .ptr i5 0) (e10 : Env.get e 10 = .ptr N 0) (e11 : Env.get e 11 = .ptr (N + 1) 0) (e13 : Env.get e 13 = .lit (t.2.map (crssAV s)) fl tk) (R : ((Span × Bool) × (Int × Int)) × Bool) (hRr : reachF s h mo t x = R) :
  wp T F21_1 e (S M ++ (reachU x ++ (.cells [.ptr p 0] :: lp :: τ))) (fun j e'' σ'' => (R.2 = true ∧ j = none ∧ ∃ τ', σ'' = S M ++ (reachU R.1 ++ (.cells [.ptr p 0] :: lp :: (τ ++ τ')))) ∨ G j σ'') := by
 obtain ⟨hl, hwl⟩ := ht
 have hnh := hv.nheat
 have hht : h < t.2.length := by omega
 obtain ⟨ws, hws⟩ : ∃ ws, t.2[h] = ws := ⟨_, rfl⟩
 have hw81 := hwl _ (List.getElem_mem hht)
 rw [hws] at hw81
 obtain ⟨g, hg⟩ : ∃ g : (Span × Bool) × (Int × Int) → Way → (Span × Bool) × (Int × Int), (fun a w => reachStep a (idxW s mo (crs s w))) = g := ⟨_, rfl⟩
 have hR1 : R = (ws.foldl g x, true) := by
  rw [← hRr, ← hg, ← hws]
  simp only [reachF, wayAt, List.getElem?_eq_getElem hht, Option.getD_some]
 obtain ⟨Y, hY⟩ : ∃ Y, ws.foldl g x = Y := ⟨_, rfl⟩
 rw [hY] at hR1
 subst hR1
 simp only [shipCells_eq] at h3
 have hsl := fun i => V_sla i (s.heat.length + 1) (by omega)
 have hwh : IntKind.i64.wrap ((s.heat.length : Int) + 1) = ((s.heat.length + 1 : Nat) : Int) := by rw [wrap64 ⟨by omega, by omega⟩]; omega
 simp only [reachU]
 (repeat (first | simp only [↓QA, QB, Nat.reduceLT, reduceIte, Nat.reduceEqDiff, Nat.reduceAdd, Nat.reduceLeDiff, Nat.reduceMul, Nat.reduceBEq, QXHHdPQ, hR.len, hR.base, hR.base0, hR.bset, hR.bset0, hR.at1, hR.at0, F21_1, e3, e4, e5, e10, e11, e13, hht, hws, h4] | refine rd0 rfl ?_))
 refine loopE (S := Nat × (Span × Bool) × (Int × Int)) (0, x) (fun a => a.1 ≤ ws.length ∧ (ws.drop a.1).foldl g a.2 = Y) (fun a => ws.length - a.1)
  (fun a => [(3, .ptr i3 0), (5, .ptr i5 0), (10, .ptr N 0), (11, .ptr (N + 1) 0), (35, crssAV s ws), (36, .int .i64 ws.length), (37, .int .i64 a.1)])
  (fun a => S M ++ (.cells (spanC a.2.1) :: .cells (tallyC a.2.2) :: .cells [.ptr p 0] :: lp :: τ)) ⟨Nat.zero_le _, by simpa using hY⟩ (by simp [spanC, tallyC]) ?_ fun a ha => ?_
 ·try simp only [TrimX, QE, Nat.reduceLT, reduceIte, Nat.reduceEqDiff, Nat.reduceAdd, Nat.reduceLeDiff, Nat.reduceMul, Nat.reduceBEq, QXHHdPQ, hR.len, hR.base, hR.base0, hR.bset, hR.bset0, hR.at1, hR.at0, e3, e4, e5, e10, e11]
  try simp
 ·obtain ⟨i, sp, ta⟩ := a
  obtain ⟨hi, hq⟩ := ha
  simp only at hi hq
  (repeat (first | simp only [↓QA, QB, Nat.reduceLT, reduceIte, Nat.reduceEqDiff, Nat.reduceAdd, Nat.reduceLeDiff, Nat.reduceMul, Nat.reduceBEq, QXHHdPQ, hR.len, hR.base, hR.base0, hR.bset, hR.bset0, hR.at1, hR.at0, L21_2] | refine rd0 rfl ?_))
  refine iteP_intro (fun hd => ?_) fun hd => ?_
  ·have hi1 : i < ws.length := by simpa using hd
   have hw := wrapN hi1 (by omega)
   rw [List.drop_eq_getElem_cons hi1, List.foldl_cons] at hq
   obtain ⟨v, hve⟩ : ∃ v, idxW s mo (crs s ws[i]) = v := ⟨_, rfl⟩
   have hgv : g (sp, ta) ws[i] = reachStep (sp, ta) v := by rw [← hg, ← hve]
   rw [hgv] at hq
   have hid := hix (S M ++ (.cells (spanC sp) :: .cells (tallyC ta) :: .cells [.ptr p 0] :: lp :: (τ ++ [.cells (arr7 (crs s ws[i]))]))) (N + (τ.length + 4)) (crs s ws[i]) (by rw [hR.base]; simp [cellsAt]) (h5 M _)
   rw [hve] at hid
   have hta := fun bb υ => tally_add (S M ++ (.cells (spanC sp) :: .cells (tallyC ta) :: .cells [.ptr p 0] :: lp :: υ)) (N + 1) ta bb (by rw [hR.base]; rfl)
   have hsa := fun v tb υ => span_add (S M ++ (.cells (spanC sp) :: .cells (tallyC tb) :: .cells [.ptr p 0] :: lp :: υ)) N sp v (by rw [hR.base0]; rfl)
   try simp only [↓QA, QB, Nat.reduceLT, reduceIte, Nat.reduceEqDiff, Nat.reduceAdd, Nat.reduceLeDiff, Nat.reduceMul, Nat.reduceBEq, QXHHdPQ, hR.len, hR.base, hR.base0, hR.bset, hR.bset0, hR.at1, hR.at0] at hta hsa hid
   (repeat (first | simp only [↓QA, QB, Nat.reduceLT, reduceIte, Nat.reduceEqDiff, Nat.reduceAdd, Nat.reduceLeDiff, Nat.reduceMul, Nat.reduceBEq, QXHHdPQ, hR.len, hR.base, hR.base0, hR.bset, hR.bset0, hR.at1, hR.at0, hi1, ← arr_zero, h3, h5, hwh, hsl] | refine rd0 rfl ?_))
   refine callK_same hid ?_
   (repeat (first | simp only [↓QA, QB, Nat.reduceLT, reduceIte, Nat.reduceEqDiff, Nat.reduceAdd, Nat.reduceLeDiff, Nat.reduceMul, Nat.reduceBEq, QXHHdPQ, hR.len, hR.base, hR.base0, hR.bset, hR.bset0, hR.at1, hR.at0] | refine rd0 rfl ?_))
   refine callK_do (hta _ _) ?_
   cases h2 : decide (0 ≤ v)
   ·have h2' : ¬ 0 ≤ v := by simpa using h2
    have hst : reachStep (sp, ta) v = (sp, tallyStep ta false) := by simp [reachStep, h2']
    rw [hst] at hq
    (repeat (first | simp only [↓QA, QB, Nat.reduceLT, reduceIte, Nat.reduceEqDiff, Nat.reduceAdd, Nat.reduceLeDiff, Nat.reduceMul, Nat.reduceBEq, QXHHdPQ, hR.len, hR.base, hR.base0, hR.bset, hR.bset0, hR.at1, hR.at0, h2, hw] | refine rd0 rfl ?_))
    refine ⟨(i + 1, sp, tallyStep ta false), ⟨by simp only; omega, hq⟩, by simp only; omega, ?_⟩
    try simp only [TrimX, QE, Nat.reduceLT, reduceIte, Nat.reduceEqDiff, Nat.reduceAdd, Nat.reduceLeDiff, Nat.reduceMul, Nat.reduceBEq, QXHHdPQ, hR.len, hR.base, hR.base0, hR.bset, hR.bset0, hR.at1, hR.at0, hw]
    try simp [okBlk, okVs, okV]
    try omega
   ·have h2' : 0 ≤ v := by simpa using h2
    have hst : reachStep (sp, ta) v = (spanStep sp v, tallyStep ta true) := by simp [reachStep, h2']
    rw [hst] at hq
    have hsa2 := hsa v (tallyStep ta true)
    (repeat (first | simp only [↓QA, QB, Nat.reduceLT, reduceIte, Nat.reduceEqDiff, Nat.reduceAdd, Nat.reduceLeDiff, Nat.reduceMul, Nat.reduceBEq, QXHHdPQ, hR.len, hR.base, hR.base0, hR.bset, hR.bset0, hR.at1, hR.at0, h2, hw] | refine rd0 rfl ?_))
    refine callK_do (hsa2 _) ?_
    (repeat (first | simp only [↓QA, QB, Nat.reduceLT, reduceIte, Nat.reduceEqDiff, Nat.reduceAdd, Nat.reduceLeDiff, Nat.reduceMul, Nat.reduceBEq, QXHHdPQ, hR.len, hR.base, hR.base0, hR.bset, hR.bset0, hR.at1, hR.at0, hw] | refine rd0 rfl ?_))
    refine ⟨(i + 1, spanStep sp v, tallyStep ta true), ⟨by simp only; omega, hq⟩, by simp only; omega, ?_⟩
    try simp only [TrimX, QE, Nat.reduceLT, reduceIte, Nat.reduceEqDiff, Nat.reduceAdd, Nat.reduceLeDiff, Nat.reduceMul, Nat.reduceBEq, QXHHdPQ, hR.len, hR.base, hR.base0, hR.bset, hR.bset0, hR.at1, hR.at0, hw]
    try simp [okBlk, okVs, okV]
    try omega
  ·have hi1 : i = ws.length := by simp at hd; omega
   rw [hi1, List.drop_length] at hq
   simp only [List.foldl_nil] at hq
   subst hq
   (repeat (first | simp only [↓QA, QB, Nat.reduceLT, reduceIte, Nat.reduceEqDiff, Nat.reduceAdd, Nat.reduceLeDiff, Nat.reduceMul, Nat.reduceBEq, QXHHdPQ, hR.len, hR.base, hR.base0, hR.bset, hR.bset0, hR.at1, hR.at0] | refine rd0 rfl ?_))
   exact .inl ⟨[], by simp⟩
end Go.Am.Room
set_option maxRecDepth 4000
namespace Go.Am.Room
def QXHHdPS := And.intro @List.length_append.{0} (And.intro @arr_len (And.intro @Nat.mul_one (And.intro @Int.toNat_natCast (@Nat.zero_add))))
theorem idx_from (p : Int → Bool) (g : Nat → Int) (K : Nat) {k : Nat} (h : k < K) : idxOf p (((List.range K).map g).drop k) k = if p (g k) = true then (k : Int) else idxOf p (((List.range K).map g).drop (k + 1)) (k + 1) := by
 rw [List.drop_eq_getElem_cons (by simpa using h)]
 simp only [idxOf, List.getElem_map, List.getElem_range]
theorem index_ref (σ : St) (f : AV) (id : Nat) (g : Nat → Int) (K : Nat) (hK : K ≤ 7) (hc : cellsAt σ id = some (arr7 g)) (p : Int → Bool) (hk : Keeps σ f) (h : ∀ x, Same T f [.int .i64 x] σ (.bool (p x))) :
  Same T (.func 72 [] []) [.ref id 0 K 1, f] σ (.int .i64 (idxOf p ((List.range K).map g) 0)) := by
 refine same_fn (af := a72) rfl (by simp [a72]) ?_
 have hk0 := hk.nil
 have hid := cells_lt hc
 have hrl : ∀ d (τ : St), snapM (σ ++ τ) σ.length d (.ref id 0 K 1) = some (.ref id 0 K 1) := fun d τ => S_refK hid
 have hrl0 : ∀ d, snapM σ σ.length d (.ref id 0 K 1) = some (.ref id 0 K 1) := fun d => S_refK hid
 obtain ⟨R, hR⟩ : ∃ R, idxOf p ((List.range K).map g) 0 = R := ⟨_, rfl⟩
 rw [hR]
 (repeat (first | simp only [↓QA, QB, Nat.reduceLT, reduceIte, Nat.reduceEqDiff, Nat.reduceAdd, Nat.reduceLeDiff, Nat.reduceMul, Nat.reduceBEq, QXHHdPS, a72] | refine rd0 rfl ?_))
 refine loopE (S := Nat) 0 (fun k => k ≤ K ∧ idxOf p (((List.range K).map g).drop k) k = R) (fun k => K - k) (fun k => [(0, .ref id 0 K 1), (1, f), (7, .int .i64 K), (8, .int .i64 k)]) (fun _ => σ) ⟨Nat.zero_le _, by simpa using hR⟩ rfl ?_ fun k hk1 => ?_
 ·try simp only [TrimX, QE, Nat.reduceLT, reduceIte, Nat.reduceEqDiff, Nat.reduceAdd, Nat.reduceLeDiff, Nat.reduceMul, Nat.reduceBEq, QXHHdPS]
  try simp
 ·obtain ⟨hkl, hi⟩ := hk1
  (repeat (first | simp only [↓QA, QB, Nat.reduceLT, reduceIte, Nat.reduceEqDiff, Nat.reduceAdd, Nat.reduceLeDiff, Nat.reduceMul, Nat.reduceBEq, QXHHdPS, L72_0] | refine rd0 rfl ?_))
  refine iteP_intro (fun hd => ?_) fun hd => ?_
  ·have hlt : k < K := by simpa using hd
   rw [idx_from p g K hlt] at hi
   have hw := wrapN hlt (by omega)
   have i1 : (0 : Int) ≤ (k : Int) ∧ (k : Int) < ((K : Nat) : Int) ∧ 1 = 1 := ⟨by omega, by omega, rfl⟩
   have hg := arr_get g k (by omega)
   (repeat (first | simp only [↓QA, QB, Nat.reduceLT, reduceIte, Nat.reduceEqDiff, Nat.reduceAdd, Nat.reduceLeDiff, Nat.reduceMul, Nat.reduceBEq, QXHHdPS, i1, hc, hg] | refine rd0 rfl ?_))
   refine callK_same (h (g k)) ?_
   (repeat (first | simp only [↓QA, QB, Nat.reduceLT, reduceIte, Nat.reduceEqDiff, Nat.reduceAdd, Nat.reduceLeDiff, Nat.reduceMul, Nat.reduceBEq, QXHHdPS] | refine rd0 rfl ?_))
   cases hp : p (g k)
   ·rw [hp] at hi
    (repeat (first | simp only [↓QA, QB, Nat.reduceLT, reduceIte, Nat.reduceEqDiff, Nat.reduceAdd, Nat.reduceLeDiff, Nat.reduceMul, Nat.reduceBEq, QXHHdPS, hw] | refine rd0 rfl ?_))
    refine ⟨k + 1, ⟨by omega, by simpa using hi⟩, by omega, ?_⟩
    try simp only [TrimX, QE, Nat.reduceLT, reduceIte, Nat.reduceEqDiff, Nat.reduceAdd, Nat.reduceLeDiff, Nat.reduceMul, Nat.reduceBEq, QXHHdPS, hw, hk0, hrl, hrl0, Nat.le_refl]
   ·rw [hp] at hi
    (repeat (first | simp only [↓QA, QB, Nat.reduceLT, reduceIte, Nat.reduceEqDiff, Nat.reduceAdd, Nat.reduceLeDiff, Nat.reduceMul, Nat.reduceBEq, QXHHdPS] | refine rd0 rfl ?_))
    refine baseR [] (by first | rfl | simp) ?_
    rw [← hi]
    try simp only [QS, QC, Nat.reduceLT, reduceIte, Nat.reduceEqDiff, Nat.reduceAdd, Nat.reduceLeDiff, Nat.reduceMul, Nat.reduceBEq, QXHHdPS]
  ·have hlt : k = K := by simp at hd; omega
   rw [hlt, List.drop_of_length_le (by simp)] at hi
   simp only [idxOf] at hi
   (repeat (first | simp only [↓QA, QB, Nat.reduceLT, reduceIte, Nat.reduceEqDiff, Nat.reduceAdd, Nat.reduceLeDiff, Nat.reduceMul, Nat.reduceBEq, QXHHdPS] | refine rd0 rfl ?_))
   refine baseR [] (by first | rfl | simp) ?_
   rw [← hi]
   try simp only [QS, QC, Nat.reduceLT, reduceIte, Nat.reduceEqDiff, Nat.reduceAdd, Nat.reduceLeDiff, Nat.reduceMul, Nat.reduceBEq, QXHHdPS]
theorem idx_reach (mo : Int) : ∀ (l : List Int) (k : Nat), idxOf (fun n => decide (n ≤ mo)) l k = reachedL mo l k
 | [], k => rfl
 | x :: xs, k => by simp [idxOf, reachedL, idx_reach mo xs (k + 1)]
theorem idxW_ok (s : Ship) (hv : Vd s) (mo : Int) (i5 : Nat) (σ : St) (i : Nat) (f : Nat → Int) (h1 : cellsAt σ i = some (arr7 f)) (h5 : cellsAt σ i5 = some [.int .i64 mo]) :
  Same T (.func 72 [] []) [.ref i 0 (s.heat.length + 1) 1, .func 73 [] [.ptr i5 0]] σ (.int .i64 (idxW s mo f)) := by
 have hnh := hv.nheat
 have hl := cells_lt h5
 exact index_ref σ _ i f (s.heat.length + 1) (by omega) h1 _ (fun τ => by try simp only [QS, QC, Nat.reduceLT, reduceIte, Nat.reduceEqDiff, Nat.reduceAdd, Nat.reduceLeDiff, Nat.reduceMul, Nat.reduceBEq, QXHHdPS, hl]) fun x => reach1_ok σ i5 mo x h5
def reachSum (s : Ship) (bl : List Int) (c h : Nat) (mo : Int) : (Span × Bool) × (Int × Int) := (TL s bl c).foldl (fun a t => (reachF s h mo t a).1) ((⟨0, 0⟩, false), (0, 0))
theorem fold_reach : ∀ (xs : List Int) (a : Span × Bool) (b : Int × Int), xs.foldl reachStep (a, b) = ((xs.filter fun w => decide (0 ≤ w)).foldl spanStep a, (xs.map fun w => decide (0 ≤ w)).foldl tallyStep b)
 | [], a, b => rfl
 | x :: xs, a, b => by
  simp only [List.foldl_cons, reachStep, List.filter_cons, List.map_cons]
  by_cases h : 0 ≤ x
  ·simp only [h, if_true, decide_true, List.foldl_cons]; exact fold_reach xs _ _
  ·simp only [h, if_false, decide_false]; exact fold_reach xs _ _
theorem reach_law {s : Ship} (hv : Vd s) (h : Nat) (hh : h < s.holds.length) (mo : Int) :
  (reachSum s [] 0 h mo).1.1 = spanL (((coursesIn s (truths s []) h []).map fun c => reached s c mo).filter fun w => decide (0 ≤ w)) ∧
  howI (reachSum s [] 0 h mo).2 = settled (((coursesIn s (truths s []) h []).map fun c => reached s c mo).filter fun w => decide (0 ≤ w)).length (coursesIn s (truths s []) h []).length := by
 have hwc := ways_courses hv [] 0 (by omega) h hh (fun w => idxW s mo (crs s w)) (fun c => reached s c mo) (fun m c2 h0 h1 => by
  rw [idxW, idx_reach]
  have : (List.range (s.heat.length + 1)).map (crs s ⟨h, m, c2⟩) = (List.range (s.heat.length + 1)).map (marksAt s h m c2) := by
   refine List.map_congr_left fun w hw => ?_
   have := List.mem_range.1 hw
   simp only [crs, Int.toNat_natCast]
   rw [Nat.min_eq_left (by omega)]
  rw [this]
  exact reached_eq s _ mo)
 rw [lst_zero] at hwc
 have hl := courses_len hv [] h []
 simp only [reachSum, reachF]
 rw [fold_ways, ← List.foldl_map (f := fun w => idxW s mo (crs s w)) (g := reachStep), hwc, fold_reach]
 refine ⟨foldS_false _, ?_⟩
 have := fold_tally (((coursesIn s (truths s []) h []).map fun c => reached s c mo).map fun w => decide (0 ≤ w)) 0 0 (by rw [List.length_map, List.length_map]; omega) (Nat.le_refl _)
 simp only [Nat.zero_add, Int.natCast_zero] at this
 simp only
 rw [this, how_settled, List.filter_map, List.length_map, List.length_map, List.length_map]
 congr 2
end Go.Am.Room
set_option maxRecDepth 4000
namespace Go.Am.Room
def QXHHdPT := And.intro @encShip_eq (And.intro @shipCells_eq (And.intro @encHold_eq (And.intro @encLine_eq (And.intro @encSpan_eq (And.intro @encCrs_eq (And.intro @S_mapHold (And.intro @S_mapLine (And.intro @List.length_append.{0} (And.intro @T_sapp (And.intro @T_sapp0 (And.intro @Nat.add_lt_add_iff_left (And.intro @Nat.lt_add_right_iff_pos (And.intro @Nat.mul_one (And.intro @Int.toNat_natCast (And.intro @C_yield (@K_yield))))))))))))))))
theorem preaches_ok (s : Ship) (n mo : Int) (hf : Fits s) : Pure T 21 [encShip s, .int .i64 n, .int .i64 mo] (encSNE (reachesOf s n mo)) := by
 refine pure_fn (af := a21) rfl (by simp [a21]) dd ?_
 (repeat (first | simp only [↓QA, QB, Nat.reduceLT, reduceIte, Nat.reduceEqDiff, Nat.reduceAdd, Nat.reduceLeDiff, Nat.reduceMul, Nat.reduceBEq, QXHHdPT, a21] | refine rd0 rfl ?_))
 refine callK_do (enter_run _ s n mo 80 hf) ?_
 have hE : enterE s n mo 80 = reachesErr s n mo := rfl
 simp only [enterV, enterSt, hE]
 by_cases h0 : reachesErr s n mo = 0
 ·obtain ⟨hw, hne⟩ := errKnown_ok h0
  obtain ⟨ha, hw0, hw1⟩ := errWithin_ok hw
  obtain ⟨hv, hn0, hn1⟩ := errAsk_ok ha
  have hnh := hv.nheat
  obtain ⟨N, rfl⟩ : ∃ N : Nat, n = N := ⟨n.toNat, by omega⟩
  have hN : N < s.holds.length := by omega
  obtain ⟨hlaw1, hlaw2⟩ := reach_law hv N hN mo
  have hm : reachesOf s N mo = ((reachSum s [] 0 N mo).1.1, howI (reachSum s [] 0 N mo).2, 0) := by rw [reachesOf, if_pos h0, Int.toNat_natCast, hlaw1, hlaw2]
  obtain ⟨Y, hY⟩ : ∃ Y, reachSum s [] 0 N mo = Y := ⟨_, rfl⟩
  have hgoY : iterF (reachF s N mo) (TL s [] 0) ((⟨0, 0⟩, false), (0, 0)) = (Y, true) := by rw [iterF_go (fun _ _ => rfl), ← hY]; rfl
  rw [if_pos h0, if_pos h0, hm, hY]
  have hR := ship_at [.cells (shipCells s), .cells [.int .i64 N], .cells [.int .i64 mo], .cells [.int .i64 0, .int .i64 0]] s 0
  have hok : ∀ (x : (Span × Bool) × (Int × Int)) (y : ABlk), y ∈ reachU x → ∀ k, 4 + 4 ≤ k → okBlk k y := by
   intro x y hy k _
   simp only [reachU, List.mem_cons, List.not_mem_nil, or_false] at hy
   rcases hy with rfl | rfl <;> simp [okBlk, okVs, okV, spanC, tallyC]
  have hrng := truths_range hR hv [] but0 (by omega) reachU reachU 2 (fun _ => rfl) (fun _ => rfl) hok hok .ret (P := TVok s) (f := reachF s N mo)
  simp only [entS] at hrng ⊢
  simp only [shipCells_eq] at hrng
  (repeat (first | simp only [↓QA, QB, Nat.reduceLT, reduceIte, Nat.reduceEqDiff, Nat.reduceAdd, Nat.reduceLeDiff, Nat.reduceMul, Nat.reduceBEq, QXHHdPT, show ((0 : Int) == 0) = true from rfl] | refine rd0 rfl ?_))
  refine callK_in rfl (by simp [a66]) ?_
  (repeat (first | simp only [↓QA, QB, Nat.reduceLT, reduceIte, Nat.reduceEqDiff, Nat.reduceAdd, Nat.reduceLeDiff, Nat.reduceMul, Nat.reduceBEq, QXHHdPT, a66] | refine rd0 rfl ?_))
  refine hrng _ 29 [30, 31] _ _ ?_ ?_ (TL_ok hv [] 0) ((⟨0, 0⟩, false), (0, 0)) (memo0 s) _ ?_ ?_
  ·try simp only [TrimX, QE, Nat.reduceLT, reduceIte, Nat.reduceEqDiff, Nat.reduceAdd, Nat.reduceLeDiff, Nat.reduceMul, Nat.reduceBEq, QXHHdPT]
  ·refine yields_of hR reachU reachU 2 (fun _ => rfl) (fun _ => rfl) .ret _ _ rfl _ _ ?_
   intro t ht fl tk x M' τ
   simp only [bindPs]
   (repeat (first | simp only [↓QA, QB, Nat.reduceLT, reduceIte, Nat.reduceEqDiff, Nat.reduceAdd, Nat.reduceLeDiff, Nat.reduceMul, Nat.reduceBEq, QXHHdPT] | refine rd0 rfl ?_))
   obtain ⟨R, hRr⟩ : ∃ R, reachF s N mo t x = R := ⟨_, rfl⟩
   rw [hRr]
   refine reach_body hR hv N hN mo 0 1 2 (fun M τ => by simp [entS, cellsAt]) (fun M τ => by simp [entS, cellsAt]) (fun M τ => by simp [entS, cellsAt]) (by simp) (by simp) (by simp) t ht fl tk x M' _ τ _ _ (idxW_ok s hv mo 2) ?_ ?_ ?_ ?_ ?_ ?_ R hRr
   all_goals try simp only [TrimX, QE, Nat.reduceLT, reduceIte, Nat.reduceEqDiff, Nat.reduceAdd, Nat.reduceLeDiff, Nat.reduceMul, Nat.reduceBEq, QXHHdPT]
  ·intro τ h2
   rw [hgoY]
   simp only [reachU, spanC]
   (repeat (first | simp only [↓QA, QB, Nat.reduceLT, reduceIte, Nat.reduceEqDiff, Nat.reduceAdd, Nat.reduceLeDiff, Nat.reduceMul, Nat.reduceBEq, QXHHdPT, tallyC_eq] | refine rd0 rfl ?_))
   have hh := how_ok Y.2
   rw [tallyC_eq] at hh
   ((first | refine callK_d (hh) rfl dd ?_ | refine callD_d (hh) rfl dd ?_); (repeat (first | simp only [↓QA, QB, Nat.reduceLT, reduceIte, Nat.reduceEqDiff, Nat.reduceAdd, Nat.reduceLeDiff, Nat.reduceMul, Nat.reduceBEq, QXHHdPT, encSNE] | refine rd0 rfl ?_)))
  ·intro τ h2
   rw [hgoY] at h2
   cases h2
 ·have h0' : (reachesErr s n mo == 0) = false := by simpa using h0
  have hm : reachesOf s n mo = (⟨0, 0⟩, 0, reachesErr s n mo) := by rw [reachesOf, if_neg h0]
  rw [if_neg h0, if_neg h0, hm]
  (repeat (first | simp only [↓QA, QB, Nat.reduceLT, reduceIte, Nat.reduceEqDiff, Nat.reduceAdd, Nat.reduceLeDiff, Nat.reduceMul, Nat.reduceBEq, QXHHdPT, h0', encSNE] | refine rd0 rfl ?_))
end Go.Am.Room
set_option maxRecDepth 4000
namespace Go.Am.Room
def QXHCmp := And.intro @Int.toNat_natCast (@List.length_append.{0})
theorem isnan_ok (n : Int) : Pure T 107 [.int .i64 n] (.bool false) := by
 refine pure_fn (af := a107) rfl (by simp [a107]) dd ?_
 (repeat (first | simp only [↓QA, QB, Nat.reduceLT, reduceIte, Nat.reduceEqDiff, Nat.reduceAdd, Nat.reduceLeDiff, Nat.reduceMul, Nat.reduceBEq, QXHCmp, a107] | refine rd0 rfl ?_))
 try simp
def cmpI (a b : Int) : Int := if a < b then -1 else if b < a then 1 else 0
theorem cmp_ok (a b : Int) : Pure T 102 [.int .i64 a, .int .i64 b] (.int .i64 (cmpI a b)) := by
 refine pure_fn (af := a102) rfl (by simp [a102]) dd ?_
 (repeat (first | simp only [↓QA, QB, Nat.reduceLT, reduceIte, Nat.reduceEqDiff, Nat.reduceAdd, Nat.reduceLeDiff, Nat.reduceMul, Nat.reduceBEq, QXHCmp, a102] | refine rd0 rfl ?_))
 ((first | refine callK_d (isnan_ok a) rfl dd ?_ | refine callD_d (isnan_ok a) rfl dd ?_); (repeat (first | simp only [↓QA, QB, Nat.reduceLT, reduceIte, Nat.reduceEqDiff, Nat.reduceAdd, Nat.reduceLeDiff, Nat.reduceMul, Nat.reduceBEq, QXHCmp] | refine rd0 rfl ?_)))
 ((first | refine callK_d (isnan_ok b) rfl dd ?_ | refine callD_d (isnan_ok b) rfl dd ?_); (repeat (first | simp only [↓QA, QB, Nat.reduceLT, reduceIte, Nat.reduceEqDiff, Nat.reduceAdd, Nat.reduceLeDiff, Nat.reduceMul, Nat.reduceBEq, QXHCmp] | refine rd0 rfl ?_)))
 cases h1 : decide (a < b)
 ·have h1' : ¬ a < b := by simpa using h1
  (repeat (first | simp only [↓QA, QB, Nat.reduceLT, reduceIte, Nat.reduceEqDiff, Nat.reduceAdd, Nat.reduceLeDiff, Nat.reduceMul, Nat.reduceBEq, QXHCmp] | refine rd0 rfl ?_))
  cases h2 : decide (b < a)
  ·have h2' : ¬ b < a := by simpa using h2
   (repeat (first | simp only [↓QA, QB, Nat.reduceLT, reduceIte, Nat.reduceEqDiff, Nat.reduceAdd, Nat.reduceLeDiff, Nat.reduceMul, Nat.reduceBEq, QXHCmp] | refine rd0 rfl ?_))
   simp [cmpI, h1', h2']
  ·have h2' : b < a := by simpa using h2
   (repeat (first | simp only [↓QA, QB, Nat.reduceLT, reduceIte, Nat.reduceEqDiff, Nat.reduceAdd, Nat.reduceLeDiff, Nat.reduceMul, Nat.reduceBEq, QXHCmp] | refine rd0 rfl ?_))
   simp [cmpI, h1', h2']
 ·have h1' : a < b := by simpa using h1
  (repeat (first | simp only [↓QA, QB, Nat.reduceLT, reduceIte, Nat.reduceEqDiff, Nat.reduceAdd, Nat.reduceLeDiff, Nat.reduceMul, Nat.reduceBEq, QXHCmp] | refine rd0 rfl ?_))
  simp [cmpI, h1']
def cmpL : List Int → List Int → Int
 | [], [] => 0
 | [], _ :: _ => -1
 | _ :: _, [] => 1
 | a :: az, b :: bs => if cmpI a b = 0 then cmpL az bs else cmpI a b
theorem cmpL_less : ∀ a b : List Int, decide (0 < cmpL a b) = less b a
 | [], [] => rfl
 | [], b :: bs => rfl
 | a :: az, [] => rfl
 | a :: az, b :: bs => by
  have ih := cmpL_less az bs
  simp only [cmpL, less, cmpI]
  by_cases h1 : a < b
  ·simp [h1, show ¬ b = a by omega]; omega
  ·by_cases h2 : b < a
   ·simp [h1, h2, show ¬ b = a by omega]
   ·have : b = a := by omega
    subst this
    simp [ih]
theorem scmp_ok (a b : List Int) (ha : a.length < 9223372036854775808) (hb : b.length < 9223372036854775808) : Pure T 97 [ints a, ints b] (.int .i64 (cmpL a b)) := by
 refine pure_fn (af := a97) rfl (by simp [a97]) dd ?_
 (repeat (first | simp only [↓QA, QB, Nat.reduceLT, reduceIte, Nat.reduceEqDiff, Nat.reduceAdd, Nat.reduceLeDiff, Nat.reduceMul, Nat.reduceBEq, QXHCmp, a97] | refine rd0 rfl ?_))
 refine loopE (S := Nat) 0 (fun k => k ≤ a.length ∧ k ≤ b.length ∧ cmpL (a.drop k) (b.drop k) = cmpL a b) (fun k => a.length - k) (fun k => [(0, ints a), (1, ints b), (9, ints a), (10, .int .i64 a.length), (11, .int .i64 k)]) (fun _ => []) ⟨by simp, by simp, by simp⟩ rfl ?_ fun k hk => ?_
 ·try simp only [TrimX, QE, Nat.reduceLT, reduceIte, Nat.reduceEqDiff, Nat.reduceAdd, Nat.reduceLeDiff, Nat.reduceMul, Nat.reduceBEq, QXHCmp]
  try simp
 ·obtain ⟨hk, hkb, hq⟩ := hk
  (repeat (first | simp only [↓QA, QB, Nat.reduceLT, reduceIte, Nat.reduceEqDiff, Nat.reduceAdd, Nat.reduceLeDiff, Nat.reduceMul, Nat.reduceBEq, QXHCmp, L97_0] | refine rd0 rfl ?_))
  refine iteP_intro (fun h => ?_) fun h => ?_
  ·have hk1 : k < a.length := by simpa using h
   have hw := wrapN hk1 ha
   rw [List.drop_eq_getElem_cons hk1] at hq
   (repeat (first | simp only [↓QA, QB, Nat.reduceLT, reduceIte, Nat.reduceEqDiff, Nat.reduceAdd, Nat.reduceLeDiff, Nat.reduceMul, Nat.reduceBEq, QXHCmp, hk1] | refine rd0 rfl ?_))
   refine iteP_intro (fun h2 => ?_) fun h2 => ?_
   ·have hk2 : k = b.length := by simp at h2; omega
    have hd : b.drop k = [] := by rw [hk2, List.drop_length]
    rw [hd] at hq
    simp only [cmpL] at hq
    (repeat (first | simp only [↓QA, QB, Nat.reduceLT, reduceIte, Nat.reduceEqDiff, Nat.reduceAdd, Nat.reduceLeDiff, Nat.reduceMul, Nat.reduceBEq, QXHCmp, hk1, ← hq] | refine rd0 rfl ?_))
   ·have hk2 : k < b.length := by simp at h2; omega
    rw [List.drop_eq_getElem_cons hk2] at hq
    simp only [cmpL] at hq
    (repeat (first | simp only [↓QA, QB, Nat.reduceLT, reduceIte, Nat.reduceEqDiff, Nat.reduceAdd, Nat.reduceLeDiff, Nat.reduceMul, Nat.reduceBEq, QXHCmp, hk1, hk2] | refine rd0 rfl ?_))
    ((first | refine callK_d (cmp_ok a[k] b[k]) rfl dd ?_ | refine callD_d (cmp_ok a[k] b[k]) rfl dd ?_); (repeat (first | simp only [↓QA, QB, Nat.reduceLT, reduceIte, Nat.reduceEqDiff, Nat.reduceAdd, Nat.reduceLeDiff, Nat.reduceMul, Nat.reduceBEq, QXHCmp, hk1, hk2] | refine rd0 rfl ?_)))
    cases h3 : (cmpI a[k] b[k] == 0)
    ·have h3' : cmpI a[k] b[k] ≠ 0 := by simpa using h3
     rw [if_neg h3'] at hq
     (repeat (first | simp only [↓QA, QB, Nat.reduceLT, reduceIte, Nat.reduceEqDiff, Nat.reduceAdd, Nat.reduceLeDiff, Nat.reduceMul, Nat.reduceBEq, QXHCmp, h3, hk1, hk2, hq] | refine rd0 rfl ?_))
    ·have h3' : cmpI a[k] b[k] = 0 := by simpa using h3
     rw [if_pos h3'] at hq
     (repeat (first | simp only [↓QA, QB, Nat.reduceLT, reduceIte, Nat.reduceEqDiff, Nat.reduceAdd, Nat.reduceLeDiff, Nat.reduceMul, Nat.reduceBEq, QXHCmp, h3, hk1, hk2] | refine rd0 rfl ?_))
     refine ⟨k + 1, ⟨by omega, by omega, hq⟩, by omega, ?_⟩
     try simp only [TrimX, QE, Nat.reduceLT, reduceIte, Nat.reduceEqDiff, Nat.reduceAdd, Nat.reduceLeDiff, Nat.reduceMul, Nat.reduceBEq, QXHCmp, hw]
  ·have hk1 : k = a.length := by simp at h; omega
   rw [hk1, List.drop_length] at hq
   (repeat (first | simp only [↓QA, QB, Nat.reduceLT, reduceIte, Nat.reduceEqDiff, Nat.reduceAdd, Nat.reduceLeDiff, Nat.reduceMul, Nat.reduceBEq, QXHCmp] | refine rd0 rfl ?_))
   refine iteP_intro (fun h2 => ?_) fun h2 => ?_
   ·have hk2 : a.length < b.length := by simpa using h2
    rw [List.drop_eq_getElem_cons hk2] at hq
    (repeat (first | simp only [↓QA, QB, Nat.reduceLT, reduceIte, Nat.reduceEqDiff, Nat.reduceAdd, Nat.reduceLeDiff, Nat.reduceMul, Nat.reduceBEq, QXHCmp, ← hq, cmpL] | refine rd0 rfl ?_))
   ·have hk2 : a.length = b.length := by simp at h2; omega
    rw [hk2, List.drop_length] at hq
    (repeat (first | simp only [↓QA, QB, Nat.reduceLT, reduceIte, Nat.reduceEqDiff, Nat.reduceAdd, Nat.reduceLeDiff, Nat.reduceMul, Nat.reduceBEq, QXHCmp, ← hq, cmpL] | refine rd0 rfl ?_))
theorem list_ok (s n : Nat) (hs : s < 9223372036854775808) (hn : n ≤ 60) : Pure T 77 [.int .i64 s, .int .i64 n] (ints (lst n s)) := by
 refine pure_fn (af := a77) rfl (by simp [a77]) dd ?_
 (repeat (first | simp only [↓QA, QB, Nat.reduceLT, reduceIte, Nat.reduceEqDiff, Nat.reduceAdd, Nat.reduceLeDiff, Nat.reduceMul, Nat.reduceBEq, QXHCmp, a77] | refine rd0 rfl ?_))
 obtain ⟨R, hRR⟩ : ∃ R, lst n s = R := ⟨_, rfl⟩
 have hRR' : [] ++ (numbers ((0 : Nat) : Int) (n - 0)).filter (fun i => decide (s / 2 ^ i.toNat % 2 = 1)) = R := hRR
 rw [hRR]
 refine ghostK 4 1 [] rfl ?_
 refine loopE (S := Nat × List Int × Bool) (0, [], false) (fun x => x.1 ≤ n ∧ x.2.1.length ≤ x.1 ∧ x.2.1 ++ (numbers (x.1 : Int) (n - x.1)).filter (fun i => decide (s / 2 ^ i.toNat % 2 = 1)) = R) (fun x => n - x.1)
  (fun x => [(0, .int .i64 s), (4, .lit (x.2.1.map (.int .i64)) false (some 0)), (6, .int .i64 n), (7, .int .i64 x.1)]) (fun x => [.tok 1 x.2.1.length x.2.2]) ⟨by simp, by simp, hRR'⟩ rfl ?_ fun x hx => ?_
 ·try simp only [TrimX, QE, Nat.reduceLT, reduceIte, Nat.reduceEqDiff, Nat.reduceAdd, Nat.reduceLeDiff, Nat.reduceMul, Nat.reduceBEq, QXHCmp]
  try simp
 ·obtain ⟨k, acc, ex⟩ := x
  obtain ⟨hk, hal, hacc⟩ := hx
  simp only at hk hal hacc
  (repeat (first | simp only [↓QA, QB, Nat.reduceLT, reduceIte, Nat.reduceEqDiff, Nat.reduceAdd, Nat.reduceLeDiff, Nat.reduceMul, Nat.reduceBEq, QXHCmp, L77_0] | refine rd0 rfl ?_))
  refine iteP_intro (fun h => ?_) fun h => ?_
  ·have hk1 : k < n := by simpa using h
   have hw := wrapN hk1 (by omega)
   rw [show n - k = (n - (k + 1)) + 1 by omega] at hacc
   simp only [numbers, List.filter_cons, Int.toNat_natCast] at hacc
   rw [show ((k : Int) + 1) = ((k + 1 : Nat) : Int) by omega] at hacc
   have vs := V_shr s k (by omega)
   have va := V_and1 (s / 2 ^ k) (Nat.lt_of_le_of_lt (Nat.div_le_self _ _) hs)
   have hbit : (((s / 2 ^ k % 2 : Nat) : Int) == 1) = decide (s / 2 ^ k % 2 = 1) := by
    generalize s / 2 ^ k % 2 = q
    rw [Bool.eq_iff_iff, beq_iff_eq, decide_eq_true_eq]; omega
   (repeat (first | simp only [↓QA, QB, Nat.reduceLT, reduceIte, Nat.reduceEqDiff, Nat.reduceAdd, Nat.reduceLeDiff, Nat.reduceMul, Nat.reduceBEq, QXHCmp, vs, va, hbit] | refine rd0 rfl ?_))
   cases hb : decide (s / 2 ^ k % 2 = 1)
   ·simp only [hb, Bool.false_eq_true, if_false] at hacc
    (repeat (first | simp only [↓QA, QB, Nat.reduceLT, reduceIte, Nat.reduceEqDiff, Nat.reduceAdd, Nat.reduceLeDiff, Nat.reduceMul, Nat.reduceBEq, QXHCmp, hw] | refine rd0 rfl ?_))
    refine ⟨(k + 1, acc, ex), ⟨by simp only; omega, by simp only; omega, by simpa using hacc⟩, by simp only; omega, ?_⟩
    try simp only [TrimX, QE, Nat.reduceLT, reduceIte, Nat.reduceEqDiff, Nat.reduceAdd, Nat.reduceLeDiff, Nat.reduceMul, Nat.reduceBEq, QXHCmp, hw, S_mapI]
    try simp [okBlk]
   ·simp only [hb, if_true] at hacc
    have hap := fun (τ : St) => append_intT (σ := .tok 1 acc.length ex :: τ) (l := acc) (a := (k : Int)) (ex := ex) (t := 0) (by omega) rfl
    (repeat (first | simp only [↓QA, QB, Nat.reduceLT, reduceIte, Nat.reduceEqDiff, Nat.reduceAdd, Nat.reduceLeDiff, Nat.reduceMul, Nat.reduceBEq, QXHCmp, hw, hap] | refine rd0 rfl ?_))
    refine ⟨(k + 1, acc ++ [(k : Int)], true), ⟨by simp only; omega, by simp only [List.length_append, List.length_cons, List.length_nil]; omega, by
     rw [← hacc]; simp⟩, by simp only; omega, ?_⟩
    try simp only [TrimX, QE, Nat.reduceLT, reduceIte, Nat.reduceEqDiff, Nat.reduceAdd, Nat.reduceLeDiff, Nat.reduceMul, Nat.reduceBEq, QXHCmp, hw, S_mapI, List.map_append, List.map_cons, List.map_nil]
    try simp [okBlk]
  ·have hk1 : k = n := by simp at h; omega
   rw [hk1] at hacc
   simp only [Nat.sub_self, numbers, List.filter_nil, List.append_nil] at hacc
   (repeat (first | simp only [↓QA, QB, Nat.reduceLT, reduceIte, Nat.reduceEqDiff, Nat.reduceAdd, Nat.reduceLeDiff, Nat.reduceMul, Nat.reduceBEq, QXHCmp, hacc, ints] | refine rd0 rfl ?_))
end Go.Am.Room
set_option maxRecDepth 4000
namespace Go.Am.Room
def QXHFewest := And.intro @Int.toNat_natCast (And.intro @List.length_append.{0} (@S_mapI))
structure Vary {Y : Type} (S : Y → St) (N : Nat) : Prop where
 len : ∀ y, (S y).length = N
 keep : ∀ y z i, i < N → blkKept (S y) (S z) N i
 eqS : ∀ k, N ≤ k → ∀ y z a b c, EqS k (S y ++ a) (S z ++ b) (S z ++ c) = EqS k a b c
theorem does_vary {Y : Type} {S : Y → St} {N : Nat} (hV : Vary S N) {f : FuncId} {first cap args : List AV} {af : AFunc} {v : AV} {y z : Y} (hf : T f = some af) (hn : (first ++ args ++ cap).length ≤ af.ntmps)
  (h : wp T af.body (argsEnv 0 (first ++ args ++ cap)) (S y) (fun j e σ1 => (j = none ∨ j = some .ret) ∧ ∃ v0 τ, resOf af.results e σ1 = some v0 ∧ σ1 = S z ++ τ ∧ snapM σ1 N 20 v0 = some v)) : Does T (.func f first cap) args (S y) v (S z) := by
 refine .callf (.call hf hn (run_wp h fun o ho => ho) fun o ho => ?_)
 obtain ⟨hj, v0, τ, hres, hσ, h4⟩ := ho
 refine ⟨hj, v0, hres, ?_⟩
 unfold snapM at h4
 cases hs : snap o.σ N 20 v0 with
 | none => rw [hs] at h4; cases h4
 | some v1 =>
  rw [hs] at h4
  simp at h4
  refine .inr ⟨20, v1, v, by rw [hV.len]; exact hs, .inr h4.symm, fun i hi => ?_, ?_, rfl, ?_⟩
  ·rw [hσ]
   rw [hV.len] at hi ⊢
   have := hV.keep y z i hi
   have e2 : (S z ++ τ)[i]? = (S z)[i]? := List.getElem?_append_left (by rw [hV.len]; exact hi)
   simp only [blkKept, e2] at this ⊢
   exact this
  ·rw [hσ, List.length_append, hV.len, hV.len]; omega
  ·rw [hσ, hV.len, ← hV.len z, List.take_left]
def pruned : Option (List Int) → List Int → Bool
 | none, _ => false
 | some b, l => fewer b l
def fewY {Y : Type} (q : List Int → Bool) (n : Nat) (nxt : Nat → Y → Y) : Nat → Nat → Option (List Int) → Y → Y
 | 0, _, _, y => y
 | k + 1, s, o, y => fewY q n nxt k (s + 1) (fewStep q o (lst n s)) (if pruned o (lst n s) = true then y else nxt s y)
def fewV (o : Option (List Int)) : AV := .tuple [ints (o.getD []), .bool o.isSome]
theorem fewest_does {Y : Type} {S : Y → St} {N : Nat} (hV : Vary S N) (f : AV) (hk : ∀ y, Keeps (S y) f) (n : Nat) (hn : n ≤ 6) (q : List Int → Bool) (nxt : Nat → Y → Y)
  (hf : ∀ (set : Nat) (y : Y), set < 2 ^ n → Does T f [.int .i64 set] (S y) (.bool (q (lst n set))) (S (nxt set y))) (y0 : Y) :
  Does T (.func 81 [] []) [.int .i64 n, f] (S y0) (fewV (fewFold q n (2 ^ n) 0 none)) (S (fewY q n nxt (2 ^ n) 0 none y0)) := by
 have hp : 2 ^ n ≤ 2 ^ 6 := Nat.pow_le_pow_right (by omega) hn
 have hshl := V_shl1 n (by omega)
 obtain ⟨R, hR⟩ : ∃ R, fewFold q n (2 ^ n) 0 none = R := ⟨_, rfl⟩
 obtain ⟨Z, hZ⟩ : ∃ Z, fewY q n nxt (2 ^ n) 0 none y0 = Z := ⟨_, rfl⟩
 rw [hR, hZ]
 obtain ⟨P, hP⟩ : ∃ P, 2 ^ n = P := ⟨_, rfl⟩
 rw [hP] at hp hshl hR hZ hf
 have hlen := hV.len
 have hka := fun y τ => by have := hk y τ; rwa [hV.len] at this
 have hka0 := fun y => by have := (hk y).nil; rwa [hV.len] at this
 have hE0 : ∀ y z, EqS N (S y) (S z) (S z) = True := fun y z => by
  have := hV.eqS N (Nat.le_refl _) y z [] [] []
  simp only [List.append_nil] at this
  rw [this]
  simp [EqS]
 refine does_vary hV (af := a81) rfl (by simp [a81]) ?_
 (repeat (first | simp only [↓QA, QB, Nat.reduceLT, reduceIte, Nat.reduceEqDiff, Nat.reduceAdd, Nat.reduceLeDiff, Nat.reduceMul, Nat.reduceBEq, QXHFewest, a81, hshl] | refine rd0 rfl ?_))
 refine loopE (S := Nat × Option (List Int) × Y) (0, none, y0) (fun x => x.1 ≤ P ∧ fewFold q n (P - x.1) x.1 x.2.1 = R ∧ (x.2.1.getD []).length ≤ n ∧ fewY q n nxt (P - x.1) x.1 x.2.1 x.2.2 = Z) (fun x => P - x.1)
  (fun x => [(0, .int .i64 n), (1, f), (4, ints (x.2.1.getD [])), (5, .bool x.2.1.isSome), (9, .int .i64 P), (10, .int .i64 x.1)]) (fun x => S x.2.2) ⟨by simp, by simpa using hR, by simp, by simpa using hZ⟩ rfl ?_ fun x hx => ?_
 ·try simp only [TrimX, QE, Nat.reduceLT, reduceIte, Nat.reduceEqDiff, Nat.reduceAdd, Nat.reduceLeDiff, Nat.reduceMul, Nat.reduceBEq, QXHFewest, ints]
  try simp [clr, clrs]
 ·obtain ⟨s, o, y⟩ := x
  obtain ⟨hs, hq, hol, hy⟩ := hx
  simp only at hs hq hol hy
  (repeat (first | simp only [↓QA, QB, Nat.reduceLT, reduceIte, Nat.reduceEqDiff, Nat.reduceAdd, Nat.reduceLeDiff, Nat.reduceMul, Nat.reduceBEq, QXHFewest, L81_0] | refine rd0 rfl ?_))
  refine iteP_intro (fun h => ?_) fun h => ?_
  ·have hs1 : s < P := by simpa using h
   have hw := wrapN hs1 (by omega)
   have hll := lst_len n s
   have hfs := hf s y hs1
   rw [show P - s = (P - (s + 1)) + 1 by omega] at hq hy
   simp only [fewFold, fewY] at hq hy
   obtain ⟨L, hL⟩ : ∃ L, lst n s = L := ⟨_, rfl⟩
   rw [hL] at hq hll hfs hy
   have hlo := list_ok s n (by omega) (by omega)
   rw [hL] at hlo
   (repeat (first | simp only [↓QA, QB, Nat.reduceLT, reduceIte, Nat.reduceEqDiff, Nat.reduceAdd, Nat.reduceLeDiff, Nat.reduceMul, Nat.reduceBEq, QXHFewest, Option.getD_some] | refine rd0 rfl ?_))
   ((first | refine callK_d (hlo) rfl dd ?_ | refine callD_d (hlo) rfl dd ?_); (repeat (first | simp only [↓QA, QB, Nat.reduceLT, reduceIte, Nat.reduceEqDiff, Nat.reduceAdd, Nat.reduceLeDiff, Nat.reduceMul, Nat.reduceBEq, QXHFewest] | refine rd0 rfl ?_)))
   cases o with
   | none =>
    have hst : fewStep q none L = if q L = true then some L else none := rfl
    simp only [pruned, Bool.false_eq_true, if_false] at hy
    (repeat (first | simp only [↓QA, QB, Nat.reduceLT, reduceIte, Nat.reduceEqDiff, Nat.reduceAdd, Nat.reduceLeDiff, Nat.reduceMul, Nat.reduceBEq, QXHFewest, Option.isSome_none, Option.getD_none] | refine rd0 rfl ?_))
    refine callK_do hfs ?_
    cases hsm : q L
    ·rw [hsm] at hst
     simp only [Bool.false_eq_true, if_false] at hst
     rw [hst] at hq hy
     (repeat (first | simp only [↓QA, QB, Nat.reduceLT, reduceIte, Nat.reduceEqDiff, Nat.reduceAdd, Nat.reduceLeDiff, Nat.reduceMul, Nat.reduceBEq, QXHFewest, hw] | refine rd0 rfl ?_))
     refine ⟨(s + 1, none, nxt s y), ⟨by simp only; omega, hq, by simp, hy⟩, by simp only; omega, ?_⟩
     try simp only [TrimX, QE, Nat.reduceLT, reduceIte, Nat.reduceEqDiff, Nat.reduceAdd, Nat.reduceLeDiff, Nat.reduceMul, Nat.reduceBEq, QXHFewest, hw, hlen, Nat.le_refl, hka, hka0, hE0, hV.eqS, T_sr, T_sr0]
     try simp [ints]
    ·rw [hsm] at hst
     simp only [if_true] at hst
     rw [hst] at hq hy
     (repeat (first | simp only [↓QA, QB, Nat.reduceLT, reduceIte, Nat.reduceEqDiff, Nat.reduceAdd, Nat.reduceLeDiff, Nat.reduceMul, Nat.reduceBEq, QXHFewest, hw] | refine rd0 rfl ?_))
     refine ⟨(s + 1, some L, nxt s y), ⟨by simp only; omega, hq, by simpa using hll, hy⟩, by simp only; omega, ?_⟩
     try simp only [TrimX, QE, Nat.reduceLT, reduceIte, Nat.reduceEqDiff, Nat.reduceAdd, Nat.reduceLeDiff, Nat.reduceMul, Nat.reduceBEq, QXHFewest, hw, hlen, Nat.le_refl, hka, hka0, hE0, hV.eqS, T_sr, T_sr0]
     try simp [ints]
   | some b =>
    simp only [Option.getD_some] at hol
    simp only [Option.isSome_some, iteP_true]
    (repeat (first | simp only [↓QA, QB, Nat.reduceLT, reduceIte, Nat.reduceEqDiff, Nat.reduceAdd, Nat.reduceLeDiff, Nat.reduceMul, Nat.reduceBEq, QXHFewest, Option.isSome_some, Option.getD_some] | refine rd0 rfl ?_))
    cases h1 : decide ((b.length : Int) < (L.length : Int))
    ·have h1' : ¬ b.length < L.length := by simpa using h1
     (repeat (first | simp only [↓QA, QB, Nat.reduceLT, reduceIte, Nat.reduceEqDiff, Nat.reduceAdd, Nat.reduceLeDiff, Nat.reduceMul, Nat.reduceBEq, QXHFewest, Option.getD_some] | refine rd0 rfl ?_))
     cases h2 : ((L.length : Int) == (b.length : Int))
     ·have h2' : ¬ b.length = L.length := by intro h; rw [h] at h2; simp at h2
      have hfw : fewer b L = false := by simp [fewer, h1', h2']
      have hst : fewStep q (some b) L = if q L = true then some L else some b := by simp only [fewStep, hfw]; rfl
      have hpr : pruned (some b) L = false := hfw
      rw [hpr] at hy
      simp only [Bool.false_eq_true, if_false] at hy
      (repeat (first | simp only [↓QA, QB, Nat.reduceLT, reduceIte, Nat.reduceEqDiff, Nat.reduceAdd, Nat.reduceLeDiff, Nat.reduceMul, Nat.reduceBEq, QXHFewest] | refine rd0 rfl ?_))
      refine callK_do hfs ?_
      cases hsm : q L
      ·rw [hsm] at hst
       simp only [Bool.false_eq_true, if_false] at hst
       rw [hst] at hq hy
       (repeat (first | simp only [↓QA, QB, Nat.reduceLT, reduceIte, Nat.reduceEqDiff, Nat.reduceAdd, Nat.reduceLeDiff, Nat.reduceMul, Nat.reduceBEq, QXHFewest, hw] | refine rd0 rfl ?_))
       refine ⟨(s + 1, some b, nxt s y), ⟨by simp only; omega, hq, by simpa using hol, hy⟩, by simp only; omega, ?_⟩
       try simp only [TrimX, QE, Nat.reduceLT, reduceIte, Nat.reduceEqDiff, Nat.reduceAdd, Nat.reduceLeDiff, Nat.reduceMul, Nat.reduceBEq, QXHFewest, hw, hlen, Nat.le_refl, hka, hka0, hE0, hV.eqS, T_sr, T_sr0]
       try simp [ints]
      ·rw [hsm] at hst
       simp only [if_true] at hst
       rw [hst] at hq hy
       (repeat (first | simp only [↓QA, QB, Nat.reduceLT, reduceIte, Nat.reduceEqDiff, Nat.reduceAdd, Nat.reduceLeDiff, Nat.reduceMul, Nat.reduceBEq, QXHFewest, hw] | refine rd0 rfl ?_))
       refine ⟨(s + 1, some L, nxt s y), ⟨by simp only; omega, hq, by simpa using hll, hy⟩, by simp only; omega, ?_⟩
       try simp only [TrimX, QE, Nat.reduceLT, reduceIte, Nat.reduceEqDiff, Nat.reduceAdd, Nat.reduceLeDiff, Nat.reduceMul, Nat.reduceBEq, QXHFewest, hw, hlen, Nat.le_refl, hka, hka0, hE0, hV.eqS, T_sr, T_sr0]
       try simp [ints]
     ·have h2' : b.length = L.length := by simp at h2; omega
      (repeat (first | simp only [↓QA, QB, Nat.reduceLT, reduceIte, Nat.reduceEqDiff, Nat.reduceAdd, Nat.reduceLeDiff, Nat.reduceMul, Nat.reduceBEq, QXHFewest, Option.getD_some] | refine rd0 rfl ?_))
      ((first | refine callK_d (scmp_ok L b (by omega) (by omega)) rfl dd ?_ | refine callD_d (scmp_ok L b (by omega) (by omega)) rfl dd ?_); (repeat (first | simp only [↓QA, QB, Nat.reduceLT, reduceIte, Nat.reduceEqDiff, Nat.reduceAdd, Nat.reduceLeDiff, Nat.reduceMul, Nat.reduceBEq, QXHFewest, cmpL_less, Option.getD_some] | refine rd0 rfl ?_)))
      cases h3 : less b L
      ·skip
       have hfw : fewer b L = false := by simp [fewer, h2', h3]
       have hst : fewStep q (some b) L = if q L = true then some L else some b := by simp only [fewStep, hfw]; rfl
       have hpr : pruned (some b) L = false := hfw
       rw [hpr] at hy
       simp only [Bool.false_eq_true, if_false] at hy
       (repeat (first | simp only [↓QA, QB, Nat.reduceLT, reduceIte, Nat.reduceEqDiff, Nat.reduceAdd, Nat.reduceLeDiff, Nat.reduceMul, Nat.reduceBEq, QXHFewest] | refine rd0 rfl ?_))
       refine callK_do hfs ?_
       cases hsm : q L
       ·rw [hsm] at hst
        simp only [Bool.false_eq_true, if_false] at hst
        rw [hst] at hq hy
        (repeat (first | simp only [↓QA, QB, Nat.reduceLT, reduceIte, Nat.reduceEqDiff, Nat.reduceAdd, Nat.reduceLeDiff, Nat.reduceMul, Nat.reduceBEq, QXHFewest, hw] | refine rd0 rfl ?_))
        refine ⟨(s + 1, some b, nxt s y), ⟨by simp only; omega, hq, by simpa using hol, hy⟩, by simp only; omega, ?_⟩
        try simp only [TrimX, QE, Nat.reduceLT, reduceIte, Nat.reduceEqDiff, Nat.reduceAdd, Nat.reduceLeDiff, Nat.reduceMul, Nat.reduceBEq, QXHFewest, hw, hlen, Nat.le_refl, hka, hka0, hE0, hV.eqS, T_sr, T_sr0]
        try simp [ints]
       ·rw [hsm] at hst
        simp only [if_true] at hst
        rw [hst] at hq hy
        (repeat (first | simp only [↓QA, QB, Nat.reduceLT, reduceIte, Nat.reduceEqDiff, Nat.reduceAdd, Nat.reduceLeDiff, Nat.reduceMul, Nat.reduceBEq, QXHFewest, hw] | refine rd0 rfl ?_))
        refine ⟨(s + 1, some L, nxt s y), ⟨by simp only; omega, hq, by simpa using hll, hy⟩, by simp only; omega, ?_⟩
        try simp only [TrimX, QE, Nat.reduceLT, reduceIte, Nat.reduceEqDiff, Nat.reduceAdd, Nat.reduceLeDiff, Nat.reduceMul, Nat.reduceBEq, QXHFewest, hw, hlen, Nat.le_refl, hka, hka0, hE0, hV.eqS, T_sr, T_sr0]
        try simp [ints]
      ·skip
       have hfw : fewer b L = true := by simp [fewer, h2', h3]
       have hst : fewStep q (some b) L = some b := by simp only [fewStep, hfw, if_true]
       have hpr : pruned (some b) L = true := hfw
       rw [hpr] at hy
       simp only [if_true] at hy
       rw [hst] at hq hy
       (repeat (first | simp only [↓QA, QB, Nat.reduceLT, reduceIte, Nat.reduceEqDiff, Nat.reduceAdd, Nat.reduceLeDiff, Nat.reduceMul, Nat.reduceBEq, QXHFewest, hw] | refine rd0 rfl ?_))
       refine ⟨(s + 1, some b, y), ⟨by simp only; omega, hq, by simpa using hol, hy⟩, by simp only; omega, ?_⟩
       try simp only [TrimX, QE, Nat.reduceLT, reduceIte, Nat.reduceEqDiff, Nat.reduceAdd, Nat.reduceLeDiff, Nat.reduceMul, Nat.reduceBEq, QXHFewest, hw, hlen, Nat.le_refl, hka, hka0, hE0, hV.eqS, T_sr, T_sr0]
       try simp [ints]
    ·have h1' : b.length < L.length := by simpa using h1
     have h2' : ¬ b.length = L.length := by omega
     have hfw : fewer b L = true := by simp [fewer, h1', h2']
     have hst : fewStep q (some b) L = some b := by simp only [fewStep, hfw, if_true]
     have hpr : pruned (some b) L = true := hfw
     rw [hpr] at hy
     simp only [if_true] at hy
     rw [hst] at hq hy
     (repeat (first | simp only [↓QA, QB, Nat.reduceLT, reduceIte, Nat.reduceEqDiff, Nat.reduceAdd, Nat.reduceLeDiff, Nat.reduceMul, Nat.reduceBEq, QXHFewest, hw] | refine rd0 rfl ?_))
     refine ⟨(s + 1, some b, y), ⟨by simp only; omega, hq, by simpa using hol, hy⟩, by simp only; omega, ?_⟩
     try simp only [TrimX, QE, Nat.reduceLT, reduceIte, Nat.reduceEqDiff, Nat.reduceAdd, Nat.reduceLeDiff, Nat.reduceMul, Nat.reduceBEq, QXHFewest, hw, hlen, Nat.le_refl, hka, hka0, hE0, hV.eqS, T_sr, T_sr0]
     try simp [ints]
  ·have hs1 : s = P := by simp at h; omega
   rw [hs1, Nat.sub_self] at hq hy
   simp only [fewFold, fewY] at hq hy
   subst hq
   subst hy
   (repeat (first | simp only [↓QA, QB, Nat.reduceLT, reduceIte, Nat.reduceEqDiff, Nat.reduceAdd, Nat.reduceLeDiff, Nat.reduceMul, Nat.reduceBEq, QXHFewest] | refine rd0 rfl ?_))
   refine ⟨_, [], rfl, by simp, ?_⟩
   try simp only [QS, QC, Nat.reduceLT, reduceIte, Nat.reduceEqDiff, Nat.reduceAdd, Nat.reduceLeDiff, Nat.reduceMul, Nat.reduceBEq, QXHFewest, fewV]
def blk (s : Ship) : List Int := (numbers 0 s.holds.length).filter fun i => (s.holds[i.toNat]?).any fun x => decide (x.duct = 1)
theorem blk_mem {s : Ship} {h : Nat} (hh : h < s.holds.length) : (h : Int) ∈ blk s ↔ s.holds[h].duct = 1 := by
 simp only [blk, List.mem_filter, numbers_mem, Int.toNat_natCast, List.getElem?_eq_getElem hh, Option.any_some, decide_eq_true_eq]
 constructor
 ·exact fun h => h.2
 ·exact fun h => ⟨by omega, h⟩
theorem blk_set (s : Ship) : blk s ∈ setsOf s := by
 refine mem_sets.2 ⟨?_, fun h hh _ => ⟨fun h0 hm => ?_, fun h1 => (blk_mem hh).2 h1⟩⟩
 ·have : (numbers 0 s.holds.length).filter (fun h => (blk s).contains h) = (numbers 0 s.holds.length).filter (fun i => (s.holds[i.toNat]?).any fun x => decide (x.duct = 1)) := by
   refine List.filter_congr fun x hx => ?_
   rw [Bool.eq_iff_iff, List.contains_iff_mem]
   simp only [blk, List.mem_filter]
   exact ⟨fun h => h.2, fun h => ⟨hx, h⟩⟩
  rw [this]; rfl
 ·have := (blk_mem hh).1 hm
  omega
theorem some_free {s : Ship} (hv : Vd s) {but : List Int} (hl : ∀ h c, linesOk s h c but = true) : someB s but = true := by
 have : truths s but ≠ [] := by
  refine List.ne_nil_of_mem (a := ⟨blk s, (List.range s.holds.length).map fun h => startsOf s h (blk s) but⟩) (mem_truths.2 ⟨blk_set s, rfl, fun h hh => ?_⟩)
  have ho := (hv.holds _ (List.getElem_mem hh)).start
  exact List.ne_nil_of_mem ((mem_starts hh).2 ⟨⟨Int.le_refl _, ho.2.1⟩, hl _ _⟩)
 simpa [someB] using this
theorem firstFrom_snoc (f : List Int → Bool) (n : Nat) : ∀ k m, firstFrom f n (k + 1) m = (firstFrom f n k m).or ((choices n (m + k)).find? f)
 | 0, m => by simp only [firstFrom, Nat.add_zero]; cases (choices n m).find? f <;> rfl
 | k + 1, m => by
  rw [firstFrom, firstFrom_snoc f n k (m + 1)]
  rw [show firstFrom f n (k + 1) m = (match (choices n m).find? f with | some l => some l | none => firstFrom f n k (m + 1)) from rfl]
  rw [show m + 1 + k = m + (k + 1) by omega]
  cases (choices n m).find? f <;> rfl
theorem some_full {s : Ship} (hv : Vd s) : ∀ c ∈ choices s.log.length s.log.length, someB s c = true := fun c hc => by
 have hl := hv.nlog
 refine some_free hv fun h cs => lines_iff.2 fun i hi => ?_
 have := all_contains ⟨s.log.length, by omega⟩ c hc ⟨i, by omega⟩ hi
 simp only [lineOk]
 rw [this]
 simp
theorem wrong_first {s : Ship} (hv : Vd s) : firstFrom (someB s) s.log.length (s.log.length + 1) 0 = some (wrongL s) := by
 have hl := hv.nlog
 have h1 := choices_one ⟨s.log.length, by omega⟩
 simp only at h1
 obtain ⟨w, hw⟩ := List.length_eq_one_iff.1 h1
 have hs := some_full hv w (by rw [hw]; simp)
 rw [firstFrom_snoc, wrongL, Nat.zero_add, hw]
 cases firstFrom (someB s) s.log.length s.log.length 0 with
 | some l => rfl
 | none => simp [hs]
end Go.Am.Room
set_option maxRecDepth 4000
namespace Go.Am.Room
def QXHHdPU := And.intro @encShip_eq (And.intro @shipCells_eq (And.intro @encHold_eq (And.intro @encLine_eq (And.intro @encSpan_eq (And.intro @S_mapHold (And.intro @S_mapLine (And.intro @List.length_append.{0} (And.intro @T_sapp (And.intro @T_sapp0 (And.intro @Nat.add_lt_add_iff_left (And.intro @Nat.lt_add_right_iff_pos (And.intro @Nat.mul_one (@Int.toNat_natCast)))))))))))))
theorem but_lst {n set : Nat} (hn : n ≤ 5) (hs : set < 2 ^ n) : ButIs set (lst n set) := by
 have hp : 2 ^ n ≤ 2 ^ 5 := Nat.pow_le_pow_right (by omega) hn
 refine ⟨by omega, fun i hi => ?_⟩
 have e : (((set / 2 ^ i % 2 : Nat) : Int) == 0) = !set.testBit i := by
  rw [bit_div, nat_eq0, Bool.eq_iff_iff]
  simp
 rw [e]
 by_cases h : i < n
 ·rw [has_lst h]
 ·have h1 : set.testBit i = false := Nat.testBit_lt_two_pow (Nat.lt_of_lt_of_le hs (Nat.pow_le_pow_right (by omega) (by omega)))
  have h2 : (lst n set).contains (i : Int) = false := by
   rw [Bool.eq_false_iff]
   intro hc
   rw [List.contains_iff_mem, mem_lst] at hc
   omega
  rw [h1, h2]
def lookS (σ : St) (s : Ship) (b : Nat) (M : Memo) : St := σ ++ [.cells (shipCells s), .map (memoEs s M), .cells (sb s b 0 (σ.length + 1))]
theorem look_at (σ : St) (s : Ship) (b : Nat) : ShipAt (lookS σ s b) s b 0 (σ.length + 2) (σ.length + 1) (σ.length + 3) :=
 ⟨fun M => by simp [lookS], fun M => by simp [lookS, M_base, M_atS, M_at0], fun M => by rw [lookS, st_get]; rfl, fun M M' => by rw [lookS, lookS, st_set]; rfl, by omega, by omega⟩
theorem wrong1_ok (σ : St) (i : Nat) (s : Ship) (hv : Vd s) (hi : cellsAt σ i = some (shipCells s)) (set : Nat) (hs : set < 2 ^ s.log.length) :
  Same T (.func 84 [] [.ptr i 0]) [.int .i64 set] σ (.bool (someB s (lst s.log.length set))) := by
 have hb := but_lst hv.nlog hs
 have hso := some_does (look_at σ s set) hv _ hb (by omega) []
 rw [TL_some] at hso
 have hlk := look_run σ s set
 have e0 : memoEs s [] = [] := rfl
 rw [shipCells_eq] at hi
 simp only [lookS, lookSt, e0] at hso hlk
 try simp only [↓QA, QB, Nat.reduceLT, reduceIte, Nat.reduceEqDiff, Nat.reduceAdd, Nat.reduceLeDiff, Nat.reduceMul, Nat.reduceBEq, QXHHdPU, List.append_assoc] at hso hlk
 refine same_fn (af := a84) rfl (by simp [a84]) ?_
 (repeat (first | simp only [↓QA, QB, Nat.reduceLT, reduceIte, Nat.reduceEqDiff, Nat.reduceAdd, Nat.reduceLeDiff, Nat.reduceMul, Nat.reduceBEq, QXHHdPU, a84, hi] | refine rd0 rfl ?_))
 refine callK_do hlk ?_
 (repeat (first | simp only [↓QA, QB, Nat.reduceLT, reduceIte, Nat.reduceEqDiff, Nat.reduceAdd, Nat.reduceLeDiff, Nat.reduceMul, Nat.reduceBEq, QXHHdPU] | refine rd0 rfl ?_))
 refine callK_do hso ?_
 (repeat (first | simp only [↓QA, QB, Nat.reduceLT, reduceIte, Nat.reduceEqDiff, Nat.reduceAdd, Nat.reduceLeDiff, Nat.reduceMul, Nat.reduceBEq, QXHHdPU] | refine rd0 rfl ?_))
 refine baseR _ rfl ?_
 try simp only [QS, QC, Nat.reduceLT, reduceIte, Nat.reduceEqDiff, Nat.reduceAdd, Nat.reduceLeDiff, Nat.reduceMul, Nat.reduceBEq, QXHHdPU, someB]
theorem vary_const (A : St) : Vary (fun _ : Unit => A) A.length := ⟨fun _ => rfl, fun _ _ _ _ => .inl rfl, fun k _ _ _ a b c => T_sapp k A a b c⟩
theorem pwrong_ok (s : Ship) (hf : Fits s) : Pure T 32 [encShip s] (encLE (wrongOf s)) := by
 refine pure_fn (af := a32) rfl (by simp [a32]) dd ?_
 (repeat (first | simp only [↓QA, QB, Nat.reduceLT, reduceIte, Nat.reduceEqDiff, Nat.reduceAdd, Nat.reduceLeDiff, Nat.reduceMul, Nat.reduceBEq, QXHHdPU, a32] | refine rd0 rfl ?_))
 ((first | refine callK_d (check_ok s hf) rfl dd ?_ | refine callD_d (check_ok s hf) rfl dd ?_); (repeat (first | simp only [↓QA, QB, Nat.reduceLT, reduceIte, Nat.reduceEqDiff, Nat.reduceAdd, Nat.reduceLeDiff, Nat.reduceMul, Nat.reduceBEq, QXHHdPU, enc3] | refine rd0 rfl ?_)))
 cases h0 : ((check s).2.2 == 0)
 ·have h0' : (check s).2.2 ≠ 0 := by simpa using h0
  have hwo : wrongOf s = ([], (check s).2.2) := if_neg h0'
  rw [hwo]
  (repeat (first | simp only [↓QA, QB, Nat.reduceLT, reduceIte, Nat.reduceEqDiff, Nat.reduceAdd, Nat.reduceLeDiff, Nat.reduceMul, Nat.reduceBEq, QXHHdPU, h0, encLE] | refine rd0 rfl ?_))
  try rfl
 ·have h0' : (check s).2.2 = 0 := by simpa using h0
  have hwo : wrongOf s = (wrongL s, 0) := if_pos h0'
  have hv := vd_of_check h0'
  have hnl := hv.nlog
  have hfd := fewest_does (vary_const [.cells (shipCells s)]) (.func 84 [] [.ptr 0 0]) (fun _ τ => by try simp only [QS, QC, Nat.reduceLT, reduceIte, Nat.reduceEqDiff, Nat.reduceAdd, Nat.reduceLeDiff, Nat.reduceMul, Nat.reduceBEq, QXHHdPU, List.length_append]) s.log.length (by omega) (someB s) (fun _ y => y)
   (fun set y hs => wrong1_ok _ 0 s hv (by simp [cellsAt]) set hs) ()
  rw [few_eq _ _ (by omega), wrong_first hv] at hfd
  simp only [fewV, Option.getD_some, Option.isSome_some] at hfd
  rw [hwo]
  try simp only [↓QA, QB, Nat.reduceLT, reduceIte, Nat.reduceEqDiff, Nat.reduceAdd, Nat.reduceLeDiff, Nat.reduceMul, Nat.reduceBEq, QXHHdPU] at hfd
  (repeat (first | simp only [↓QA, QB, Nat.reduceLT, reduceIte, Nat.reduceEqDiff, Nat.reduceAdd, Nat.reduceLeDiff, Nat.reduceMul, Nat.reduceBEq, QXHHdPU, h0] | refine rd0 rfl ?_))
  refine callK_do hfd ?_
  (repeat (first | simp only [↓QA, QB, Nat.reduceLT, reduceIte, Nat.reduceEqDiff, Nat.reduceAdd, Nat.reduceLeDiff, Nat.reduceMul, Nat.reduceBEq, QXHHdPU, encLE] | refine rd0 rfl ?_))
end Go.Am.Room
set_option maxRecDepth 4000
namespace Go.Am.Room
def clearV : Option (List Int) → List Int × Int
 | some l => (l, 0)
 | none => ([], 9)
end Go.Am.Room
set_option maxRecDepth 4000
namespace Go.Am.Room
def QXHHdPV := And.intro @encShip_eq (And.intro @shipCells_eq (And.intro @encHold_eq (And.intro @encLine_eq (And.intro @encSpan_eq (And.intro @S_mapHold (And.intro @S_mapLine (And.intro @List.length_append.{0} (And.intro @T_sapp (And.intro @T_sapp0 (And.intro @Nat.add_lt_add_iff_left (And.intro @Nat.lt_add_right_iff_pos (And.intro @Nat.mul_one (And.intro @Int.toNat_natCast (@sb_len))))))))))))))
theorem sb_take8 (s : Ship) (b c d m : Nat) : (sb s b c m).take 8 ++ [.int .i64 d] ++ (sb s b c m).drop 9 = sb s b d m := by simp [sb, shipCells]
def holdCells (l : List Hold) : List AV := (l.map encHold).flatMap AV.cells
def clrS (s : Ship) (y : Nat × Memo) : St := [.cells (shipCells s), .cells (shipCells s), .cells (shipCells s), .map (memoEs s y.2), .cells (sb s 0 y.1 3), .cells [.ptr 4 0], .cells (holdCells s.holds), .cells [.ref 6 0 s.holds.length 5]]
theorem clr_vary (s : Ship) : Vary (clrS s) 8 := by
 refine ⟨fun _ => rfl, fun y z i hi => ?_, fun k hk y z a b c => ?_⟩
 ·have : i = 3 ∨ i = 4 ∨ (i ≠ 3 ∧ i ≠ 4) := by omega
  rcases this with rfl | rfl | ⟨h3, h4⟩
  ·exact .inr (.inl ⟨_, rfl, ShipAt.memo_ok s z.2 8⟩)
  ·exact .inr (.inl ⟨_, rfl, sb_ok s 0 z.1 (by omega)⟩)
  ·left
   match i, h3, h4 with
   | 0, _, _ => rfl
   | 1, _, _ => rfl
   | 2, _, _ => rfl
   | 3, h, _ => exact absurd rfl h
   | 4, _, h => exact absurd rfl h
   | 5, _, _ => rfl
   | 6, _, _ => rfl
   | 7, _, _ => rfl
   | i + 8, _, _ => omega
 ·simp only [clrS, List.cons_append, List.nil_append, EqS, true_or, true_and, memo_okT, sb_okT s 0 z.1 (show 3 < k by omega), or_true]
theorem clr_at (s : Ship) (c : Nat) : ShipAt (fun M => clrS s (c, M)) s 0 c 4 3 8 := (ship_at [.cells (shipCells s)] s c).app [.cells [.ptr 4 0], .cells (holdCells s.holds), .cells [.ref 6 0 s.holds.length 5]]
def clrLoop (s : Ship) (c : Nat) : Nat → Nat → Memo → Bool × Memo
 | 0, _, M => (true, M)
 | k + 1, h, M => if keepsIn s (truths s []) h (lst s.holds.length c) = 1 then clrLoop s c k (h + 1) (match s.holds[h]? with | some x => keepsMemo s x [] c h M | none => M) else (false, match s.holds[h]? with | some x => keepsMemo s x [] c h M | none => M)
theorem clrLoop_fst (s : Ship) (c : Nat) : ∀ (k h : Nat) (M : Memo), (clrLoop s c k h M).1 = (List.range' h k).all fun j => decide (keepsIn s (truths s []) j (lst s.holds.length c) = 1)
 | 0, h, M => rfl
 | k + 1, h, M => by
  simp only [clrLoop, List.range'_succ, List.all_cons]
  split
  ·rename_i h1
   rw [clrLoop_fst s c k (h + 1)]
   simp [h1]
  ·rename_i h1
   simp [h1]
def clrNext (s : Ship) (set : Nat) (y : Nat × Memo) : Nat × Memo := (set, (clrLoop s set s.holds.length 0 y.2).2)
theorem clear1_does (s : Ship) (hv : Vd s) (set : Nat) (hs : set < 1000000) (y : Nat × Memo) :
  Does T (.func 82 [] [.ptr 5 0, .ptr 7 0]) [.int .i64 set] (clrS s y) (.bool (does s (truths s []) (lst s.holds.length set))) (clrS s (clrNext s set y)) := by
 obtain ⟨c, M⟩ := y
 have hno := hv.nholds
 have hdo : does s (truths s []) (lst s.holds.length set) = (clrLoop s set s.holds.length 0 M).1 := by rw [clrLoop_fst, ← List.range_eq_range']; rfl
 obtain ⟨R, hR⟩ : ∃ R, clrLoop s set s.holds.length 0 M = R := ⟨_, rfl⟩
 simp only [clrNext]
 rw [hdo, hR]
 have h8 := sb_take8 s 0 c set 3
 refine does_vary (clr_vary s) (af := a82) rfl (by simp [a82]) ?_
 simp only [clrS]
 (repeat (first | simp only [↓QA, QB, Nat.reduceLT, reduceIte, Nat.reduceEqDiff, Nat.reduceAdd, Nat.reduceLeDiff, Nat.reduceMul, Nat.reduceBEq, QXHHdPV, a82, h8] | refine rd0 rfl ?_))
 refine loopE (S := Nat × Memo) (0, M) (fun a => a.1 ≤ s.holds.length ∧ clrLoop s set (s.holds.length - a.1) a.1 a.2 = R) (fun a => s.holds.length - a.1)
  (fun a => [(1, .ptr 5 0), (11, .int .i64 s.holds.length), (12, .int .i64 a.1)]) (fun a => clrS s (set, a.2)) ⟨Nat.zero_le _, hR⟩ (by simp [clrS, shipCells, ints]) ?_ fun a ha => ?_
 ·try simp only [TrimX, QE, Nat.reduceLT, reduceIte, Nat.reduceEqDiff, Nat.reduceAdd, Nat.reduceLeDiff, Nat.reduceMul, Nat.reduceBEq, QXHHdPV]
  try simp
 ·obtain ⟨h, M1⟩ := a
  obtain ⟨hh, hq⟩ := ha
  simp only at hh hq
  simp only [clrS]
  (repeat (first | simp only [↓QA, QB, Nat.reduceLT, reduceIte, Nat.reduceEqDiff, Nat.reduceAdd, Nat.reduceLeDiff, Nat.reduceMul, Nat.reduceBEq, QXHHdPV, L82_0] | refine rd0 rfl ?_))
  refine iteP_intro (fun hd => ?_) fun hd => ?_
  ·have hh1 : h < s.holds.length := by simpa using hd
   have hw := wrapN hh1 (by omega)
   rw [show s.holds.length - h = (s.holds.length - (h + 1)) + 1 by omega] at hq
   simp only [clrLoop, List.getElem?_eq_getElem hh1] at hq
   obtain ⟨M2, hM2⟩ : ∃ M2, keepsMemo s s.holds[h] [] set h M1 = M2 := ⟨_, rfl⟩
   have hk := keeps_does (clr_at s set) hv [] but0 hs h hh1 M1
   rw [keeps_law hv [] set hs h hh1, hM2] at hk
   rw [hM2] at hq
   obtain ⟨v, hve⟩ : ∃ v, keepsIn s (truths s []) h (lst s.holds.length set) = v := ⟨_, rfl⟩
   rw [hve] at hk hq
   simp only [clrS] at hk
   try simp only [↓QA, QB, Nat.reduceLT, reduceIte, Nat.reduceEqDiff, Nat.reduceAdd, Nat.reduceLeDiff, Nat.reduceMul, Nat.reduceBEq, QXHHdPV] at hk
   (repeat (first | simp only [↓QA, QB, Nat.reduceLT, reduceIte, Nat.reduceEqDiff, Nat.reduceAdd, Nat.reduceLeDiff, Nat.reduceMul, Nat.reduceBEq, QXHHdPV] | refine rd0 rfl ?_))
   refine callK_do hk ?_
   cases h1 : (v == 1)
   ·have h1' : v ≠ 1 := by simpa using h1
    rw [if_neg h1'] at hq
    subst hq
    (repeat (first | simp only [↓QA, QB, Nat.reduceLT, reduceIte, Nat.reduceEqDiff, Nat.reduceAdd, Nat.reduceLeDiff, Nat.reduceMul, Nat.reduceBEq, QXHHdPV, h1] | refine rd0 rfl ?_))
    refine ⟨_, [], rfl, by simp [clrS, shipCells, ints], ?_⟩
    try simp only [QS, QC, Nat.reduceLT, reduceIte, Nat.reduceEqDiff, Nat.reduceAdd, Nat.reduceLeDiff, Nat.reduceMul, Nat.reduceBEq, QXHHdPV]
   ·have h1' : v = 1 := by simpa using h1
    rw [if_pos h1'] at hq
    (repeat (first | simp only [↓QA, QB, Nat.reduceLT, reduceIte, Nat.reduceEqDiff, Nat.reduceAdd, Nat.reduceLeDiff, Nat.reduceMul, Nat.reduceBEq, QXHHdPV, h1, hw] | refine rd0 rfl ?_))
    refine ⟨(h + 1, M2), ⟨by simp only; omega, hq⟩, by simp only; omega, ?_⟩
    simp only [clrS]
    try simp only [TrimX, QE, Nat.reduceLT, reduceIte, Nat.reduceEqDiff, Nat.reduceAdd, Nat.reduceLeDiff, Nat.reduceMul, Nat.reduceBEq, QXHHdPV, hw, memo_okT, sb_okT]
    try simp [okBlk, okVs, okV]
  ·have hh1 : h = s.holds.length := by simp at hd; omega
   rw [hh1, Nat.sub_self] at hq
   simp only [clrLoop] at hq
   subst hq
   (repeat (first | simp only [↓QA, QB, Nat.reduceLT, reduceIte, Nat.reduceEqDiff, Nat.reduceAdd, Nat.reduceLeDiff, Nat.reduceMul, Nat.reduceBEq, QXHHdPV] | refine rd0 rfl ?_))
   refine ⟨_, [], rfl, by simp [clrS, shipCells, ints], ?_⟩
   try simp only [QS, QC, Nat.reduceLT, reduceIte, Nat.reduceEqDiff, Nat.reduceAdd, Nat.reduceLeDiff, Nat.reduceMul, Nat.reduceBEq, QXHHdPV]
end Go.Am.Room
set_option maxRecDepth 4000
namespace Go.Am.Room
def QXHHdPW := And.intro @encShip_eq (And.intro @shipCells_eq (And.intro @encSpan_eq (And.intro @S_mapHold (And.intro @S_mapLine (And.intro @List.length_append.{0} (And.intro @T_sapp (And.intro @T_sapp0 (And.intro @Nat.add_lt_add_iff_left (And.intro @Nat.lt_add_right_iff_pos (And.intro @Nat.mul_one (And.intro @Int.toNat_natCast (@sb_len))))))))))))
def zero5 : List AV := [.int .i64 0, .int .i64 0, .int .i64 0, .int .i64 0, .int .i64 0]
theorem holdCells_len : ∀ l : List Hold, (holdCells l).length = l.length * 5
 | [] => rfl
 | x :: l => by
  have := holdCells_len l
  simp only [holdCells] at this ⊢
  simp only [List.map_cons, List.flatMap_cons, List.length_append, this, encHold, AV.cells, List.length_cons, List.length_nil]
  omega
theorem zeros_len (n : Nat) : ((List.replicate n zero5).flatten).length = n * 5 := by simp [zero5]
theorem copy_holds (b0 b1 b2 b3 b4 b5 b7 : ABlk) (l : List Hold) : copyAV 5 [b0, b1, b2, b3, b4, b5, .cells (List.replicate l.length zero5).flatten, b7] (.ref 6 0 l.length 5) (.lit (l.map encHold) false none) = some (.int .i64 l.length, [b0, b1, b2, b3, b4, b5, .cells (holdCells l), b7]) := by
 have h1 : allCells 5 (l.map encHold) = true := L_allM 5 encHold l (fun x => by simp [cellsOk, encHold, AV.cells, AV.cell])
 have h2 : (l.map encHold).take l.length = l.map encHold := List.take_of_length_le (by simp)
 have h3 := holdCells_len l
 have h4 := zeros_len l.length
 have h5 : setCells (List.replicate l.length zero5).flatten 0 (holdCells l) = some (holdCells l) := by
  simp only [setCells]
  rw [if_pos (by omega), List.drop_of_length_le (by omega)]
  simp
 simp only [holdCells] at h5 ⊢
 simp [copyAV, view, sized, h1, cellsAt, h2, h5]
theorem pclear_ok (s : Ship) (hf : Fits s) : Pure T 30 [encShip s] (encLE (clearOf s)) := by
 refine pure_fn (af := a30) rfl (by simp [a30]) dd ?_
 (repeat (first | simp only [↓QA, QB, Nat.reduceLT, reduceIte, Nat.reduceEqDiff, Nat.reduceAdd, Nat.reduceLeDiff, Nat.reduceMul, Nat.reduceBEq, QXHHdPW, a30] | refine rd0 rfl ?_))
 refine callK_do (enter_run _ s 0 0 0 hf) ?_
 simp only [enterV, enterSt, enter_whole]
 by_cases h0 : wholeErr s = 0
 ·obtain ⟨ha, hne⟩ := errKnown_ok h0
  have hv := vd_of_check ha
  have hno := hv.nholds
  obtain ⟨W, hW⟩ : ∃ W, firstFrom (does s (truths s [])) s.holds.length (s.holds.length + 1) 0 = W := ⟨_, rfl⟩
  have hm : clearOf s = clearV W := by rw [clearOf, if_pos h0, ← hW]; rfl
  have hmk : vMkslice 40 (.int .i64 s.holds.length) (.int .i64 s.holds.length) = some s.holds.length := by simp [vMkslice, room]; omega
  have hp := Nat.pow_le_pow_right (show 0 < 2 by omega) hno.2
  have hfd := fewest_does (clr_vary s) (.func 82 [] [.ptr 5 0, .ptr 7 0]) (fun y τ => by
   have hl : (clrS s y).length = 8 := rfl
   rw [hl]
   try simp only [QS, QC, Nat.reduceLT, reduceIte, Nat.reduceEqDiff, Nat.reduceAdd, Nat.reduceLeDiff, Nat.reduceMul, Nat.reduceBEq, QXHHdPW]) s.holds.length (by omega) (does s (truths s [])) (clrNext s)
   (fun set y hs => clear1_does s hv set (by omega) y) (0, memo0 s)
  rw [few_eq _ _ (by omega), hW] at hfd
  rw [if_pos h0, if_pos h0, hm]
  have hcp := fun b0 b1 b2 b3 b4 b5 b7 => copy_holds b0 b1 b2 b3 b4 b5 b7 s.holds
  simp only [zero5] at hcp
  simp only [clrS, fewV] at hfd
  simp only [entS]
  try simp only [↓QA, QB, Nat.reduceLT, reduceIte, Nat.reduceEqDiff, Nat.reduceAdd, Nat.reduceLeDiff, Nat.reduceMul, Nat.reduceBEq, QXHHdPW] at hfd
  (repeat (first | simp only [↓QA, QB, Nat.reduceLT, reduceIte, Nat.reduceEqDiff, Nat.reduceAdd, Nat.reduceLeDiff, Nat.reduceMul, Nat.reduceBEq, QXHHdPW, show ((0 : Int) == 0) = true from rfl, hmk, hcp] | refine rd0 rfl ?_))
  refine callK_do hfd ?_
  cases W with
  | none =>
   (repeat (first | simp only [↓QA, QB, Nat.reduceLT, reduceIte, Nat.reduceEqDiff, Nat.reduceAdd, Nat.reduceLeDiff, Nat.reduceMul, Nat.reduceBEq, QXHHdPW, clearV, encLE, Option.isSome_none, Option.getD_none] | refine rd0 rfl ?_))
   try rfl
  | some l =>
   (repeat (first | simp only [↓QA, QB, Nat.reduceLT, reduceIte, Nat.reduceEqDiff, Nat.reduceAdd, Nat.reduceLeDiff, Nat.reduceMul, Nat.reduceBEq, QXHHdPW, clearV, encLE, Option.isSome_some, Option.getD_some] | refine rd0 rfl ?_))
   try rfl
 ·have h0' : (wholeErr s == 0) = false := by simpa using h0
  have hm : clearOf s = ([], wholeErr s) := by rw [clearOf, if_neg h0]
  rw [if_neg h0, if_neg h0, hm]
  (repeat (first | simp only [↓QA, QB, Nat.reduceLT, reduceIte, Nat.reduceEqDiff, Nat.reduceAdd, Nat.reduceLeDiff, Nat.reduceMul, Nat.reduceBEq, QXHHdPW, h0', encLE] | refine rd0 rfl ?_))
  try rfl
end Go.Am.Room
set_option maxRecDepth 4000
namespace Go.Am.Room
def QXHHdPX := And.intro @encShip_eq (And.intro @shipCells_eq (And.intro @encHold_eq (And.intro @encLine_eq (And.intro @encSpan_eq (And.intro @S_mapHold (And.intro @S_mapLine (And.intro @List.length_append.{0} (And.intro @T_sapp (And.intro @T_sapp0 (And.intro @Nat.add_lt_add_iff_left (And.intro @Nat.lt_add_right_iff_pos (And.intro @Nat.mul_one (And.intro @Int.toNat_natCast (And.intro @C_yield (@K_yield)))))))))))))))
abbrev B2 := Fin 16 × Fin 16
theorem and16 (a : Fin 16) (b : Nat) : a.val &&& b < 16 := Nat.lt_of_le_of_lt Nat.and_le_left a.isLt
theorem or16 (a : Fin 16) (b : Nat) : a.val ||| b % 16 < 16 := Nat.or_lt_two_pow (n := 4) a.isLt (by omega)
def blkF (t : TV) (x : B2) : B2 × Bool := ((⟨x.1.val &&& t.1, and16 _ _⟩, ⟨x.2.val ||| t.1 % 16, or16 _ _⟩), true)
def blkU (x : B2) : St := [.cells [.int .i64 (x.1.val : Int)], .cells [.int .i64 (x.2.val : Int)]]
theorem blk_body {S : Memo → St} {s : Ship} {b c p m N : Nat} (hR : ShipAt S s b c p m N) (t : TV) (ht : t.1 < 16) (x : B2) (M : Memo) (lp : ABlk) (τ : St) (e : Env) (G : Option AJump → St → Prop)
  (e6 : Env.get e 6 = .ptr N 0) (e7 : Env.get e 7 = .ptr (N + 1) 0) (e8 : Env.get e 8 = .int .i64 t.1) :
  wp T F23_0 e (S M ++ (blkU x ++ (.cells [.ptr p 0] :: lp :: τ))) (fun j e'' σ'' => ((blkF t x).2 = true ∧ j = none ∧ ∃ τ', σ'' = S M ++ (blkU (blkF t x).1 ++ (.cells [.ptr p 0] :: lp :: (τ ++ τ')))) ∨ G j σ'') := by
 have ha := V_and x.1.val t.1 (by omega) (by omega)
 have ho := V_or x.2.val t.1 (by omega) (by omega)
 have hm : t.1 % 16 = t.1 := Nat.mod_eq_of_lt ht
 simp only [blkU, blkF, hm]
 (repeat (first | simp only [↓QA, QB, Nat.reduceLT, reduceIte, Nat.reduceEqDiff, Nat.reduceAdd, Nat.reduceLeDiff, Nat.reduceMul, Nat.reduceBEq, QXHHdPX, F23_0, e6, e7, e8, hR.len, hR.base, hR.base0, hR.bset, hR.bset0, ha, ho] | refine rd0 rfl ?_))
 exact .inl ⟨[], by simp⟩
def blkSum (s : Ship) (bl : List Int) (c : Nat) (a : Fin 16) : B2 := (TL s bl c).foldl (fun a t => (blkF t a).1) (a, 0)
theorem blk_bits : ∀ (l : List TV) (x : B2) (i : Nat), (∀ t ∈ l, t.1 < 16) → ((l.foldl (fun a t => (blkF t a).1) x).1.val.testBit i = (x.1.val.testBit i && l.all fun t => t.1.testBit i)) ∧ ((l.foldl (fun a t => (blkF t a).1) x).2.val.testBit i = (x.2.val.testBit i || l.any fun t => t.1.testBit i))
 | [], x, i, _ => by simp
 | t :: l, x, i, h => by
  obtain ⟨h1, h2⟩ := blk_bits l (blkF t x).1 i fun u hu => h u (List.mem_cons_of_mem _ hu)
  have hm : t.1 % 16 = t.1 := Nat.mod_eq_of_lt (h t (by simp))
  simp only [List.foldl_cons, h1, h2, List.all_cons, List.any_cons]
  simp only [blkF, hm, Nat.testBit_and, Nat.testBit_or, Bool.and_assoc, Bool.or_assoc]
  simp
theorem TL_lt {s : Ship} (hv : Vd s) (bl : List Int) (c : Nat) : ∀ t ∈ TL s bl c, t.1 < 16 := by
 intro t ht
 rw [TL_eq] at ht
 obtain ⟨q, hq, rfl⟩ := List.mem_map.1 ht
 exact sets_lt hv _ (truthsP_in hq).1
theorem TL_blocked {s : Ship} (hv : Vd s) (i : Nat) (hi : i < s.holds.length) : ((TL s [] 0).all fun t => t.1.testBit i) = sureBl (truths s []) i ∧ ((TL s [] 0).any fun t => t.1.testBit i) = mayBl (truths s []) i := by
 have key : ∀ q ∈ truthsP s [], q.2.blocked.contains (i : Int) = q.1.testBit i := by
  intro q hq
  rw [(truthsP_in hq).2.1, has_lst hi]
 rw [TL_eq, sureBl, mayBl, ← truthsP_snd]
 simp only [List.all_map, List.any_map]
 constructor
 ·rw [Bool.eq_iff_iff, List.all_eq_true, List.all_eq_true]
  constructor
  ·intro h q hq
   have h1 := h q hq
   simp only [Function.comp_apply] at h1 ⊢
   rw [key q hq]; exact h1
  ·intro h q hq
   have h1 := h q hq
   simp only [Function.comp_apply] at h1 ⊢
   rw [key q hq] at h1; exact h1
 ·rw [Bool.eq_iff_iff, List.any_eq_true, List.any_eq_true]
  constructor
  ·rintro ⟨q, hq, h⟩
   simp only [Function.comp_apply] at h
   exact ⟨q, hq, by simp only [Function.comp_apply]; rw [key q hq]; exact h⟩
  ·rintro ⟨q, hq, h⟩
   simp only [Function.comp_apply] at h
   rw [key q hq] at h
   exact ⟨q, hq, h⟩
theorem pow16 {n : Nat} (h : n ≤ 4) : 2 ^ n - 1 < 16 := by
 have : 2 ^ n ≤ 2 ^ 4 := Nat.pow_le_pow_right (by omega) h
 omega
theorem blk_law {s : Ship} (hv : Vd s) : lst s.holds.length (blkSum s [] 0 ⟨2 ^ s.holds.length - 1, pow16 hv.nholds.2⟩).1.val = (numbers 0 s.holds.length).filter (sureBl (truths s [])) ∧ lst s.holds.length (blkSum s [] 0 ⟨2 ^ s.holds.length - 1, pow16 hv.nholds.2⟩).2.val = (numbers 0 s.holds.length).filter (mayBl (truths s [])) := by
 constructor
 ·simp only [lst]
  refine List.filter_congr fun x hx => ?_
  have hb := (numbers_mem _ _ _).1 hx
  obtain ⟨i, rfl⟩ : ∃ i : Nat, x = i := ⟨x.toNat, by omega⟩
  rw [← bit_div, Int.toNat_natCast, blkSum, (blk_bits _ _ _ (TL_lt hv [] 0)).1, (TL_blocked hv i (by omega)).1]
  have : (2 ^ s.holds.length - 1).testBit i = true := by rw [Nat.testBit_two_pow_sub_one]; simp; omega
  simp only [this, Bool.true_and]
 ·simp only [lst]
  refine List.filter_congr fun x hx => ?_
  have hb := (numbers_mem _ _ _).1 hx
  obtain ⟨i, rfl⟩ : ∃ i : Nat, x = i := ⟨x.toNat, by omega⟩
  rw [← bit_div, Int.toNat_natCast, blkSum, (blk_bits _ _ _ (TL_lt hv [] 0)).2, (TL_blocked hv i (by omega)).2]
  simp
theorem pblocked_ok (s : Ship) (hf : Fits s) : Pure T 23 [encShip s] (encLLE (blockedOf s)) := by
 refine pure_fn (af := a23) rfl (by simp [a23]) dd ?_
 (repeat (first | simp only [↓QA, QB, Nat.reduceLT, reduceIte, Nat.reduceEqDiff, Nat.reduceAdd, Nat.reduceLeDiff, Nat.reduceMul, Nat.reduceBEq, QXHHdPX, a23] | refine rd0 rfl ?_))
 refine callK_do (enter_run _ s 0 0 0 hf) ?_
 simp only [enterV, enterSt, enter_whole]
 by_cases h0 : wholeErr s = 0
 ·obtain ⟨ha, hne⟩ := errKnown_ok h0
  have hv := vd_of_check ha
  have hno := hv.nholds
  obtain ⟨hl1, hl2⟩ := blk_law hv
  obtain ⟨Y, hY⟩ : ∃ Y, blkSum s [] 0 ⟨2 ^ s.holds.length - 1, pow16 hv.nholds.2⟩ = Y := ⟨_, rfl⟩
  rw [hY] at hl1 hl2
  have hm : blockedOf s = (lst s.holds.length Y.1.val, lst s.holds.length Y.2.val, 0) := by rw [blockedOf, if_pos h0, hl1, hl2]
  obtain ⟨A, hA⟩ : ∃ A : Fin 16, (⟨2 ^ s.holds.length - 1, pow16 hv.nholds.2⟩ : Fin 16) = A := ⟨_, rfl⟩
  rw [hA] at hY
  have hAv : A.val = 2 ^ s.holds.length - 1 := by rw [← hA]
  have hgoY : iterF blkF (TL s [] 0) (A, 0) = (Y, true) := by rw [iterF_go (fun _ _ => rfl), ← hY]; rfl
  have hp2 : 2 ^ s.holds.length ≤ 2 ^ 4 := Nat.pow_le_pow_right (by omega) hno.2
  have hpos : 0 < 2 ^ s.holds.length := Nat.two_pow_pos _
  have hsh := V_shl1 s.holds.length (by omega)
  have hwA : IntKind.i64.wrap (((2 ^ s.holds.length : Nat) : Int) - 1) = (A.val : Int) := by
   have : ((2 ^ s.holds.length : Nat) : Int) - 1 = (A.val : Int) := by omega
   rw [this]
   exact wrap64 ⟨by omega, by omega⟩
  rw [if_pos h0, if_pos h0, hm]
  have hR := ship_at [.cells (shipCells s)] s 0
  have hok : ∀ (x : B2) (y : ABlk), y ∈ blkU x → ∀ k, 1 + 4 ≤ k → okBlk k y := by
   intro x y hy k _
   simp only [blkU, List.mem_cons, List.not_mem_nil, or_false] at hy
   rcases hy with rfl | rfl <;> simp [okBlk, okVs, okV]
  have hrng := truths_range hR hv [] but0 (by omega) blkU blkU 2 (fun _ => rfl) (fun _ => rfl) hok hok .ret (P := fun t => t.1 < 16) (f := blkF)
  simp only [entS] at hrng ⊢
  simp only [shipCells_eq] at hrng
  (repeat (first | simp only [↓QA, QB, Nat.reduceLT, reduceIte, Nat.reduceEqDiff, Nat.reduceAdd, Nat.reduceLeDiff, Nat.reduceMul, Nat.reduceBEq, QXHHdPX, show ((0 : Int) == 0) = true from rfl, hsh, hwA] | refine rd0 rfl ?_))
  refine callK_in rfl (by simp [a66]) ?_
  (repeat (first | simp only [↓QA, QB, Nat.reduceLT, reduceIte, Nat.reduceEqDiff, Nat.reduceAdd, Nat.reduceLeDiff, Nat.reduceMul, Nat.reduceBEq, QXHHdPX, a66] | refine rd0 rfl ?_))
  refine hrng _ 23 [24, 25] _ _ ?_ ?_ (TL_lt hv [] 0) (A, 0) (memo0 s) _ ?_ ?_
  ·try simp only [TrimX, QE, Nat.reduceLT, reduceIte, Nat.reduceEqDiff, Nat.reduceAdd, Nat.reduceLeDiff, Nat.reduceMul, Nat.reduceBEq, QXHHdPX]
  ·refine yields_of hR blkU blkU 2 (fun _ => rfl) (fun _ => rfl) .ret _ _ rfl _ _ ?_
   intro t ht fl tk x M' τ
   simp only [bindPs]
   (repeat (first | simp only [↓QA, QB, Nat.reduceLT, reduceIte, Nat.reduceEqDiff, Nat.reduceAdd, Nat.reduceLeDiff, Nat.reduceMul, Nat.reduceBEq, QXHHdPX] | refine rd0 rfl ?_))
   refine blk_body hR t ht x M' _ τ _ _ ?_ ?_ ?_
   all_goals try simp only [TrimX, QE, Nat.reduceLT, reduceIte, Nat.reduceEqDiff, Nat.reduceAdd, Nat.reduceLeDiff, Nat.reduceMul, Nat.reduceBEq, QXHHdPX]
  ·intro τ h2
   rw [hgoY]
   simp only [blkU]
   (repeat (first | simp only [↓QA, QB, Nat.reduceLT, reduceIte, Nat.reduceEqDiff, Nat.reduceAdd, Nat.reduceLeDiff, Nat.reduceMul, Nat.reduceBEq, QXHHdPX] | refine rd0 rfl ?_))
   ((first | refine callK_d (list_ok Y.1.val s.holds.length (by omega) (by omega)) rfl dd ?_ | refine callD_d (list_ok Y.1.val s.holds.length (by omega) (by omega)) rfl dd ?_); (repeat (first | simp only [↓QA, QB, Nat.reduceLT, reduceIte, Nat.reduceEqDiff, Nat.reduceAdd, Nat.reduceLeDiff, Nat.reduceMul, Nat.reduceBEq, QXHHdPX] | refine rd0 rfl ?_)))
   ((first | refine callK_d (list_ok Y.2.val s.holds.length (by omega) (by omega)) rfl dd ?_ | refine callD_d (list_ok Y.2.val s.holds.length (by omega) (by omega)) rfl dd ?_); (repeat (first | simp only [↓QA, QB, Nat.reduceLT, reduceIte, Nat.reduceEqDiff, Nat.reduceAdd, Nat.reduceLeDiff, Nat.reduceMul, Nat.reduceBEq, QXHHdPX, encLLE] | refine rd0 rfl ?_)))
  ·intro τ h2
   rw [hgoY] at h2
   cases h2
 ·have h0' : (wholeErr s == 0) = false := by simpa using h0
  have hm : blockedOf s = ([], [], wholeErr s) := by rw [blockedOf, if_neg h0]
  rw [if_neg h0, if_neg h0, hm]
  (repeat (first | simp only [↓QA, QB, Nat.reduceLT, reduceIte, Nat.reduceEqDiff, Nat.reduceAdd, Nat.reduceLeDiff, Nat.reduceMul, Nat.reduceBEq, QXHHdPX, h0', encLLE] | refine rd0 rfl ?_))
  try rfl
def exS (l : List Line) : Ship := ⟨24, 4, 2, [50, 54, 50], 2, [⟨⟨30, 32⟩, 0, ⟨22, 26⟩⟩, ⟨⟨30, 31⟩, 2, ⟨22, 26⟩⟩], l⟩
def exL : Ship := exS [⟨1, 1, 28⟩]
def exM : Ship := exS [⟨1, 1, 33⟩]
def exW : Ship := exS [⟨1, 1, 28⟩, ⟨2, 0, 40⟩]
def exK : Ship := { exS [] with holds := [⟨⟨30, 32⟩, 0, ⟨22, 26⟩⟩, ⟨⟨30, 31⟩, 2, ⟨80, 80⟩⟩] }
theorem x1 : marksOf (exS []) 1 2 = (⟨24, 35⟩, 0) := by decide +kernel
theorem x2 : marksOf exL 1 2 = (⟨24, 25⟩, 0) := by decide +kernel
theorem x3 : reachesOf (exS []) 1 25 = (⟨2, 2⟩, 0, 0) := by decide +kernel
theorem x4 : reachesOf (exS []) 1 20 = (⟨0, 0⟩, 2, 0) := by decide +kernel
theorem x5 : blockedOf exM = ([1], [1], 0) := by decide +kernel
theorem x6 : keepsOf exL 1 = (1, 0) := by decide +kernel
theorem x7 : keepsOf exM 1 = (2, 0) := by decide +kernel
theorem x8 : spoilsOf (exS []) = ([], [1], 0) := by decide +kernel
theorem x9 : clearOf (exS []) = ([1], 0) := by decide +kernel
theorem x10 : wrongOf exW = ([1], 0) := by decide +kernel
theorem x11 : keepsOf exW 0 = (0, 8) := by decide +kernel
theorem x12 : clearOf exK = ([], 9) := by decide +kernel
end Go.Am.Room
set_option maxRecDepth 8000
namespace Go.Am.Room
def QXHLawC := And.intro @encSpan_eq (@List.length_append.{0})
theorem span_ok (a b : Int) : Pure T 36 [.int .i64 a, .int .i64 b] (encSpan ⟨a, b⟩) := by
 refine pure_fn (af := a36) rfl (by simp [a36]) dd ?_
 (repeat (first | simp only [↓QA, QB, Nat.reduceLT, reduceIte, Nat.reduceEqDiff, Nat.reduceAdd, Nat.reduceLeDiff, Nat.reduceMul, Nat.reduceBEq, QXHLawC, a36] | refine rd0 rfl ?_))
end Go.Am.Room
set_option maxRecDepth 8000
namespace Go.Am.Room
def QXHHdQ1 := And.intro @encShip_eq (And.intro @shipCells_eq (And.intro @encHold_eq (And.intro @encLine_eq (And.intro @encSpan_eq (And.intro @S_mapHold (And.intro @S_mapLine (And.intro @T_sapp (@List.length_append.{0}))))))))
theorem line_ok (w h m : Int) : Pure T 35 [.int .i64 w, .int .i64 h, .int .i64 m] (encLine ⟨w, h, m⟩) := by
 refine pure_fn (af := a35) rfl (by simp [a35]) dd ?_
 (repeat (first | simp only [↓QA, QB, Nat.reduceLT, reduceIte, Nat.reduceEqDiff, Nat.reduceAdd, Nat.reduceLeDiff, Nat.reduceMul, Nat.reduceBEq, QXHHdQ1, a35] | refine rd0 rfl ?_))
theorem exship_ok (l : List Line) : Pure T 34 [.lit (l.map encLine) false none] (encShip (exS l)) := by
 refine pure_fn (af := a34) rfl (by simp [a34]) dd ?_
 (repeat (first | simp only [↓QA, QB, Nat.reduceLT, reduceIte, Nat.reduceEqDiff, Nat.reduceAdd, Nat.reduceLeDiff, Nat.reduceMul, Nat.reduceBEq, QXHHdQ1, a34] | refine rd0 rfl ?_))
 ((first | refine callK_d (span_ok 30 32) rfl dd ?_ | refine callD_d (span_ok 30 32) rfl dd ?_); (repeat (first | simp only [↓QA, QB, Nat.reduceLT, reduceIte, Nat.reduceEqDiff, Nat.reduceAdd, Nat.reduceLeDiff, Nat.reduceMul, Nat.reduceBEq, QXHHdQ1] | refine rd0 rfl ?_)))
 ((first | refine callK_d (span_ok 22 26) rfl dd ?_ | refine callD_d (span_ok 22 26) rfl dd ?_); (repeat (first | simp only [↓QA, QB, Nat.reduceLT, reduceIte, Nat.reduceEqDiff, Nat.reduceAdd, Nat.reduceLeDiff, Nat.reduceMul, Nat.reduceBEq, QXHHdQ1] | refine rd0 rfl ?_)))
 ((first | refine callK_d (span_ok 30 31) rfl dd ?_ | refine callD_d (span_ok 30 31) rfl dd ?_); (repeat (first | simp only [↓QA, QB, Nat.reduceLT, reduceIte, Nat.reduceEqDiff, Nat.reduceAdd, Nat.reduceLeDiff, Nat.reduceMul, Nat.reduceBEq, QXHHdQ1] | refine rd0 rfl ?_)))
 ((first | refine callK_d (span_ok 22 26) rfl dd ?_ | refine callD_d (span_ok 22 26) rfl dd ?_); (repeat (first | simp only [↓QA, QB, Nat.reduceLT, reduceIte, Nat.reduceEqDiff, Nat.reduceAdd, Nat.reduceLeDiff, Nat.reduceMul, Nat.reduceBEq, QXHHdQ1] | refine rd0 rfl ?_)))
 have r1 : ∀ (a : ABlk) (τ : St), snapM (a :: .cells (List.flatMap AV.cells [.int .i64 50, .int .i64 54, .int .i64 50]) :: τ) 0 20 (.ref 1 0 3 1) = some (.lit [.int .i64 50, .int .i64 54, .int .i64 50] false none) := fun a τ => by
  rw [S_ref]
  simp [view, cellsAt, chop, allCells, AV.cells, AV.cell]
  try simp only [QS, QC, Nat.reduceLT, reduceIte, Nat.reduceEqDiff, Nat.reduceAdd, Nat.reduceLeDiff, Nat.reduceMul, Nat.reduceBEq, QXHHdQ1, clrs, clr]
 have r2 : ∀ (a b : ABlk) (τ : St) (A B : Hold), snapM (a :: b :: .cells (List.flatMap AV.cells [.agg [.int .i64 A.start.lo, .int .i64 A.start.hi, .int .i64 A.duct, .int .i64 A.keep.lo, .int .i64 A.keep.hi], .agg [.int .i64 B.start.lo, .int .i64 B.start.hi, .int .i64 B.duct, .int .i64 B.keep.lo, .int .i64 B.keep.hi]]) :: τ) 0 20 (.ref 2 0 2 5) = some (.lit [.agg [.int .i64 A.start.lo, .int .i64 A.start.hi, .int .i64 A.duct, .int .i64 A.keep.lo, .int .i64 A.keep.hi], .agg [.int .i64 B.start.lo, .int .i64 B.start.hi, .int .i64 B.duct, .int .i64 B.keep.lo, .int .i64 B.keep.hi]] false none) := fun a b τ A B => by
  rw [S_ref]
  simp [view, cellsAt, chop, allCells, AV.cells, AV.cell]
  try simp only [QS, QC, Nat.reduceLT, reduceIte, Nat.reduceEqDiff, Nat.reduceAdd, Nat.reduceLeDiff, Nat.reduceMul, Nat.reduceBEq, QXHHdQ1, clrs, clr]
 have r3 := fun a b τ => r2 a b τ ⟨⟨30, 32⟩, 0, ⟨22, 26⟩⟩ ⟨⟨30, 31⟩, 2, ⟨22, 26⟩⟩
 simp only at r3
 (repeat (first | simp only [↓QA, QB, Nat.reduceLT, reduceIte, Nat.reduceEqDiff, Nat.reduceAdd, Nat.reduceLeDiff, Nat.reduceMul, Nat.reduceBEq, QXHHdQ1, r1, r3, exS, List.map_cons, List.map_nil] | refine rd0 rfl ?_))
theorem fits_ex (l : List Line) (h : l.length ≤ 100 := by decide) : Fits (exS l) := ⟨by simp [exS], by simp [exS], by simp [exS]; omega⟩
end Go.Am.Room
set_option maxRecDepth 8000
namespace Go.Am.Room
def QXHHdQ2 := And.intro @encShip_eq (And.intro @shipCells_eq (And.intro @encHold_eq (And.intro @encLine_eq (And.intro @encSpan_eq (And.intro @S_mapHold (And.intro @S_mapLine (And.intro @T_sapp (@List.length_append.{0}))))))))
def shipR (n : Nat) : AV := .agg [.int .i64 24, .int .i64 4, .int .i64 2, .ref (n + 1) 0 3 1, .int .i64 2, .ref (n + 2) 0 2 5, .lit [] true none]
def shipRB (n : Nat) : St := [.cells [.int .i64 24, .int .i64 4, .int .i64 2, .ref (n + 1) 0 3 1, .int .i64 2, .ref (n + 2) 0 2 5, .lit [] true none], .cells [.int .i64 50, .int .i64 54, .int .i64 50], .cells [.int .i64 30, .int .i64 32, .int .i64 0, .int .i64 22, .int .i64 26, .int .i64 30, .int .i64 31, .int .i64 2, .int .i64 22, .int .i64 26]]
theorem ship_run (σ : St) : Does T (.func 34 [] []) [.lit [] true none] σ (shipR σ.length) (σ ++ shipRB σ.length) := by
 refine .callf (.call (af := a34) rfl (by simp [a34]) (run_wp (K := fun j e σ1 => (j = none ∨ j = some .ret) ∧ Env.get e 2 = .ptr σ.length 0 ∧ σ1 = σ ++ shipRB σ.length) ?_ fun o ho => ho) fun o ho => ?_)
 ·(repeat (first | simp only [↓QA, QB, Nat.reduceLT, reduceIte, Nat.reduceEqDiff, Nat.reduceAdd, Nat.reduceLeDiff, Nat.reduceMul, Nat.reduceBEq, QXHHdQ2, a34, List.length_append] | refine rd0 rfl ?_))
  ((first | refine callK_d (span_ok 30 32) rfl dd ?_ | refine callD_d (span_ok 30 32) rfl dd ?_); (repeat (first | simp only [↓QA, QB, Nat.reduceLT, reduceIte, Nat.reduceEqDiff, Nat.reduceAdd, Nat.reduceLeDiff, Nat.reduceMul, Nat.reduceBEq, QXHHdQ2] | refine rd0 rfl ?_)))
  ((first | refine callK_d (span_ok 22 26) rfl dd ?_ | refine callD_d (span_ok 22 26) rfl dd ?_); (repeat (first | simp only [↓QA, QB, Nat.reduceLT, reduceIte, Nat.reduceEqDiff, Nat.reduceAdd, Nat.reduceLeDiff, Nat.reduceMul, Nat.reduceBEq, QXHHdQ2] | refine rd0 rfl ?_)))
  ((first | refine callK_d (span_ok 30 31) rfl dd ?_ | refine callD_d (span_ok 30 31) rfl dd ?_); (repeat (first | simp only [↓QA, QB, Nat.reduceLT, reduceIte, Nat.reduceEqDiff, Nat.reduceAdd, Nat.reduceLeDiff, Nat.reduceMul, Nat.reduceBEq, QXHHdQ2] | refine rd0 rfl ?_)))
  ((first | refine callK_d (span_ok 22 26) rfl dd ?_ | refine callD_d (span_ok 22 26) rfl dd ?_); (repeat (first | simp only [↓QA, QB, Nat.reduceLT, reduceIte, Nat.reduceEqDiff, Nat.reduceAdd, Nat.reduceLeDiff, Nat.reduceMul, Nat.reduceBEq, QXHHdQ2] | refine rd0 rfl ?_)))
  simp [shipRB, AV.cells]
 ·obtain ⟨h1, h2, h3⟩ := ho
  refine ⟨h1, shipR σ.length, ?_, .inl ⟨rfl, h3⟩⟩
  rw [h3]
  (repeat (first | simp only [↓QA, QB, Nat.reduceLT, reduceIte, Nat.reduceEqDiff, Nat.reduceAdd, Nat.reduceLeDiff, Nat.reduceMul, Nat.reduceBEq, QXHHdQ2, a34, h2, shipRB, shipR] | refine rd0 rfl ?_))
  trace_state
theorem fits_exK : Fits exK := ⟨by simp [exK, exS], by simp [exK], by simp [exK, exS]⟩
set_option maxHeartbeats 1000000 in
theorem awake_ok : Pure T 20 [] (.bool true) := by
 refine pure_fn (af := a20) rfl (by simp [a20]) datas_nil ?_
 (repeat (first | simp only [↓QA, QB, Nat.reduceLT, reduceIte, Nat.reduceEqDiff, Nat.reduceAdd, Nat.reduceLeDiff, Nat.reduceMul, Nat.reduceBEq, QXHHdQ2, a20] | refine rd0 rfl ?_))
 refine callK_v (exship_ok []) (by simp [clr, clrs]) (by simp [okV, okVs]) ?_
 (repeat (first | simp only [↓QA, QB, Nat.reduceLT, reduceIte, Nat.reduceEqDiff, Nat.reduceAdd, Nat.reduceLeDiff, Nat.reduceMul, Nat.reduceBEq, QXHHdQ2] | refine rd0 rfl ?_))
 ((first | refine callK_d (line_ok 1 1 28) rfl dd ?_ | refine callD_d (line_ok 1 1 28) rfl dd ?_); (repeat (first | simp only [↓QA, QB, Nat.reduceLT, reduceIte, Nat.reduceEqDiff, Nat.reduceAdd, Nat.reduceLeDiff, Nat.reduceMul, Nat.reduceBEq, QXHHdQ2] | refine rd0 rfl ?_)))
 refine callK_v (exship_ok [⟨1, 1, 28⟩]) (by simp [clr, clrs, encLine]) (by simp [okV, okVs]) ?_
 (repeat (first | simp only [↓QA, QB, Nat.reduceLT, reduceIte, Nat.reduceEqDiff, Nat.reduceAdd, Nat.reduceLeDiff, Nat.reduceMul, Nat.reduceBEq, QXHHdQ2] | refine rd0 rfl ?_))
 ((first | refine callK_d (line_ok 1 1 33) rfl dd ?_ | refine callD_d (line_ok 1 1 33) rfl dd ?_); (repeat (first | simp only [↓QA, QB, Nat.reduceLT, reduceIte, Nat.reduceEqDiff, Nat.reduceAdd, Nat.reduceLeDiff, Nat.reduceMul, Nat.reduceBEq, QXHHdQ2] | refine rd0 rfl ?_)))
 refine callK_v (exship_ok [⟨1, 1, 33⟩]) (by simp [clr, clrs, encLine]) (by simp [okV, okVs]) ?_
 (repeat (first | simp only [↓QA, QB, Nat.reduceLT, reduceIte, Nat.reduceEqDiff, Nat.reduceAdd, Nat.reduceLeDiff, Nat.reduceMul, Nat.reduceBEq, QXHHdQ2] | refine rd0 rfl ?_))
 ((first | refine callK_d (line_ok 1 1 28) rfl dd ?_ | refine callD_d (line_ok 1 1 28) rfl dd ?_); (repeat (first | simp only [↓QA, QB, Nat.reduceLT, reduceIte, Nat.reduceEqDiff, Nat.reduceAdd, Nat.reduceLeDiff, Nat.reduceMul, Nat.reduceBEq, QXHHdQ2] | refine rd0 rfl ?_)))
 ((first | refine callK_d (line_ok 2 0 40) rfl dd ?_ | refine callD_d (line_ok 2 0 40) rfl dd ?_); (repeat (first | simp only [↓QA, QB, Nat.reduceLT, reduceIte, Nat.reduceEqDiff, Nat.reduceAdd, Nat.reduceLeDiff, Nat.reduceMul, Nat.reduceBEq, QXHHdQ2] | refine rd0 rfl ?_)))
 refine callK_v (exship_ok [⟨1, 1, 28⟩, ⟨2, 0, 40⟩]) (by simp [clr, clrs, encLine]) (by simp [okV, okVs]) ?_
 (repeat (first | simp only [↓QA, QB, Nat.reduceLT, reduceIte, Nat.reduceEqDiff, Nat.reduceAdd, Nat.reduceLeDiff, Nat.reduceMul, Nat.reduceBEq, QXHHdQ2] | refine rd0 rfl ?_))
 ((first | refine callK_d (pmarks_ok (exS []) 1 2 (fits_ex _)) rfl dd ?_ | refine callD_d (pmarks_ok (exS []) 1 2 (fits_ex _)) rfl dd ?_); (repeat (first | simp only [↓QA, QB, Nat.reduceLT, reduceIte, Nat.reduceEqDiff, Nat.reduceAdd, Nat.reduceLeDiff, Nat.reduceMul, Nat.reduceBEq, QXHHdQ2, x1, encSE] | refine rd0 rfl ?_)))
 ((first | refine callK_d (pmarks_ok exL 1 2 (fits_ex _)) rfl dd ?_ | refine callD_d (pmarks_ok exL 1 2 (fits_ex _)) rfl dd ?_); (repeat (first | simp only [↓QA, QB, Nat.reduceLT, reduceIte, Nat.reduceEqDiff, Nat.reduceAdd, Nat.reduceLeDiff, Nat.reduceMul, Nat.reduceBEq, QXHHdQ2, x2, encSE] | refine rd0 rfl ?_)))
 ((first | refine callK_d (preaches_ok (exS []) 1 25 (fits_ex _)) rfl dd ?_ | refine callD_d (preaches_ok (exS []) 1 25 (fits_ex _)) rfl dd ?_); (repeat (first | simp only [↓QA, QB, Nat.reduceLT, reduceIte, Nat.reduceEqDiff, Nat.reduceAdd, Nat.reduceLeDiff, Nat.reduceMul, Nat.reduceBEq, QXHHdQ2, x3, encSNE] | refine rd0 rfl ?_)))
 ((first | refine callK_d (preaches_ok (exS []) 1 20 (fits_ex _)) rfl dd ?_ | refine callD_d (preaches_ok (exS []) 1 20 (fits_ex _)) rfl dd ?_); (repeat (first | simp only [↓QA, QB, Nat.reduceLT, reduceIte, Nat.reduceEqDiff, Nat.reduceAdd, Nat.reduceLeDiff, Nat.reduceMul, Nat.reduceBEq, QXHHdQ2, x4, encSNE] | refine rd0 rfl ?_)))
 ((first | refine callK_d (pblocked_ok exM (fits_ex _)) rfl dd ?_ | refine callD_d (pblocked_ok exM (fits_ex _)) rfl dd ?_); (repeat (first | simp only [↓QA, QB, Nat.reduceLT, reduceIte, Nat.reduceEqDiff, Nat.reduceAdd, Nat.reduceLeDiff, Nat.reduceMul, Nat.reduceBEq, QXHHdQ2, x5, encLLE] | refine rd0 rfl ?_)))
 ((first | refine callK_d (pkeeps_ok exL 1 (fits_ex _)) rfl dd ?_ | refine callD_d (pkeeps_ok exL 1 (fits_ex _)) rfl dd ?_); (repeat (first | simp only [↓QA, QB, Nat.reduceLT, reduceIte, Nat.reduceEqDiff, Nat.reduceAdd, Nat.reduceLeDiff, Nat.reduceMul, Nat.reduceBEq, QXHHdQ2, x6, encIE] | refine rd0 rfl ?_)))
 ((first | refine callK_d (pkeeps_ok exM 1 (fits_ex _)) rfl dd ?_ | refine callD_d (pkeeps_ok exM 1 (fits_ex _)) rfl dd ?_); (repeat (first | simp only [↓QA, QB, Nat.reduceLT, reduceIte, Nat.reduceEqDiff, Nat.reduceAdd, Nat.reduceLeDiff, Nat.reduceMul, Nat.reduceBEq, QXHHdQ2, x7, encIE] | refine rd0 rfl ?_)))
 ((first | refine callK_d (pspoils_ok (exS []) (fits_ex _)) rfl dd ?_ | refine callD_d (pspoils_ok (exS []) (fits_ex _)) rfl dd ?_); (repeat (first | simp only [↓QA, QB, Nat.reduceLT, reduceIte, Nat.reduceEqDiff, Nat.reduceAdd, Nat.reduceLeDiff, Nat.reduceMul, Nat.reduceBEq, QXHHdQ2, x8, encLLE] | refine rd0 rfl ?_)))
 ((first | refine callK_d (pclear_ok (exS []) (fits_ex _)) rfl dd ?_ | refine callD_d (pclear_ok (exS []) (fits_ex _)) rfl dd ?_); (repeat (first | simp only [↓QA, QB, Nat.reduceLT, reduceIte, Nat.reduceEqDiff, Nat.reduceAdd, Nat.reduceLeDiff, Nat.reduceMul, Nat.reduceBEq, QXHHdQ2, x9, encLE] | refine rd0 rfl ?_)))
 ((first | refine callK_d (pwrong_ok exW (fits_ex _)) rfl dd ?_ | refine callD_d (pwrong_ok exW (fits_ex _)) rfl dd ?_); (repeat (first | simp only [↓QA, QB, Nat.reduceLT, reduceIte, Nat.reduceEqDiff, Nat.reduceAdd, Nat.reduceLeDiff, Nat.reduceMul, Nat.reduceBEq, QXHHdQ2, x10, encLE] | refine rd0 rfl ?_)))
 ((first | refine callK_d (pkeeps_ok exW 0 (fits_ex _)) rfl dd ?_ | refine callD_d (pkeeps_ok exW 0 (fits_ex _)) rfl dd ?_); (repeat (first | simp only [↓QA, QB, Nat.reduceLT, reduceIte, Nat.reduceEqDiff, Nat.reduceAdd, Nat.reduceLeDiff, Nat.reduceMul, Nat.reduceBEq, QXHHdQ2, x11, encIE] | refine rd0 rfl ?_)))
 refine callK_do (ship_run _) ?_
 simp only [List.length_cons, List.length_nil, List.cons_append, List.nil_append, shipR, shipRB]
 (repeat (first | simp only [↓QA, QB, Nat.reduceLT, reduceIte, Nat.reduceEqDiff, Nat.reduceAdd, Nat.reduceLeDiff, Nat.reduceMul, Nat.reduceBEq, QXHHdQ2] | refine rd0 rfl ?_))
 have r1 : ∀ (b0 b1 b2 b3 b4 b5 b6 b7 b8 : ABlk) (τ : St), snapM (b0 :: b1 :: b2 :: b3 :: b4 :: b5 :: b6 :: b7 :: b8 :: .cells [.int .i64 50, .int .i64 54, .int .i64 50] :: τ) 0 20 (.ref 9 0 3 1) = some (.lit [.int .i64 50, .int .i64 54, .int .i64 50] false none) := fun b0 b1 b2 b3 b4 b5 b6 b7 b8 τ => by
  rw [S_ref]
  simp [view, cellsAt, chop, allCells, AV.cells, AV.cell]
  try simp only [QS, QC, Nat.reduceLT, reduceIte, Nat.reduceEqDiff, Nat.reduceAdd, Nat.reduceLeDiff, Nat.reduceMul, Nat.reduceBEq, QXHHdQ2, clrs, clr]
 have r2 : ∀ (b0 b1 b2 b3 b4 b5 b6 b7 b8 b9 : ABlk) (τ : St), snapM (b0 :: b1 :: b2 :: b3 :: b4 :: b5 :: b6 :: b7 :: b8 :: b9 :: .cells [.int .i64 30, .int .i64 32, .int .i64 0, .int .i64 22, .int .i64 26, .int .i64 30, .int .i64 31, .int .i64 2, .int .i64 80, .int .i64 80] :: τ) 0 20 (.ref 10 0 2 5) = some (.lit [.agg [.int .i64 30, .int .i64 32, .int .i64 0, .int .i64 22, .int .i64 26], .agg [.int .i64 30, .int .i64 31, .int .i64 2, .int .i64 80, .int .i64 80]] false none) := fun b0 b1 b2 b3 b4 b5 b6 b7 b8 b9 τ => by
  rw [S_ref]
  simp [view, cellsAt, chop, allCells, AV.cells, AV.cell]
  try simp only [QS, QC, Nat.reduceLT, reduceIte, Nat.reduceEqDiff, Nat.reduceAdd, Nat.reduceLeDiff, Nat.reduceMul, Nat.reduceBEq, QXHHdQ2, clrs, clr]
 have hia : (if (0 : Int) ≤ 1 ∧ (1 : Int) < ((2 : Nat) : Int) then some (AV.ptr 10 (Int.toNat 1 * 5)) else none) = some (.ptr 10 5) := by simp
 ((first | refine callK_d (span_ok 80 80) rfl dd ?_ | refine callD_d (span_ok 80 80) rfl dd ?_); (repeat (first | simp only [↓QA, QB, Nat.reduceLT, reduceIte, Nat.reduceEqDiff, Nat.reduceAdd, Nat.reduceLeDiff, Nat.reduceMul, Nat.reduceBEq, QXHHdQ2, hia] | refine rd0 rfl ?_)))
 refine callK_s (pclear_ok exK (fits_exK)) ?_ ?_ ?_
 ·try simp only [QS, QC, Nat.reduceLT, reduceIte, Nat.reduceEqDiff, Nat.reduceAdd, Nat.reduceLeDiff, Nat.reduceMul, Nat.reduceBEq, QXHHdQ2, r1, r2, exK, exS, List.map_cons, List.map_nil]
 ·rw [x12]; exact ⟨trivial, trivial, trivial⟩
 (repeat (first | simp only [↓QA, QB, Nat.reduceLT, reduceIte, Nat.reduceEqDiff, Nat.reduceAdd, Nat.reduceLeDiff, Nat.reduceMul, Nat.reduceBEq, QXHHdQ2, x12, encLE] | refine rd0 rfl ?_))
 ((first | refine callK_d (span_ok 24 35) rfl dd ?_ | refine callD_d (span_ok 24 35) rfl dd ?_); (repeat (first | simp only [↓QA, QB, Nat.reduceLT, reduceIte, Nat.reduceEqDiff, Nat.reduceAdd, Nat.reduceLeDiff, Nat.reduceMul, Nat.reduceBEq, QXHHdQ2] | refine rd0 rfl ?_)))
 ((first | refine callK_d (span_ok 24 25) rfl dd ?_ | refine callD_d (span_ok 24 25) rfl dd ?_); (repeat (first | simp only [↓QA, QB, Nat.reduceLT, reduceIte, Nat.reduceEqDiff, Nat.reduceAdd, Nat.reduceLeDiff, Nat.reduceMul, Nat.reduceBEq, QXHHdQ2] | refine rd0 rfl ?_)))
 ((first | refine callK_d (span_ok 2 2) rfl dd ?_ | refine callD_d (span_ok 2 2) rfl dd ?_); (repeat (first | simp only [↓QA, QB, Nat.reduceLT, reduceIte, Nat.reduceEqDiff, Nat.reduceAdd, Nat.reduceLeDiff, Nat.reduceMul, Nat.reduceBEq, QXHHdQ2] | refine rd0 rfl ?_)))
 ((first | refine callK_v (ints_ok [1] [1] (by simp) (by simp)) (by simp [clr, clrs, ints]) (by simp [okV, okVs]) ?_ | refine callD_v (ints_ok [1] [1] (by simp) (by simp)) (by simp [clr, clrs, ints]) (by simp [okV, okVs]) ?_); (repeat (first | simp only [↓QA, QB, Nat.reduceLT, reduceIte, Nat.reduceEqDiff, Nat.reduceAdd, Nat.reduceLeDiff, Nat.reduceMul, Nat.reduceBEq, QXHHdQ2, eq_self] | refine rd0 rfl ?_)))
 ((first | refine callK_v (ints_ok [1] [1] (by simp) (by simp)) (by simp [clr, clrs, ints]) (by simp [okV, okVs]) ?_ | refine callD_v (ints_ok [1] [1] (by simp) (by simp)) (by simp [clr, clrs, ints]) (by simp [okV, okVs]) ?_); (repeat (first | simp only [↓QA, QB, Nat.reduceLT, reduceIte, Nat.reduceEqDiff, Nat.reduceAdd, Nat.reduceLeDiff, Nat.reduceMul, Nat.reduceBEq, QXHHdQ2, eq_self, show (((0 : Nat) : Int) == 0) = true from rfl] | refine rd0 rfl ?_)))
 ((first | refine callK_v (ints_ok [1] [1] (by simp) (by simp)) (by simp [clr, clrs, ints]) (by simp [okV, okVs]) ?_ | refine callD_v (ints_ok [1] [1] (by simp) (by simp)) (by simp [clr, clrs, ints]) (by simp [okV, okVs]) ?_); (repeat (first | simp only [↓QA, QB, Nat.reduceLT, reduceIte, Nat.reduceEqDiff, Nat.reduceAdd, Nat.reduceLeDiff, Nat.reduceMul, Nat.reduceBEq, QXHHdQ2, eq_self] | refine rd0 rfl ?_)))
 ((first | refine callK_v (ints_ok [1] [1] (by simp) (by simp)) (by simp [clr, clrs, ints]) (by simp [okV, okVs]) ?_ | refine callD_v (ints_ok [1] [1] (by simp) (by simp)) (by simp [clr, clrs, ints]) (by simp [okV, okVs]) ?_); (repeat (first | simp only [↓QA, QB, Nat.reduceLT, reduceIte, Nat.reduceEqDiff, Nat.reduceAdd, Nat.reduceLeDiff, Nat.reduceMul, Nat.reduceBEq, QXHHdQ2, eq_self] | refine rd0 rfl ?_)))
 ((first | refine callK_v (ints_ok [1] [1] (by simp) (by simp)) (by simp [clr, clrs, ints]) (by simp [okV, okVs]) ?_ | refine callD_v (ints_ok [1] [1] (by simp) (by simp)) (by simp [clr, clrs, ints]) (by simp [okV, okVs]) ?_); (repeat (first | simp only [↓QA, QB, Nat.reduceLT, reduceIte, Nat.reduceEqDiff, Nat.reduceAdd, Nat.reduceLeDiff, Nat.reduceMul, Nat.reduceBEq, QXHHdQ2, eq_self] | refine rd0 rfl ?_)))
end Go.Am.Room
