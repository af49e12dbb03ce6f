/- A part of the proof of RoomPlan: an abstract machine, or what functions come to on it. -/
import Derived.Test.YtkppbjllknnilaaAlmQ6
import Derived.ChangeArms
import Derived.SizedLaws
import Derived.ChangeBears
import Derived.ChangeShapes
import Derived.WideShapes
import Derived.ProofKit
import Derived.OpenShut
set_option linter.unusedVariables false
set_option linter.unusedSimpArgs false
set_option linter.defProp false
namespace Go.Am
open Go.ChangeShapes Go.WideShapes Go.ChangeAt Go.RowKit
variable {P : Program} {hh : String → Bool} {H : Type} {enc : TypeId × Value → H} {w : World} {sp : Nat → Bool} {held : Bool}
theorem wf_u8 {m : Int} (h : (Lit.int .u8 m).wf = true) : 0 ≤ m ∧ m < 256 := by
 simp [Lit.wf, IntKind.min, IntKind.max, IntKind.signed, IntKind.bits] at h
 omega
end Go.Am
namespace Go.Am.Room
open Go
variable {P : Program}
theorem ty_u8 {n : Nat} {cs : List AV} (T : Tys P) (h : Typ P (n + 1) 5 cs) : ∃ x : Int, mkV P 5 cs = .int .u8 x ∧ (0 ≤ x ∧ x < 256) := by
 obtain ⟨x, rfl, hw⟩ := typ_int T.u8 h
 exact ⟨x, mkV_ne T.u8 (by intro fs e; cases e), wf_u8 hw⟩
theorem ty_u8s {n : Nat} {cs : List AV} (T : Tys P) (h : Typ P (n + 2) 52 cs) : ∃ l : List Int, mkV P 52 cs = .lit (l.map (.int .u8)) false none ∧ (∀ x ∈ l, 0 ≤ x ∧ x < 256) ∧ l.length < 9223372036854775808 := by
 obtain ⟨l, rfl, ⟨h1, _⟩, h2⟩ := typ_slice (f := fun x : Int => AV.int .u8 x) T.u8s h fun y hy => ty_u8 T hy
 exact ⟨l, mkV_ne T.u8s (by intro fs e; cases e), h2, h1⟩
theorem ty_want {n : Nat} {cs : List AV} (T : Tys P) (h : Typ P (n + 2) 65 cs) : ∃ x y : Int, mkV P 65 cs = .agg [.int .u8 x, .int .u8 y] ∧ (0 ≤ x ∧ x < 256) ∧ (0 ≤ y ∧ y < 256) := by
 obtain ⟨e, a, b, rfl, h1, c, d, rfl, h2, rfl⟩ := typ_st T.want h
 obtain ⟨x, rfl, hx⟩ := typ_int T.u8 h1
 obtain ⟨y, rfl, hy⟩ := typ_int T.u8 h2
 exact ⟨x, y, e, wf_u8 hx, wf_u8 hy⟩
end Go.Am.Room
set_option maxRecDepth 8000
namespace Go.Am.Room
theorem valid_ok (r : Rm) (hf : Fits r) : Pure T 38 [encRoom r] (.bool (decide ((check r).2.2 = 0))) := by
 refine pure_fn (af := a38) rfl (by simp [a38]) dd ?_
 (repeat (first | simp only [↓QA, QB, Nat.reduceLT, reduceIte, Nat.reduceEqDiff, Nat.reduceAdd, Nat.reduceLeDiff, Nat.reduceMul, Nat.reduceBEq, QXLaw1, a38] | refine rd0 rfl ?_))
 ((first | refine callK_d (refcheck_ok r hf) rfl dd ?_ | refine callD_d (refcheck_ok r hf) rfl dd ?_); (repeat (first | simp only [↓QA, QB, Nat.reduceLT, reduceIte, Nat.reduceEqDiff, Nat.reduceAdd, Nat.reduceLeDiff, Nat.reduceMul, Nat.reduceBEq, QXLaw1, enc3] | refine rd0 rfl ?_)))
 try rfl
 try (simp; rfl)
def someV (r : Rm) : Bool := decide ((check r).2.2 = 0) && someB r []
theorem some2_ok (r : Rm) (hf : Fits r) : Pure T 45 [encRoom r] (.bool (someV r)) := by
 refine pure_fn (af := a45) rfl (by simp [a45]) dd ?_
 (repeat (first | simp only [↓QA, QB, Nat.reduceLT, reduceIte, Nat.reduceEqDiff, Nat.reduceAdd, Nat.reduceLeDiff, Nat.reduceMul, Nat.reduceBEq, QXLaw1, a45] | refine rd0 rfl ?_))
 ((first | refine callK_d (valid_ok r hf) rfl dd ?_ | refine callD_d (valid_ok r hf) rfl dd ?_); (repeat (first | simp only [↓QA, QB, Nat.reduceLT, reduceIte, Nat.reduceEqDiff, Nat.reduceAdd, Nat.reduceLeDiff, Nat.reduceMul, Nat.reduceBEq, QXLaw1] | refine rd0 rfl ?_)))
 cases h0 : decide ((check r).2.2 = 0)
 ·(repeat (first | simp only [↓QA, QB, Nat.reduceLT, reduceIte, Nat.reduceEqDiff, Nat.reduceAdd, Nat.reduceLeDiff, Nat.reduceMul, Nat.reduceBEq, QXLaw1, someV, h0, Bool.false_and] | refine rd0 rfl ?_))
 ·have hv := vd_of_check (by simpa using h0)
  have hs := some_ok r [] hv hf (by simp)
  (repeat (first | simp only [↓QA, QB, Nat.reduceLT, reduceIte, Nat.reduceEqDiff, Nat.reduceAdd, Nat.reduceLeDiff, Nat.reduceMul, Nat.reduceBEq, QXLaw1] | refine rd0 rfl ?_))
  refine callK_v hs (room_nil r) (room_nil_ok r) ?_
  (repeat (first | simp only [↓QA, QB, Nat.reduceLT, reduceIte, Nat.reduceEqDiff, Nat.reduceAdd, Nat.reduceLeDiff, Nat.reduceMul, Nat.reduceBEq, QXLaw1, someV, h0, Bool.true_and] | refine rd0 rfl ?_))
def turnOf (l : List Int) (n : Nat) : Int := if l.length = 0 then 0 else (l[n % l.length]?).getD 0
theorem S_u8s (σ : St) (m d : Nat) (l : List Int) : snapMs σ m d (l.map (.int .u8)) = some (l.map (.int .u8)) := S_datas (datas_map (data_int .u8) l) σ m d
def Bytes (l : List Int) : Prop := (∀ x ∈ l, 0 ≤ x ∧ x < 256) ∧ l.length < 9223372036854775808
theorem turnOf_bd {l : List Int} (h : Bytes l) (n : Nat) : 0 ≤ turnOf l n ∧ turnOf l n < 256 := by
 unfold turnOf
 split
 ·omega
 ·rename_i h0
  have hlt : n % l.length < l.length := Nat.mod_lt _ (by omega)
  rw [List.getElem?_eq_getElem hlt, Option.getD_some]
  exact h.1 _ (List.getElem_mem hlt)
theorem turn_ok (l : List Int) (n : Nat) (h : Bytes l) (hn : n < 9223372036854775808) : Pure T 43 [u8s l, .int .i64 n] (.int .i64 (turnOf l n)) := by
 refine pure_fn (af := a43) rfl (by simp [a43]) (datas_cons (data_u8s l) (datas_cons (data_int _ _) datas_nil)) ?_
 have hl := h.2
 (repeat (first | simp only [↓QA, QB, Nat.reduceLT, reduceIte, Nat.reduceEqDiff, Nat.reduceAdd, Nat.reduceLeDiff, Nat.reduceMul, Nat.reduceBEq, QXLaw1, a43, u8s] | refine rd0 rfl ?_))
 refine iteP_intro (fun h0 => ?_) fun h0 => ?_
 ·have h0' : l.length = 0 := by simp at h0; simp [h0]
  (repeat (first | simp only [↓QA, QB, Nat.reduceLT, reduceIte, Nat.reduceEqDiff, Nat.reduceAdd, Nat.reduceLeDiff, Nat.reduceMul, Nat.reduceBEq, QXLaw1, turnOf, h0'] | refine rd0 rfl ?_))
 ·have h0' : l.length ≠ 0 := by intro e; rw [e] at h0; simp at h0
  have hlt : n % l.length < l.length := Nat.mod_lt _ (by omega)
  have hb := h.1 _ (List.getElem_mem hlt)
  have hm : ((n : Int).tmod (l.length : Int)) = ((n % l.length : Nat) : Int) := by rw [Int.tmod_eq_emod_of_nonneg (by omega)]; norm_cast
  have hw : IntKind.i64.wrap l[n % l.length] = l[n % l.length] := wrap64 ⟨by omega, by omega⟩
  (repeat (first | simp only [↓QA, QB, Nat.reduceLT, reduceIte, Nat.reduceEqDiff, Nat.reduceAdd, Nat.reduceLeDiff, Nat.reduceMul, Nat.reduceBEq, QXLaw1, V_rem _ _ _ (show ((l.length : Nat) : Int) ≠ 0 by omega), hm, hlt, hw] | refine rd0 rfl ?_))
  simp [turnOf, h0', hlt]
def oneOf (s : Span) (n : Int) : Int := s.lo + n.tmod (s.hi - s.lo + 1)
theorem oneOf_in {s : Span} {n : Int} (hs : s.lo ≤ s.hi) (hn : 0 ≤ n) : s.lo ≤ oneOf s n ∧ oneOf s n ≤ s.hi := by
 have h1 := Int.tmod_nonneg (s.hi - s.lo + 1) hn
 have h2 := Int.tmod_lt_of_pos n (show 0 < s.hi - s.lo + 1 by omega)
 simp only [oneOf]; omega
theorem one_ok (s : Span) (n : Int) (h0 : 0 ≤ s.lo) (h1 : s.lo ≤ s.hi) (h2 : s.hi < 1000000) (hn : 0 ≤ n) (hn2 : n < 9223372036854775808) : Pure T 44 [encSpan s, .int .i64 n] (.int .i64 (oneOf s n)) := by
 refine pure_fn (af := a44) rfl (by simp [a44]) dd ?_
 have hin := oneOf_in h1 hn
 have w1 : IntKind.i64.wrap (s.hi - s.lo) = s.hi - s.lo := wrap64 ⟨by omega, by omega⟩
 have w2 : IntKind.i64.wrap (s.hi - s.lo + 1) = s.hi - s.lo + 1 := wrap64 ⟨by omega, by omega⟩
 have w3 : IntKind.i64.wrap (s.lo + n.tmod (s.hi - s.lo + 1)) = s.lo + n.tmod (s.hi - s.lo + 1) := wrap64 ⟨by simp only [oneOf] at hin; omega, by simp only [oneOf] at hin; omega⟩
 (repeat (first | simp only [↓QA, QB, Nat.reduceLT, reduceIte, Nat.reduceEqDiff, Nat.reduceAdd, Nat.reduceLeDiff, Nat.reduceMul, Nat.reduceBEq, QXLaw1, a44, w1, w2, V_rem _ _ _ (show (s.hi - s.lo + 1 : Int) ≠ 0 by omega), w3, oneOf] | refine rd0 rfl ?_))
theorem listsOf_all (m : Nat) : ∀ (k : Nat) (c : List Int), c.length = k → (∀ x ∈ c, 0 ≤ x ∧ x < m) → c ∈ listsOf m k
 | 0, c, hl, _ => by rw [List.length_eq_zero_iff.1 hl]; simp [listsOf]
 | k + 1, [], hl, _ => by simp at hl
 | k + 1, x :: c, hl, hx => by
  rw [listsOf_front, List.mem_flatMap]
  refine ⟨x, ?_, List.mem_map.2 ⟨c, listsOf_all m k c (by simpa using hl) fun y hy => hx y (List.mem_cons_of_mem _ hy), rfl⟩⟩
  rw [numbers_mem]
  have := hx x (by simp)
  omega
theorem numbers_sorted : ∀ (n : Nat) (a : Int), (numbers a n).Pairwise (· < ·)
 | 0, a => by simp [numbers]
 | n + 1, a => by
  simp only [numbers, List.pairwise_cons]
  refine ⟨fun b hb => ?_, numbers_sorted n (a + 1)⟩
  rw [numbers_mem] at hb; omega
theorem less_cons {a b : Int} {az bs : List Int} (h : a < b) : less (a :: az) (b :: bs) = true := by simp only [less]; rw [if_neg (by omega)]; simpa using h
theorem less_same {a : Int} {az bs : List Int} : less (a :: az) (a :: bs) = less az bs := by simp [less]
theorem pair_flat {α β : Type} {R : β → β → Prop} {f : α → List β} {S : α → α → Prop} (hS : ∀ a b, S a b → ∀ x ∈ f a, ∀ y ∈ f b, R x y) (hf : ∀ a, (f a).Pairwise R) : ∀ l : List α, l.Pairwise S → (l.flatMap f).Pairwise R
 | [], _ => by simp
 | a :: l, h => by
  rw [List.pairwise_cons] at h
  rw [List.flatMap_cons, List.pairwise_append]
  refine ⟨hf a, pair_flat hS hf l h.2, fun x hx y hy => ?_⟩
  rw [List.mem_flatMap] at hy
  obtain ⟨b, hb, hy⟩ := hy
  exact hS a b (h.1 b hb) x hx y hy
theorem listsOf_sorted (m : Nat) : ∀ k, (listsOf m k).Pairwise fun a b => less a b = true
 | 0 => by simp [listsOf]
 | k + 1 => by
  rw [listsOf_front]
  refine pair_flat (S := (· < ·)) (fun a b hab x hx y hy => ?_) (fun a => ?_) _ (numbers_sorted m 0)
  ·obtain ⟨x', _, rfl⟩ := List.mem_map.1 hx
   obtain ⟨y', _, rfl⟩ := List.mem_map.1 hy
   exact less_cons hab
  ·rw [List.pairwise_map]
   refine (listsOf_sorted m k).imp ?_
   intro x y h
   rw [less_same]; exact h
theorem before_of_less {ls : List (List Int)} (hs : ls.Pairwise fun a b => less a b = true) {i j : Nat} {a b : List Int} (ha : ls[i]? = some a) (hb : ls[j]? = some b) (h : less a b = true) : i < j := by
 obtain ⟨hi, rfl⟩ := List.getElem?_eq_some_iff.1 ha
 obtain ⟨hj, rfl⟩ := List.getElem?_eq_some_iff.1 hb
 by_cases hij : i < j
 ·exact hij
 ·exfalso
  by_cases he : i = j
  ·subst he; rw [less_irr] at h; cases h
  ·have := List.pairwise_iff_getElem.1 hs j i hj hi (by omega)
   have h3 := less_trans h this
   rw [less_irr] at h3; cases h3
theorem best_le {r : Rm} {s : Span} {b c : Int} {many : Nat} {l o : List Int} {n : Int} (hb : bestOf r s b many c = some (l, n)) (ho : OkPl r s b c o) (hl : o.length = many) (hx : ∀ x ∈ o, 0 ≤ x ∧ x < r.settings.length) : n ≤ changesOf b o ∧ (changesOf b o = n → less o l = false) := by
 have hmem := listsOf_all r.settings.length many o hl hx
 rcases best_cases r s b many c with ⟨h1, _⟩ | ⟨j, l', h1, h2, h3, h4, h5⟩
 ·rw [h1] at hb; cases hb
 ·rw [h2] at hb
  simp only [Option.some.injEq, Prod.mk.injEq] at hb
  obtain ⟨rfl, rfl⟩ := hb
  refine ⟨h4 o hmem ho, fun he => ?_⟩
  rw [Bool.eq_false_iff]
  intro hlt
  obtain ⟨i, hi⟩ := List.getElem?_of_mem hmem
  have := h5 i o (before_of_less (listsOf_sorted _ _) hi h1 hlt) hi ho
  omega
theorem best_ok2 {r : Rm} {s : Span} {b c : Int} {many : Nat} {l : List Int} {n : Int} (hb : bestOf r s b many c = some (l, n)) : n = changesOf b l ∧ OkPl r s b c l ∧ l.length = many ∧ ∀ x ∈ l, 0 ≤ x ∧ x < r.settings.length := by
 rcases best_cases r s b many c with ⟨h1, _⟩ | ⟨j, l', h1, h2, h3, h4, h5⟩
 ·rw [h1] at hb; cases hb
 ·rw [h2] at hb
  simp only [Option.some.injEq, Prod.mk.injEq] at hb
  obtain ⟨rfl, rfl⟩ := hb
  obtain ⟨q1, q2⟩ := listsOf_spec _ _ _ (List.mem_of_getElem? h1)
  exact ⟨rfl, h3, q1, q2⟩
theorem best_no {r : Rm} {s : Span} {b c : Int} {many : Nat} (hb : bestOf r s b many c = none) {o : List Int} (hl : o.length = many) (hx : ∀ x ∈ o, 0 ≤ x ∧ x < r.settings.length) : ¬ OkPl r s b c o := by
 rcases best_cases r s b many c with ⟨_, h1⟩ | ⟨j, l', h1, h2, _⟩
 ·exact h1 o (listsOf_all _ _ o hl hx)
 ·rw [h2] at hb; cases hb
theorem colour_mono {a b : Int} (h : a ≤ b) : colourOf a ≤ colourOf b := by simp only [colourOf]; omega
theorem gives_iff {r : Rm} {s : Span} {l : List Int} {c : Int} : givesOf r s l c = true ↔ colourOf (s.lo + (sumS r l).lo) = c ∧ colourOf (s.hi + (sumS r l).hi) = c := by simp [givesOf]
structure Tr (r : Rm) : Prop where
 vd : Vd r
 some : someB r [] = true
 chk : (check r).2.2 = 0
theorem tr_of {r : Rm} (h : (decide ((check r).2.2 = 0) && someB r []) = true) : Tr r := by
 simp only [Bool.and_eq_true, decide_eq_true_eq] at h
 exact ⟨vd_of_check h.1, h.2, h.1⟩
theorem Tr.ask {r : Rm} (h : Tr r) {n lo hi : Int} (h1 : lo ≤ n) (h2 : n ≤ hi) : errAsk r n lo hi = 0 := by simp [errAsk, h.chk, inR, h1, h2]
theorem Tr.known {r : Rm} (h : Tr r) : errKnown r 0 = 0 := by simp [errKnown, h.some]
theorem Tr.points {r : Rm} (h : Tr r) {d : Nat} (hd : d ≤ r.ran.length) : pointsOf r d = (ptsS r d, 0) := by
 have e := h.ask (n := (d : Int)) (lo := 0) (hi := r.ran.length) (by omega) (by omega)
 rw [pointsOf, e, h.known, if_pos rfl, Int.toNat_natCast, ptsS_eq h.vd]
theorem Tr.colours {r : Rm} (h : Tr r) {d : Nat} (hd : d ≤ r.ran.length) : coloursOf r d = (colours (ptsS r d), 0) := by
 rw [coloursOf, h.points hd]; rfl
theorem Tr.bd {r : Rm} (h : Tr r) (d : Nat) : 0 ≤ (ptsS r d).lo ∧ (ptsS r d).lo ≤ (ptsS r d).hi ∧ (ptsS r d).hi < 160 := ptsS_bd h.vd h.some d
theorem Tr.plan {r : Rm} (h : Tr r) {day c : Int} (h1 : (r.ran.length : Int) ≤ day) (h2 : day ≤ r.days) (h3 : 1 ≤ c) (h4 : c ≤ 7) : planOf r day c = (match bestOf r (ptsS r r.ran.length) (beforeOf r) (day - r.ran.length).toNat c with | .none => ([], 0, 9) | .some x => (x.1, x.2, 0)) := by
 have : isColour c = true := by simp [isColour, inR, h3, h4]
 rw [planOf, planErr, h.ask h1 h2, errWant, this]
 simp only [if_true, h.known]
 rfl
theorem Tr.fill {r : Rm} (h : (check r).2.2 = 0) {day c : Int} (h1 : 0 ≤ day) (h2 : day ≤ r.days) (h3 : 1 ≤ c) (h4 : c ≤ 7) : fillOf r day c = ((numbers 0 (day + 1).toNat).filter (fills r day c), 0) := by
 have : isColour c = true := by simp [isColour, inR, h3, h4]
 have e : errAsk r day 0 r.days = 0 := by simp [errAsk, h, inR, h1, h2]
 rw [fillOf, fillErr, e, errWant, this]
 simp
theorem not_tr {r : Rm} (h : (decide ((check r).2.2 = 0) && someB r []) = false) (e : Int) (he : (check r).2.2 ≠ 0 → e ≠ 0) : errKnown r e ≠ 0 := by
 intro hk
 obtain ⟨h1, h2⟩ := errKnown_ok hk
 by_cases hc : (check r).2.2 = 0
 ·rw [h2] at h; simp [hc] at h
 ·exact he hc h1
end Go.Am.Room
set_option maxRecDepth 8000
namespace Go.Am.Room
def QXLaw3 := And.intro @encRoom_eq (And.intro @roomCells_eq (And.intro @encSetting_eq (And.intro @encLook_eq (And.intro @encSpan_eq (And.intro @T_sapp (@List.length_append.{0}))))))
def settOf (r : Rm) (x : List Int) (n : Nat) : List Int := (List.range n).map fun i => (turnOf x i).tmod r.settings.length
def settingsOf (r : Rm) (many : Nat) (x : List Int) : List Int := settOf r x (min many (r.days - r.ran.length).toNat)
theorem settOf_len (r : Rm) (x : List Int) (n : Nat) : (settOf r x n).length = n := by simp [settOf]
theorem settOf_in {r : Rm} (hv : Vd r) {x : List Int} (hx : Bytes x) (n : Nat) : ∀ i ∈ settOf r x n, 0 ≤ i ∧ i < r.settings.length := by
 intro i hi
 simp only [settOf, List.mem_map] at hi
 obtain ⟨k, _, rfl⟩ := hi
 have h1 := hv.nset
 have h2 := turnOf_bd hx k
 exact ⟨Int.tmod_nonneg _ h2.1, Int.tmod_lt_of_pos _ (by omega)⟩
theorem settOf_succ (r : Rm) (x : List Int) (n : Nat) : settOf r x (n + 1) = settOf r x n ++ [(turnOf x n).tmod r.settings.length] := by simp [settOf, List.range_succ]
theorem settings_ok (r : Rm) (many : Nat) (x : List Int) (hv : Vd r) (hx : Bytes x) (hm : many ≤ 10) : Pure T 42 [encRoom r, .int .i64 many, u8s x] (ints (settingsOf r many x)) := by
 refine pure_fn (af := a42) rfl (by simp [a42]) dd ?_
 have h1 := hv.ranLen
 have h2 := hv.days
 have h3 := hv.nset
 have hsub : IntKind.i64.wrap (r.days - (r.ran.length : Int)) = r.days - r.ran.length := wrap64 ⟨by omega, by omega⟩
 (repeat (first | simp only [↓QA, QB, Nat.reduceLT, reduceIte, Nat.reduceEqDiff, Nat.reduceAdd, Nat.reduceLeDiff, Nat.reduceMul, Nat.reduceBEq, QXLaw3, a42, u8s] | refine rd0 rfl ?_))
 refine ghostK 7 1 [] rfl ?_
 refine loopE (S := Nat × Bool) (0, false) (fun s => s.1 ≤ min many (r.days - r.ran.length).toNat) (fun s => many - s.1)
  (fun s => [(1, .int .i64 many), (2, u8s x), (3, .ptr 0 0), (7, .lit ((settOf r x s.1).map (.int .i64)) false (some 1)), (8, .int .i64 s.1)]) (fun s => [.cells (roomCells r), .tok 1 s.1 s.2]) (by simp) (by simp [roomCells, ints]) ?_ fun s hs => ?_
 ·try simp only [TrimX, QE, Nat.reduceLT, reduceIte, Nat.reduceEqDiff, Nat.reduceAdd, Nat.reduceLeDiff, Nat.reduceMul, Nat.reduceBEq, QXLaw3, u8s]
  try simp [settOf]
 ·obtain ⟨k, ex⟩ := s
  simp only at hs
  have hl := settOf_len r x k
  (repeat (first | simp only [↓QA, QB, Nat.reduceLT, reduceIte, Nat.reduceEqDiff, Nat.reduceAdd, Nat.reduceLeDiff, Nat.reduceMul, Nat.reduceBEq, QXLaw3, L42_0, u8s] | refine rd0 rfl ?_))
  cases g1 : decide ((k : Int) < (many : Int))
  ·have g1' : ¬ k < many := by simpa using g1
   have hk : k = min many (r.days - r.ran.length).toNat := by omega
   (repeat (first | simp only [↓QA, QB, Nat.reduceLT, reduceIte, Nat.reduceEqDiff, Nat.reduceAdd, Nat.reduceLeDiff, Nat.reduceMul, Nat.reduceBEq, QXLaw3, settingsOf, hk] | refine rd0 rfl ?_))
   try rw [hk]
  ·have g1' : k < many := by simpa using g1
   (repeat (first | simp only [↓QA, QB, Nat.reduceLT, reduceIte, Nat.reduceEqDiff, Nat.reduceAdd, Nat.reduceLeDiff, Nat.reduceMul, Nat.reduceBEq, QXLaw3, hsub] | refine rd0 rfl ?_))
   cases g2 : decide ((k : Int) < r.days - (r.ran.length : Int))
   ·have g2' : ¬ (k : Int) < r.days - r.ran.length := by simpa using g2
    have hk : k = min many (r.days - r.ran.length).toNat := by omega
    (repeat (first | simp only [↓QA, QB, Nat.reduceLT, reduceIte, Nat.reduceEqDiff, Nat.reduceAdd, Nat.reduceLeDiff, Nat.reduceMul, Nat.reduceBEq, QXLaw3, settingsOf, hk] | refine rd0 rfl ?_))
    try rw [hk]
   ·have g2' : (k : Int) < r.days - r.ran.length := by simpa using g2
    have hw := wrapN g1' (by omega)
    have hb := turnOf_bd hx k
    have hap := fun (b : ABlk) (τ : St) => append_intT (σ := b :: .tok 1 k ex :: τ) (l := settOf r x k) (a := (turnOf x k).tmod r.settings.length) (ex := ex) (t := 1) (by omega) (by rw [hl]; rfl)
    rw [hl] at hap
    (repeat (first | simp only [↓QA, QB, Nat.reduceLT, reduceIte, Nat.reduceEqDiff, Nat.reduceAdd, Nat.reduceLeDiff, Nat.reduceMul, Nat.reduceBEq, QXLaw3] | refine rd0 rfl ?_))
    ((first | refine callK_d (turn_ok x k hx (by omega)) rfl dd ?_ | refine callD_d (turn_ok x k hx (by omega)) rfl dd ?_); (repeat (first | simp only [↓QA, QB, Nat.reduceLT, reduceIte, Nat.reduceEqDiff, Nat.reduceAdd, Nat.reduceLeDiff, Nat.reduceMul, Nat.reduceBEq, QXLaw3, V_rem _ _ _ (show ((r.settings.length : Nat) : Int) ≠ 0 by omega), hap, hw] | refine rd0 rfl ?_)))
    refine ⟨(k + 1, true), by simp only; omega, by simp only; omega, ?_⟩
    try simp only [TrimX, QE, Nat.reduceLT, reduceIte, Nat.reduceEqDiff, Nat.reduceAdd, Nat.reduceLeDiff, Nat.reduceMul, Nat.reduceBEq, QXLaw3, hw, S_mapI, settOf_succ, u8s, List.map_append, List.map_cons, List.map_nil]
    try simp [okBlk]
theorem lwithin_ok (r : Rm) (l : List Int) (hf : Fits r) (hl : l.length < 9223372036854775808) : Pure T 50 [encRoom r, ints l] (.bool (l.all (isSetting r))) := by
 refine pure_fn (af := a50) rfl (by simp [a50]) dd ?_
 have hfs := hf.settings
 have hws : IntKind.i64.wrap ((r.settings.length : Int) - 1) = (r.settings.length : Int) - 1 := wrap64 ⟨by omega, by omega⟩
 (repeat (first | simp only [↓QA, QB, Nat.reduceLT, reduceIte, Nat.reduceEqDiff, Nat.reduceAdd, Nat.reduceLeDiff, Nat.reduceMul, Nat.reduceBEq, QXLaw3, a50] | refine rd0 rfl ?_))
 refine loopE (S := Nat × Bool) (0, true) (fun s => s.1 ≤ l.length ∧ (s.2 && (l.drop s.1).all (isSetting r)) = l.all (isSetting r)) (fun s => l.length - s.1) (fun s => [(1, ints l), (2, .ptr 0 0), (5, .bool s.2), (6, .int .i64 s.1)]) (fun _ => [.cells (roomCells r)]) ⟨by simp, by simp⟩ (by simp [roomCells, ints]) ?_ fun s hs => ?_
 ·try simp only [TrimX, QE, Nat.reduceLT, reduceIte, Nat.reduceEqDiff, Nat.reduceAdd, Nat.reduceLeDiff, Nat.reduceMul, Nat.reduceBEq, QXLaw3]
  try simp
 ·obtain ⟨k, b⟩ := s
  obtain ⟨hk, hq⟩ := hs
  simp only at hk hq
  (repeat (first | simp only [↓QA, QB, Nat.reduceLT, reduceIte, Nat.reduceEqDiff, Nat.reduceAdd, Nat.reduceLeDiff, Nat.reduceMul, Nat.reduceBEq, QXLaw3, L50_0] | refine rd0 rfl ?_))
  refine iteP_intro (fun h => ?_) fun h => ?_
  ·have hk1 : k < l.length := by simpa using h
   have hw := wrapN hk1 hl
   rw [List.drop_eq_getElem_cons hk1, List.all_cons] at hq
   (repeat (first | simp only [↓QA, QB, Nat.reduceLT, reduceIte, Nat.reduceEqDiff, Nat.reduceAdd, Nat.reduceLeDiff, Nat.reduceMul, Nat.reduceBEq, QXLaw3, hk1] | refine rd0 rfl ?_))
   cases b
   ·(repeat (first | simp only [↓QA, QB, Nat.reduceLT, reduceIte, Nat.reduceEqDiff, Nat.reduceAdd, Nat.reduceLeDiff, Nat.reduceMul, Nat.reduceBEq, QXLaw3, hk1, hw] | refine rd0 rfl ?_))
    refine ⟨(k + 1, false), ⟨by simp only; omega, by simpa using hq⟩, by simp only; omega, ?_⟩
    try simp only [TrimX, QE, Nat.reduceLT, reduceIte, Nat.reduceEqDiff, Nat.reduceAdd, Nat.reduceLeDiff, Nat.reduceMul, Nat.reduceBEq, QXLaw3, hw]
   ·(repeat (first | simp only [↓QA, QB, Nat.reduceLT, reduceIte, Nat.reduceEqDiff, Nat.reduceAdd, Nat.reduceLeDiff, Nat.reduceMul, Nat.reduceBEq, QXLaw3, hk1, hws] | refine rd0 rfl ?_))
    ((first | refine callK_d (in_ok _ _ _) rfl dd ?_ | refine callD_d (in_ok _ _ _) rfl dd ?_); (repeat (first | simp only [↓QA, QB, Nat.reduceLT, reduceIte, Nat.reduceEqDiff, Nat.reduceAdd, Nat.reduceLeDiff, Nat.reduceMul, Nat.reduceBEq, QXLaw3, hk1, hw, hws] | refine rd0 rfl ?_)))
    refine ⟨(k + 1, inR l[k] 0 ((r.settings.length : Int) - 1)), ⟨by simp only; omega, by simpa [isSetting] using hq⟩, by simp only; omega, ?_⟩
    try simp only [TrimX, QE, Nat.reduceLT, reduceIte, Nat.reduceEqDiff, Nat.reduceAdd, Nat.reduceLeDiff, Nat.reduceMul, Nat.reduceBEq, QXLaw3, hw]
  ·have hk1 : k = l.length := by simp at h; omega
   rw [hk1, List.drop_length, List.all_nil, Bool.and_true] at hq
   subst hq
   (repeat (first | simp only [↓QA, QB, Nat.reduceLT, reduceIte, Nat.reduceEqDiff, Nat.reduceAdd, Nat.reduceLeDiff, Nat.reduceMul, Nat.reduceBEq, QXLaw3] | refine rd0 rfl ?_))
def tp (r : Rm) (x : List Int) : Nat → Int
 | 0 => oneOf r.start (turnOf x 0)
 | d + 1 => tp r x d + oneOf (gainAt r d) (turnOf x (1 + d))
def toldLooks (r : Rm) (x : List Int) (l : List Look) : List Look := l.map fun y => ⟨y.day, colourOf (tp r x y.day.toNat)⟩
def told (r : Rm) (x : List Int) : Rm := { r with looks := toldLooks r x r.looks }
end Go.Am.Room
set_option maxRecDepth 8000
namespace Go.Am.Room
theorem sumS_app (r : Rm) : ∀ a b : List Int, sumS r (a ++ b) = plus (sumS r a) (sumS r b)
 | [], b => by simp [sumS, plus]
 | n :: a, b => by simp only [List.cons_append, sumS, sumS_app r a b, plus_assoc]
theorem not_some_err {r : Rm} (h : someV r = false) (e : Int) (he : (check r).2.2 ≠ 0 → e ≠ 0) : errKnown r e ≠ 0 := not_tr h e he
theorem ask_ne {r : Rm} {n lo hi : Int} : (check r).2.2 ≠ 0 → errAsk r n lo hi ≠ 0 := fun h => by simp [errAsk, h]
end Go.Am.Room
set_option maxRecDepth 8000
namespace Go.Am.Room
def QXLaw7 := And.intro @S_mapSet (And.intro @S_mapLook (And.intro @S_u8s (And.intro @encRoom_eq (And.intro @roomCells_eq (And.intro @encSetting_eq (And.intro @encLook_eq (And.intro @encSpan_eq (And.intro @T_sapp (And.intro @List.length_append.{0} (And.intro @setE_eq (And.intro @bits_len (And.intro @bits_cell (And.intro @bits_take (And.intro @bits_drop (And.intro @bits_zero (@S_bits))))))))))))))))
def gone (r : Rm) (y : List Int) (q : Int) (l : List Int) : Nat → Int
 | 0 => q
 | i + 1 => gone r y q l i + oneOf (gainN r ((l[i]?).getD 0)) (turnOf y (8 + i))
theorem gone_bd {r : Rm} (hv : Vd r) {y : List Int} (hy : Bytes y) {s : Span} {q : Int} {l : List Int} (hl : ∀ n ∈ l, 0 ≤ n ∧ n < r.settings.length) (h1 : s.lo ≤ q) (h2 : q ≤ s.hi) : ∀ i, i ≤ l.length → s.lo + (sumS r (l.take i)).lo ≤ gone r y q l i ∧ gone r y q l i ≤ s.hi + (sumS r (l.take i)).hi
 | 0, _ => by simp [gone, sumS]; omega
 | i + 1, hi => by
  have ih := gone_bd hv hy hl h1 h2 i (by omega)
  have hi1 : i < l.length := hi
  have hn := hl _ (List.getElem_mem hi1)
  have h3 : l[i].toNat < r.settings.length := by omega
  have hg := hv.gains _ (List.getElem_mem h3)
  rw [List.take_succ_eq_append_getElem hi1, sumS_app]
  simp only [gone, List.getElem?_eq_getElem hi1, Option.getD_some, sumS, plus, gainN_eq h3]
  have := oneOf_in hg.2.1 (turnOf_bd hy (8 + i)).1
  omega
set_option maxHeartbeats 1000000 in
theorem roomplan_ok (r : Rm) (x z : Int) (y : List Int) (hf : Fits r) (hx : 0 ≤ x ∧ x < 256) (hz : 0 ≤ z ∧ z < 256) (hy : Bytes y) : Pure T 8 [encRoom r, encWanted x z, u8s y] (.bool true) := by
 refine pure_fn (af := a8) rfl (by simp [a8]) dd ?_
 (repeat (first | simp only [↓QA, QB, Nat.reduceLT, reduceIte, Nat.reduceEqDiff, Nat.reduceAdd, Nat.reduceLeDiff, Nat.reduceMul, Nat.reduceBEq, QXLaw7, a8, encWanted, u8s] | refine rd0 rfl ?_))
 ((first | refine callK_d (some2_ok r hf) rfl dd ?_ | refine callD_d (some2_ok r hf) rfl dd ?_); (repeat (first | simp only [↓QA, QB, Nat.reduceLT, reduceIte, Nat.reduceEqDiff, Nat.reduceAdd, Nat.reduceLeDiff, Nat.reduceMul, Nat.reduceBEq, QXLaw7] | refine rd0 rfl ?_)))
 cases hs : someV r
 ·have hne : (planOf r r.days 1).2.2 ≠ 0 := by
   have : planErr r r.days 1 ≠ 0 := not_some_err hs _ fun h => by
    have := ask_ne (n := r.days) (lo := (r.ran.length : Int)) (hi := r.days) h
    simp [errWant, this]
   rw [planOf, if_neg this]; exact this
  have g : ((planOf r r.days 1).2.2 == 0) = false := by simpa using hne
  (repeat (first | simp only [↓QA, QB, Nat.reduceLT, reduceIte, Nat.reduceEqDiff, Nat.reduceAdd, Nat.reduceLeDiff, Nat.reduceMul, Nat.reduceBEq, QXLaw7] | refine rd0 rfl ?_))
  ((first | refine callK_d (plan_ok r r.days 1 hf) rfl dd ?_ | refine callD_d (plan_ok r r.days 1 hf) rfl dd ?_); (repeat (first | simp only [↓QA, QB, Nat.reduceLT, reduceIte, Nat.reduceEqDiff, Nat.reduceAdd, Nat.reduceLeDiff, Nat.reduceMul, Nat.reduceBEq, QXLaw7, encLNE, g] | refine rd0 rfl ?_)))
  refine callK_d awake_ok rfl datas_nil ?_
  (repeat (first | simp only [↓QA, QB, Nat.reduceLT, reduceIte, Nat.reduceEqDiff, Nat.reduceAdd, Nat.reduceLeDiff, Nat.reduceMul, Nat.reduceBEq, QXLaw7] | refine rd0 rfl ?_))
 ·have tr := tr_of hs
  have hv := tr.vd
  have hdd := hv.days
  have hdr := hv.ranLen
  have hd := want_bd hv hx.1
  have hc := wantC_bd hz.1
  obtain ⟨D, hD⟩ : ∃ D, wantDay r x = D := ⟨_, rfl⟩
  obtain ⟨C, hC⟩ : ∃ C, wantColour z = C := ⟨_, rfl⟩
  rw [hD] at hd
  rw [hC] at hc
  have e1 := tr.plan hd.1 hd.2 hc.1 hc.2
  have e2 := tr.points (Nat.le_refl r.ran.length)
  have hp := tr.bd r.ran.length
  obtain ⟨b0, b1, b2, _⟩ := now_is hv tr.some
  have hends : joinTo (dayB r [] r.ran.length) 160 = ptsS r r.ran.length := ptsS_eq hv _
  obtain ⟨s, hsp⟩ : ∃ s, ptsS r r.ran.length = s := ⟨_, rfl⟩
  rw [hsp] at e1 e2 hp b0 b1 b2 hends
  obtain ⟨many, hmany⟩ : ∃ many, (D - r.ran.length).toNat = many := ⟨_, rfl⟩
  rw [hmany] at e1
  have hsub : IntKind.i64.wrap (D - (r.ran.length : Int)) = (many : Int) := by rw [wrap64 ⟨by omega, by omega⟩]; omega
  obtain ⟨O, hO⟩ : ∃ O, settingsOf r many y = O := ⟨_, rfl⟩
  have hOl : O.length = many := by rw [← hO, settingsOf, settOf_len]; omega
  have hOin : ∀ n ∈ O, 0 ≤ n ∧ n < r.settings.length := by rw [← hO]; exact settOf_in hv hy _
  have okz : ((0 : Int) == 0) = true := rfl
  have hsl : decide (s.hi < s.lo) = false := by rw [decide_eq_false_iff_not]; omega
  have hs0 : decide (s.lo < 0) = false := by rw [decide_eq_false_iff_not]; omega
  have hgv := gives_ok r s O C hv (by omega) hOin b0 (by omega) (by omega) (by omega)
  (repeat (first | simp only [↓QA, QB, Nat.reduceLT, reduceIte, Nat.reduceEqDiff, Nat.reduceAdd, Nat.reduceLeDiff, Nat.reduceMul, Nat.reduceBEq, QXLaw7] | refine rd0 rfl ?_))
  ((first | refine callK_d (wanted_ok r x z hv hx hz) rfl dd ?_ | refine callD_d (wanted_ok r x z hv hx hz) rfl dd ?_); (repeat (first | simp only [↓QA, QB, Nat.reduceLT, reduceIte, Nat.reduceEqDiff, Nat.reduceAdd, Nat.reduceLeDiff, Nat.reduceMul, Nat.reduceBEq, QXLaw7, hD, hC] | refine rd0 rfl ?_)))
  ((first | refine callK_d (plan_ok r D C hf) rfl dd ?_ | refine callD_d (plan_ok r D C hf) rfl dd ?_); (repeat (first | simp only [↓QA, QB, Nat.reduceLT, reduceIte, Nat.reduceEqDiff, Nat.reduceAdd, Nat.reduceLeDiff, Nat.reduceMul, Nat.reduceBEq, QXLaw7, encLNE] | refine rd0 rfl ?_)))
  ((first | refine callK_d (points_ok r r.ran.length hf) rfl dd ?_ | refine callD_d (points_ok r r.ran.length hf) rfl dd ?_); (repeat (first | simp only [↓QA, QB, Nat.reduceLT, reduceIte, Nat.reduceEqDiff, Nat.reduceAdd, Nat.reduceLeDiff, Nat.reduceMul, Nat.reduceBEq, QXLaw7, encSE, e2, okz, hsl, hs0] | refine rd0 rfl ?_)))
  (repeat (first | simp only [↓QA, QB, Nat.reduceLT, reduceIte, Nat.reduceEqDiff, Nat.reduceAdd, Nat.reduceLeDiff, Nat.reduceMul, Nat.reduceBEq, QXLaw7, hsub] | refine rd0 rfl ?_))
  ((first | refine callK_d (settings_ok r many y hv hy (by omega)) rfl dd ?_ | refine callD_d (settings_ok r many y hv hy (by omega)) rfl dd ?_); (repeat (first | simp only [↓QA, QB, Nat.reduceLT, reduceIte, Nat.reduceEqDiff, Nat.reduceAdd, Nat.reduceLeDiff, Nat.reduceMul, Nat.reduceBEq, QXLaw7, hO] | refine rd0 rfl ?_)))
  ((first | refine callK_d (before_ok r hf) rfl dd ?_ | refine callD_d (before_ok r hf) rfl dd ?_); (repeat (first | simp only [↓QA, QB, Nat.reduceLT, reduceIte, Nat.reduceEqDiff, Nat.reduceAdd, Nat.reduceLeDiff, Nat.reduceMul, Nat.reduceBEq, QXLaw7] | refine rd0 rfl ?_)))
  ((first | refine callK_d (changes_ok (beforeOf r) O (by omega)) rfl dd ?_ | refine callD_d (changes_ok (beforeOf r) O (by omega)) rfl dd ?_); (repeat (first | simp only [↓QA, QB, Nat.reduceLT, reduceIte, Nat.reduceEqDiff, Nat.reduceAdd, Nat.reduceLeDiff, Nat.reduceMul, Nat.reduceBEq, QXLaw7] | refine rd0 rfl ?_)))
  cases g1 : decide (changesOf (beforeOf r) O ≤ r.opens)
  ·(repeat (first | simp only [↓QA, QB, Nat.reduceLT, reduceIte, Nat.reduceEqDiff, Nat.reduceAdd, Nat.reduceLeDiff, Nat.reduceMul, Nat.reduceBEq, QXLaw7] | refine rd0 rfl ?_))
   cases hb : bestOf r s (beforeOf r) many C with
   | none =>
    rw [hb] at e1
    simp only at e1
    rw [e1]
    (repeat (first | simp only [↓QA, QB, Nat.reduceLT, reduceIte, Nat.reduceEqDiff, Nat.reduceAdd, Nat.reduceLeDiff, Nat.reduceMul, Nat.reduceBEq, QXLaw7, show ((9 : Int) == 0) = false from rfl, show ((9 : Int) == 9) = true from rfl, show (((0 : Nat) : Int) == 0) = true from rfl, okz] | refine rd0 rfl ?_))
    refine callK_d awake_ok rfl datas_nil ?_
    (repeat (first | simp only [↓QA, QB, Nat.reduceLT, reduceIte, Nat.reduceEqDiff, Nat.reduceAdd, Nat.reduceLeDiff, Nat.reduceMul, Nat.reduceBEq, QXLaw7] | refine rd0 rfl ?_))
   | some w =>
    obtain ⟨l, n⟩ := w
    obtain ⟨k1, k2, k3, k4⟩ := best_ok2 hb
    rw [hb] at e1
    simp only at e1
    have hw1 : (((l.length : Nat) : Int) == (many : Int)) = true := by simp; omega
    have hall : l.all (isSetting r) = true := by
     rw [List.all_eq_true]
     intro v hv1
     have := k4 v hv1
     simp [isSetting, inR]; omega
    have hno : decide (r.opens < n) = false := by rw [decide_eq_false_iff_not]; have := k2.1; omega
    have hnn : (n == changesOf (beforeOf r) l) = true := by simp [k1]
    rw [e1]
    (repeat (first | simp only [↓QA, QB, Nat.reduceLT, reduceIte, Nat.reduceEqDiff, Nat.reduceAdd, Nat.reduceLeDiff, Nat.reduceMul, Nat.reduceBEq, QXLaw7, okz, hsub, hw1] | refine rd0 rfl ?_))
    ((first | refine callK_d (lwithin_ok r l hf (by omega)) rfl dd ?_ | refine callD_d (lwithin_ok r l hf (by omega)) rfl dd ?_); (repeat (first | simp only [↓QA, QB, Nat.reduceLT, reduceIte, Nat.reduceEqDiff, Nat.reduceAdd, Nat.reduceLeDiff, Nat.reduceMul, Nat.reduceBEq, QXLaw7, hall, hno] | refine rd0 rfl ?_)))
    ((first | refine callK_d (before_ok r hf) rfl dd ?_ | refine callD_d (before_ok r hf) rfl dd ?_); (repeat (first | simp only [↓QA, QB, Nat.reduceLT, reduceIte, Nat.reduceEqDiff, Nat.reduceAdd, Nat.reduceLeDiff, Nat.reduceMul, Nat.reduceBEq, QXLaw7] | refine rd0 rfl ?_)))
    ((first | refine callK_d (changes_ok (beforeOf r) l (by omega)) rfl dd ?_ | refine callD_d (changes_ok (beforeOf r) l (by omega)) rfl dd ?_); (repeat (first | simp only [↓QA, QB, Nat.reduceLT, reduceIte, Nat.reduceEqDiff, Nat.reduceAdd, Nat.reduceLeDiff, Nat.reduceMul, Nat.reduceBEq, QXLaw7, hnn] | refine rd0 rfl ?_)))
    have hq := oneOf_in b1 (turnOf_bd hy 7).1
    have ht7 := turnOf_bd hy 7
    (repeat (first | simp only [↓QA, QB, Nat.reduceLT, reduceIte, Nat.reduceEqDiff, Nat.reduceAdd, Nat.reduceLeDiff, Nat.reduceMul, Nat.reduceBEq, QXLaw7] | refine rd0 rfl ?_))
    ((first | refine callK_d (now_ok r hv hf) rfl dd ?_ | refine callD_d (now_ok r hv hf) rfl dd ?_); (repeat (first | simp only [↓QA, QB, Nat.reduceLT, reduceIte, Nat.reduceEqDiff, Nat.reduceAdd, Nat.reduceLeDiff, Nat.reduceMul, Nat.reduceBEq, QXLaw7] | refine rd0 rfl ?_)))
    ((first | refine callK_d (setends_ok _) rfl dd ?_ | refine callD_d (setends_ok _) rfl dd ?_); (repeat (first | simp only [↓QA, QB, Nat.reduceLT, reduceIte, Nat.reduceEqDiff, Nat.reduceAdd, Nat.reduceLeDiff, Nat.reduceMul, Nat.reduceBEq, QXLaw7, encEnds, hends] | refine rd0 rfl ?_)))
    ((first | refine callK_d (turn_ok y 7 hy (by omega)) rfl dd ?_ | refine callD_d (turn_ok y 7 hy (by omega)) rfl dd ?_); (repeat (first | simp only [↓QA, QB, Nat.reduceLT, reduceIte, Nat.reduceEqDiff, Nat.reduceAdd, Nat.reduceLeDiff, Nat.reduceMul, Nat.reduceBEq, QXLaw7] | refine rd0 rfl ?_)))
    ((first | refine callK_d (one_ok s (turnOf y 7) b0 b1 (by omega) ht7.1 (by omega)) rfl dd ?_ | refine callD_d (one_ok s (turnOf y 7) b0 b1 (by omega) ht7.1 (by omega)) rfl dd ?_); (repeat (first | simp only [↓QA, QB, Nat.reduceLT, reduceIte, Nat.reduceEqDiff, Nat.reduceAdd, Nat.reduceLeDiff, Nat.reduceMul, Nat.reduceBEq, QXLaw7] | refine rd0 rfl ?_)))
    refine loopE (S := Nat) 0 (fun i => i ≤ l.length) (fun i => l.length - i)
     (fun i => [(2, u8s y), (3, .ptr 0 0), (11, .int .i64 C), (12, ints l), (22, .int .i64 (gone r y (oneOf s (turnOf y 7)) l i)), (23, .int .i64 i)]) (fun _ => [.cells (roomCells r), .cells [.int .u8 x, .int .u8 z], .cells [.int .i64 s.lo, .int .i64 s.hi], .cells [.int .i64 s.lo, .int .i64 s.hi]]) (by simp) (by simp [roomCells, ints]) ?_ fun i hi => ?_
    ·try simp only [TrimX, QE, Nat.reduceLT, reduceIte, Nat.reduceEqDiff, Nat.reduceAdd, Nat.reduceLeDiff, Nat.reduceMul, Nat.reduceBEq, QXLaw7, u8s, gone]
     try simp
    ·(repeat (first | simp only [↓QA, QB, Nat.reduceLT, reduceIte, Nat.reduceEqDiff, Nat.reduceAdd, Nat.reduceLeDiff, Nat.reduceMul, Nat.reduceBEq, QXLaw7, L8_0, u8s] | refine rd0 rfl ?_))
     refine iteP_intro (fun h => ?_) fun h => ?_
     ·have hi1 : i < l.length := by simpa using h
      have hw := wrapN hi1 (by omega)
      have h0 := (k4 _ (List.getElem_mem hi1)).1
      have h1 : l[i].toNat < r.settings.length := by have := k4 _ (List.getElem_mem hi1); omega
      have hg := hv.gains _ (List.getElem_mem h1)
      have hbd := gone_bd hv hy k4 hq.1 hq.2 i (by omega)
      have hsb := sumS_bd hv (l.take i) fun v hv1 => k4 v (List.mem_of_mem_take hv1)
      have htl : (l.take i).length ≤ 6 := by simp; omega
      have ht := turnOf_bd hy (8 + i)
      have hin := oneOf_in hg.2.1 ht.1
      have hw8 : IntKind.i64.wrap (8 + (i : Int)) = ((8 + i : Nat) : Int) := by rw [wrap64 ⟨by omega, by omega⟩]; omega
      have hstep : gone r y (oneOf s (turnOf y 7)) l (i + 1) = gone r y (oneOf s (turnOf y 7)) l i + oneOf r.settings[l[i].toNat].gain (turnOf y (8 + i)) := by
       simp only [gone, List.getElem?_eq_getElem hi1, Option.getD_some, gainN_eq h1]
      have hwq : IntKind.i64.wrap (gone r y (oneOf s (turnOf y 7)) l i + oneOf r.settings[l[i].toNat].gain (turnOf y (8 + i))) = gone r y (oneOf s (turnOf y 7)) l i + oneOf r.settings[l[i].toNat].gain (turnOf y (8 + i)) := wrap64 ⟨by omega, by omega⟩
      (repeat (first | simp only [↓QA, QB, Nat.reduceLT, reduceIte, Nat.reduceEqDiff, Nat.reduceAdd, Nat.reduceLeDiff, Nat.reduceMul, Nat.reduceBEq, QXLaw7, hi1, h0, h1, V_idxI, hw8] | refine rd0 rfl ?_))
      ((first | refine callK_d (turn_ok y (8 + i) hy (by omega)) rfl dd ?_ | refine callD_d (turn_ok y (8 + i) hy (by omega)) rfl dd ?_); (repeat (first | simp only [↓QA, QB, Nat.reduceLT, reduceIte, Nat.reduceEqDiff, Nat.reduceAdd, Nat.reduceLeDiff, Nat.reduceMul, Nat.reduceBEq, QXLaw7, hi1, h0, h1, V_idxI, hw8] | refine rd0 rfl ?_)))
      ((first | refine callK_d (one_ok r.settings[l[i].toNat].gain (turnOf y (8 + i)) hg.1 hg.2.1 (by omega) ht.1 (by omega)) rfl dd ?_ | refine callD_d (one_ok r.settings[l[i].toNat].gain (turnOf y (8 + i)) hg.1 hg.2.1 (by omega) ht.1 (by omega)) rfl dd ?_); (repeat (first | simp only [↓QA, QB, Nat.reduceLT, reduceIte, Nat.reduceEqDiff, Nat.reduceAdd, Nat.reduceLeDiff, Nat.reduceMul, Nat.reduceBEq, QXLaw7, hi1, h0, h1, V_idxI, hw8, hwq, hw] | refine rd0 rfl ?_)))
      refine ⟨i + 1, by omega, by omega, ?_⟩
      try simp only [TrimX, QE, Nat.reduceLT, reduceIte, Nat.reduceEqDiff, Nat.reduceAdd, Nat.reduceLeDiff, Nat.reduceMul, Nat.reduceBEq, QXLaw7, hw, u8s, hstep]
      try simp [okBlk]
     ·have hi1 : i = l.length := by simp at h; omega
      have hbd := gone_bd hv hy k4 hq.1 hq.2 l.length (Nat.le_refl _)
      have hsb := sumS_bd hv l k4
      rw [List.take_length] at hbd
      rw [hi1]
      have hgv2 := gives_iff.1 k2.2
      have c1 := colour_mono hbd.1
      have c2 := colour_mono hbd.2
      have hcol : (colourOf (gone r y (oneOf s (turnOf y 7)) l l.length) == C) = true := by simp; omega
      (repeat (first | simp only [↓QA, QB, Nat.reduceLT, reduceIte, Nat.reduceEqDiff, Nat.reduceAdd, Nat.reduceLeDiff, Nat.reduceMul, Nat.reduceBEq, QXLaw7] | refine rd0 rfl ?_))
      ((first | refine callK_d (colour_ok (gone r y (oneOf s (turnOf y 7)) l l.length) (by omega) (by omega)) rfl dd ?_ | refine callD_d (colour_ok (gone r y (oneOf s (turnOf y 7)) l l.length) (by omega) (by omega)) rfl dd ?_); (repeat (first | simp only [↓QA, QB, Nat.reduceLT, reduceIte, Nat.reduceEqDiff, Nat.reduceAdd, Nat.reduceLeDiff, Nat.reduceMul, Nat.reduceBEq, QXLaw7, hcol] | refine rd0 rfl ?_)))
      refine callK_d awake_ok rfl datas_nil ?_
      (repeat (first | simp only [↓QA, QB, Nat.reduceLT, reduceIte, Nat.reduceEqDiff, Nat.reduceAdd, Nat.reduceLeDiff, Nat.reduceMul, Nat.reduceBEq, QXLaw7] | refine rd0 rfl ?_))

  ·have hgi : givesOf r s O C = true → OkPl r s (beforeOf r) C O := fun h => ⟨by simpa using g1, h⟩
   have hGn : ¬ OkPl r s (beforeOf r) C O → givesOf r s O C = false := fun h => by
    rw [Bool.eq_false_iff]; intro h2; exact h (hgi h2)
   (repeat (first | simp only [↓QA, QB, Nat.reduceLT, reduceIte, Nat.reduceEqDiff, Nat.reduceAdd, Nat.reduceLeDiff, Nat.reduceMul, Nat.reduceBEq, QXLaw7] | refine rd0 rfl ?_))
   ((first | refine callK_d (hgv) rfl dd ?_ | refine callD_d (hgv) rfl dd ?_); (repeat (first | simp only [↓QA, QB, Nat.reduceLT, reduceIte, Nat.reduceEqDiff, Nat.reduceAdd, Nat.reduceLeDiff, Nat.reduceMul, Nat.reduceBEq, QXLaw7] | refine rd0 rfl ?_)))
   cases hb : bestOf r s (beforeOf r) many C with
   | none =>
    rw [hb] at e1
    simp only at e1
    have hGf := hGn (best_no hb hOl hOin)
    rw [hGf, e1]
    (repeat (first | simp only [↓QA, QB, Nat.reduceLT, reduceIte, Nat.reduceEqDiff, Nat.reduceAdd, Nat.reduceLeDiff, Nat.reduceMul, Nat.reduceBEq, QXLaw7, show ((9 : Int) == 0) = false from rfl, show ((9 : Int) == 9) = true from rfl, show (((0 : Nat) : Int) == 0) = true from rfl, okz] | refine rd0 rfl ?_))
    refine callK_d awake_ok rfl datas_nil ?_
    (repeat (first | simp only [↓QA, QB, Nat.reduceLT, reduceIte, Nat.reduceEqDiff, Nat.reduceAdd, Nat.reduceLeDiff, Nat.reduceMul, Nat.reduceBEq, QXLaw7] | refine rd0 rfl ?_))
   | some w =>
    obtain ⟨l, n⟩ := w
    obtain ⟨k1, k2, k3, k4⟩ := best_ok2 hb
    rw [hb] at e1
    simp only at e1
    have hle := fun h => best_le hb (hgi h) hOl hOin
    have hw1 : (((l.length : Nat) : Int) == (many : Int)) = true := by simp; omega
    have hall : l.all (isSetting r) = true := by
     rw [List.all_eq_true]
     intro v hv1
     have := k4 v hv1
     simp [isSetting, inR]; omega
    have hno : decide (r.opens < n) = false := by rw [decide_eq_false_iff_not]; have := k2.1; omega
    have hnn : (n == changesOf (beforeOf r) l) = true := by simp [k1]
    rw [e1]
    (repeat (first | simp only [↓QA, QB, Nat.reduceLT, reduceIte, Nat.reduceEqDiff, Nat.reduceAdd, Nat.reduceLeDiff, Nat.reduceMul, Nat.reduceBEq, QXLaw7, okz, hsub, hw1] | refine rd0 rfl ?_))
    ((first | refine callK_d (lwithin_ok r l hf (by omega)) rfl dd ?_ | refine callD_d (lwithin_ok r l hf (by omega)) rfl dd ?_); (repeat (first | simp only [↓QA, QB, Nat.reduceLT, reduceIte, Nat.reduceEqDiff, Nat.reduceAdd, Nat.reduceLeDiff, Nat.reduceMul, Nat.reduceBEq, QXLaw7, hall, hno] | refine rd0 rfl ?_)))
    ((first | refine callK_d (before_ok r hf) rfl dd ?_ | refine callD_d (before_ok r hf) rfl dd ?_); (repeat (first | simp only [↓QA, QB, Nat.reduceLT, reduceIte, Nat.reduceEqDiff, Nat.reduceAdd, Nat.reduceLeDiff, Nat.reduceMul, Nat.reduceBEq, QXLaw7] | refine rd0 rfl ?_)))
    ((first | refine callK_d (changes_ok (beforeOf r) l (by omega)) rfl dd ?_ | refine callD_d (changes_ok (beforeOf r) l (by omega)) rfl dd ?_); (repeat (first | simp only [↓QA, QB, Nat.reduceLT, reduceIte, Nat.reduceEqDiff, Nat.reduceAdd, Nat.reduceLeDiff, Nat.reduceMul, Nat.reduceBEq, QXLaw7, hnn] | refine rd0 rfl ?_)))
    cases hGG : givesOf r s O C
    ·(repeat (first | simp only [↓QA, QB, Nat.reduceLT, reduceIte, Nat.reduceEqDiff, Nat.reduceAdd, Nat.reduceLeDiff, Nat.reduceMul, Nat.reduceBEq, QXLaw7] | refine rd0 rfl ?_))
     have hq := oneOf_in b1 (turnOf_bd hy 7).1
     have ht7 := turnOf_bd hy 7
     (repeat (first | simp only [↓QA, QB, Nat.reduceLT, reduceIte, Nat.reduceEqDiff, Nat.reduceAdd, Nat.reduceLeDiff, Nat.reduceMul, Nat.reduceBEq, QXLaw7] | refine rd0 rfl ?_))
     ((first | refine callK_d (now_ok r hv hf) rfl dd ?_ | refine callD_d (now_ok r hv hf) rfl dd ?_); (repeat (first | simp only [↓QA, QB, Nat.reduceLT, reduceIte, Nat.reduceEqDiff, Nat.reduceAdd, Nat.reduceLeDiff, Nat.reduceMul, Nat.reduceBEq, QXLaw7] | refine rd0 rfl ?_)))
     ((first | refine callK_d (setends_ok _) rfl dd ?_ | refine callD_d (setends_ok _) rfl dd ?_); (repeat (first | simp only [↓QA, QB, Nat.reduceLT, reduceIte, Nat.reduceEqDiff, Nat.reduceAdd, Nat.reduceLeDiff, Nat.reduceMul, Nat.reduceBEq, QXLaw7, encEnds, hends] | refine rd0 rfl ?_)))
     ((first | refine callK_d (turn_ok y 7 hy (by omega)) rfl dd ?_ | refine callD_d (turn_ok y 7 hy (by omega)) rfl dd ?_); (repeat (first | simp only [↓QA, QB, Nat.reduceLT, reduceIte, Nat.reduceEqDiff, Nat.reduceAdd, Nat.reduceLeDiff, Nat.reduceMul, Nat.reduceBEq, QXLaw7] | refine rd0 rfl ?_)))
     ((first | refine callK_d (one_ok s (turnOf y 7) b0 b1 (by omega) ht7.1 (by omega)) rfl dd ?_ | refine callD_d (one_ok s (turnOf y 7) b0 b1 (by omega) ht7.1 (by omega)) rfl dd ?_); (repeat (first | simp only [↓QA, QB, Nat.reduceLT, reduceIte, Nat.reduceEqDiff, Nat.reduceAdd, Nat.reduceLeDiff, Nat.reduceMul, Nat.reduceBEq, QXLaw7] | refine rd0 rfl ?_)))
     refine loopE (S := Nat) 0 (fun i => i ≤ l.length) (fun i => l.length - i)
      (fun i => [(2, u8s y), (3, .ptr 0 0), (11, .int .i64 C), (12, ints l), (22, .int .i64 (gone r y (oneOf s (turnOf y 7)) l i)), (23, .int .i64 i)]) (fun _ => [.cells (roomCells r), .cells [.int .u8 x, .int .u8 z], .cells [.int .i64 s.lo, .int .i64 s.hi], .cells [.int .i64 s.lo, .int .i64 s.hi]]) (by simp) (by simp [roomCells, ints]) ?_ fun i hi => ?_
     ·try simp only [TrimX, QE, Nat.reduceLT, reduceIte, Nat.reduceEqDiff, Nat.reduceAdd, Nat.reduceLeDiff, Nat.reduceMul, Nat.reduceBEq, QXLaw7, u8s, gone]
      try simp
     ·(repeat (first | simp only [↓QA, QB, Nat.reduceLT, reduceIte, Nat.reduceEqDiff, Nat.reduceAdd, Nat.reduceLeDiff, Nat.reduceMul, Nat.reduceBEq, QXLaw7, L8_0, u8s] | refine rd0 rfl ?_))
      refine iteP_intro (fun h => ?_) fun h => ?_
      ·have hi1 : i < l.length := by simpa using h
       have hw := wrapN hi1 (by omega)
       have h0 := (k4 _ (List.getElem_mem hi1)).1
       have h1 : l[i].toNat < r.settings.length := by have := k4 _ (List.getElem_mem hi1); omega
       have hg := hv.gains _ (List.getElem_mem h1)
       have hbd := gone_bd hv hy k4 hq.1 hq.2 i (by omega)
       have hsb := sumS_bd hv (l.take i) fun v hv1 => k4 v (List.mem_of_mem_take hv1)
       have htl : (l.take i).length ≤ 6 := by simp; omega
       have ht := turnOf_bd hy (8 + i)
       have hin := oneOf_in hg.2.1 ht.1
       have hw8 : IntKind.i64.wrap (8 + (i : Int)) = ((8 + i : Nat) : Int) := by rw [wrap64 ⟨by omega, by omega⟩]; omega
       have hstep : gone r y (oneOf s (turnOf y 7)) l (i + 1) = gone r y (oneOf s (turnOf y 7)) l i + oneOf r.settings[l[i].toNat].gain (turnOf y (8 + i)) := by
        simp only [gone, List.getElem?_eq_getElem hi1, Option.getD_some, gainN_eq h1]
       have hwq : IntKind.i64.wrap (gone r y (oneOf s (turnOf y 7)) l i + oneOf r.settings[l[i].toNat].gain (turnOf y (8 + i))) = gone r y (oneOf s (turnOf y 7)) l i + oneOf r.settings[l[i].toNat].gain (turnOf y (8 + i)) := wrap64 ⟨by omega, by omega⟩
       (repeat (first | simp only [↓QA, QB, Nat.reduceLT, reduceIte, Nat.reduceEqDiff, Nat.reduceAdd, Nat.reduceLeDiff, Nat.reduceMul, Nat.reduceBEq, QXLaw7, hi1, h0, h1, V_idxI, hw8] | refine rd0 rfl ?_))
       ((first | refine callK_d (turn_ok y (8 + i) hy (by omega)) rfl dd ?_ | refine callD_d (turn_ok y (8 + i) hy (by omega)) rfl dd ?_); (repeat (first | simp only [↓QA, QB, Nat.reduceLT, reduceIte, Nat.reduceEqDiff, Nat.reduceAdd, Nat.reduceLeDiff, Nat.reduceMul, Nat.reduceBEq, QXLaw7, hi1, h0, h1, V_idxI, hw8] | refine rd0 rfl ?_)))
       ((first | refine callK_d (one_ok r.settings[l[i].toNat].gain (turnOf y (8 + i)) hg.1 hg.2.1 (by omega) ht.1 (by omega)) rfl dd ?_ | refine callD_d (one_ok r.settings[l[i].toNat].gain (turnOf y (8 + i)) hg.1 hg.2.1 (by omega) ht.1 (by omega)) rfl dd ?_); (repeat (first | simp only [↓QA, QB, Nat.reduceLT, reduceIte, Nat.reduceEqDiff, Nat.reduceAdd, Nat.reduceLeDiff, Nat.reduceMul, Nat.reduceBEq, QXLaw7, hi1, h0, h1, V_idxI, hw8, hwq, hw] | refine rd0 rfl ?_)))
       refine ⟨i + 1, by omega, by omega, ?_⟩
       try simp only [TrimX, QE, Nat.reduceLT, reduceIte, Nat.reduceEqDiff, Nat.reduceAdd, Nat.reduceLeDiff, Nat.reduceMul, Nat.reduceBEq, QXLaw7, hw, u8s, hstep]
       try simp [okBlk]
      ·have hi1 : i = l.length := by simp at h; omega
       have hbd := gone_bd hv hy k4 hq.1 hq.2 l.length (Nat.le_refl _)
       have hsb := sumS_bd hv l k4
       rw [List.take_length] at hbd
       rw [hi1]
       have hgv2 := gives_iff.1 k2.2
       have c1 := colour_mono hbd.1
       have c2 := colour_mono hbd.2
       have hcol : (colourOf (gone r y (oneOf s (turnOf y 7)) l l.length) == C) = true := by simp; omega
       (repeat (first | simp only [↓QA, QB, Nat.reduceLT, reduceIte, Nat.reduceEqDiff, Nat.reduceAdd, Nat.reduceLeDiff, Nat.reduceMul, Nat.reduceBEq, QXLaw7] | refine rd0 rfl ?_))
       ((first | refine callK_d (colour_ok (gone r y (oneOf s (turnOf y 7)) l l.length) (by omega) (by omega)) rfl dd ?_ | refine callD_d (colour_ok (gone r y (oneOf s (turnOf y 7)) l l.length) (by omega) (by omega)) rfl dd ?_); (repeat (first | simp only [↓QA, QB, Nat.reduceLT, reduceIte, Nat.reduceEqDiff, Nat.reduceAdd, Nat.reduceLeDiff, Nat.reduceMul, Nat.reduceBEq, QXLaw7, hcol] | refine rd0 rfl ?_)))
       refine callK_d awake_ok rfl datas_nil ?_
       (repeat (first | simp only [↓QA, QB, Nat.reduceLT, reduceIte, Nat.reduceEqDiff, Nat.reduceAdd, Nat.reduceLeDiff, Nat.reduceMul, Nat.reduceBEq, QXLaw7] | refine rd0 rfl ?_))

    ·obtain ⟨m1, m2⟩ := hle hGG
     have hlt : decide (changesOf (beforeOf r) O < n) = false := by rw [decide_eq_false_iff_not]; omega
     (repeat (first | simp only [↓QA, QB, Nat.reduceLT, reduceIte, Nat.reduceEqDiff, Nat.reduceAdd, Nat.reduceLeDiff, Nat.reduceMul, Nat.reduceBEq, QXLaw7, hlt] | refine rd0 rfl ?_))
     cases hce : (changesOf (beforeOf r) O == n)
     ·(repeat (first | simp only [↓QA, QB, Nat.reduceLT, reduceIte, Nat.reduceEqDiff, Nat.reduceAdd, Nat.reduceLeDiff, Nat.reduceMul, Nat.reduceBEq, QXLaw7] | refine rd0 rfl ?_))
      have hq := oneOf_in b1 (turnOf_bd hy 7).1
      have ht7 := turnOf_bd hy 7
      (repeat (first | simp only [↓QA, QB, Nat.reduceLT, reduceIte, Nat.reduceEqDiff, Nat.reduceAdd, Nat.reduceLeDiff, Nat.reduceMul, Nat.reduceBEq, QXLaw7] | refine rd0 rfl ?_))
      ((first | refine callK_d (now_ok r hv hf) rfl dd ?_ | refine callD_d (now_ok r hv hf) rfl dd ?_); (repeat (first | simp only [↓QA, QB, Nat.reduceLT, reduceIte, Nat.reduceEqDiff, Nat.reduceAdd, Nat.reduceLeDiff, Nat.reduceMul, Nat.reduceBEq, QXLaw7] | refine rd0 rfl ?_)))
      ((first | refine callK_d (setends_ok _) rfl dd ?_ | refine callD_d (setends_ok _) rfl dd ?_); (repeat (first | simp only [↓QA, QB, Nat.reduceLT, reduceIte, Nat.reduceEqDiff, Nat.reduceAdd, Nat.reduceLeDiff, Nat.reduceMul, Nat.reduceBEq, QXLaw7, encEnds, hends] | refine rd0 rfl ?_)))
      ((first | refine callK_d (turn_ok y 7 hy (by omega)) rfl dd ?_ | refine callD_d (turn_ok y 7 hy (by omega)) rfl dd ?_); (repeat (first | simp only [↓QA, QB, Nat.reduceLT, reduceIte, Nat.reduceEqDiff, Nat.reduceAdd, Nat.reduceLeDiff, Nat.reduceMul, Nat.reduceBEq, QXLaw7] | refine rd0 rfl ?_)))
      ((first | refine callK_d (one_ok s (turnOf y 7) b0 b1 (by omega) ht7.1 (by omega)) rfl dd ?_ | refine callD_d (one_ok s (turnOf y 7) b0 b1 (by omega) ht7.1 (by omega)) rfl dd ?_); (repeat (first | simp only [↓QA, QB, Nat.reduceLT, reduceIte, Nat.reduceEqDiff, Nat.reduceAdd, Nat.reduceLeDiff, Nat.reduceMul, Nat.reduceBEq, QXLaw7] | refine rd0 rfl ?_)))
      refine loopE (S := Nat) 0 (fun i => i ≤ l.length) (fun i => l.length - i)
       (fun i => [(2, u8s y), (3, .ptr 0 0), (11, .int .i64 C), (12, ints l), (22, .int .i64 (gone r y (oneOf s (turnOf y 7)) l i)), (23, .int .i64 i)]) (fun _ => [.cells (roomCells r), .cells [.int .u8 x, .int .u8 z], .cells [.int .i64 s.lo, .int .i64 s.hi], .cells [.int .i64 s.lo, .int .i64 s.hi]]) (by simp) (by simp [roomCells, ints]) ?_ fun i hi => ?_
      ·try simp only [TrimX, QE, Nat.reduceLT, reduceIte, Nat.reduceEqDiff, Nat.reduceAdd, Nat.reduceLeDiff, Nat.reduceMul, Nat.reduceBEq, QXLaw7, u8s, gone]
       try simp
      ·(repeat (first | simp only [↓QA, QB, Nat.reduceLT, reduceIte, Nat.reduceEqDiff, Nat.reduceAdd, Nat.reduceLeDiff, Nat.reduceMul, Nat.reduceBEq, QXLaw7, L8_0, u8s] | refine rd0 rfl ?_))
       refine iteP_intro (fun h => ?_) fun h => ?_
       ·have hi1 : i < l.length := by simpa using h
        have hw := wrapN hi1 (by omega)
        have h0 := (k4 _ (List.getElem_mem hi1)).1
        have h1 : l[i].toNat < r.settings.length := by have := k4 _ (List.getElem_mem hi1); omega
        have hg := hv.gains _ (List.getElem_mem h1)
        have hbd := gone_bd hv hy k4 hq.1 hq.2 i (by omega)
        have hsb := sumS_bd hv (l.take i) fun v hv1 => k4 v (List.mem_of_mem_take hv1)
        have htl : (l.take i).length ≤ 6 := by simp; omega
        have ht := turnOf_bd hy (8 + i)
        have hin := oneOf_in hg.2.1 ht.1
        have hw8 : IntKind.i64.wrap (8 + (i : Int)) = ((8 + i : Nat) : Int) := by rw [wrap64 ⟨by omega, by omega⟩]; omega
        have hstep : gone r y (oneOf s (turnOf y 7)) l (i + 1) = gone r y (oneOf s (turnOf y 7)) l i + oneOf r.settings[l[i].toNat].gain (turnOf y (8 + i)) := by
         simp only [gone, List.getElem?_eq_getElem hi1, Option.getD_some, gainN_eq h1]
        have hwq : IntKind.i64.wrap (gone r y (oneOf s (turnOf y 7)) l i + oneOf r.settings[l[i].toNat].gain (turnOf y (8 + i))) = gone r y (oneOf s (turnOf y 7)) l i + oneOf r.settings[l[i].toNat].gain (turnOf y (8 + i)) := wrap64 ⟨by omega, by omega⟩
        (repeat (first | simp only [↓QA, QB, Nat.reduceLT, reduceIte, Nat.reduceEqDiff, Nat.reduceAdd, Nat.reduceLeDiff, Nat.reduceMul, Nat.reduceBEq, QXLaw7, hi1, h0, h1, V_idxI, hw8] | refine rd0 rfl ?_))
        ((first | refine callK_d (turn_ok y (8 + i) hy (by omega)) rfl dd ?_ | refine callD_d (turn_ok y (8 + i) hy (by omega)) rfl dd ?_); (repeat (first | simp only [↓QA, QB, Nat.reduceLT, reduceIte, Nat.reduceEqDiff, Nat.reduceAdd, Nat.reduceLeDiff, Nat.reduceMul, Nat.reduceBEq, QXLaw7, hi1, h0, h1, V_idxI, hw8] | refine rd0 rfl ?_)))
        ((first | refine callK_d (one_ok r.settings[l[i].toNat].gain (turnOf y (8 + i)) hg.1 hg.2.1 (by omega) ht.1 (by omega)) rfl dd ?_ | refine callD_d (one_ok r.settings[l[i].toNat].gain (turnOf y (8 + i)) hg.1 hg.2.1 (by omega) ht.1 (by omega)) rfl dd ?_); (repeat (first | simp only [↓QA, QB, Nat.reduceLT, reduceIte, Nat.reduceEqDiff, Nat.reduceAdd, Nat.reduceLeDiff, Nat.reduceMul, Nat.reduceBEq, QXLaw7, hi1, h0, h1, V_idxI, hw8, hwq, hw] | refine rd0 rfl ?_)))
        refine ⟨i + 1, by omega, by omega, ?_⟩
        try simp only [TrimX, QE, Nat.reduceLT, reduceIte, Nat.reduceEqDiff, Nat.reduceAdd, Nat.reduceLeDiff, Nat.reduceMul, Nat.reduceBEq, QXLaw7, hw, u8s, hstep]
        try simp [okBlk]
       ·have hi1 : i = l.length := by simp at h; omega
        have hbd := gone_bd hv hy k4 hq.1 hq.2 l.length (Nat.le_refl _)
        have hsb := sumS_bd hv l k4
        rw [List.take_length] at hbd
        rw [hi1]
        have hgv2 := gives_iff.1 k2.2
        have c1 := colour_mono hbd.1
        have c2 := colour_mono hbd.2
        have hcol : (colourOf (gone r y (oneOf s (turnOf y 7)) l l.length) == C) = true := by simp; omega
        (repeat (first | simp only [↓QA, QB, Nat.reduceLT, reduceIte, Nat.reduceEqDiff, Nat.reduceAdd, Nat.reduceLeDiff, Nat.reduceMul, Nat.reduceBEq, QXLaw7] | refine rd0 rfl ?_))
        ((first | refine callK_d (colour_ok (gone r y (oneOf s (turnOf y 7)) l l.length) (by omega) (by omega)) rfl dd ?_ | refine callD_d (colour_ok (gone r y (oneOf s (turnOf y 7)) l l.length) (by omega) (by omega)) rfl dd ?_); (repeat (first | simp only [↓QA, QB, Nat.reduceLT, reduceIte, Nat.reduceEqDiff, Nat.reduceAdd, Nat.reduceLeDiff, Nat.reduceMul, Nat.reduceBEq, QXLaw7, hcol] | refine rd0 rfl ?_)))
        refine callK_d awake_ok rfl datas_nil ?_
        (repeat (first | simp only [↓QA, QB, Nat.reduceLT, reduceIte, Nat.reduceEqDiff, Nat.reduceAdd, Nat.reduceLeDiff, Nat.reduceMul, Nat.reduceBEq, QXLaw7] | refine rd0 rfl ?_))

     ·have hless := m2 (by simpa using hce)
      (repeat (first | simp only [↓QA, QB, Nat.reduceLT, reduceIte, Nat.reduceEqDiff, Nat.reduceAdd, Nat.reduceLeDiff, Nat.reduceMul, Nat.reduceBEq, QXLaw7] | refine rd0 rfl ?_))
      ((first | refine callK_d (less_ok O l (by omega) (by omega)) rfl dd ?_ | refine callD_d (less_ok O l (by omega) (by omega)) rfl dd ?_); (repeat (first | simp only [↓QA, QB, Nat.reduceLT, reduceIte, Nat.reduceEqDiff, Nat.reduceAdd, Nat.reduceLeDiff, Nat.reduceMul, Nat.reduceBEq, QXLaw7, hless] | refine rd0 rfl ?_)))
      have hq := oneOf_in b1 (turnOf_bd hy 7).1
      have ht7 := turnOf_bd hy 7
      (repeat (first | simp only [↓QA, QB, Nat.reduceLT, reduceIte, Nat.reduceEqDiff, Nat.reduceAdd, Nat.reduceLeDiff, Nat.reduceMul, Nat.reduceBEq, QXLaw7] | refine rd0 rfl ?_))
      ((first | refine callK_d (now_ok r hv hf) rfl dd ?_ | refine callD_d (now_ok r hv hf) rfl dd ?_); (repeat (first | simp only [↓QA, QB, Nat.reduceLT, reduceIte, Nat.reduceEqDiff, Nat.reduceAdd, Nat.reduceLeDiff, Nat.reduceMul, Nat.reduceBEq, QXLaw7] | refine rd0 rfl ?_)))
      ((first | refine callK_d (setends_ok _) rfl dd ?_ | refine callD_d (setends_ok _) rfl dd ?_); (repeat (first | simp only [↓QA, QB, Nat.reduceLT, reduceIte, Nat.reduceEqDiff, Nat.reduceAdd, Nat.reduceLeDiff, Nat.reduceMul, Nat.reduceBEq, QXLaw7, encEnds, hends] | refine rd0 rfl ?_)))
      ((first | refine callK_d (turn_ok y 7 hy (by omega)) rfl dd ?_ | refine callD_d (turn_ok y 7 hy (by omega)) rfl dd ?_); (repeat (first | simp only [↓QA, QB, Nat.reduceLT, reduceIte, Nat.reduceEqDiff, Nat.reduceAdd, Nat.reduceLeDiff, Nat.reduceMul, Nat.reduceBEq, QXLaw7] | refine rd0 rfl ?_)))
      ((first | refine callK_d (one_ok s (turnOf y 7) b0 b1 (by omega) ht7.1 (by omega)) rfl dd ?_ | refine callD_d (one_ok s (turnOf y 7) b0 b1 (by omega) ht7.1 (by omega)) rfl dd ?_); (repeat (first | simp only [↓QA, QB, Nat.reduceLT, reduceIte, Nat.reduceEqDiff, Nat.reduceAdd, Nat.reduceLeDiff, Nat.reduceMul, Nat.reduceBEq, QXLaw7] | refine rd0 rfl ?_)))
      refine loopE (S := Nat) 0 (fun i => i ≤ l.length) (fun i => l.length - i)
       (fun i => [(2, u8s y), (3, .ptr 0 0), (11, .int .i64 C), (12, ints l), (22, .int .i64 (gone r y (oneOf s (turnOf y 7)) l i)), (23, .int .i64 i)]) (fun _ => [.cells (roomCells r), .cells [.int .u8 x, .int .u8 z], .cells [.int .i64 s.lo, .int .i64 s.hi], .cells [.int .i64 s.lo, .int .i64 s.hi]]) (by simp) (by simp [roomCells, ints]) ?_ fun i hi => ?_
      ·try simp only [TrimX, QE, Nat.reduceLT, reduceIte, Nat.reduceEqDiff, Nat.reduceAdd, Nat.reduceLeDiff, Nat.reduceMul, Nat.reduceBEq, QXLaw7, u8s, gone]
       try simp
      ·(repeat (first | simp only [↓QA, QB, Nat.reduceLT, reduceIte, Nat.reduceEqDiff, Nat.reduceAdd, Nat.reduceLeDiff, Nat.reduceMul, Nat.reduceBEq, QXLaw7, L8_0, u8s] | refine rd0 rfl ?_))
       refine iteP_intro (fun h => ?_) fun h => ?_
       ·have hi1 : i < l.length := by simpa using h
        have hw := wrapN hi1 (by omega)
        have h0 := (k4 _ (List.getElem_mem hi1)).1
        have h1 : l[i].toNat < r.settings.length := by have := k4 _ (List.getElem_mem hi1); omega
        have hg := hv.gains _ (List.getElem_mem h1)
        have hbd := gone_bd hv hy k4 hq.1 hq.2 i (by omega)
        have hsb := sumS_bd hv (l.take i) fun v hv1 => k4 v (List.mem_of_mem_take hv1)
        have htl : (l.take i).length ≤ 6 := by simp; omega
        have ht := turnOf_bd hy (8 + i)
        have hin := oneOf_in hg.2.1 ht.1
        have hw8 : IntKind.i64.wrap (8 + (i : Int)) = ((8 + i : Nat) : Int) := by rw [wrap64 ⟨by omega, by omega⟩]; omega
        have hstep : gone r y (oneOf s (turnOf y 7)) l (i + 1) = gone r y (oneOf s (turnOf y 7)) l i + oneOf r.settings[l[i].toNat].gain (turnOf y (8 + i)) := by
         simp only [gone, List.getElem?_eq_getElem hi1, Option.getD_some, gainN_eq h1]
        have hwq : IntKind.i64.wrap (gone r y (oneOf s (turnOf y 7)) l i + oneOf r.settings[l[i].toNat].gain (turnOf y (8 + i))) = gone r y (oneOf s (turnOf y 7)) l i + oneOf r.settings[l[i].toNat].gain (turnOf y (8 + i)) := wrap64 ⟨by omega, by omega⟩
        (repeat (first | simp only [↓QA, QB, Nat.reduceLT, reduceIte, Nat.reduceEqDiff, Nat.reduceAdd, Nat.reduceLeDiff, Nat.reduceMul, Nat.reduceBEq, QXLaw7, hi1, h0, h1, V_idxI, hw8] | refine rd0 rfl ?_))
        ((first | refine callK_d (turn_ok y (8 + i) hy (by omega)) rfl dd ?_ | refine callD_d (turn_ok y (8 + i) hy (by omega)) rfl dd ?_); (repeat (first | simp only [↓QA, QB, Nat.reduceLT, reduceIte, Nat.reduceEqDiff, Nat.reduceAdd, Nat.reduceLeDiff, Nat.reduceMul, Nat.reduceBEq, QXLaw7, hi1, h0, h1, V_idxI, hw8] | refine rd0 rfl ?_)))
        ((first | refine callK_d (one_ok r.settings[l[i].toNat].gain (turnOf y (8 + i)) hg.1 hg.2.1 (by omega) ht.1 (by omega)) rfl dd ?_ | refine callD_d (one_ok r.settings[l[i].toNat].gain (turnOf y (8 + i)) hg.1 hg.2.1 (by omega) ht.1 (by omega)) rfl dd ?_); (repeat (first | simp only [↓QA, QB, Nat.reduceLT, reduceIte, Nat.reduceEqDiff, Nat.reduceAdd, Nat.reduceLeDiff, Nat.reduceMul, Nat.reduceBEq, QXLaw7, hi1, h0, h1, V_idxI, hw8, hwq, hw] | refine rd0 rfl ?_)))
        refine ⟨i + 1, by omega, by omega, ?_⟩
        try simp only [TrimX, QE, Nat.reduceLT, reduceIte, Nat.reduceEqDiff, Nat.reduceAdd, Nat.reduceLeDiff, Nat.reduceMul, Nat.reduceBEq, QXLaw7, hw, u8s, hstep]
        try simp [okBlk]
       ·have hi1 : i = l.length := by simp at h; omega
        have hbd := gone_bd hv hy k4 hq.1 hq.2 l.length (Nat.le_refl _)
        have hsb := sumS_bd hv l k4
        rw [List.take_length] at hbd
        rw [hi1]
        have hgv2 := gives_iff.1 k2.2
        have c1 := colour_mono hbd.1
        have c2 := colour_mono hbd.2
        have hcol : (colourOf (gone r y (oneOf s (turnOf y 7)) l l.length) == C) = true := by simp; omega
        (repeat (first | simp only [↓QA, QB, Nat.reduceLT, reduceIte, Nat.reduceEqDiff, Nat.reduceAdd, Nat.reduceLeDiff, Nat.reduceMul, Nat.reduceBEq, QXLaw7] | refine rd0 rfl ?_))
        ((first | refine callK_d (colour_ok (gone r y (oneOf s (turnOf y 7)) l l.length) (by omega) (by omega)) rfl dd ?_ | refine callD_d (colour_ok (gone r y (oneOf s (turnOf y 7)) l l.length) (by omega) (by omega)) rfl dd ?_); (repeat (first | simp only [↓QA, QB, Nat.reduceLT, reduceIte, Nat.reduceEqDiff, Nat.reduceAdd, Nat.reduceLeDiff, Nat.reduceMul, Nat.reduceBEq, QXLaw7, hcol] | refine rd0 rfl ?_)))
        refine callK_d awake_ok rfl datas_nil ?_
        (repeat (first | simp only [↓QA, QB, Nat.reduceLT, reduceIte, Nat.reduceEqDiff, Nat.reduceAdd, Nat.reduceLeDiff, Nat.reduceMul, Nat.reduceBEq, QXLaw7] | refine rd0 rfl ?_))
end Go.Am.Room
