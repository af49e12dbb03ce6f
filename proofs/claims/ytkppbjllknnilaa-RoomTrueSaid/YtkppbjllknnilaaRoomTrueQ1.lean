/- A part of the proof of RoomTrue: an abstract machine, or what functions come to on it. -/
import Derived.Test.YtkppbjllknnilaaAllQ6
import Derived.ChangeArms
import Derived.SizedLaws
import Derived.ChangeBears
import Derived.ChangeShapes
import Derived.WideShapes
import Derived.ProofKit
import Derived.OpenShut
set_option linter.unusedVariables false
set_option linter.unusedSimpArgs false
set_option linter.defProp false
namespace Go.Am
open Go.ChangeShapes Go.WideShapes Go.ChangeAt Go.RowKit
variable {P : Program} {hh : String → Bool} {H : Type} {enc : TypeId × Value → H} {w : World} {sp : Nat → Bool} {held : Bool}
theorem wf_u8 {m : Int} (h : (Lit.int .u8 m).wf = true) : 0 ≤ m ∧ m < 256 := by
 simp [Lit.wf, IntKind.min, IntKind.max, IntKind.signed, IntKind.bits] at h
 omega
end Go.Am
namespace Go.Am
variable {T : FuncId → Option AFunc}
theorem S_ref (σ : St) (m d id off len sz : Nat) : snapM σ m (d + 1) (.ref id off len sz) =
  if id < m then some (.ref id off len sz) else (view σ (.ref id off len sz)).bind fun xs => if (decide (0 < sz) && allCells sz xs) = true then (snapMs σ m d xs).map fun ys => .lit ys false none else none := by
 simp only [snapM, snap]
 split
 ·simp [clr]
 ·cases view σ (.ref id off len sz) with
  | none => simp
  | some xs =>
   simp only [Option.bind_some]
   split
   ·simp only [snapMs]; cases snaps σ m d xs <;> simp [clr]
   ·simp
end Go.Am
namespace Go.Am.Room
theorem inside_ok (n : Int) (s : Span) : Pure T 40 [.int .i64 n, encSpan s] (.bool (inR n s.lo s.hi)) := by
 refine pure_fn (af := a40) rfl (by simp [a40]) dd ?_
 (repeat (first | simp only [↓QA, QB, Nat.reduceLT, reduceIte, Nat.reduceEqDiff, Nat.reduceAdd, Nat.reduceLeDiff, Nat.reduceMul, Nat.reduceBEq, a40, encSpan_eq] | refine rd0 rfl ?_))
 refine callK_d (in_ok _ _ _) rfl dd ?_
 (repeat (first | simp only [↓QA, QB, Nat.reduceLT, reduceIte, Nat.reduceEqDiff, Nat.reduceAdd, Nat.reduceLeDiff, Nat.reduceMul, Nat.reduceBEq] | refine rd0 rfl ?_))
open Go
variable {P : Program}
theorem ty_u8 {n : Nat} {cs : List AV} (T : Tys P) (h : Typ P (n + 1) 5 cs) : ∃ x : Int, mkV P 5 cs = .int .u8 x ∧ (0 ≤ x ∧ x < 256) := by
 obtain ⟨x, rfl, hw⟩ := typ_int T.u8 h
 exact ⟨x, mkV_ne T.u8 (by intro fs e; cases e), wf_u8 hw⟩
theorem ty_u8s {n : Nat} {cs : List AV} (T : Tys P) (h : Typ P (n + 2) 52 cs) : ∃ l : List Int, mkV P 52 cs = .lit (l.map (.int .u8)) false none ∧ (∀ x ∈ l, 0 ≤ x ∧ x < 256) ∧ l.length < 9223372036854775808 := by
 obtain ⟨l, rfl, ⟨h1, _⟩, h2⟩ := typ_slice (f := fun x : Int => AV.int .u8 x) T.u8s h fun y hy => ty_u8 T hy
 exact ⟨l, mkV_ne T.u8s (by intro fs e; cases e), h2, h1⟩
theorem ty_room {n : Nat} {cs : List AV} (T : Tys P) (h : Typ P (n + 5) 28 cs) : ∃ r : Rm, mkV P 28 cs = encRoom r ∧ Fits r := by
 obtain ⟨r, h1, h2, _⟩ := ty_roomB T h
 exact ⟨r, h1, h2⟩
end Go.Am.Room
set_option maxRecDepth 4000
namespace Go.Am.Room
def QXRm4 := And.intro @Nat.mul_one (And.intro @Int.toNat_natCast (And.intro @encRoom_eq (And.intro @roomCells_eq (And.intro @encSetting_eq (And.intro @encLook_eq (@encSpan_eq))))))
theorem colour_ok (n : Int) (h0 : 0 ≤ n) (h1 : n < 9223372036854775808) : Pure T 41 [.int .i64 n] (.int .i64 (colourOf n)) := by
 refine pure_fn (af := a41) rfl (by simp [a41]) dd ?_
 have e : n.tdiv 10 = n / 10 := Int.tdiv_eq_ediv_of_nonneg h0
 (repeat (first | simp only [↓QA, QB, Nat.reduceLT, reduceIte, Nat.reduceEqDiff, Nat.reduceAdd, Nat.reduceLeDiff, Nat.reduceMul, Nat.reduceBEq, QXRm4, setE_eq, bits_len, bits_cell, bits_take, bits_drop, bits_zero, S_bits, a41, V_quo _ _ _ (show (10 : Int) ≠ 0 by decide), e, wrap64 (show -9223372036854775808 ≤ n / 10 ∧ n / 10 ≤ 9223372036854775807 by omega), wrap64 (show -9223372036854775808 ≤ 1 + n / 10 ∧ 1 + n / 10 ≤ 9223372036854775807 by omega), colourOf] | refine rd0 rfl ?_))
theorem joinTo_bd (p : Nat → Bool) : ∀ n, n ≤ 160 → 0 ≤ (joinTo p n).lo ∧ (joinTo p n).lo ≤ 160 ∧ -1 ≤ (joinTo p n).hi ∧ (joinTo p n).hi < n
 | 0, _ => by simp [joinTo]
 | n + 1, h => by
  have ih := joinTo_bd p n (by omega)
  simp only [joinTo]
  split
  ·simp only [join]; omega
  ·omega
theorem joinTo_mem (p : Nat → Bool) : ∀ n m, n ≤ 160 → m < n → p m = true → (joinTo p n).lo ≤ m ∧ (m : Int) ≤ (joinTo p n).hi
 | 0, m, _, h, _ => by omega
 | n + 1, m, h, hm, hp => by
  have hb := joinTo_bd p n (by omega)
  simp only [joinTo]
  by_cases hmn : m = n
  ·subst hmn
   rw [if_pos hp]
   simp only [join]; omega
  ·have ih := joinTo_mem p n m (by omega) (by omega) hp
   split
   ·simp only [join]; omega
   ·exact ih
end Go.Am.Room
set_option maxRecDepth 8000
namespace Go.Am.Room
theorem valid_ok (r : Rm) (hf : Fits r) : Pure T 38 [encRoom r] (.bool (decide ((check r).2.2 = 0))) := by
 refine pure_fn (af := a38) rfl (by simp [a38]) dd ?_
 (repeat (first | simp only [↓QA, QB, Nat.reduceLT, reduceIte, Nat.reduceEqDiff, Nat.reduceAdd, Nat.reduceLeDiff, Nat.reduceMul, Nat.reduceBEq, QXLaw1, a38] | refine rd0 rfl ?_))
 ((first | refine callK_d (refcheck_ok r hf) rfl dd ?_ | refine callD_d (refcheck_ok r hf) rfl dd ?_); (repeat (first | simp only [↓QA, QB, Nat.reduceLT, reduceIte, Nat.reduceEqDiff, Nat.reduceAdd, Nat.reduceLeDiff, Nat.reduceMul, Nat.reduceBEq, QXLaw1, enc3] | refine rd0 rfl ?_)))
 try rfl
 try (simp; rfl)
def turnOf (l : List Int) (n : Nat) : Int := if l.length = 0 then 0 else (l[n % l.length]?).getD 0
theorem S_u8s (σ : St) (m d : Nat) (l : List Int) : snapMs σ m d (l.map (.int .u8)) = some (l.map (.int .u8)) := S_datas (datas_map (data_int .u8) l) σ m d
def Bytes (l : List Int) : Prop := (∀ x ∈ l, 0 ≤ x ∧ x < 256) ∧ l.length < 9223372036854775808
theorem turnOf_bd {l : List Int} (h : Bytes l) (n : Nat) : 0 ≤ turnOf l n ∧ turnOf l n < 256 := by
 unfold turnOf
 split
 ·omega
 ·rename_i h0
  have hlt : n % l.length < l.length := Nat.mod_lt _ (by omega)
  rw [List.getElem?_eq_getElem hlt, Option.getD_some]
  exact h.1 _ (List.getElem_mem hlt)
theorem turn_ok (l : List Int) (n : Nat) (h : Bytes l) (hn : n < 9223372036854775808) : Pure T 43 [u8s l, .int .i64 n] (.int .i64 (turnOf l n)) := by
 refine pure_fn (af := a43) rfl (by simp [a43]) (datas_cons (data_u8s l) (datas_cons (data_int _ _) datas_nil)) ?_
 have hl := h.2
 (repeat (first | simp only [↓QA, QB, Nat.reduceLT, reduceIte, Nat.reduceEqDiff, Nat.reduceAdd, Nat.reduceLeDiff, Nat.reduceMul, Nat.reduceBEq, QXLaw1, a43, u8s] | refine rd0 rfl ?_))
 refine iteP_intro (fun h0 => ?_) fun h0 => ?_
 ·have h0' : l.length = 0 := by simp at h0; simp [h0]
  (repeat (first | simp only [↓QA, QB, Nat.reduceLT, reduceIte, Nat.reduceEqDiff, Nat.reduceAdd, Nat.reduceLeDiff, Nat.reduceMul, Nat.reduceBEq, QXLaw1, turnOf, h0'] | refine rd0 rfl ?_))
 ·have h0' : l.length ≠ 0 := by intro e; rw [e] at h0; simp at h0
  have hlt : n % l.length < l.length := Nat.mod_lt _ (by omega)
  have hb := h.1 _ (List.getElem_mem hlt)
  have hm : ((n : Int).tmod (l.length : Int)) = ((n % l.length : Nat) : Int) := by rw [Int.tmod_eq_emod_of_nonneg (by omega)]; norm_cast
  have hw : IntKind.i64.wrap l[n % l.length] = l[n % l.length] := wrap64 ⟨by omega, by omega⟩
  (repeat (first | simp only [↓QA, QB, Nat.reduceLT, reduceIte, Nat.reduceEqDiff, Nat.reduceAdd, Nat.reduceLeDiff, Nat.reduceMul, Nat.reduceBEq, QXLaw1, V_rem _ _ _ (show ((l.length : Nat) : Int) ≠ 0 by omega), hm, hlt, hw] | refine rd0 rfl ?_))
  simp [turnOf, h0', hlt]
def oneOf (s : Span) (n : Int) : Int := s.lo + n.tmod (s.hi - s.lo + 1)
theorem oneOf_in {s : Span} {n : Int} (hs : s.lo ≤ s.hi) (hn : 0 ≤ n) : s.lo ≤ oneOf s n ∧ oneOf s n ≤ s.hi := by
 have h1 := Int.tmod_nonneg (s.hi - s.lo + 1) hn
 have h2 := Int.tmod_lt_of_pos n (show 0 < s.hi - s.lo + 1 by omega)
 simp only [oneOf]; omega
theorem one_ok (s : Span) (n : Int) (h0 : 0 ≤ s.lo) (h1 : s.lo ≤ s.hi) (h2 : s.hi < 1000000) (hn : 0 ≤ n) (hn2 : n < 9223372036854775808) : Pure T 44 [encSpan s, .int .i64 n] (.int .i64 (oneOf s n)) := by
 refine pure_fn (af := a44) rfl (by simp [a44]) dd ?_
 have hin := oneOf_in h1 hn
 have w1 : IntKind.i64.wrap (s.hi - s.lo) = s.hi - s.lo := wrap64 ⟨by omega, by omega⟩
 have w2 : IntKind.i64.wrap (s.hi - s.lo + 1) = s.hi - s.lo + 1 := wrap64 ⟨by omega, by omega⟩
 have w3 : IntKind.i64.wrap (s.lo + n.tmod (s.hi - s.lo + 1)) = s.lo + n.tmod (s.hi - s.lo + 1) := wrap64 ⟨by simp only [oneOf] at hin; omega, by simp only [oneOf] at hin; omega⟩
 (repeat (first | simp only [↓QA, QB, Nat.reduceLT, reduceIte, Nat.reduceEqDiff, Nat.reduceAdd, Nat.reduceLeDiff, Nat.reduceMul, Nat.reduceBEq, QXLaw1, a44, w1, w2, V_rem _ _ _ (show (s.hi - s.lo + 1 : Int) ≠ 0 by omega), w3, oneOf] | refine rd0 rfl ?_))
theorem colour_mono {a b : Int} (h : a ≤ b) : colourOf a ≤ colourOf b := by simp only [colourOf]; omega
theorem colour_one {n : Int} (h : 0 ≤ n) : 1 ≤ colourOf n ∧ colourOf n ≤ 7 := by simp only [colourOf]; omega
structure Tr (r : Rm) : Prop where
 vd : Vd r
 some : someB r [] = true
 chk : (check r).2.2 = 0
theorem Tr.ask {r : Rm} (h : Tr r) {n lo hi : Int} (h1 : lo ≤ n) (h2 : n ≤ hi) : errAsk r n lo hi = 0 := by simp [errAsk, h.chk, inR, h1, h2]
theorem Tr.known {r : Rm} (h : Tr r) : errKnown r 0 = 0 := by simp [errKnown, h.some]
theorem Tr.points {r : Rm} (h : Tr r) {d : Nat} (hd : d ≤ r.ran.length) : pointsOf r d = (ptsS r d, 0) := by
 have e := h.ask (n := (d : Int)) (lo := 0) (hi := r.ran.length) (by omega) (by omega)
 rw [pointsOf, e, h.known, if_pos rfl, Int.toNat_natCast, ptsS_eq h.vd]
theorem Tr.colours {r : Rm} (h : Tr r) {d : Nat} (hd : d ≤ r.ran.length) : coloursOf r d = (colours (ptsS r d), 0) := by
 rw [coloursOf, h.points hd]; rfl
theorem Tr.bd {r : Rm} (h : Tr r) (d : Nat) : 0 ≤ (ptsS r d).lo ∧ (ptsS r d).lo ≤ (ptsS r d).hi ∧ (ptsS r d).hi < 160 := ptsS_bd h.vd h.some d
theorem Tr.mem {r : Rm} (h : Tr r) {d : Nat} (hd : d ≤ r.ran.length) : ∀ n, n < 160 → dayB r [] d n = within (ptsS r d) n := by
 have hs := h.some
 rw [someB_eq h.vd] at hs
 obtain ⟨b, f, h1, _⟩ := bwd_some h.vd hs (r.ran.length - d) (by omega)
 have := bwd_is h.vd [] (r.ran.length - d) (by omega)
 rw [h1] at this
 have e : ptsS r d = b := by simp [ptsS, h1]
 rw [e]
 exact this
theorem Tr.plan {r : Rm} (h : Tr r) {day c : Int} (h1 : (r.ran.length : Int) ≤ day) (h2 : day ≤ r.days) (h3 : 1 ≤ c) (h4 : c ≤ 7) : planOf r day c = (match bestOf r (ptsS r r.ran.length) (beforeOf r) (day - r.ran.length).toNat c with | .none => ([], 0, 9) | .some x => (x.1, x.2, 0)) := by
 have : isColour c = true := by simp [isColour, inR, h3, h4]
 rw [planOf, planErr, h.ask h1 h2, errWant, this]
 simp only [if_true, h.known]
 rfl
theorem Tr.fill {r : Rm} (h : (check r).2.2 = 0) {day c : Int} (h1 : 0 ≤ day) (h2 : day ≤ r.days) (h3 : 1 ≤ c) (h4 : c ≤ 7) : fillOf r day c = ((numbers 0 (day + 1).toNat).filter (fills r day c), 0) := by
 have : isColour c = true := by simp [isColour, inR, h3, h4]
 have e : errAsk r day 0 r.days = 0 := by simp [errAsk, h, inR, h1, h2]
 rw [fillOf, fillErr, e, errWant, this]
 simp
theorem Tr.become {r : Rm} (h : Tr r) {l : List Int} (h1 : (l.length : Int) ≤ r.days - r.ran.length) (h2 : ∀ n ∈ l, 0 ≤ n ∧ n < r.settings.length) : becomeOf r l = (Room.colours (plus (ptsS r r.ran.length) (sumS r l)), 0) := by
 have e : errSets r l = 0 := by
  have e1 : errLong r l = 0 := by
   rw [errLong, if_neg (fun hh => by omega)]; exact h.chk
  have e2 : l.all (isSetting r) = true := by
   rw [List.all_eq_true]
   intro n hn
   have := h2 n hn
   simp [isSetting, inR]; omega
  rw [errSets, errEach_eq, e1, e2]; rfl
 rw [becomeOf, e, h.known, if_pos rfl]
end Go.Am.Room
set_option maxRecDepth 8000
namespace Go.Am.Room
def QXLaw3 := And.intro @encRoom_eq (And.intro @roomCells_eq (And.intro @encSetting_eq (And.intro @encLook_eq (And.intro @encSpan_eq (And.intro @T_sapp (@List.length_append.{0}))))))
def settOf (r : Rm) (x : List Int) (n : Nat) : List Int := (List.range n).map fun i => (turnOf x i).tmod r.settings.length
def settingsOf (r : Rm) (many : Nat) (x : List Int) : List Int := settOf r x (min many (r.days - r.ran.length).toNat)
theorem settOf_len (r : Rm) (x : List Int) (n : Nat) : (settOf r x n).length = n := by simp [settOf]
theorem settOf_in {r : Rm} (hv : Vd r) {x : List Int} (hx : Bytes x) (n : Nat) : ∀ i ∈ settOf r x n, 0 ≤ i ∧ i < r.settings.length := by
 intro i hi
 simp only [settOf, List.mem_map] at hi
 obtain ⟨k, _, rfl⟩ := hi
 have h1 := hv.nset
 have h2 := turnOf_bd hx k
 exact ⟨Int.tmod_nonneg _ h2.1, Int.tmod_lt_of_pos _ (by omega)⟩
theorem settOf_succ (r : Rm) (x : List Int) (n : Nat) : settOf r x (n + 1) = settOf r x n ++ [(turnOf x n).tmod r.settings.length] := by simp [settOf, List.range_succ]
theorem settings_ok (r : Rm) (many : Nat) (x : List Int) (hv : Vd r) (hx : Bytes x) (hm : many ≤ 10) : Pure T 42 [encRoom r, .int .i64 many, u8s x] (ints (settingsOf r many x)) := by
 refine pure_fn (af := a42) rfl (by simp [a42]) dd ?_
 have h1 := hv.ranLen
 have h2 := hv.days
 have h3 := hv.nset
 have hsub : IntKind.i64.wrap (r.days - (r.ran.length : Int)) = r.days - r.ran.length := wrap64 ⟨by omega, by omega⟩
 (repeat (first | simp only [↓QA, QB, Nat.reduceLT, reduceIte, Nat.reduceEqDiff, Nat.reduceAdd, Nat.reduceLeDiff, Nat.reduceMul, Nat.reduceBEq, QXLaw3, a42, u8s] | refine rd0 rfl ?_))
 refine ghostK 7 1 [] rfl ?_
 refine loopE (S := Nat × Bool) (0, false) (fun s => s.1 ≤ min many (r.days - r.ran.length).toNat) (fun s => many - s.1)
  (fun s => [(1, .int .i64 many), (2, u8s x), (3, .ptr 0 0), (7, .lit ((settOf r x s.1).map (.int .i64)) false (some 1)), (8, .int .i64 s.1)]) (fun s => [.cells (roomCells r), .tok 1 s.1 s.2]) (by simp) (by simp [roomCells, ints]) ?_ fun s hs => ?_
 ·try simp only [TrimX, QE, Nat.reduceLT, reduceIte, Nat.reduceEqDiff, Nat.reduceAdd, Nat.reduceLeDiff, Nat.reduceMul, Nat.reduceBEq, QXLaw3, u8s]
  try simp [settOf]
 ·obtain ⟨k, ex⟩ := s
  simp only at hs
  have hl := settOf_len r x k
  (repeat (first | simp only [↓QA, QB, Nat.reduceLT, reduceIte, Nat.reduceEqDiff, Nat.reduceAdd, Nat.reduceLeDiff, Nat.reduceMul, Nat.reduceBEq, QXLaw3, L42_0, u8s] | refine rd0 rfl ?_))
  cases g1 : decide ((k : Int) < (many : Int))
  ·have g1' : ¬ k < many := by simpa using g1
   have hk : k = min many (r.days - r.ran.length).toNat := by omega
   (repeat (first | simp only [↓QA, QB, Nat.reduceLT, reduceIte, Nat.reduceEqDiff, Nat.reduceAdd, Nat.reduceLeDiff, Nat.reduceMul, Nat.reduceBEq, QXLaw3, settingsOf, hk] | refine rd0 rfl ?_))
   try rw [hk]
  ·have g1' : k < many := by simpa using g1
   (repeat (first | simp only [↓QA, QB, Nat.reduceLT, reduceIte, Nat.reduceEqDiff, Nat.reduceAdd, Nat.reduceLeDiff, Nat.reduceMul, Nat.reduceBEq, QXLaw3, hsub] | refine rd0 rfl ?_))
   cases g2 : decide ((k : Int) < r.days - (r.ran.length : Int))
   ·have g2' : ¬ (k : Int) < r.days - r.ran.length := by simpa using g2
    have hk : k = min many (r.days - r.ran.length).toNat := by omega
    (repeat (first | simp only [↓QA, QB, Nat.reduceLT, reduceIte, Nat.reduceEqDiff, Nat.reduceAdd, Nat.reduceLeDiff, Nat.reduceMul, Nat.reduceBEq, QXLaw3, settingsOf, hk] | refine rd0 rfl ?_))
    try rw [hk]
   ·have g2' : (k : Int) < r.days - r.ran.length := by simpa using g2
    have hw := wrapN g1' (by omega)
    have hb := turnOf_bd hx k
    have hap := fun (b : ABlk) (τ : St) => append_intT (σ := b :: .tok 1 k ex :: τ) (l := settOf r x k) (a := (turnOf x k).tmod r.settings.length) (ex := ex) (t := 1) (by omega) (by rw [hl]; rfl)
    rw [hl] at hap
    (repeat (first | simp only [↓QA, QB, Nat.reduceLT, reduceIte, Nat.reduceEqDiff, Nat.reduceAdd, Nat.reduceLeDiff, Nat.reduceMul, Nat.reduceBEq, QXLaw3] | refine rd0 rfl ?_))
    ((first | refine callK_d (turn_ok x k hx (by omega)) rfl dd ?_ | refine callD_d (turn_ok x k hx (by omega)) rfl dd ?_); (repeat (first | simp only [↓QA, QB, Nat.reduceLT, reduceIte, Nat.reduceEqDiff, Nat.reduceAdd, Nat.reduceLeDiff, Nat.reduceMul, Nat.reduceBEq, QXLaw3, V_rem _ _ _ (show ((r.settings.length : Nat) : Int) ≠ 0 by omega), hap, hw] | refine rd0 rfl ?_)))
    refine ⟨(k + 1, true), by simp only; omega, by simp only; omega, ?_⟩
    try simp only [TrimX, QE, Nat.reduceLT, reduceIte, Nat.reduceEqDiff, Nat.reduceAdd, Nat.reduceLeDiff, Nat.reduceMul, Nat.reduceBEq, QXLaw3, hw, S_mapI, settOf_succ, u8s, List.map_append, List.map_cons, List.map_nil]
    try simp [okBlk]
def tp (r : Rm) (x : List Int) : Nat → Int
 | 0 => oneOf r.start (turnOf x 0)
 | d + 1 => tp r x d + oneOf (gainAt r d) (turnOf x (1 + d))
theorem tp_bd {r : Rm} (hv : Vd r) {x : List Int} (hx : Bytes x) : ∀ d, d ≤ r.ran.length → 0 ≤ tp r x d ∧ tp r x d ≤ 69 + 15 * d
 | 0, _ => by
  have hs := hv.start
  have := oneOf_in hs.2.1 (turnOf_bd hx 0).1
  simp only [tp]; omega
 | d + 1, h => by
  have ih := tp_bd hv hx d (by omega)
  have hg := gain_bd hv (show d < r.ran.length by omega)
  have := oneOf_in hg.2.1 (turnOf_bd hx (1 + d)).1
  simp only [tp]; omega
def toldLooks (r : Rm) (x : List Int) (l : List Look) : List Look := l.map fun y => ⟨y.day, colourOf (tp r x y.day.toNat)⟩
def told (r : Rm) (x : List Int) : Rm := { r with looks := toldLooks r x r.looks }
def tpts (r : Rm) (x : List Int) (n : Nat) : List Int := (List.range n).map (tp r x)
theorem tpts_len (r : Rm) (x : List Int) (n : Nat) : (tpts r x n).length = n := by simp [tpts]
theorem tpts_succ (r : Rm) (x : List Int) (n : Nat) : tpts r x (n + 1) = tpts r x n ++ [tp r x n] := by simp [tpts, List.range_succ]
theorem tpts_get (r : Rm) (x : List Int) {n k : Nat} (h : k < n) : (tpts r x n)[k]'(by rw [tpts_len]; exact h) = tp r x k := by simp [tpts]
def halfLooks (r : Rm) (x : List Int) (k : Nat) : List Look := toldLooks r x (r.looks.take k) ++ r.looks.drop k
theorem half_len (r : Rm) (x : List Int) (k : Nat) : (halfLooks r x k).length = r.looks.length := by simp [halfLooks, toldLooks]; omega
theorem half_get (r : Rm) (x : List Int) {k : Nat} (h : k < r.looks.length) : (halfLooks r x k)[k]'(by rw [half_len]; exact h) = r.looks[k] := by
 simp [halfLooks, toldLooks, List.getElem_append_right, Nat.min_eq_left (Nat.le_of_lt h)]
theorem half_set (r : Rm) (x : List Int) {k : Nat} (h : k < r.looks.length) : (halfLooks r x k).set k ⟨r.looks[k].day, colourOf (tp r x r.looks[k].day.toNat)⟩ = halfLooks r x (k + 1) := by
 have e : r.looks.drop k = r.looks[k] :: r.looks.drop (k + 1) := List.drop_eq_getElem_cons h
 have e2 : r.looks.take (k + 1) = r.looks.take k ++ [r.looks[k]] := by rw [List.take_succ_eq_append_getElem h]
 have hl : (toldLooks r x (r.looks.take k)).length = k := by simp [toldLooks]; omega
 rw [halfLooks, halfLooks, e, e2, List.set_append_right _ _ (by omega), hl, Nat.sub_self, List.set_cons_zero]
 simp only [toldLooks, List.map_append, List.map_cons, List.map_nil, List.append_assoc, List.cons_append, List.nil_append]
end Go.Am.Room
set_option maxRecDepth 8000
namespace Go.Am.Room
def QXLaw8 := And.intro @Int.toNat_natCast (And.intro @S_mapSet (And.intro @S_mapLook (And.intro @S_u8s (And.intro @encRoom_eq (And.intro @roomCells_eq (And.intro @encSetting_eq (And.intro @encLook_eq (And.intro @encSpan_eq (And.intro @T_sapp (@List.length_append.{0}))))))))))
def flatLk : List Look → List AV
 | [] => []
 | y :: l => .int .i64 y.day :: .int .i64 y.colour :: flatLk l
theorem flatLk_len : ∀ l, (flatLk l).length = l.length * 2
 | [] => rfl
 | y :: l => by simp only [flatLk, List.length_cons, flatLk_len l]; omega
theorem flatLk_map : ∀ l : List Look, (l.map encLook).flatMap AV.cells = flatLk l
 | [] => rfl
 | y :: l => by simp only [List.map_cons, List.flatMap_cons, flatLk_map l, encLook, AV.cells]; rfl
theorem flatLk_at : ∀ (l : List Look) (k : Nat) (h : k < l.length), ((flatLk l).drop (k * 2)).take 2 = [.int .i64 l[k].day, .int .i64 l[k].colour]
 | [], k, h => by simp at h
 | y :: l, 0, h => rfl
 | y :: l, k + 1, h => by
  have := flatLk_at l k (by simpa using h)
  rw [show (k + 1) * 2 = k * 2 + 1 + 1 by omega]
  simpa only [flatLk, List.drop_succ_cons, List.getElem_cons_succ] using this
theorem flatLk_set : ∀ (l : List Look) (k : Nat) (z : Look), k < l.length → (flatLk l).take (k * 2) ++ [.int .i64 z.day, .int .i64 z.colour] ++ (flatLk l).drop (k * 2 + 2) = flatLk (l.set k z)
 | [], k, z, h => by simp at h
 | y :: l, 0, z, h => rfl
 | y :: l, k + 1, z, h => by
  have := flatLk_set l k z (by simpa using h)
  rw [show (k + 1) * 2 = k * 2 + 1 + 1 by omega, show k * 2 + 1 + 1 + 2 = (k * 2 + 2) + 1 + 1 by omega]
  simp only [flatLk, List.take_succ_cons, List.drop_succ_cons, List.set_cons_succ, List.cons_append]
  rw [this]
theorem flatLk_ok : ∀ (l : List Look) (m : Nat), okVs m (flatLk l)
 | [], m => trivial
 | y :: l, m => ⟨trivial, trivial, flatLk_ok l m⟩
theorem chop_lk : ∀ l : List Look, chop 2 l.length (flatLk l) = l.map encLook
 | [] => rfl
 | y :: l => by
  simp only [List.length_cons, chop, flatLk, List.map_cons, List.take_succ_cons, List.take_zero, List.drop_succ_cons, List.drop_zero, chop_lk l]
  rfl
theorem allCells_look (l : List Look) : allCells 2 (l.map encLook) = true := L_allM 2 encLook l fun y => by simp [cellsOk, encLook, AV.cells, AV.cell]
theorem snap_looks {σ : St} {id : Nat} {l : List Look} (h : cellsAt σ id = some (flatLk l)) : snapM σ 0 20 (.ref id 0 l.length 2) = some (.lit (l.map encLook) false none) := by
 rw [S_ref]
 have hv : view σ (.ref id 0 l.length 2) = some (l.map encLook) := by
  simp only [view, h, flatLk_len, Nat.zero_add, Nat.le_refl, if_true, List.drop_zero, chop_lk]
 rw [hv]
 simp [allCells_look, S_mapLook]
theorem apref_looks {σ : St} {l : List Look} (h0 : l ≠ []) (hl : l.length ≤ 100) : aprefAV 2 16 σ (.lit [] true none) (.lit (l.map encLook) false none) = some (.ref σ.length 0 l.length 2, σ ++ [.cells (flatLk l)]) := by
 have h1 : l.length ≠ 0 := fun e => h0 (List.length_eq_zero_iff.1 e)
 simp only [aprefAV, view, List.length_map, h1, if_false, List.length_nil, Nat.zero_add, List.nil_append, flatLk_map]
 have h2 : l.length * 16 ≤ room := by simp [room]; omega
 have h3 : l.length ≤ room := by simp [room]; omega
 simp [sized, allCells_look, h2, h3]
theorem apref_none {σ : St} : aprefAV 2 16 σ (.lit [] true none) (.lit [] false none) = some (.lit [] true none, σ) := by simp [aprefAV, view]
set_option maxHeartbeats 1000000 in
theorem told_ok (r : Rm) (x : List Int) (hv : Vd r) (hx : Bytes x) : Pure T 39 [encRoom r, u8s x] (.tuple [encRoom (told r x), ints (tpts r x (r.ran.length + 1))]) := by
 refine pure_fn (af := a39) rfl (by simp [a39]) dd ?_
 have hdd := hv.days
 have hdr := hv.ranLen
 have hst := hv.start
 have ht0 := turnOf_bd hx 0
 have hll := hv.looksLen
 (repeat (first | simp only [↓QA, QB, Nat.reduceLT, reduceIte, Nat.reduceEqDiff, Nat.reduceAdd, Nat.reduceLeDiff, Nat.reduceMul, Nat.reduceBEq, QXLaw8, a39, u8s] | refine rd0 rfl ?_))
 ((first | refine callK_d (turn_ok x 0 hx (by omega)) rfl dd ?_ | refine callD_d (turn_ok x 0 hx (by omega)) rfl dd ?_); (repeat (first | simp only [↓QA, QB, Nat.reduceLT, reduceIte, Nat.reduceEqDiff, Nat.reduceAdd, Nat.reduceLeDiff, Nat.reduceMul, Nat.reduceBEq, QXLaw8] | refine rd0 rfl ?_)))
 ((first | refine callK_d (one_ok r.start (turnOf x 0) hst.1 hst.2.1 (by omega) ht0.1 (by omega)) rfl dd ?_ | refine callD_d (one_ok r.start (turnOf x 0) hst.1 hst.2.1 (by omega) ht0.1 (by omega)) rfl dd ?_); (repeat (first | simp only [↓QA, QB, Nat.reduceLT, reduceIte, Nat.reduceEqDiff, Nat.reduceAdd, Nat.reduceLeDiff, Nat.reduceMul, Nat.reduceBEq, QXLaw8] | refine rd0 rfl ?_)))
 have hz : oneOf r.start (turnOf x 0) = tp r x 0 := rfl
 rw [hz]
 refine ghostK 6 1 [.int .i64 (tp r x 0)] rfl ?_
 refine loopE (S := Nat × Bool) (0, false) (fun s => s.1 ≤ r.ran.length) (fun s => r.ran.length - s.1)
  (fun s => [(1, u8s x), (2, .ptr 0 0), (4, .ptr 1 0), (6, .lit ((tpts r x (s.1 + 1)).map (.int .i64)) false (some 2)), (7, .int .i64 s.1)])
  (fun s => [.cells (roomCells r), .cells [.int .i64 0, .int .i64 0, .int .i64 0, .lit [] true none, .int .i64 0, .lit [] true none, .lit [] true none], .tok 1 (s.1 + 1) s.2]) (by simp) (by simp [roomCells, ints]) ?_ fun s hs => ?_
 ·try simp only [TrimX, QE, Nat.reduceLT, reduceIte, Nat.reduceEqDiff, Nat.reduceAdd, Nat.reduceLeDiff, Nat.reduceMul, Nat.reduceBEq, QXLaw8, u8s]
  try simp [tpts, List.range_succ]
 ·obtain ⟨d, ex⟩ := s
  simp only at hs
  have hlen := tpts_len r x (d + 1)
  (repeat (first | simp only [↓QA, QB, Nat.reduceLT, reduceIte, Nat.reduceEqDiff, Nat.reduceAdd, Nat.reduceLeDiff, Nat.reduceMul, Nat.reduceBEq, QXLaw8, L39_0, u8s] | refine rd0 rfl ?_))
  refine iteP_intro (fun h => ?_) fun h => ?_
  ·have hd1 : d < r.ran.length := by simpa using h
   have hw := wrapN hd1 (by omega)
   have hw1 : IntKind.i64.wrap (1 + (d : Int)) = ((1 + d : Nat) : Int) := by rw [wrap64 ⟨by omega, by omega⟩]; omega
   have hdl : d < (tpts r x (d + 1)).length := by rw [hlen]; omega
   have hgt := tpts_get r x (show d < d + 1 by omega)
   have hrn := hv.ran _ (List.getElem_mem hd1)
   have h0 : 0 ≤ r.ran[d] := hrn.1
   have h1 : r.ran[d].toNat < r.settings.length := by omega
   have hg := hv.gains _ (List.getElem_mem h1)
   have ht := turnOf_bd hx (1 + d)
   have htp := tp_bd hv hx d hs
   have hin := oneOf_in hg.2.1 ht.1
   have hstep : tp r x d + oneOf r.settings[r.ran[d].toNat].gain (turnOf x (1 + d)) = tp r x (d + 1) := by
    simp only [tp, gainAt_eq hd1 h1]
   have hwq : IntKind.i64.wrap (tp r x d + oneOf r.settings[r.ran[d].toNat].gain (turnOf x (1 + d))) = tp r x (d + 1) := by rw [hstep]; have := tp_bd hv hx (d + 1) hd1; exact wrap64 ⟨by omega, by omega⟩
   have hap := fun (b0 b1 : ABlk) (τ : St) => append_intT (σ := b0 :: b1 :: .tok 1 (d + 1) ex :: τ) (l := tpts r x (d + 1)) (a := tp r x (d + 1)) (ex := ex) (t := 2) (by omega) (by rw [hlen]; rfl)
   rw [hlen] at hap
   (repeat (first | simp only [↓QA, QB, Nat.reduceLT, reduceIte, Nat.reduceEqDiff, Nat.reduceAdd, Nat.reduceLeDiff, Nat.reduceMul, Nat.reduceBEq, QXLaw8, hd1, hdl, hgt, h0, h1, V_idxI, hw1] | refine rd0 rfl ?_))
   ((first | refine callK_d (turn_ok x (1 + d) hx (by omega)) rfl dd ?_ | refine callD_d (turn_ok x (1 + d) hx (by omega)) rfl dd ?_); (repeat (first | simp only [↓QA, QB, Nat.reduceLT, reduceIte, Nat.reduceEqDiff, Nat.reduceAdd, Nat.reduceLeDiff, Nat.reduceMul, Nat.reduceBEq, QXLaw8, hd1, hdl, hgt, h0, h1, V_idxI, hw1] | refine rd0 rfl ?_)))
   ((first | refine callK_d (one_ok r.settings[r.ran[d].toNat].gain (turnOf x (1 + d)) hg.1 hg.2.1 (by omega) ht.1 (by omega)) rfl dd ?_ | refine callD_d (one_ok r.settings[r.ran[d].toNat].gain (turnOf x (1 + d)) hg.1 hg.2.1 (by omega) ht.1 (by omega)) rfl dd ?_); (repeat (first | simp only [↓QA, QB, Nat.reduceLT, reduceIte, Nat.reduceEqDiff, Nat.reduceAdd, Nat.reduceLeDiff, Nat.reduceMul, Nat.reduceBEq, QXLaw8, hd1, hdl, hgt, h0, h1, V_idxI, hw1, hwq, hap, hw] | refine rd0 rfl ?_)))
   refine ⟨(d + 1, true), by simp only; omega, by simp only; omega, ?_⟩
   try simp only [TrimX, QE, Nat.reduceLT, reduceIte, Nat.reduceEqDiff, Nat.reduceAdd, Nat.reduceLeDiff, Nat.reduceMul, Nat.reduceBEq, QXLaw8, hw, tpts_succ r x (d + 1), List.map_append, List.map_cons, List.map_nil, u8s, S_mapI]
   try simp [okBlk]
  ·have hd1 : d = r.ran.length := by simp at h; omega
   subst hd1
   have hp := tpts_len r x (r.ran.length + 1)
   by_cases hlk : r.looks = []
   ·have e : told r x = r := by
     have : toldLooks r x r.looks = r.looks := by rw [hlk]; rfl
     simp only [told, this]
    rw [e]
    have hnil : List.map encLook r.looks = [] := by rw [hlk]; rfl
    have hl0 : r.looks.length = 0 := by rw [hlk]; rfl
    (repeat (first | simp only [↓QA, QB, Nat.reduceLT, reduceIte, Nat.reduceEqDiff, Nat.reduceAdd, Nat.reduceLeDiff, Nat.reduceMul, Nat.reduceBEq, QXLaw8, hnil, apref_none] | refine rd0 rfl ?_))
    refine loopE (S := Unit) () (fun _ => True) (fun _ => 0) (fun _ => [(2, .ptr 0 0), (4, .ptr 1 0), (6, .lit ((tpts r x (r.ran.length + 1)).map (.int .i64)) false (some 2)), (8, .int .i64 0)])
     (fun _ => [.cells [.int .i64 r.days, .int .i64 r.start.lo, .int .i64 r.start.hi, .lit (r.settings.map encSetting) false none, .int .i64 r.opens, .lit (r.ran.map (.int .i64)) false none, .lit [] true none], .cells [.int .i64 0, .int .i64 0, .int .i64 0, .lit [] true none, .int .i64 0, .lit [] true none, .lit [] true none], .tok 1 (r.ran.length + 1) ex]) trivial rfl ?_ fun s hs => ?_
    ·try simp only [TrimX, QE, Nat.reduceLT, reduceIte, Nat.reduceEqDiff, Nat.reduceAdd, Nat.reduceLeDiff, Nat.reduceMul, Nat.reduceBEq, QXLaw8]
     try simp
    ·(repeat (first | simp only [↓QA, QB, Nat.reduceLT, reduceIte, Nat.reduceEqDiff, Nat.reduceAdd, Nat.reduceLeDiff, Nat.reduceMul, Nat.reduceBEq, QXLaw8, L39_2, show decide ((0 : Int) < ((0 : Nat) : Int)) = false from rfl] | refine rd0 rfl ?_))
     rw [hnil]
   ·obtain ⟨N, hN⟩ : ∃ N, r.looks.length = N := ⟨_, rfl⟩
    have hN0 : 0 < N := by rw [← hN]; exact List.length_pos_iff.2 hlk
    have hh0 : halfLooks r x 0 = r.looks := by simp [halfLooks, toldLooks]
    have hhN : halfLooks r x N = toldLooks r x r.looks := by rw [← hN]; simp [halfLooks, List.take_length]
    have hhl : ∀ k, (halfLooks r x k).length = N := fun k => by rw [half_len, hN]
    have hfl : ∀ k, (flatLk (halfLooks r x k)).length = N * 2 := fun k => by rw [flatLk_len, hhl]
    have hap := fun σ : St => apref_looks (σ := σ) hlk (by omega)
    rw [hN] at hap
    (repeat (first | simp only [↓QA, QB, Nat.reduceLT, reduceIte, Nat.reduceEqDiff, Nat.reduceAdd, Nat.reduceLeDiff, Nat.reduceMul, Nat.reduceBEq, QXLaw8, hap, hN] | refine rd0 rfl ?_))
    refine loopE (S := Nat) 0 (fun k => k ≤ N) (fun k => N - k) (fun k => [(2, .ptr 0 0), (4, .ptr 1 0), (6, .lit ((tpts r x (r.ran.length + 1)).map (.int .i64)) false (some 2)), (8, .int .i64 k)])
     (fun k => [.cells [.int .i64 r.days, .int .i64 r.start.lo, .int .i64 r.start.hi, .lit (r.settings.map encSetting) false none, .int .i64 r.opens, .lit (r.ran.map (.int .i64)) false none, .ref 3 0 N 2], .cells [.int .i64 0, .int .i64 0, .int .i64 0, .lit [] true none, .int .i64 0, .lit [] true none, .lit [] true none], .tok 1 (r.ran.length + 1) ex, .cells (flatLk (halfLooks r x k))]) (by simp) (by rw [hh0]) ?_ fun k hk => ?_
    ·try simp only [TrimX, QE, Nat.reduceLT, reduceIte, Nat.reduceEqDiff, Nat.reduceAdd, Nat.reduceLeDiff, Nat.reduceMul, Nat.reduceBEq, QXLaw8]
     try simp
    ·(repeat (first | simp only [↓QA, QB, Nat.reduceLT, reduceIte, Nat.reduceEqDiff, Nat.reduceAdd, Nat.reduceLeDiff, Nat.reduceMul, Nat.reduceBEq, QXLaw8, L39_2] | refine rd0 rfl ?_))
     refine iteP_intro (fun h => ?_) fun h => ?_
     ·have hk1 : k < N := by simpa using h
      have hw := wrapN hk1 (by omega)
      have hkl : k < r.looks.length := by omega
      have hlkk := hv.looks _ (List.getElem_mem hkl)
      have i1 : (0 : Int) ≤ (k : Int) ∧ (k : Int) < ((N : Nat) : Int) ∧ 2 = 2 := ⟨by omega, by omega, rfl⟩
      have c1 : k * 2 + 2 ≤ N * 2 := by omega
      have hat := flatLk_at (halfLooks r x k) k (by rw [hhl]; exact hk1)
      rw [half_get r x hkl] at hat
      have hset := flatLk_set (halfLooks r x k) k ⟨r.looks[k].day, colourOf (tp r x r.looks[k].day.toNat)⟩ (by rw [hhl]; exact hk1)
      rw [half_set r x hkl] at hset
      simp only at hset
      have hd0 : 0 ≤ r.looks[k].day := hlkk.1
      have hd2 : r.looks[k].day.toNat < (tpts r x (r.ran.length + 1)).length := by rw [hp]; omega
      have hgt := tpts_get r x (show r.looks[k].day.toNat < r.ran.length + 1 by omega)
      have htp := tp_bd hv hx r.looks[k].day.toNat (by omega)
      (repeat (first | simp only [↓QA, QB, Nat.reduceLT, reduceIte, Nat.reduceEqDiff, Nat.reduceAdd, Nat.reduceLeDiff, Nat.reduceMul, Nat.reduceBEq, QXLaw8, i1, c1, hfl, hat, hd0, hd2, V_idxI, hgt, Nat.zero_add] | refine rd0 rfl ?_))
      ((first | refine callK_d (colour_ok (tp r x r.looks[k].day.toNat) (by omega) (by omega)) rfl dd ?_ | refine callD_d (colour_ok (tp r x r.looks[k].day.toNat) (by omega) (by omega)) rfl dd ?_); (repeat (first | simp only [↓QA, QB, Nat.reduceLT, reduceIte, Nat.reduceEqDiff, Nat.reduceAdd, Nat.reduceLeDiff, Nat.reduceMul, Nat.reduceBEq, QXLaw8, i1, c1, hfl, hset, hw, Nat.zero_add] | refine rd0 rfl ?_)))
      refine ⟨k + 1, by omega, by omega, ?_⟩
      try simp only [TrimX, QE, Nat.reduceLT, reduceIte, Nat.reduceEqDiff, Nat.reduceAdd, Nat.reduceLeDiff, Nat.reduceMul, Nat.reduceBEq, QXLaw8, hw, S_mapI]
      have := flatLk_ok (halfLooks r x (k + 1))
      simp [okBlk, this]
     ·have hk1 : k = N := by simp at h; omega
      rw [hk1, hhN]
      have hsn : ∀ (b0 b1 b2 : ABlk) (τ : St), snapM (b0 :: b1 :: b2 :: .cells (flatLk (toldLooks r x r.looks)) :: τ) 0 20 (.ref 3 0 N 2) = some (.lit ((toldLooks r x r.looks).map encLook) false none) := fun b0 b1 b2 τ => by
       have hl : N = (toldLooks r x r.looks).length := by rw [← hN]; simp [toldLooks]
       rw [hl]
       exact snap_looks (by simp [cellsAt])
      (repeat (first | simp only [↓QA, QB, Nat.reduceLT, reduceIte, Nat.reduceEqDiff, Nat.reduceAdd, Nat.reduceLeDiff, Nat.reduceMul, Nat.reduceBEq, QXLaw8, hsn, told] | refine rd0 rfl ?_))
theorem firstBad_none {α : Type} {f : Nat → α → Int} : ∀ {l : List α} {i : Nat}, (∀ (j : Nat) x, x ∈ l → f j x = 0) → firstBad f l i = none
 | [], _, _ => rfl
 | x :: l, i, h => by
  simp only [firstBad, h i x (by simp), if_true]
  exact firstBad_none fun j y hy => h j y (List.mem_cons_of_mem _ hy)
theorem check4_ok {r : Rm} (h1 : r.looks.length ≤ 4) (h2 : ∀ x ∈ r.looks, 0 ≤ x.day ∧ x.day ≤ r.ran.length ∧ 1 ≤ x.colour ∧ x.colour ≤ 7) : check4 r = (0, 0, 0) := by
 have : firstBad (lookErr r) r.looks 0 = none := firstBad_none fun j x hx => by
  have := h2 x hx
  have e1 : inR x.day 0 r.ran.length = true := by simp [inR]; omega
  have e2 : isColour x.colour = true := by simp [isColour, inR]; omega
  simp only [lookErr, e1, e2, Bool.and_self, if_true]
 rw [check4, if_neg (by omega), this]
theorem told_looks {r : Rm} (hv : Vd r) {x : List Int} (hx : Bytes x) : ∀ y ∈ (told r x).looks, 0 ≤ y.day ∧ y.day ≤ r.ran.length ∧ 1 ≤ y.colour ∧ y.colour ≤ 7 := by
 intro y hy
 simp only [told, toldLooks, List.mem_map] at hy
 obtain ⟨z, hz, rfl⟩ := hy
 have h1 := hv.looks z hz
 have h2 := tp_bd hv hx z.day.toNat (by omega)
 have h3 := colour_one h2.1
 exact ⟨h1.1, h1.2.1, h3.1, h3.2⟩
theorem told_check {r : Rm} (hc : (check r).2.2 = 0) {x : List Int} (hx : Bytes x) : (check (told r x)).2.2 = 0 := by
 have hv := vd_of_check hc
 have h4 : check4 (told r x) = check4 r := by
  rw [check4_ok hv.looksLen hv.looks, check4_ok (by simpa [told, toldLooks] using hv.looksLen) (told_looks hv hx)]
 have h3 : check3 (told r x) = check3 r := by simp only [check3, h4]; rfl
 have h2 : check2 (told r x) = check2 r := by simp only [check2, h3]; rfl
 have : check (told r x) = check r := by simp only [check, h2]; rfl
 rw [this]; exact hc
theorem so_told (day : Int) (c : Int) : ∀ (l : List Look) (i : Nat), (∀ y ∈ l, y.day = day → y.colour = c) → soFrom day [] c l i = true
 | [], _, _ => rfl
 | y :: l, i, h => by
  simp only [soFrom, so_told day c l (i + 1) fun z hz => h z (List.mem_cons_of_mem _ hz), Bool.and_true]
  split
  ·rename_i hd
   simp at hd
   simpa using h y (by simp) hd
  ·rfl
theorem gain_told (r : Rm) (x : List Int) (d : Nat) : gainAt (told r x) d = gainAt r d := rfl
theorem seen_told {r : Rm} (hv : Vd r) {x : List Int} (hx : Bytes x) (d : Nat) (hd : d ≤ r.ran.length) : seenP (told r x).looks (d : Int) [] (tp r x d).toNat = true := by
 have hb := tp_bd hv hx d hd
 refine so_told _ _ _ _ fun y hy hday => ?_
 simp only [told, toldLooks, List.mem_map] at hy
 obtain ⟨z, hz, rfl⟩ := hy
 simp only at hday ⊢
 rw [hday, Int.toNat_natCast, show (((tp r x d).toNat : Nat) : Int) = tp r x d by omega]
theorem fwd_told {r : Rm} (hv : Vd r) {x : List Int} (hx : Bytes x) : ∀ d, d ≤ r.ran.length → dayF (told r x) [] d (tp r x d).toNat = true
 | 0, h => by
  have hs := hv.start
  have h0 := oneOf_in hs.2.1 (turnOf_bd hx 0).1
  have := seen_told hv hx 0 h
  simp only [dayF, Bool.and_eq_true]
  refine ⟨?_, this⟩
  show within r.start _ = true
  have e0 : tp r x 0 = oneOf r.start (turnOf x 0) := rfl
  simp only [within, Bool.and_eq_true, decide_eq_true_eq]
  omega
 | d + 1, h => by
  have ih := fwd_told hv hx d (by omega)
  have hb := tp_bd hv hx d (by omega)
  have hdd := hv.days
  have hdr := hv.ranLen
  have hg := gain_bd hv (show d < r.ran.length by omega)
  have h0 := oneOf_in hg.2.1 (turnOf_bd hx (1 + d)).1
  have := seen_told hv hx (d + 1) h
  simp only [dayF, Bool.and_eq_true]
  refine ⟨?_, by rw [show ((d : Int) + 1) = ((d + 1 : Nat) : Int) by omega]; exact this⟩
  simp only [grownTo, List.any_eq_true, List.mem_range, Bool.and_eq_true, decide_eq_true_eq]
  have eg : gainAt (told r x) d = gainAt r d := rfl
  have e0 : tp r x (d + 1) = tp r x d + oneOf (gainAt r d) (turnOf x (1 + d)) := rfl
  refine ⟨(tp r x d).toNat, by omega, ih, ?_, ?_⟩
  ·rw [eg]; omega
  ·rw [eg]; omega
theorem bwd_told {r : Rm} (hv : Vd r) {x : List Int} (hx : Bytes x) : ∀ k, k ≤ r.ran.length → dayK (told r x) [] k (tp r x (r.ran.length - k)).toNat = true
 | 0, _ => fwd_told hv hx _ (Nat.le_refl _)
 | k + 1, h => by
  have ih := bwd_told hv hx k (by omega)
  have hf := fwd_told hv hx (r.ran.length - (k + 1)) (by omega)
  have hdd := hv.days
  have hdr := hv.ranLen
  obtain ⟨d, hd⟩ : ∃ d, r.ran.length - (k + 1) = d := ⟨_, rfl⟩
  have hd1 : r.ran.length - k = d + 1 := by omega
  rw [hd1] at ih
  rw [hd] at hf ⊢
  have hb := tp_bd hv hx (d + 1) (by omega)
  have hb0 := tp_bd hv hx d (by omega)
  have hg := gain_bd hv (show d < r.ran.length by omega)
  have h0 := oneOf_in hg.2.1 (turnOf_bd hx (1 + d)).1
  simp only [dayK, show (told r x).ran.length = r.ran.length from rfl, hd, hf, Bool.true_and, gain_told]
  simp only [shrunk, shrTo, List.any_eq_true, List.mem_range, Bool.and_eq_true, decide_eq_true_eq]
  have e0 : tp r x (d + 1) = tp r x d + oneOf (gainAt r d) (turnOf x (1 + d)) := rfl
  refine ⟨(tp r x (d + 1)).toNat, by omega, ih, ?_, ?_⟩
  ·omega
  ·omega
theorem told_tr {r : Rm} (hc : (check r).2.2 = 0) {x : List Int} (hx : Bytes x) : Tr (told r x) := by
 have hv := vd_of_check hc
 have hc2 := told_check hc hx
 refine ⟨vd_of_check hc2, ?_, hc2⟩
 have hdd := hv.days
 have hdr := hv.ranLen
 have hb := tp_bd hv hx r.ran.length (Nat.le_refl _)
 have h0 := bwd_told hv hx 0 (by omega)
 have hm := joinTo_mem (dayB (told r x) [] r.ran.length) 160 (tp r x r.ran.length).toNat (by omega) (by omega) (by rw [dayB, show (told r x).ran.length = r.ran.length from rfl, Nat.sub_self]; exact h0)
 show decide (0 ≤ (endsOf (dayB (told r x) [] r.ran.length)).hi) = true
 rw [decide_eq_true_eq, endsOf]
 omega
theorem told_in {r : Rm} (hc : (check r).2.2 = 0) {x : List Int} (hx : Bytes x) {d : Nat} (hd : d ≤ r.ran.length) : (ptsS (told r x) d).lo ≤ tp r x d ∧ tp r x d ≤ (ptsS (told r x) d).hi := by
 have hv := vd_of_check hc
 have tr := told_tr hc hx
 have hdd := hv.days
 have hdr := hv.ranLen
 have hb := tp_bd hv hx d hd
 have hk := bwd_told hv hx (r.ran.length - d) (by omega)
 rw [show r.ran.length - (r.ran.length - d) = d by omega] at hk
 have hm := tr.mem (d := d) hd (tp r x d).toNat (by omega)
 rw [dayB, show (told r x).ran.length = r.ran.length from rfl, hk] at hm
 have := hm.symm
 simp only [within, Bool.and_eq_true, decide_eq_true_eq] at this
 omega
theorem told_wrong {r : Rm} (hc : (check r).2.2 = 0) {x : List Int} (hx : Bytes x) : wrongOf (told r x) = ([], 0) := by
 have tr := told_tr hc hx
 rw [wrongOf, if_pos tr.chk]
 have : wrongFrom (told r x) (told r x).looks.length 0 = [] := by
  cases hN : (told r x).looks.length with
  | zero => simp [wrongFrom, hN, choices]
  | succ n =>
   simp only [wrongFrom, choices, List.find?_cons, tr.some]
 rw [this]
def gon (r : Rm) (o : Nat) (y : List Int) (q : Int) (l : List Int) : Nat → Int
 | 0 => q
 | i + 1 => gon r o y q l i + oneOf (gainN r ((l[i]?).getD 0)) (turnOf y (o + i))
theorem gon_bd {r : Rm} (hv : Vd r) {o : Nat} {y : List Int} (hy : Bytes y) {s : Span} {q : Int} {l : List Int} (hl : ∀ n ∈ l, 0 ≤ n ∧ n < r.settings.length) (h1 : s.lo ≤ q) (h2 : q ≤ s.hi) : ∀ i, i ≤ l.length → s.lo + (sumS r (l.take i)).lo ≤ gon r o y q l i ∧ gon r o y q l i ≤ s.hi + (sumS r (l.take i)).hi
 | 0, _ => by simp [gon, sumS]; omega
 | i + 1, hi => by
  have ih := gon_bd hv (o := o) hy hl h1 h2 i (by omega)
  have hi1 : i < l.length := hi
  have hn := hl _ (List.getElem_mem hi1)
  have h3 : l[i].toNat < r.settings.length := by omega
  have hg := hv.gains _ (List.getElem_mem h3)
  have ha : ∀ a b : List Int, sumS r (a ++ b) = plus (sumS r a) (sumS r b) := by
   intro a b
   induction a with
   | nil => simp [sumS, plus]
   | cons n a ih => simp only [List.cons_append, sumS, ih, plus_assoc]
  rw [List.take_succ_eq_append_getElem hi1, ha]
  simp only [gon, List.getElem?_eq_getElem hi1, Option.getD_some, sumS, plus, gainN_eq h3]
  have := oneOf_in hg.2.1 (turnOf_bd hy (o + i)).1
  omega
end Go.Am.Room
set_option maxRecDepth 8000
namespace Go.Am.Room
def QXLaw9 := And.intro @Int.toNat_natCast (And.intro @S_mapSet (And.intro @S_mapLook (And.intro @S_u8s (And.intro @encRoom_eq (And.intro @roomCells_eq (And.intro @encSetting_eq (And.intro @encLook_eq (And.intro @encSpan_eq (And.intro @T_sapp (@List.length_append.{0}))))))))))
set_option maxHeartbeats 1000000 in
theorem roomtrue_ok (r : Rm) (x y : List Int) (hf : Fits r) (hx : Bytes x) (hy : Bytes y) : Pure T 7 [encRoom r, u8s x, u8s y] (.bool true) := by
 refine pure_fn (af := a7) rfl (by simp [a7]) dd ?_
 (repeat (first | simp only [↓QA, QB, Nat.reduceLT, reduceIte, Nat.reduceEqDiff, Nat.reduceAdd, Nat.reduceLeDiff, Nat.reduceMul, Nat.reduceBEq, QXLaw9, a7, u8s] | refine rd0 rfl ?_))
 ((first | refine callK_d (valid_ok r hf) rfl dd ?_ | refine callD_d (valid_ok r hf) rfl dd ?_); (repeat (first | simp only [↓QA, QB, Nat.reduceLT, reduceIte, Nat.reduceEqDiff, Nat.reduceAdd, Nat.reduceLeDiff, Nat.reduceMul, Nat.reduceBEq, QXLaw9] | refine rd0 rfl ?_)))
 cases hs : decide ((check r).2.2 = 0)
 ·have hc : (check r).2.2 ≠ 0 := by simpa using hs
  have e1 : wrongOf r = ([], (check r).2.2) := if_neg hc
  have g : ((check r).2.2 == 0) = false := by simpa using hc
  (repeat (first | simp only [↓QA, QB, Nat.reduceLT, reduceIte, Nat.reduceEqDiff, Nat.reduceAdd, Nat.reduceLeDiff, Nat.reduceMul, Nat.reduceBEq, QXLaw9] | refine rd0 rfl ?_))
  ((first | refine callK_d (pwrong_ok r hf) rfl dd ?_ | refine callD_d (pwrong_ok r hf) rfl dd ?_); (repeat (first | simp only [↓QA, QB, Nat.reduceLT, reduceIte, Nat.reduceEqDiff, Nat.reduceAdd, Nat.reduceLeDiff, Nat.reduceMul, Nat.reduceBEq, QXLaw9, encLE, e1, g] | refine rd0 rfl ?_)))
  refine callK_d awake_ok rfl datas_nil ?_
  (repeat (first | simp only [↓QA, QB, Nat.reduceLT, reduceIte, Nat.reduceEqDiff, Nat.reduceAdd, Nat.reduceLeDiff, Nat.reduceMul, Nat.reduceBEq, QXLaw9] | refine rd0 rfl ?_))
 ·have hc : (check r).2.2 = 0 := by simpa using hs
  have hv := vd_of_check hc
  have hdd := hv.days
  have hdr := hv.ranLen
  have tr := told_tr hc hx
  have hv2 := tr.vd
  have e1 := told_wrong hc hx
  have hin := fun d (hd : d ≤ r.ran.length) => told_in hc hx hd
  obtain ⟨t, ht⟩ : ∃ t, told r x = t := ⟨_, rfl⟩
  have hran : t.ran = r.ran := by rw [← ht]; rfl
  have hset : t.settings = r.settings := by rw [← ht]; rfl
  have hdays : t.days = r.days := by rw [← ht]; rfl
  have hft : Fits t := by rw [← ht]; exact ⟨hf.settings, hf.ran, by simpa [told, toldLooks] using hf.looks, hf.names⟩
  have htold := told_ok r x hv hx
  rw [ht] at tr hv2 e1 hin htold
  have hrl : t.ran.length = r.ran.length := by rw [hran]
  have e2 := tr.points (d := 0) (by omega)
  have hp := tpts_len r x (r.ran.length + 1)
  have okz : ((0 : Int) == 0) = true := rfl
  have hp0 : (0 : Int).toNat < (tpts r x (r.ran.length + 1)).length := by rw [hp]; simp
  have hg0 : (tpts r x (r.ran.length + 1))[(0 : Int).toNat]'hp0 = tp r x 0 := tpts_get r x (show 0 < r.ran.length + 1 by omega)
  have hin0 : inR (tp r x 0) (ptsS t 0).lo (ptsS t 0).hi = true := by have := hin 0 (by omega); simp [inR]; omega
  have e20 : pointsOf t 0 = (ptsS t 0, 0) := e2
  (repeat (first | simp only [↓QA, QB, Nat.reduceLT, reduceIte, Nat.reduceEqDiff, Nat.reduceAdd, Nat.reduceLeDiff, Nat.reduceMul, Nat.reduceBEq, QXLaw9] | refine rd0 rfl ?_))
  ((first | refine callK_d (htold) rfl dd ?_ | refine callD_d (htold) rfl dd ?_); (repeat (first | simp only [↓QA, QB, Nat.reduceLT, reduceIte, Nat.reduceEqDiff, Nat.reduceAdd, Nat.reduceLeDiff, Nat.reduceMul, Nat.reduceBEq, QXLaw9] | refine rd0 rfl ?_)))
  ((first | refine callK_d (pwrong_ok t hft) rfl dd ?_ | refine callD_d (pwrong_ok t hft) rfl dd ?_); (repeat (first | simp only [↓QA, QB, Nat.reduceLT, reduceIte, Nat.reduceEqDiff, Nat.reduceAdd, Nat.reduceLeDiff, Nat.reduceMul, Nat.reduceBEq, QXLaw9, encLE, e1] | refine rd0 rfl ?_)))
  ((first | refine callK_d (began_ok t hft) rfl dd ?_ | refine callD_d (began_ok t hft) rfl dd ?_); (repeat (first | simp only [↓QA, QB, Nat.reduceLT, reduceIte, Nat.reduceEqDiff, Nat.reduceAdd, Nat.reduceLeDiff, Nat.reduceMul, Nat.reduceBEq, QXLaw9, encSE, e20, okz, show decide ((0 : Int) < ((0 : Nat) : Int)) = false from rfl, V_idxI (Int.le_refl 0) hp0, hp0, hg0] | refine rd0 rfl ?_)))
  ((first | refine callK_d (inside_ok (tp r x 0) (ptsS t 0)) rfl dd ?_ | refine callD_d (inside_ok (tp r x 0) (ptsS t 0)) rfl dd ?_); (repeat (first | simp only [↓QA, QB, Nat.reduceLT, reduceIte, Nat.reduceEqDiff, Nat.reduceAdd, Nat.reduceLeDiff, Nat.reduceMul, Nat.reduceBEq, QXLaw9, hin0, V_idxI (Int.le_refl 0) hp0, hp0, hg0] | refine rd0 rfl ?_)))
  refine loopE (S := Nat) 0 (fun i => i ≤ r.ran.length + 1) (fun i => r.ran.length + 1 - i)
   (fun i => [(1, u8s x), (2, u8s y), (9, .ptr 1 0), (10, ints (tpts r x (r.ran.length + 1))), (15, .int .i64 i)]) (fun _ => [.cells (roomCells r), .cells (roomCells t), .cells [.int .i64 (ptsS t 0).lo, .int .i64 (ptsS t 0).hi]]) (by simp) (by simp [roomCells, ints]) ?_ fun i hi => ?_
  ·try simp only [TrimX, QE, Nat.reduceLT, reduceIte, Nat.reduceEqDiff, Nat.reduceAdd, Nat.reduceLeDiff, Nat.reduceMul, Nat.reduceBEq, QXLaw9, u8s]
   try simp
  ·(repeat (first | simp only [↓QA, QB, Nat.reduceLT, reduceIte, Nat.reduceEqDiff, Nat.reduceAdd, Nat.reduceLeDiff, Nat.reduceMul, Nat.reduceBEq, QXLaw9, L7_0, u8s, hp] | refine rd0 rfl ?_))
   refine iteP_intro (fun h => ?_) fun h => ?_
   ·have hi1 : i < r.ran.length + 1 := by simp at h; omega
    have hi2 : i ≤ r.ran.length := by omega
    have hw := wrapN hi1 (by omega)
    have e3 := tr.points (d := i) (by omega)
    have e4 := tr.colours (d := i) (by omega)
    have hn := hin i hi2
    have htp := tp_bd hv hx i hi2
    have hil : i < (tpts r x (r.ran.length + 1)).length := by rw [hp]; exact hi1
    have hgi := tpts_get r x hi1
    have q1 : inR (tp r x i) (ptsS t i).lo (ptsS t i).hi = true := by simp [inR]; omega
    have c1 := colour_mono hn.1
    have c2 := colour_mono hn.2
    have q2 : inR (colourOf (tp r x i)) (colours (ptsS t i)).lo (colours (ptsS t i)).hi = true := by
     rw [inR_iff]; simp only [colours]; omega
    (repeat (first | simp only [↓QA, QB, Nat.reduceLT, reduceIte, Nat.reduceEqDiff, Nat.reduceAdd, Nat.reduceLeDiff, Nat.reduceMul, Nat.reduceBEq, QXLaw9] | refine rd0 rfl ?_))
    ((first | refine callK_d (points_ok t i hft) rfl dd ?_ | refine callD_d (points_ok t i hft) rfl dd ?_); (repeat (first | simp only [↓QA, QB, Nat.reduceLT, reduceIte, Nat.reduceEqDiff, Nat.reduceAdd, Nat.reduceLeDiff, Nat.reduceMul, Nat.reduceBEq, QXLaw9, encSE, e3] | refine rd0 rfl ?_)))
    ((first | refine callK_d (colours_ok t i hft) rfl dd ?_ | refine callD_d (colours_ok t i hft) rfl dd ?_); (repeat (first | simp only [↓QA, QB, Nat.reduceLT, reduceIte, Nat.reduceEqDiff, Nat.reduceAdd, Nat.reduceLeDiff, Nat.reduceMul, Nat.reduceBEq, QXLaw9, encSE, e4, okz, hil, hgi] | refine rd0 rfl ?_)))
    ((first | refine callK_d (inside_ok (tp r x i) (ptsS t i)) rfl dd ?_ | refine callD_d (inside_ok (tp r x i) (ptsS t i)) rfl dd ?_); (repeat (first | simp only [↓QA, QB, Nat.reduceLT, reduceIte, Nat.reduceEqDiff, Nat.reduceAdd, Nat.reduceLeDiff, Nat.reduceMul, Nat.reduceBEq, QXLaw9, q1, hil, hgi] | refine rd0 rfl ?_)))
    ((first | refine callK_d (colour_ok (tp r x i) (by omega) (by omega)) rfl dd ?_ | refine callD_d (colour_ok (tp r x i) (by omega) (by omega)) rfl dd ?_); (repeat (first | simp only [↓QA, QB, Nat.reduceLT, reduceIte, Nat.reduceEqDiff, Nat.reduceAdd, Nat.reduceLeDiff, Nat.reduceMul, Nat.reduceBEq, QXLaw9, hil, hgi] | refine rd0 rfl ?_)))
    ((first | refine callK_d (inside_ok (colourOf (tp r x i)) (colours (ptsS t i))) rfl dd ?_ | refine callD_d (inside_ok (colourOf (tp r x i)) (colours (ptsS t i))) rfl dd ?_); (repeat (first | simp only [↓QA, QB, Nat.reduceLT, reduceIte, Nat.reduceEqDiff, Nat.reduceAdd, Nat.reduceLeDiff, Nat.reduceMul, Nat.reduceBEq, QXLaw9, q2, hw, hil, hgi] | refine rd0 rfl ?_)))
    refine ⟨i + 1, by omega, by omega, ?_⟩
    try simp only [TrimX, QE, Nat.reduceLT, reduceIte, Nat.reduceEqDiff, Nat.reduceAdd, Nat.reduceLeDiff, Nat.reduceMul, Nat.reduceBEq, QXLaw9, hw, u8s]
    try simp [okBlk]
   ·have hl1 : (r.ran.length : Nat) < (tpts r x (r.ran.length + 1)).length := by rw [hp]; omega
    have hgl := tpts_get r x (show r.ran.length < r.ran.length + 1 by omega)
    have hwl : IntKind.i64.wrap (((r.ran.length + 1 : Nat) : Int) - 1) = (r.ran.length : Int) := by rw [wrap64 ⟨by omega, by omega⟩]; omega
    have hwl2 : IntKind.i64.wrap (((tpts r x (r.ran.length + 1)).length : Int) - 1) = (r.ran.length : Int) := by rw [hp]; exact hwl
    have hq := hin r.ran.length (Nat.le_refl _)
    have hty := turnOf_bd hy 0
    have hm1 := Int.tmod_nonneg 7 hty.1
    have hm2 := Int.tmod_lt_of_pos (turnOf y 0) (show (0 : Int) < 7 by omega)
    obtain ⟨mn, hmn⟩ : ∃ mn : Nat, (turnOf y 0).tmod 7 = (mn : Int) := ⟨((turnOf y 0).tmod 7).toNat, by omega⟩
    obtain ⟨l, hl⟩ : ∃ l, settingsOf t mn y = l := ⟨_, rfl⟩
    have hlin : ∀ n ∈ l, 0 ≤ n ∧ n < t.settings.length := by rw [← hl]; exact settOf_in hv2 hy _
    have hlen : (l.length : Int) ≤ t.days - t.ran.length := by rw [← hl, settingsOf, settOf_len]; omega
    have hdt : t.days ≤ 6 := by rw [hdays]; exact hdd.2
    (repeat (first | simp only [↓QA, QB, Nat.reduceLT, reduceIte, Nat.reduceEqDiff, Nat.reduceAdd, Nat.reduceLeDiff, Nat.reduceMul, Nat.reduceBEq, QXLaw9, hwl2, hl1, hgl] | refine rd0 rfl ?_))
    ((first | refine callK_d (turn_ok y 0 hy (by omega)) rfl dd ?_ | refine callD_d (turn_ok y 0 hy (by omega)) rfl dd ?_); (repeat (first | simp only [↓QA, QB, Nat.reduceLT, reduceIte, Nat.reduceEqDiff, Nat.reduceAdd, Nat.reduceLeDiff, Nat.reduceMul, Nat.reduceBEq, QXLaw9, V_rem _ _ _ (show (7 : Int) ≠ 0 by decide), hmn] | refine rd0 rfl ?_)))
    ((first | refine callK_d (settings_ok t mn y hv2 hy (by omega)) rfl dd ?_ | refine callD_d (settings_ok t mn y hv2 hy (by omega)) rfl dd ?_); (repeat (first | simp only [↓QA, QB, Nat.reduceLT, reduceIte, Nat.reduceEqDiff, Nat.reduceAdd, Nat.reduceLeDiff, Nat.reduceMul, Nat.reduceBEq, QXLaw9, hl] | refine rd0 rfl ?_)))
    refine loopE (S := Nat) 0 (fun i => i ≤ l.length) (fun i => l.length - i)
     (fun i => [(1, u8s x), (9, .ptr 1 0), (20, .int .i64 (gon t 7 x (tp r x r.ran.length) l i)), (21, ints l), (22, .int .i64 i)]) (fun _ => [.cells (roomCells r), .cells (roomCells t), .cells [.int .i64 (ptsS t 0).lo, .int .i64 (ptsS t 0).hi]]) (by simp) (by simp [roomCells, ints]) ?_ fun i hi => ?_
    ·try simp only [TrimX, QE, Nat.reduceLT, reduceIte, Nat.reduceEqDiff, Nat.reduceAdd, Nat.reduceLeDiff, Nat.reduceMul, Nat.reduceBEq, QXLaw9, u8s, gon]
     try simp
    ·(repeat (first | simp only [↓QA, QB, Nat.reduceLT, reduceIte, Nat.reduceEqDiff, Nat.reduceAdd, Nat.reduceLeDiff, Nat.reduceMul, Nat.reduceBEq, QXLaw9, L7_2, u8s] | refine rd0 rfl ?_))
     refine iteP_intro (fun h => ?_) fun h => ?_
     ·have hi1 : i < l.length := by simpa using h
      have hw := wrapN hi1 (by omega)
      have h0 := (hlin _ (List.getElem_mem hi1)).1
      have h1 : l[i].toNat < t.settings.length := by have := hlin _ (List.getElem_mem hi1); omega
      have hg := hv2.gains _ (List.getElem_mem h1)
      have hb0 := tr.bd r.ran.length
      have hbd := gon_bd hv2 (o := 7) hx (s := ptsS t r.ran.length) hlin hq.1 hq.2 i (by omega)
      have hsb := sumS_bd hv2 (l.take i) fun v hv1 => hlin v (List.mem_of_mem_take hv1)
      have htl : (l.take i).length ≤ 6 := by simp; omega
      have ht := turnOf_bd hx (7 + i)
      have hin3 := oneOf_in hg.2.1 ht.1
      have hw8 : IntKind.i64.wrap (7 + (i : Int)) = ((7 + i : Nat) : Int) := by rw [wrap64 ⟨by omega, by omega⟩]; omega
      have hstep : gon t 7 x (tp r x r.ran.length) l (i + 1) = gon t 7 x (tp r x r.ran.length) l i + oneOf t.settings[l[i].toNat].gain (turnOf x (7 + i)) := by
       simp only [gon, List.getElem?_eq_getElem hi1, Option.getD_some, gainN_eq h1]
      have hwq : IntKind.i64.wrap (gon t 7 x (tp r x r.ran.length) l i + oneOf t.settings[l[i].toNat].gain (turnOf x (7 + i))) = gon t 7 x (tp r x r.ran.length) l i + oneOf t.settings[l[i].toNat].gain (turnOf x (7 + i)) := wrap64 ⟨by omega, by omega⟩
      (repeat (first | simp only [↓QA, QB, Nat.reduceLT, reduceIte, Nat.reduceEqDiff, Nat.reduceAdd, Nat.reduceLeDiff, Nat.reduceMul, Nat.reduceBEq, QXLaw9, hi1, h0, h1, V_idxI, hw8] | refine rd0 rfl ?_))
      ((first | refine callK_d (turn_ok x (7 + i) hx (by omega)) rfl dd ?_ | refine callD_d (turn_ok x (7 + i) hx (by omega)) rfl dd ?_); (repeat (first | simp only [↓QA, QB, Nat.reduceLT, reduceIte, Nat.reduceEqDiff, Nat.reduceAdd, Nat.reduceLeDiff, Nat.reduceMul, Nat.reduceBEq, QXLaw9, hi1, h0, h1, V_idxI, hw8] | refine rd0 rfl ?_)))
      ((first | refine callK_d (one_ok t.settings[l[i].toNat].gain (turnOf x (7 + i)) hg.1 hg.2.1 (by omega) ht.1 (by omega)) rfl dd ?_ | refine callD_d (one_ok t.settings[l[i].toNat].gain (turnOf x (7 + i)) hg.1 hg.2.1 (by omega) ht.1 (by omega)) rfl dd ?_); (repeat (first | simp only [↓QA, QB, Nat.reduceLT, reduceIte, Nat.reduceEqDiff, Nat.reduceAdd, Nat.reduceLeDiff, Nat.reduceMul, Nat.reduceBEq, QXLaw9, hi1, h0, h1, V_idxI, hw8, hwq, hw] | refine rd0 rfl ?_)))
      refine ⟨i + 1, by omega, by omega, ?_⟩
      try simp only [TrimX, QE, Nat.reduceLT, reduceIte, Nat.reduceEqDiff, Nat.reduceAdd, Nat.reduceLeDiff, Nat.reduceMul, Nat.reduceBEq, QXLaw9, hw, u8s, hstep]
      try simp [okBlk]
     ·have hi1 : i = l.length := by simp at h; omega
      have hb0 := tr.bd r.ran.length
      have hbd := gon_bd hv2 (o := 7) hx (s := ptsS t r.ran.length) hlin hq.1 hq.2 l.length (Nat.le_refl _)
      have hsb := sumS_bd hv2 l hlin
      have eb := tr.become hlen hlin
      rw [List.take_length] at hbd
      rw [hrl] at eb
      rw [hi1]
      have c1 := colour_mono hbd.1
      have c2 := colour_mono hbd.2
      have q5 : inR (colourOf (gon t 7 x (tp r x r.ran.length) l l.length)) (colours (plus (ptsS t r.ran.length) (sumS t l))).lo (colours (plus (ptsS t r.ran.length) (sumS t l))).hi = true := by
       rw [inR_iff]; simp only [colours, plus]; omega
      (repeat (first | simp only [↓QA, QB, Nat.reduceLT, reduceIte, Nat.reduceEqDiff, Nat.reduceAdd, Nat.reduceLeDiff, Nat.reduceMul, Nat.reduceBEq, QXLaw9] | refine rd0 rfl ?_))
      ((first | refine callK_d (become_ok t l hft (by omega)) rfl dd ?_ | refine callD_d (become_ok t l hft (by omega)) rfl dd ?_); (repeat (first | simp only [↓QA, QB, Nat.reduceLT, reduceIte, Nat.reduceEqDiff, Nat.reduceAdd, Nat.reduceLeDiff, Nat.reduceMul, Nat.reduceBEq, QXLaw9, encSE, eb, okz] | refine rd0 rfl ?_)))
      ((first | refine callK_d (colour_ok (gon t 7 x (tp r x r.ran.length) l l.length) (by omega) (by omega)) rfl dd ?_ | refine callD_d (colour_ok (gon t 7 x (tp r x r.ran.length) l l.length) (by omega) (by omega)) rfl dd ?_); (repeat (first | simp only [↓QA, QB, Nat.reduceLT, reduceIte, Nat.reduceEqDiff, Nat.reduceAdd, Nat.reduceLeDiff, Nat.reduceMul, Nat.reduceBEq, QXLaw9] | refine rd0 rfl ?_)))
      ((first | refine callK_d (inside_ok (colourOf (gon t 7 x (tp r x r.ran.length) l l.length)) (colours (plus (ptsS t r.ran.length) (sumS t l)))) rfl dd ?_ | refine callD_d (inside_ok (colourOf (gon t 7 x (tp r x r.ran.length) l l.length)) (colours (plus (ptsS t r.ran.length) (sumS t l)))) rfl dd ?_); (repeat (first | simp only [↓QA, QB, Nat.reduceLT, reduceIte, Nat.reduceEqDiff, Nat.reduceAdd, Nat.reduceLeDiff, Nat.reduceMul, Nat.reduceBEq, QXLaw9, q5] | refine rd0 rfl ?_)))
      first | refine callD_d awake_ok rfl datas_nil ?_ | refine callK_d awake_ok rfl datas_nil ?_
      (repeat (first | simp only [↓QA, QB, Nat.reduceLT, reduceIte, Nat.reduceEqDiff, Nat.reduceAdd, Nat.reduceLeDiff, Nat.reduceMul, Nat.reduceBEq, QXLaw9] | refine rd0 rfl ?_))
end Go.Am.Room
