/- A part of the proof of RoomFilled: an abstract machine, or what functions come to on it. -/
import Derived.Test.YtkppbjllknnilaaAllQ6
import Derived.ChangeArms
import Derived.SizedLaws
import Derived.ChangeBears
import Derived.ChangeShapes
import Derived.WideShapes
import Derived.ProofKit
import Derived.OpenShut
set_option linter.unusedVariables false
set_option linter.unusedSimpArgs false
set_option linter.defProp false
namespace Go.Am
open Go.ChangeShapes Go.WideShapes Go.ChangeAt Go.RowKit
variable {P : Program} {hh : String → Bool} {H : Type} {enc : TypeId × Value → H} {w : World} {sp : Nat → Bool} {held : Bool}
theorem wf_u8 {m : Int} (h : (Lit.int .u8 m).wf = true) : 0 ≤ m ∧ m < 256 := by
 simp [Lit.wf, IntKind.min, IntKind.max, IntKind.signed, IntKind.bits] at h
 omega
end Go.Am
namespace Go.Am.Room
theorem has_ok (l : List Int) (n : Int) (hl : l.length < 9223372036854775808) : Pure T 60 [ints l, .int .i64 n] (.bool (l.contains n)) := by
 refine pure_fn (af := a60) rfl (by simp [a60]) dd ?_
 (repeat (first | simp only [↓QA, QB, Nat.reduceLT, reduceIte, Nat.reduceEqDiff, Nat.reduceAdd, Nat.reduceLeDiff, Nat.reduceMul, Nat.reduceBEq, a60] | refine rd0 rfl ?_))
 refine loopE (S := Nat) 0 (· ≤ l.length) (fun k => l.length - k) (fun k => [(0, ints l), (1, .int .i64 n), (5, .bool ((l.take k).contains n)), (6, .int .i64 k)]) (fun _ => []) (Nat.zero_le _) rfl ?_ fun k hk => ?_
 ·try simp only [TrimX, QE, Nat.reduceLT, reduceIte, Nat.reduceEqDiff, Nat.reduceAdd, Nat.reduceLeDiff, Nat.reduceMul, Nat.reduceBEq]
  try simp
 ·(repeat (first | simp only [↓QA, QB, Nat.reduceLT, reduceIte, Nat.reduceEqDiff, Nat.reduceAdd, Nat.reduceLeDiff, Nat.reduceMul, Nat.reduceBEq, L60_0] | refine rd0 rfl ?_))
  refine iteP_intro (fun h => ?_) fun h => ?_
  ·have hk1 : k < l.length := by simpa using h
   (repeat (first | simp only [↓QA, QB, Nat.reduceLT, reduceIte, Nat.reduceEqDiff, Nat.reduceAdd, Nat.reduceLeDiff, Nat.reduceMul, Nat.reduceBEq] | refine rd0 rfl ?_))
   refine iteP_intro (fun h2 => ?_) fun h2 => ?_
   all_goals
    (repeat (first | simp only [↓QA, QB, Nat.reduceLT, reduceIte, Nat.reduceEqDiff, Nat.reduceAdd, Nat.reduceLeDiff, Nat.reduceMul, Nat.reduceBEq, h2, hk1] | refine rd0 rfl ?_))
    refine ⟨k + 1, by omega, by omega, ?_⟩
    try simp only [TrimX, QE, Nat.reduceLT, reduceIte, Nat.reduceEqDiff, Nat.reduceAdd, Nat.reduceLeDiff, Nat.reduceMul, Nat.reduceBEq, wrapN hk1 hl]
    simp only [List.take_succ_eq_append_getElem hk1, List.contains_append, h2]
    simp
    try (rw [Bool.eq_iff_iff]; simp; exact eq_comm)
  ·have : k = l.length := by simp at h; omega
   (repeat (first | simp only [↓QA, QB, Nat.reduceLT, reduceIte, Nat.reduceEqDiff, Nat.reduceAdd, Nat.reduceLeDiff, Nat.reduceMul, Nat.reduceBEq] | refine rd0 rfl ?_))
   simp [this]
def rising (below : Int) : Int → List Int → Bool
 | _, [] => true
 | last, x :: xs => decide (last < x) && decide (x < below) && rising below x xs
theorem rising_ok (l : List Int) (below : Int) (hl : l.length < 9223372036854775808) : Pure T 55 [ints l, .int .i64 below] (.bool (rising below (-1) l)) := by
 refine pure_fn (af := a55) rfl (by simp [a55]) dd ?_
 (repeat (first | simp only [↓QA, QB, Nat.reduceLT, reduceIte, Nat.reduceEqDiff, Nat.reduceAdd, Nat.reduceLeDiff, Nat.reduceMul, Nat.reduceBEq, a55] | refine rd0 rfl ?_))
 refine loopE (S := Nat × Int) (0, -1) (fun s => s.1 ≤ l.length ∧ rising below s.2 (l.drop s.1) = rising below (-1) l) (fun s => l.length - s.1) (fun s => [(0, ints l), (1, .int .i64 below), (4, .bool false), (5, .int .i64 s.2), (6, .int .i64 s.1)]) (fun _ => []) ⟨Nat.zero_le _, rfl⟩ rfl ?_ fun s hs => ?_
 ·try simp only [TrimX, QE, Nat.reduceLT, reduceIte, Nat.reduceEqDiff, Nat.reduceAdd, Nat.reduceLeDiff, Nat.reduceMul, Nat.reduceBEq]
  try simp
 ·obtain ⟨k, last⟩ := s
  obtain ⟨hk, hl2⟩ := hs
  simp only at hk hl2
  (repeat (first | simp only [↓QA, QB, Nat.reduceLT, reduceIte, Nat.reduceEqDiff, Nat.reduceAdd, Nat.reduceLeDiff, Nat.reduceMul, Nat.reduceBEq, L55_0] | refine rd0 rfl ?_))
  refine iteP_intro (fun h => ?_) fun h => ?_
  ·have hk1 : k < l.length := by simpa using h
   rw [List.drop_eq_getElem_cons hk1] at hl2
   simp only [rising] at hl2
   (repeat (first | simp only [↓QA, QB, Nat.reduceLT, reduceIte, Nat.reduceEqDiff, Nat.reduceAdd, Nat.reduceLeDiff, Nat.reduceMul, Nat.reduceBEq, hk1] | refine rd0 rfl ?_))
   refine iteP_intro (fun h2 => ?_) fun h2 => ?_
   ·have h2' : ¬ last < l[k] := by simp at h2; omega
    (repeat (first | simp only [↓QA, QB, Nat.reduceLT, reduceIte, Nat.reduceEqDiff, Nat.reduceAdd, Nat.reduceLeDiff, Nat.reduceMul, Nat.reduceBEq, h2] | refine rd0 rfl ?_))
    rw [← hl2]; simp [h2']
   ·have h2' : last < l[k] := by simp at h2; omega
    (repeat (first | simp only [↓QA, QB, Nat.reduceLT, reduceIte, Nat.reduceEqDiff, Nat.reduceAdd, Nat.reduceLeDiff, Nat.reduceMul, Nat.reduceBEq, h2, hk1] | refine rd0 rfl ?_))
    refine iteP_intro (fun h3 => ?_) fun h3 => ?_
    ·have h3' : ¬ l[k] < below := by simp at h3; omega
     (repeat (first | simp only [↓QA, QB, Nat.reduceLT, reduceIte, Nat.reduceEqDiff, Nat.reduceAdd, Nat.reduceLeDiff, Nat.reduceMul, Nat.reduceBEq, h3] | refine rd0 rfl ?_))
     rw [← hl2]; simp [h3']
    ·have h3' : l[k] < below := by simp at h3; omega
     (repeat (first | simp only [↓QA, QB, Nat.reduceLT, reduceIte, Nat.reduceEqDiff, Nat.reduceAdd, Nat.reduceLeDiff, Nat.reduceMul, Nat.reduceBEq, h3, hk1] | refine rd0 rfl ?_))
     refine ⟨(k + 1, l[k]), ⟨by simp; omega, by rw [← hl2]; simp [h2', h3']⟩, by simp; omega, ?_⟩
     try simp only [TrimX, QE, Nat.reduceLT, reduceIte, Nat.reduceEqDiff, Nat.reduceAdd, Nat.reduceLeDiff, Nat.reduceMul, Nat.reduceBEq, wrapN hk1 hl]
  ·have hk1 : k = l.length := by simp at h; omega
   (repeat (first | simp only [↓QA, QB, Nat.reduceLT, reduceIte, Nat.reduceEqDiff, Nat.reduceAdd, Nat.reduceLeDiff, Nat.reduceMul, Nat.reduceBEq] | refine rd0 rfl ?_))
   rw [← hl2, hk1, List.drop_length]; simp [rising]
open Go
variable {P : Program}
theorem ty_want {n : Nat} {cs : List AV} (T : Tys P) (h : Typ P (n + 2) 65 cs) : ∃ x y : Int, mkV P 65 cs = .agg [.int .u8 x, .int .u8 y] ∧ (0 ≤ x ∧ x < 256) ∧ (0 ≤ y ∧ y < 256) := by
 obtain ⟨e, a, b, rfl, h1, c, d, rfl, h2, rfl⟩ := typ_st T.want h
 obtain ⟨x, rfl, hx⟩ := typ_int T.u8 h1
 obtain ⟨y, rfl, hy⟩ := typ_int T.u8 h2
 exact ⟨x, y, e, wf_u8 hx, wf_u8 hy⟩
theorem ty_room {n : Nat} {cs : List AV} (T : Tys P) (h : Typ P (n + 5) 28 cs) : ∃ r : Rm, mkV P 28 cs = encRoom r ∧ Fits r := by
 obtain ⟨r, h1, h2, _⟩ := ty_roomB T h
 exact ⟨r, h1, h2⟩
end Go.Am.Room
set_option maxRecDepth 8000
namespace Go.Am.Room
theorem valid_ok (r : Rm) (hf : Fits r) : Pure T 38 [encRoom r] (.bool (decide ((check r).2.2 = 0))) := by
 refine pure_fn (af := a38) rfl (by simp [a38]) dd ?_
 (repeat (first | simp only [↓QA, QB, Nat.reduceLT, reduceIte, Nat.reduceEqDiff, Nat.reduceAdd, Nat.reduceLeDiff, Nat.reduceMul, Nat.reduceBEq, QXLaw1, a38] | refine rd0 rfl ?_))
 ((first | refine callK_d (refcheck_ok r hf) rfl dd ?_ | refine callD_d (refcheck_ok r hf) rfl dd ?_); (repeat (first | simp only [↓QA, QB, Nat.reduceLT, reduceIte, Nat.reduceEqDiff, Nat.reduceAdd, Nat.reduceLeDiff, Nat.reduceMul, Nat.reduceBEq, QXLaw1, enc3] | refine rd0 rfl ?_)))
 try rfl
 try (simp; rfl)
def turnOf (l : List Int) (n : Nat) : Int := if l.length = 0 then 0 else (l[n % l.length]?).getD 0
theorem S_u8s (σ : St) (m d : Nat) (l : List Int) : snapMs σ m d (l.map (.int .u8)) = some (l.map (.int .u8)) := S_datas (datas_map (data_int .u8) l) σ m d
def oneOf (s : Span) (n : Int) : Int := s.lo + n.tmod (s.hi - s.lo + 1)
end Go.Am.Room
set_option maxRecDepth 8000
namespace Go.Am.Room
theorem fill_len (r : Rm) (day c : Int) : (fillOf r day c).1.length ≤ 7 := by
 unfold fillOf
 split
 ·rename_i h0
  obtain ⟨h1, _, _⟩ := errWant_ok h0
  obtain ⟨hv, hd0, hd1⟩ := errAsk_ok h1
  have hdd := hv.days
  have := List.length_filter_le (fills r day c) (numbers 0 (day + 1).toNat)
  rw [numbers_len] at this
  simp only; omega
 ·simp
structure Tr (r : Rm) : Prop where
 vd : Vd r
 some : someB r [] = true
 chk : (check r).2.2 = 0
theorem Tr.ask {r : Rm} (h : Tr r) {n lo hi : Int} (h1 : lo ≤ n) (h2 : n ≤ hi) : errAsk r n lo hi = 0 := by simp [errAsk, h.chk, inR, h1, h2]
theorem Tr.known {r : Rm} (h : Tr r) : errKnown r 0 = 0 := by simp [errKnown, h.some]
theorem Tr.points {r : Rm} (h : Tr r) {d : Nat} (hd : d ≤ r.ran.length) : pointsOf r d = (ptsS r d, 0) := by
 have e := h.ask (n := (d : Int)) (lo := 0) (hi := r.ran.length) (by omega) (by omega)
 rw [pointsOf, e, h.known, if_pos rfl, Int.toNat_natCast, ptsS_eq h.vd]
theorem Tr.colours {r : Rm} (h : Tr r) {d : Nat} (hd : d ≤ r.ran.length) : coloursOf r d = (colours (ptsS r d), 0) := by
 rw [coloursOf, h.points hd]; rfl
theorem Tr.bd {r : Rm} (h : Tr r) (d : Nat) : 0 ≤ (ptsS r d).lo ∧ (ptsS r d).lo ≤ (ptsS r d).hi ∧ (ptsS r d).hi < 160 := ptsS_bd h.vd h.some d
theorem Tr.plan {r : Rm} (h : Tr r) {day c : Int} (h1 : (r.ran.length : Int) ≤ day) (h2 : day ≤ r.days) (h3 : 1 ≤ c) (h4 : c ≤ 7) : planOf r day c = (match bestOf r (ptsS r r.ran.length) (beforeOf r) (day - r.ran.length).toNat c with | .none => ([], 0, 9) | .some x => (x.1, x.2, 0)) := by
 have : isColour c = true := by simp [isColour, inR, h3, h4]
 rw [planOf, planErr, h.ask h1 h2, errWant, this]
 simp only [if_true, h.known]
 rfl
theorem Tr.fill {r : Rm} (h : (check r).2.2 = 0) {day c : Int} (h1 : 0 ≤ day) (h2 : day ≤ r.days) (h3 : 1 ≤ c) (h4 : c ≤ 7) : fillOf r day c = ((numbers 0 (day + 1).toNat).filter (fills r day c), 0) := by
 have : isColour c = true := by simp [isColour, inR, h3, h4]
 have e : errAsk r day 0 r.days = 0 := by simp [errAsk, h, inR, h1, h2]
 rw [fillOf, fillErr, e, errWant, this]
 simp
end Go.Am.Room
set_option maxRecDepth 8000
namespace Go.Am.Room
def tp (r : Rm) (x : List Int) : Nat → Int
 | 0 => oneOf r.start (turnOf x 0)
 | d + 1 => tp r x d + oneOf (gainAt r d) (turnOf x (1 + d))
def toldLooks (r : Rm) (x : List Int) (l : List Look) : List Look := l.map fun y => ⟨y.day, colourOf (tp r x y.day.toNat)⟩
def told (r : Rm) (x : List Int) : Rm := { r with looks := toldLooks r x r.looks }
end Go.Am.Room
set_option maxRecDepth 8000
namespace Go.Am.Room
theorem rising_filter (p : Int → Bool) (below : Int) : ∀ (k : Nat) (a last : Int), last < a → a + k ≤ below → rising below last ((numbers a k).filter p) = true
 | 0, a, last, _, _ => rfl
 | k + 1, a, last, h1, h2 => by
  simp only [numbers, List.filter_cons]
  split
  ·simp only [rising, rising_filter p below k (a + 1) a (by omega) (by omega), Bool.and_true, Bool.and_eq_true, decide_eq_true_eq]; omega
  ·exact rising_filter p below k (a + 1) last (by omega) (by omega)
theorem contains_filter (p : Int → Bool) (a : Int) (k : Nat) (x : Int) : ((numbers a k).filter p).contains x = (decide (a ≤ x ∧ x < a + k) && p x) := by
 rw [Bool.eq_iff_iff, List.contains_iff_mem, List.mem_filter, numbers_mem, Bool.and_eq_true, decide_eq_true_eq]
end Go.Am.Room
set_option maxRecDepth 8000
namespace Go.Am.Room
def QXLaw6 := And.intro @S_mapSet (And.intro @S_mapLook (And.intro @S_u8s (And.intro @encRoom_eq (And.intro @roomCells_eq (And.intro @encSetting_eq (And.intro @encLook_eq (And.intro @encSpan_eq (And.intro @T_sapp (@List.length_append.{0})))))))))
def rrA (r : Rm) : AV := .agg [.int .i64 r.days, .int .i64 r.start.lo, .int .i64 r.start.hi, .lit (r.settings.map encSetting) false none, .int .i64 r.opens, .lit [] true none, .lit [] true none]
theorem rr_clr (r : Rm) : clr (rrA r) = encRoom (rr r) := by simp [rrA, clr, clrs, (datas_map data_setting r.settings).2, encRoom, roomCells, rr, ints]
theorem rr_clr1 (r : Rm) {az bs : List AV} (h : clrs az = bs) : clrs (rrA r :: az) = encRoom (rr r) :: bs := by simp [clrs, rr_clr, h]
theorem rr_clr2 (r : Rm) {w : AV} {az bs : List AV} (hw : clr w = w) (h : clrs az = bs) : clrs (w :: rrA r :: az) = w :: encRoom (rr r) :: bs := by simp [clrs, rr_clr, h, hw]
theorem rr_okA (r : Rm) : okV 0 (rrA r) := by
 have := (data_list data_setting r.settings).1
 simp only [okV] at this
 simp [rrA, okV, okVs, this]
theorem rr_ok1 (r : Rm) {az : List AV} (h : okVs 0 az) : okVs 0 (rrA r :: az) := ⟨rr_okA r, h⟩
theorem rr_ok2 (r : Rm) {w : AV} {az : List AV} (hw : okV 0 w) (h : okVs 0 az) : okVs 0 (w :: rrA r :: az) := ⟨hw, rr_okA r, h⟩
theorem rr_fits {r : Rm} (hf : Fits r) : Fits (rr r) := ⟨hf.settings, by simp [rr], by simp [rr], hf.names⟩
theorem rr_tr {r : Rm} (h : (check (rr r)).2.2 = 0) : Tr (rr r) := ⟨vd_of_check h, some_all (vd_of_check h) fun j hj => by simp [rr] at hj, h⟩
theorem rr_pts {r : Rm} (h : (check (rr r)).2.2 = 0) : ptsS (rr r) 0 = r.start := by
 have hst := (vd_of_check h).start
 simp only [rr] at hst
 have key : ∀ s : Span, 0 ≤ s.lo → s.hi ≤ 1000 → both s ⟨0, 1000⟩ = s := by
  rintro ⟨lo, hi⟩ h1 h2
  simp only [both, Span.mk.injEq] at *
  omega
 have hb := key r.start hst.1 (by omega)
 have : bwd (rr r) [] 0 = some r.start := by
  show ne (both r.start ⟨0, 1000⟩) = _
  rw [hb, ne, if_pos hst.2.1]
 have e : ptsS (rr r) 0 = (bwd (rr r) [] 0).getD ⟨160, -1⟩ := rfl
 rw [e, this]; rfl
set_option maxHeartbeats 1000000 in
theorem roomfilled_ok (r : Rm) (x y : Int) (hf : Fits r) (hx : 0 ≤ x ∧ x < 256) (hy : 0 ≤ y ∧ y < 256) : Pure T 13 [encRoom r, encWanted x y] (.bool true) := by
 refine pure_fn (af := a13) rfl (by simp [a13]) dd ?_
 have hf0 := rr_fits hf
 (repeat (first | simp only [↓QA, QB, Nat.reduceLT, reduceIte, Nat.reduceEqDiff, Nat.reduceAdd, Nat.reduceLeDiff, Nat.reduceMul, Nat.reduceBEq, QXLaw6, a13, encWanted] | refine rd0 rfl ?_))
 refine callK_v (valid_ok (rr r) hf0) (rr_clr1 r (by simp [clrs])) (rr_ok1 r (by simp [okVs])) ?_
 cases hs : decide ((check (rr r)).2.2 = 0)
 ·have hc : (check (rr r)).2.2 ≠ 0 := by simpa using hs
  have hne : (fillOf (rr r) 0 1).2 ≠ 0 := by
   have : fillErr (rr r) 0 1 ≠ 0 := by simp [fillErr, errWant, errAsk, hc]
   rw [fillOf, if_neg this]; exact this
  have g : ((fillOf (rr r) 0 1).2 == 0) = false := by simpa using hne
  (repeat (first | simp only [↓QA, QB, Nat.reduceLT, reduceIte, Nat.reduceEqDiff, Nat.reduceAdd, Nat.reduceLeDiff, Nat.reduceMul, Nat.reduceBEq, QXLaw6] | refine rd0 rfl ?_))
  refine callK_v (fill_ok (rr r) 0 1 hf0) (rr_clr1 r (by simp [clrs, clr])) (rr_ok1 r (by simp [okVs, okV])) ?_
  (repeat (first | simp only [↓QA, QB, Nat.reduceLT, reduceIte, Nat.reduceEqDiff, Nat.reduceAdd, Nat.reduceLeDiff, Nat.reduceMul, Nat.reduceBEq, QXLaw6, encLE, g] | refine rd0 rfl ?_))
  refine callK_d awake_ok rfl datas_nil ?_
  (repeat (first | simp only [↓QA, QB, Nat.reduceLT, reduceIte, Nat.reduceEqDiff, Nat.reduceAdd, Nat.reduceLeDiff, Nat.reduceMul, Nat.reduceBEq, QXLaw6] | refine rd0 rfl ?_))
 ·have hck : (check (rr r)).2.2 = 0 := by simpa using hs
  have tr := rr_tr hck
  have hv := tr.vd
  have hdd := hv.days
  have hd := want_bd hv hx.1
  have hc := wantC_bd hy.1
  obtain ⟨D, hD⟩ : ∃ D, wantDay (rr r) x = D := ⟨_, rfl⟩
  obtain ⟨C, hC⟩ : ∃ C, wantColour y = C := ⟨_, rfl⟩
  rw [hD] at hd
  rw [hC] at hc
  have h0 : (rr r).ran.length = 0 := rfl
  rw [h0] at hd
  have hd0 : 0 ≤ D := by omega
  have e1 := Tr.fill hck hd0 hd.2 hc.1 hc.2
  obtain ⟨L, hL⟩ : ∃ L, (numbers 0 (D + 1).toNat).filter (fills (rr r) D C) = L := ⟨_, rfl⟩
  rw [hL] at e1
  have q1 : rising (D + 1) (-1) L = true := by rw [← hL]; exact rising_filter _ _ _ 0 _ (by omega) (by omega)
  have hLl : L.length < 9223372036854775808 := by
   have := fill_len (rr r) D C; rw [e1] at this; simp only at this; omega
  have okz : ((0 : Int) == 0) = true := rfl
  have hw1 : IntKind.i64.wrap (D + 1) = D + 1 := wrap64 ⟨by simp only [rr] at hdd hd; omega, by simp only [rr] at hdd hd; omega⟩
  (repeat (first | simp only [↓QA, QB, Nat.reduceLT, reduceIte, Nat.reduceEqDiff, Nat.reduceAdd, Nat.reduceLeDiff, Nat.reduceMul, Nat.reduceBEq, QXLaw6] | refine rd0 rfl ?_))
  refine callK_v (wanted_ok (rr r) x y hv hx hy) (rr_clr2 r (data_wanted x y).2 (by simp [clrs])) (rr_ok2 r (data_wanted x y).1 (by simp [okVs])) ?_
  (repeat (first | simp only [↓QA, QB, Nat.reduceLT, reduceIte, Nat.reduceEqDiff, Nat.reduceAdd, Nat.reduceLeDiff, Nat.reduceMul, Nat.reduceBEq, QXLaw6, hD, hC] | refine rd0 rfl ?_))
  refine callK_v (fill_ok (rr r) D C hf0) (rr_clr1 r (by simp [clrs, clr])) (rr_ok1 r (by simp [okVs, okV])) ?_
  (repeat (first | simp only [↓QA, QB, Nat.reduceLT, reduceIte, Nat.reduceEqDiff, Nat.reduceAdd, Nat.reduceLeDiff, Nat.reduceMul, Nat.reduceBEq, QXLaw6, encLE, e1, okz, hw1] | refine rd0 rfl ?_))
  ((first | refine callK_d (rising_ok L (D + 1) hLl) rfl dd ?_ | refine callD_d (rising_ok L (D + 1) hLl) rfl dd ?_); (repeat (first | simp only [↓QA, QB, Nat.reduceLT, reduceIte, Nat.reduceEqDiff, Nat.reduceAdd, Nat.reduceLeDiff, Nat.reduceMul, Nat.reduceBEq, QXLaw6, q1] | refine rd0 rfl ?_)))
  refine loopE (S := Nat) 0 (fun k => (k : Int) ≤ D + 1) (fun k => (D + 1).toNat - k)
   (fun k => [(2, .ptr 0 0), (7, .int .i64 D), (8, .int .i64 C), (9, ints L), (11, .int .i64 k)]) (fun _ => [.cells [.int .i64 r.days, .int .i64 r.start.lo, .int .i64 r.start.hi, .lit (r.settings.map encSetting) false none, .int .i64 r.opens, .lit [] true none, .lit [] true none], .cells [.int .u8 x, .int .u8 y]]) (by simp; omega) (by simp) ?_ fun k hk => ?_
  ·try simp only [TrimX, QE, Nat.reduceLT, reduceIte, Nat.reduceEqDiff, Nat.reduceAdd, Nat.reduceLeDiff, Nat.reduceMul, Nat.reduceBEq, QXLaw6]
   try simp
  ·(repeat (first | simp only [↓QA, QB, Nat.reduceLT, reduceIte, Nat.reduceEqDiff, Nat.reduceAdd, Nat.reduceLeDiff, Nat.reduceMul, Nat.reduceBEq, QXLaw6, L13_0] | refine rd0 rfl ?_))
   refine iteP_intro (fun h => ?_) fun h => ?_
   ·have hk1 : (k : Int) ≤ D := by simpa using h
    have hw : IntKind.i64.wrap ((k : Int) + 1) = ((k + 1 : Nat) : Int) := by rw [wrap64 ⟨by omega, by simp only [rr] at hdd hd; omega⟩]; omega
    have hsub : IntKind.i64.wrap (D - (k : Int)) = D - k := wrap64 ⟨by omega, by simp only [rr] at hdd hd; omega⟩
    have e2 := tr.plan (day := D - k) (c := C) (by rw [h0]; omega) (by omega) hc.1 hc.2
    rw [h0, rr_pts hck] at e2
    have q3 : L.contains (k : Int) = ((planOf (rr r) (D - k) C).2.2 == 0) := by
     rw [← hL, contains_filter, e2]
     rw [show decide ((0 : Int) ≤ (k : Int) ∧ (k : Int) < 0 + ((D + 1).toNat : Int)) = true by simp; omega, Bool.true_and]
     unfold fills
     rw [show (rr r).start = r.start from rfl, show beforeOf (rr r) = -1 from rfl, show (D - (k : Int) - ((0 : Nat) : Int)).toNat = (D - k).toNat by omega]
     cases bestOf (rr r) r.start (-1) (D - k).toNat C <;> rfl
    have q4 : ((planOf (rr r) (D - k) C).2.2 == 0) = false → ((planOf (rr r) (D - k) C).2.2 == 9) = true := by
     rw [e2]
     cases bestOf (rr r) r.start (beforeOf (rr r)) (D - k - ((0 : Nat) : Int)).toNat C <;> simp
    obtain ⟨P, hP⟩ : ∃ P, planOf (rr r) (D - k) C = P := ⟨_, rfl⟩
    rw [hP] at q3 q4
    (repeat (first | simp only [↓QA, QB, Nat.reduceLT, reduceIte, Nat.reduceEqDiff, Nat.reduceAdd, Nat.reduceLeDiff, Nat.reduceMul, Nat.reduceBEq, QXLaw6, hsub] | refine rd0 rfl ?_))
    refine callK_v (plan_ok (rr r) (D - k) C hf0) (rr_clr1 r (by simp [clrs, clr])) (rr_ok1 r (by simp [okVs, okV])) ?_
    (repeat (first | simp only [↓QA, QB, Nat.reduceLT, reduceIte, Nat.reduceEqDiff, Nat.reduceAdd, Nat.reduceLeDiff, Nat.reduceMul, Nat.reduceBEq, QXLaw6, encLNE, hP] | refine rd0 rfl ?_))
    cases hz : (P.2.2 == 0)
    ·have q5 := q4 hz
     (repeat (first | simp only [↓QA, QB, Nat.reduceLT, reduceIte, Nat.reduceEqDiff, Nat.reduceAdd, Nat.reduceLeDiff, Nat.reduceMul, Nat.reduceBEq, QXLaw6, hz, q5] | refine rd0 rfl ?_))
     ((first | refine callK_d (has_ok L (k : Int) hLl) rfl dd ?_ | refine callD_d (has_ok L (k : Int) hLl) rfl dd ?_); (repeat (first | simp only [↓QA, QB, Nat.reduceLT, reduceIte, Nat.reduceEqDiff, Nat.reduceAdd, Nat.reduceLeDiff, Nat.reduceMul, Nat.reduceBEq, QXLaw6, q3, hz, hw] | refine rd0 rfl ?_)))
     refine ⟨k + 1, by omega, by omega, ?_⟩
     try simp only [TrimX, QE, Nat.reduceLT, reduceIte, Nat.reduceEqDiff, Nat.reduceAdd, Nat.reduceLeDiff, Nat.reduceMul, Nat.reduceBEq, QXLaw6, hw]
     try simp [okBlk]
    ·(repeat (first | simp only [↓QA, QB, Nat.reduceLT, reduceIte, Nat.reduceEqDiff, Nat.reduceAdd, Nat.reduceLeDiff, Nat.reduceMul, Nat.reduceBEq, QXLaw6, hz] | refine rd0 rfl ?_))
     ((first | refine callK_d (has_ok L (k : Int) hLl) rfl dd ?_ | refine callD_d (has_ok L (k : Int) hLl) rfl dd ?_); (repeat (first | simp only [↓QA, QB, Nat.reduceLT, reduceIte, Nat.reduceEqDiff, Nat.reduceAdd, Nat.reduceLeDiff, Nat.reduceMul, Nat.reduceBEq, QXLaw6, q3, hz, hw] | refine rd0 rfl ?_)))
     refine ⟨k + 1, by omega, by omega, ?_⟩
     try simp only [TrimX, QE, Nat.reduceLT, reduceIte, Nat.reduceEqDiff, Nat.reduceAdd, Nat.reduceLeDiff, Nat.reduceMul, Nat.reduceBEq, QXLaw6, hw]
     try simp [okBlk]
   ·(repeat (first | simp only [↓QA, QB, Nat.reduceLT, reduceIte, Nat.reduceEqDiff, Nat.reduceAdd, Nat.reduceLeDiff, Nat.reduceMul, Nat.reduceBEq, QXLaw6] | refine rd0 rfl ?_))
    refine callK_d awake_ok rfl datas_nil ?_
    (repeat (first | simp only [↓QA, QB, Nat.reduceLT, reduceIte, Nat.reduceEqDiff, Nat.reduceAdd, Nat.reduceLeDiff, Nat.reduceMul, Nat.reduceBEq, QXLaw6] | refine rd0 rfl ?_))
end Go.Am.Room
