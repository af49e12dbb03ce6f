/- A part of the proof of FarmTrue: an abstract machine, or what functions come to on it. -/
import Derived.Test.YtnioeddjaihmmaaOutQ6
import Derived.ChangeArms
import Derived.SizedLaws
import Derived.ChangeBears
import Derived.ChangeShapes
import Derived.WideShapes
import Derived.ProofKit
import Derived.OpenShut
import Derived.Lib.Strings
set_option linter.unusedVariables false
set_option linter.unusedSimpArgs false
set_option linter.defProp false
namespace Go.Am
open Go.ChangeShapes Go.WideShapes Go.ChangeAt Go.RowKit
variable {P : Program} {hh : String → Bool} {H : Type} {enc : TypeId × Value → H} {w : World} {sp : Nat → Bool} {held : Bool}
theorem mkV_one {t : TypeId} {a : AV} (hu : ∀ fs, P.underlying t ≠ some (.struct fs)) (hu2 : ∀ k e, P.underlying t ≠ some (.array k e)) : mkV P t [a] = a := by
 unfold mkV
 split
 ·rename_i fs h; exact absurd h (hu fs)
 ·rename_i k e h; exact absurd h (hu2 k e)
 ·rfl
end Go.Am
namespace Go.Am
variable {T : FuncId → Option AFunc}
theorem V_idxI {α : Type} {sz : Nat} {enc : α → AV} {l : List α} {i : Int} {t : Option Nat} (h0 : 0 ≤ i) (h : i.toNat < l.length) (hs : ∀ x, (enc x).cells.length = sz) : vIdx sz (l.map enc) i t = some (.lptr (l.map enc) i.toNat 0 t) := by
 simp [vIdx, List.getElem?_map, h, hs, h0]
end Go.Am
namespace Go.Am.Room
theorem inside_ok (n : Int) (s : Span) : Pure T 42 [.int .i64 n, encSpan s] (.bool (inR n s.lo s.hi)) := by
 refine pure_fn (af := a42) rfl (by simp [a42]) dd ?_
 (repeat (first | simp only [↓QA, QB, Nat.reduceLT, reduceIte, Nat.reduceEqDiff, Nat.reduceAdd, Nat.reduceLeDiff, Nat.reduceMul, Nat.reduceBEq, a42, encSpan_eq] | refine rd0 rfl ?_))
 refine callK_d (in_ok _ _ _) rfl dd ?_
 (repeat (first | simp only [↓QA, QB, Nat.reduceLT, reduceIte, Nat.reduceEqDiff, Nat.reduceAdd, Nat.reduceLeDiff, Nat.reduceMul, Nat.reduceBEq] | refine rd0 rfl ?_))
open Go
variable {P : Program}
theorem mkV_ne {t : TypeId} {a : AV} {d : TypeDesc} (hu : P.underlying t = some d) (hd : ∀ fs, d ≠ .struct fs := by intro fs h; cases h) (hd2 : ∀ k e, d ≠ .array k e := by intro k e h; cases h) : mkV P t [a] = a := mkV_one (by rw [hu]; intro fs e; cases e; exact hd _ rfl) (by rw [hu]; intro k e h; cases h; exact hd2 _ _ rfl)
theorem tc_u8 {n : Nat} {t : TypeId} {cs : List AV} (hi : P.underlying t = some (.int .u8)) (h : Typ P (n + 1) t cs) : ∃ x : Int, mkV P t cs = .int .u8 x ∧ (0 ≤ x ∧ x < 256) := by
 obtain ⟨x, rfl, hw⟩ := typ_int hi h
 exact ⟨x, mkV_ne hi, wf_u8 hw⟩
theorem tc_u8s {n : Nat} {t i : TypeId} {cs : List AV} (hi : P.underlying i = some (.int .u8)) (hs : P.underlying t = some (.slice i)) (h : Typ P (n + 2) t cs) : ∃ l : List Int, mkV P t cs = .lit (l.map (.int .u8)) false none ∧ (∀ x ∈ l, 0 ≤ x ∧ x < 256) ∧ l.length < 9223372036854775808 := by
 obtain ⟨l, rfl, ⟨h1, _⟩, h2⟩ := typ_slice (f := fun x : Int => AV.int .u8 x) hs h fun y hy => tc_u8 hi hy
 exact ⟨l, mkV_ne hs, h2, h1⟩
end Go.Am.Room
namespace Go.Am.Room
theorem ends_of {s : Span} {lo hi : Int} (h : lo ≤ s.lo ∧ s.lo ≤ s.hi ∧ s.hi ≤ hi) : ends s lo hi = 0 := by
 unfold ends
 rw [inR_iff.2 ⟨h.1, by omega⟩, inR_iff.2 ⟨by omega, h.2.2⟩]
 simp
 omega
theorem firstBad_no {α : Type} {f : Nat → α → Int} : ∀ {l : List α} {i : Nat}, (∀ x ∈ l, ∀ k, f k x = 0) → firstBad f l i = none
 | [], _, _ => rfl
 | x :: xs, i, h => by
  simp only [firstBad]
  rw [if_pos (h x (by simp) i)]
  exact firstBad_no fun y hy => h y (by simp [hy])
theorem firstBad_noI {α : Type} {f : Nat → α → Int} : ∀ {l : List α} {i : Nat}, (∀ k (h : k < l.length), f (i + k) l[k] = 0) → firstBad f l i = none
 | [], _, _ => rfl
 | x :: xs, i, h => by
  simp only [firstBad]
  rw [if_pos (show f i x = 0 from h 0 (by simp))]
  exact firstBad_noI fun k hk => by have := h (k + 1) (by simpa using hk); simpa [Nat.add_assoc, Nat.add_comm 1 k] using this
theorem truthsAV_eq (l : List Truth) : truthsAV l = .lit (l.map encTruth) false none := by simp only [truthsAV]
open Go
variable {P : Program}
theorem ty_u8s {n : Nat} {cs : List AV} (T : Tys P) (h : Typ P (n + 2) 53 cs) : ∃ l : List Int, mkV P 53 cs = .lit (l.map (.int .u8)) false none ∧ (∀ x ∈ l, 0 ≤ x ∧ x < 256) ∧ l.length < 9223372036854775808 := tc_u8s T.u8 T.u8s h
theorem ty_farm {n : Nat} {cs : List AV} (T : Tys P) (h : Typ P (n + 5) 28 cs) : ∃ s : Farm, mkV P 28 cs = encFarm s ∧ Fits s := by
 obtain ⟨r, h1, h2, _⟩ := ty_farmB T h
 exact ⟨r, h1, h2⟩
end Go.Am.Room
namespace Go.Am.Room
theorem check_of_vd {v : Farm} (h : Vd v) : check v = (0, 0, 0) := by
 have h1 := h.nra
 have h2 := h.npl
 have h3 := h.nlk
 have g1 : firstBad raErr v.rain 0 = none := firstBad_no fun s hs k => ends_of (h.ra s hs)
 have g2 : firstBad (plErr v) v.plots 0 = none := firstBad_noI fun k hk => by simpa using h.pl k hk
 have g3 : firstBad (lkErr v) v.looks 0 = none := firstBad_no fun x hx k => by
  have := h.lk x hx
  have a : inR x.plot 0 ((v.plots.length : Int) - 1) = true := inR_iff.2 (by omega)
  have b : inR x.day 0 (endOf v) = true := inR_iff.2 (by simp only [endOf]; omega)
  simp [lkErr, a, b, inR_iff.2 this.2.2]
 have e4 : check4 v = (0, 0, 0) := by rw [check4, if_neg (by omega), g3]
 have e3 : check3 v = (0, 0, 0) := by rw [check3, if_neg (by omega), g2]; exact e4
 have e0 : ends v.way 0 9 = 0 := ends_of h.way
 have e2 : check2 v = (0, 0, 0) := by
  rw [check2, if_neg (by simp [inR_iff.2 h.full, inR_iff.2 h.ripe, e0]), if_pos e0]; exact e3
 rw [check, if_neg (by simp [inR_iff.2 (show (1 : Int) ≤ v.rain.length ∧ (v.rain.length : Int) ≤ 7 by omega)]), g1]
 exact e2
theorem wrong_law {v : Farm} (hv : Vd v) : wrongL v ∈ choices v.looks.length (wrongL v).length ∧ someB v (wrongL v) = true ∧ ∀ m, ∀ c ∈ choices v.looks.length m, someB v c = true → fewer c (wrongL v) = false := by
 have hl := hv.nlk
 exact (firstFrom_spec (someB v) v.looks.length (by omega) _ 0 (fun m' h => by omega)).1 _ (wrong_first hv)
theorem nil_choice (n : Nat) : [] ∈ choices n 0 := by simp [choices]
theorem wrong_nil {v : Farm} (hv : Vd v) (hs : someB v [] = true) : wrongL v = [] := by
 obtain ⟨a, b, c⟩ := wrong_law hv
 have := c 0 [] (nil_choice _) hs
 cases h : wrongL v with
 | nil => rfl
 | cons x l => rw [h] at this; simp [fewer] at this
variable {α : Type}
variable {enc : α → AV} {c : α → List AV} {sz : Nat}
theorem flatC_at (h : Cells enc c sz) : ∀ (l : List α) (k : Nat) (hk : k < l.length), ((flatC c l).drop (k * sz)).take sz = c l[k]
 | [], k, hk => by simp at hk
 | y :: l, 0, hk => by
  simp only [flatC, Nat.zero_mul, List.drop_zero, List.getElem_cons_zero]
  rw [← h.len y, List.take_left]
 | y :: l, k + 1, hk => by
  have := flatC_at h l k (by simpa using hk)
  have e : (k + 1) * sz = (c y).length + k * sz := by rw [h.len, Nat.add_mul]; omega
  simp only [flatC, e, List.getElem_cons_succ]
  rw [List.drop_append, List.drop_eq_nil_of_le (by omega), List.nil_append, Nat.add_sub_cancel_left]
  exact this
theorem flatC_set (h : Cells enc c sz) : ∀ (l : List α) (k : Nat) (z : α), k < l.length → (flatC c l).take (k * sz) ++ c z ++ (flatC c l).drop (k * sz + sz) = flatC c (l.set k z)
 | [], k, z, hk => by simp at hk
 | y :: l, 0, z, hk => by
  simp only [flatC, Nat.zero_mul, List.take_zero, List.nil_append, Nat.zero_add, List.set_cons_zero]
  rw [← h.len y, List.drop_left]
 | y :: l, k + 1, z, hk => by
  have := flatC_set h l k z (by simpa using hk)
  have e : (k + 1) * sz = (c y).length + k * sz := by rw [h.len, Nat.add_mul]; omega
  have e2 : (k + 1) * sz + sz = (c y).length + (k * sz + sz) := by omega
  simp only [flatC, List.set_cons_succ]
  rw [e, show (c y).length + k * sz + sz = (c y).length + (k * sz + sz) by omega, List.take_append, List.drop_append, List.drop_eq_nil_of_le (by omega), List.take_of_length_le (by omega), Nat.add_sub_cancel_left, Nat.add_sub_cancel_left, List.nil_append, ← this]
  simp only [List.append_assoc]
theorem flatC_chop (h : Cells enc c sz) : ∀ l : List α, chop sz l.length (flatC c l) = l.map enc
 | [] => rfl
 | y :: l => by
  have h1 := h.one.1
  simp only [List.length_cons, chop, flatC, List.map_cons, h1, false_and, if_false]
  rw [← h.len y, List.take_left, List.drop_left, h.len y, flatC_chop h l, h.agg]
theorem flatC_snapA (h : Cells enc c sz) {σ : St} {m id d : Nat} {l : List α} (hm : ¬ id < m) (hl : cellsAt σ id = some (flatC c l)) : snap σ m (d + 1) (.ref id 0 l.length sz) = some (.lit (l.map enc) false none) := by
 have hv : view σ (.ref id 0 l.length sz) = some (l.map enc) := by
  simp only [view, hl, flatC_len h, Nat.zero_add, Nat.le_refl, if_true, List.drop_zero, flatC_chop h]
 have h0 := h.one.2
 have h1 : decide (0 < sz) = true := by simp; omega
 have hs : snaps σ m d (l.map enc) = some (l.map enc) := snaps_ok0 σ m d _ (datas_map h.data l).1
 simp only [snap, hm, if_false, hv, flatC_all h, h1, Bool.and_self, if_true, hs]
theorem flatC_snap (h : Cells enc c sz) {σ : St} {id : Nat} {l : List α} (hl : cellsAt σ id = some (flatC c l)) : snapM σ 0 20 (.ref id 0 l.length sz) = some (.lit (l.map enc) false none) := by
 rw [snapM, flatC_snapA h (by omega) hl]
 simp [clr, (datas_map h.data l).2]
theorem flatC_apref (h : Cells enc c sz) {b : Nat} {σ : St} {l : List α} (h0 : l ≠ []) (hl : l.length * b ≤ room) (hl2 : l.length ≤ room) : aprefAV sz b σ (.lit [] true none) (.lit (l.map enc) false none) = some (.ref σ.length 0 l.length sz, σ ++ [.cells (flatC c l)]) := by
 have h1 : l.length ≠ 0 := fun e => h0 (List.length_eq_zero_iff.1 e)
 simp only [aprefAV, view, List.length_map, h1, if_false, List.length_nil, Nat.zero_add, List.nil_append, flatC_map h]
 simp [sized, flatC_all h, hl, hl2]
end Go.Am.Room
set_option maxRecDepth 8000
namespace Go.Am.Room
def turnOf (l : List Int) (n : Nat) : Int := if l.length = 0 then 0 else (l[n % l.length]?).getD 0
theorem S_u8s (σ : St) (m d : Nat) (l : List Int) : snapMs σ m d (l.map (.int .u8)) = some (l.map (.int .u8)) := S_datas (datas_map (data_int .u8) l) σ m d
def Bytes (l : List Int) : Prop := (∀ x ∈ l, 0 ≤ x ∧ x < 256) ∧ l.length < 9223372036854775808
theorem turnOf_bd {l : List Int} (h : Bytes l) (n : Nat) : 0 ≤ turnOf l n ∧ turnOf l n < 256 := by
 unfold turnOf
 split
 ·omega
 ·rename_i h0
  have hlt : n % l.length < l.length := Nat.mod_lt _ (by omega)
  rw [List.getElem?_eq_getElem hlt, Option.getD_some]
  exact h.1 _ (List.getElem_mem hlt)
theorem turn_ok (l : List Int) (n : Nat) (h : Bytes l) (hn : n < 9223372036854775808) : Pure T 41 [u8s l, .int .i64 n] (.int .i64 (turnOf l n)) := by
 refine pure_fn (af := a41) rfl (by simp [a41]) (datas_cons (data_u8s l) (datas_cons (data_int _ _) datas_nil)) ?_
 have hl := h.2
 (repeat (first | simp only [↓QA, QB, Nat.reduceLT, reduceIte, Nat.reduceEqDiff, Nat.reduceAdd, Nat.reduceLeDiff, Nat.reduceMul, Nat.reduceBEq, QXFLawC, a41, u8s] | refine rd0 rfl ?_))
 refine iteP_intro (fun h0 => ?_) fun h0 => ?_
 ·have h0' : l.length = 0 := by simp at h0; simp [h0]
  (repeat (first | simp only [↓QA, QB, Nat.reduceLT, reduceIte, Nat.reduceEqDiff, Nat.reduceAdd, Nat.reduceLeDiff, Nat.reduceMul, Nat.reduceBEq, QXFLawC, turnOf, h0'] | refine rd0 rfl ?_))
 ·have h0' : l.length ≠ 0 := by intro e; rw [e] at h0; simp at h0
  have hlt : n % l.length < l.length := Nat.mod_lt _ (by omega)
  have hb := h.1 _ (List.getElem_mem hlt)
  have hm : ((n : Int).tmod (l.length : Int)) = ((n % l.length : Nat) : Int) := by rw [Int.tmod_eq_emod_of_nonneg (by omega)]; norm_cast
  have hw : IntKind.i64.wrap l[n % l.length] = l[n % l.length] := wrap64 ⟨by omega, by omega⟩
  (repeat (first | simp only [↓QA, QB, Nat.reduceLT, reduceIte, Nat.reduceEqDiff, Nat.reduceAdd, Nat.reduceLeDiff, Nat.reduceMul, Nat.reduceBEq, QXFLawC, V_rem _ _ _ (show ((l.length : Nat) : Int) ≠ 0 by omega), hm, hlt, hw] | refine rd0 rfl ?_))
  simp [turnOf, h0', hlt]
end Go.Am.Room
set_option maxRecDepth 8000
namespace Go.Am.Room
def someV (v : Farm) : Bool := decide ((check v).2.2 = 0) && someB v []
end Go.Am.Room
set_option maxRecDepth 8000
namespace Go.Am.Room
theorem lst5 {n m : Nat} (h : m ≤ n) (p : Int → Bool) : ((numbers 0 m).filter p).length ≤ n := by
 have := List.length_filter_le p (numbers 0 m)
 rw [numbers_len] at this
 omega
theorem someB_iff {v : Farm} {but : List Int} : someB v but = true ↔ truths v but ≠ [] := by
 rw [someB]
 cases truths v but <;> simp
theorem some_iff {v : Farm} : someV v = true ↔ (check v).2.2 = 0 ∧ truths v [] ≠ [] := by
 rw [someV, Bool.and_eq_true, decide_eq_true_eq, someB_iff]
theorem known0 {v : Farm} (h : truths v [] ≠ []) : errKnown v 0 = 0 := by
 simp [errKnown, h]
theorem ask0 {v : Farm} (hc : (check v).2.2 = 0) {p : Nat} (hp : p < v.plots.length) : errAsk v (p : Int) = 0 := by
 rw [errAsk, if_pos hc, if_pos (inR_iff.2 (by omega))]
theorem within0 {n m : Int} (h : 0 ≤ n ∧ n ≤ m) : within n m 0 = 0 := by
 rw [within, if_pos rfl, if_pos (inR_iff.2 h)]
theorem plotErr0 {v : Farm} (hs : someV v = true) {p : Nat} (hp : p < v.plots.length) : plotErr v (p : Int) = 0 := by
 obtain ⟨hc, hne⟩ := some_iff.1 hs
 rw [plotErr, ask0 hc hp, known0 hne]
theorem grownErr0 {v : Farm} (hs : someV v = true) {p d : Nat} (hp : p < v.plots.length) (hd : d ≤ v.rain.length) : grownErr v (p : Int) (d : Int) = 0 := by
 obtain ⟨hc, hne⟩ := some_iff.1 hs
 rw [grownErr, ask0 hc hp, within0 (by simp only [endOf]; omega), known0 hne]
theorem grown_tr {v : Farm} (hs : someV v = true) {p d : Nat} (hp : p < v.plots.length) (hd : d ≤ v.rain.length) : grownOf v (p : Int) (d : Int) = (fullS (truths v []) p d, 0) := by
 rw [grownOf, if_pos (grownErr0 hs hp hd), Int.toNat_natCast, Int.toNat_natCast]
theorem cut_tr {v : Farm} (hs : someV v = true) {p d : Nat} (hp : p < v.plots.length) (hd : d ≤ v.rain.length) : cutOf v (p : Int) (d : Int) = (goodOf v (truths v []) p d, 0) := by
 rw [cutOf, if_pos (grownErr0 hs hp hd), Int.toNat_natCast, Int.toNat_natCast]
theorem flowered_tr {v : Farm} (hs : someV v = true) {p : Nat} (hp : p < v.plots.length) : floweredOf v (p : Int) = (floweredIn v (truths v []) p, 0) := by
 rw [floweredOf, if_pos (plotErr0 hs hp), Int.toNat_natCast]
theorem rained_tr {v : Farm} (hs : someV v = true) {d : Nat} (hd : d < v.rain.length) : rainedOf v (d : Int) = (spanL (rainedIn (truths v []) d), 0) := by
 obtain ⟨hc, hne⟩ := some_iff.1 hs
 have : rainErr v (d : Int) = 0 := by rw [rainErr, hc, within0 (by simp only [endOf]; omega), known0 hne]
 rw [rainedOf, if_pos this, Int.toNat_natCast]
theorem full_mem {l : List Truth} {p d : Nat} {n : Int} : n ∈ fullIn l p d ↔ ∃ t ∈ l, ∃ h ∈ flAt t p, n = ptsT t d h := by
 simp only [fullIn, List.mem_flatMap, List.mem_map]
 constructor
 ·rintro ⟨t, ht, h, hh, rfl⟩; exact ⟨t, ht, h, hh, rfl⟩
 ·rintro ⟨t, ht, h, hh, rfl⟩; exact ⟨t, ht, h, hh, rfl⟩
theorem pts_up {v : Farm} (hv : Vd v) {t : Truth} (ht : TOk v t) (d : Nat) (h : Int) : ptsT t d h ≤ ptsT t (d + 1) h ∧ ptsT t (d + 1) h ≤ ptsT t d h + 3 ∧ (h.toNat ≤ d → ptsT t d h + 1 ≤ ptsT t (d + 1) h) := by
 have hr := rain_bd hv ht.rain d
 have hb := pts_bd (rain_bd hv ht.rain) h.toNat d
 simp only [ptsT, ptsL, Int.toNat_natCast]
 by_cases hh : h.toNat ≤ d
 ·rw [pts_step _ hh]
  omega
 ·rw [pts_lt _ (show d + 1 ≤ h.toNat by omega), pts_lt _ (show d ≤ h.toNat by omega)]
  omega
theorem grows {v : Farm} (hv : Vd v) {ts : List Truth} (hts : ∀ t ∈ ts, TOk v t) (hne : ts ≠ []) {p d : Nat} (hp : p < v.plots.length) :
  (fullS ts p d).lo ≤ (fullS ts p (d + 1)).lo ∧ (fullS ts p d).hi ≤ (fullS ts p (d + 1)).hi ∧ (fullS ts p (d + 1)).lo ≤ (fullS ts p d).lo + 3 ∧ (fullS ts p (d + 1)).hi ≤ (fullS ts p d).hi + 3 ∧
   ((∀ t ∈ ts, ∀ h ∈ flAt t p, h.toNat ≤ d) → (fullS ts p d).lo < (fullS ts p (d + 1)).lo ∧ (fullS ts p d).hi < (fullS ts p (d + 1)).hi) := by
 obtain ⟨a1, a2, a3⟩ := spanL_spec (fullIn_ne hts hne hp d)
 obtain ⟨b1, b2, b3⟩ := spanL_spec (fullIn_ne hts hne hp (d + 1))
 have up : ∀ m ∈ fullIn ts p d, ∃ n ∈ fullIn ts p (d + 1), m ≤ n ∧ n ≤ m + 3 ∧ ((∀ t ∈ ts, ∀ h ∈ flAt t p, h.toNat ≤ d) → m + 1 ≤ n) := fun m hm => by
  obtain ⟨t, ht, h, hh, rfl⟩ := full_mem.1 hm
  have := pts_up hv (hts t ht) d h
  exact ⟨_, full_mem.2 ⟨t, ht, h, hh, rfl⟩, this.1, this.2.1, fun q => this.2.2 (q t ht h hh)⟩
 have dn : ∀ n ∈ fullIn ts p (d + 1), ∃ m ∈ fullIn ts p d, m ≤ n ∧ n ≤ m + 3 ∧ ((∀ t ∈ ts, ∀ h ∈ flAt t p, h.toNat ≤ d) → m + 1 ≤ n) := fun n hn => by
  obtain ⟨t, ht, h, hh, rfl⟩ := full_mem.1 hn
  have := pts_up hv (hts t ht) d h
  exact ⟨_, full_mem.2 ⟨t, ht, h, hh, rfl⟩, this.1, this.2.1, fun q => this.2.2 (q t ht h hh)⟩
 obtain ⟨n1, c1, c2, c3, c4⟩ := up _ a1
 obtain ⟨n2, d1, d2, d3, d4⟩ := up _ a2
 obtain ⟨m1, e1, e2, e3, e4⟩ := dn _ b1
 obtain ⟨m2, f1, f2, f3, f4⟩ := dn _ b2
 have g1 := b3 _ c1
 have g2 := b3 _ d1
 have g3 := a3 _ e1
 have g4 := a3 _ f1
 simp only [fullS]
 refine ⟨by omega, by omega, by omega, by omega, fun q => ?_⟩
 have := e4 q
 have := d4 q
 omega
end Go.Am.Room
set_option maxRecDepth 8000
namespace Go.Am.Room
def QXFFaQ7 := And.intro @encFarm_eq (And.intro @farmCells_eq (And.intro @encPlot_eq (And.intro @encLook_eq (And.intro @encSpan_eq (And.intro @S_mapPlot (And.intro @S_mapLook (And.intro @S_mapSpan (And.intro @T_sapp (And.intro @List.length_append.{0} (And.intro @Int.toNat_natCast (And.intro @S_mapT (And.intro @truthsAV_eq (And.intro @encTruth_eq (@S_u8s))))))))))))))
def oneOf (s : Span) (n : Int) : Int := s.lo + n.tmod (s.hi - s.lo + 1)
theorem oneOf_in {s : Span} {n : Int} (hs : s.lo ≤ s.hi) (hn : 0 ≤ n) : s.lo ≤ oneOf s n ∧ oneOf s n ≤ s.hi := by
 have h1 := Int.tmod_nonneg (s.hi - s.lo + 1) hn
 have h2 := Int.tmod_lt_of_pos n (show 0 < s.hi - s.lo + 1 by omega)
 simp only [oneOf]; omega
theorem one_ok (s : Span) (n : Int) (h0 : 0 ≤ s.lo) (h1 : s.lo ≤ s.hi) (h2 : s.hi < 1000000) (hn : 0 ≤ n) (hn2 : n < 9223372036854775808) : Pure T 40 [encSpan s, .int .i64 n] (.int .i64 (oneOf s n)) := by
 refine pure_fn (af := a40) rfl (by simp [a40]) dd ?_
 have hin := oneOf_in h1 hn
 have w1 : IntKind.i64.wrap (s.hi - s.lo) = s.hi - s.lo := wrap64 ⟨by omega, by omega⟩
 have w2 : IntKind.i64.wrap (s.hi - s.lo + 1) = s.hi - s.lo + 1 := wrap64 ⟨by omega, by omega⟩
 have w3 : IntKind.i64.wrap (s.lo + n.tmod (s.hi - s.lo + 1)) = s.lo + n.tmod (s.hi - s.lo + 1) := wrap64 ⟨by simp only [oneOf] at hin; omega, by simp only [oneOf] at hin; omega⟩
 (repeat (first | simp only [↓QA, QB, Nat.reduceLT, reduceIte, Nat.reduceEqDiff, Nat.reduceAdd, Nat.reduceLeDiff, Nat.reduceMul, Nat.reduceBEq, QXFFaQ7, a40, w1, w2, V_rem _ _ _ (show (s.hi - s.lo + 1 : Int) ≠ 0 by omega), w3, oneOf] | refine rd0 rfl ?_))
theorem good_one {v : Farm} {ts : List Truth} {p d : Nat} : goodOf v ts p d = 1 ↔ ∀ n ∈ fullIn ts p d, ∀ w, v.way.lo ≤ w → w ≤ v.way.hi → v.full ≤ n ∧ n + w ≤ v.ripe := by
 rw [goodOf, settled_one]
 simp only [goodsIn, goodsOf, List.mem_flatMap, List.mem_map, waysIn_mem]
 constructor
 ·intro h n hn w hw0 hw1
  have := h (goodAt v n w) ⟨n, hn, w, ⟨hw0, hw1⟩, rfl⟩
  simpa [goodAt] using this
 ·rintro h _ ⟨n, hn, w, ⟨hw0, hw1⟩, rfl⟩
  have := h n hn w hw0 hw1
  simpa [goodAt] using this
theorem goods_ne {v : Farm} (hv : Vd v) {ts : List Truth} (hts : ∀ t ∈ ts, TOk v t) (hne : ts ≠ []) {p d : Nat} (hp : p < v.plots.length) : goodsIn v ts p d ≠ [] := by
 have hfn := fullIn_ne hts hne hp d
 rw [goodsIn]
 cases hfi : fullIn ts p d with
 | nil => exact absurd hfi hfn
 | cons a b =>
  have : waysIn v.way ≠ [] := List.ne_nil_of_mem (waysIn_mem.2 ⟨Int.le_refl _, hv.way.2.1⟩)
  simp [goodsOf, this]
theorem good_two {v : Farm} (hv : Vd v) {ts : List Truth} (hts : ∀ t ∈ ts, TOk v t) (hne : ts ≠ []) {p d : Nat} (hp : p < v.plots.length) : goodOf v ts p d = 2 ↔ ∀ n ∈ fullIn ts p d, ∀ w, v.way.lo ≤ w → w ≤ v.way.hi → ¬ (v.full ≤ n ∧ n + w ≤ v.ripe) := by
 have hgne := goods_ne hv hts hne (d := d) hp
 rw [goodOf, settled_two]
 simp only [goodsIn, goodsOf, List.mem_flatMap, List.mem_map, waysIn_mem]
 constructor
 ·rintro ⟨_, h⟩ n hn w hw0 hw1 hc
  have := h (goodAt v n w) ⟨n, hn, w, ⟨hw0, hw1⟩, rfl⟩
  simp [goodAt, hc.1, hc.2] at this
 ·intro h
  refine ⟨hgne, ?_⟩
  rintro _ ⟨n, hn, w, ⟨hw0, hw1⟩, rfl⟩
  have := h n hn w hw0 hw1
  rw [id, Bool.eq_false_iff]
  intro hc
  simp [goodAt] at hc
  exact this hc
def more (v : Farm) (y : Look) : Farm := { v with looks := v.looks ++ [y] }
theorem flAt_of {v : Farm} {but : List Int} {t : Truth} (ht : t ∈ truths v but) {p : Nat} (hp : p < v.plots.length) : flAt t p = flowersOf v p t.rain but := by
 simp [flAt, (mem_truths.1 ht).2.1, hp]
structure TruthOf (v : Farm) (R F : List Int) : Prop where
 rain : RainOk v R
 len : F.length = v.plots.length
 fl : ∀ p (h : p < v.plots.length), v.plots[p].flower.lo ≤ rl F p ∧ rl F p ≤ v.plots[p].flower.hi
def toldLook (R F : List Int) (y : Look) : Look := ⟨y.plot, y.day, ptsL R (rl F y.plot.toNat) y.day⟩
def told (v : Farm) (R F : List Int) : Farm := { v with looks := v.looks.map (toldLook R F) }
theorem told_pts {v : Farm} (hv : Vd v) {R F : List Int} (h : TruthOf v R F) {a b : Int} (hb : b ≤ v.rain.length) : 0 ≤ ptsL R a b ∧ ptsL R a b ≤ 21 := by
 have := pts_bd (rain_bd hv h.rain) a.toNat b.toNat
 have h2 := hv.nra
 simp only [ptsL]
 omega
theorem told_vd {v : Farm} (hv : Vd v) {R F : List Int} (h : TruthOf v R F) : Vd (told v R F) := by
 refine ⟨hv.nra, hv.ra, hv.full, hv.ripe, hv.way, hv.npl, hv.pl, by simpa [told] using hv.nlk, fun x hx => ?_⟩
 simp only [told, List.mem_map] at hx
 obtain ⟨y, hy, rfl⟩ := hx
 have h1 := hv.lk y hy
 have h2 := told_pts hv h (a := rl F y.plot.toNat) (b := y.day) (by omega)
 exact ⟨h1.1, h1.2.1, h2.1, by simp only [toldLook]; omega⟩
theorem told_flower {v : Farm} {R F : List Int} (h : TruthOf v R F) {p : Nat} (hp : p < v.plots.length) : rl F p ∈ flowersOf (told v R F) p R [] := by
 rw [flowersOf, List.mem_filter, flower_at (v := told v R F) hp, waysIn_mem]
 refine ⟨h.fl p hp, ?_⟩
 rw [flowerOk, List.all_eq_true]
 intro k hk
 have hk' : k < v.looks.length := by simpa [told] using hk
 simp only [told, List.getElem?_map, List.getElem?_eq_getElem hk', Option.map_some, lookOk, toldLook]
 by_cases hq : v.looks[k].plot = (p : Int)
 ·simp [hq]
 ·simp [hq]
theorem told_truth {v : Farm} {R F : List Int} (h : TruthOf v R F) : ∃ t ∈ truths (told v R F) [], t.rain = R ∧ ∀ p, p < v.plots.length → rl F p ∈ flAt t p := by
 have ht : (⟨R, (List.range v.plots.length).map fun (p : Nat) => flowersOf (told v R F) p R []⟩ : Truth) ∈ truths (told v R F) [] := by
  refine mem_truths.2 ⟨⟨h.rain.len, h.rain.bd⟩, rfl, fun x hx => ?_⟩
  simp only [List.mem_map, List.mem_range] at hx
  obtain ⟨p, hp, rfl⟩ := hx
  exact List.ne_nil_of_mem (told_flower h hp)
 refine ⟨_, ht, rfl, fun p hp => ?_⟩
 rw [flAt_of ht (show p < (told v R F).plots.length from hp)]
 exact told_flower h hp
theorem told_some {v : Farm} (hv : Vd v) {R F : List Int} (h : TruthOf v R F) : someV (told v R F) = true := by
 obtain ⟨t, ht, _⟩ := told_truth h
 exact some_iff.2 ⟨by rw [check_of_vd (told_vd hv h)], List.ne_nil_of_mem ht⟩
theorem told_wrong {v : Farm} (hv : Vd v) {R F : List Int} (h : TruthOf v R F) : wrongOf (told v R F) = ([], 0) := by
 obtain ⟨h1, h2⟩ := some_iff.1 (told_some hv h)
 rw [wrongOf, if_pos h1, wrong_nil (told_vd hv h) (someB_iff.2 h2)]
theorem told_full {v : Farm} {R F : List Int} (h : TruthOf v R F) {p : Nat} (hp : p < v.plots.length) (d : Nat) : ptsL R (rl F p) d ∈ fullIn (truths (told v R F) []) p d := by
 obtain ⟨t, ht, h1, h2⟩ := told_truth h
 exact full_mem.2 ⟨t, ht, _, h2 p hp, by simp only [ptsT, h1]⟩
theorem told_rain {v : Farm} {R F : List Int} (h : TruthOf v R F) (d : Nat) : rl R d ∈ rainedIn (truths (told v R F) []) d := by
 obtain ⟨t, ht, h1, h2⟩ := told_truth h
 exact List.mem_map.2 ⟨t, ht, by rw [h1]⟩
theorem told_when {v : Farm} (hv : Vd v) {R F : List Int} (h : TruthOf v R F) {p : Nat} (hp : p < v.plots.length) : (floweredIn (told v R F) (truths (told v R F) []) p).contains (rl F p) = true := by
 obtain ⟨t, ht, h1, h2⟩ := told_truth h
 have hb := h.fl p hp
 have hb2 := (pl_ok hv hp).1
 rw [List.contains_iff_mem, floweredIn, List.mem_filter, numbers_mem]
 refine ⟨by show _ ∧ _ < 0 + ((v.rain.length : Nat) : Int); omega, ?_⟩
 rw [isFl, List.any_eq_true]
 exact ⟨t, ht, List.contains_iff_mem.2 (h2 p hp)⟩
theorem told_good {v : Farm} (hv : Vd v) {R F : List Int} (h : TruthOf v R F) {p : Nat} (hp : p < v.plots.length) (d : Nat) {w : Int} (hw : v.way.lo ≤ w ∧ w ≤ v.way.hi) :
  (goodAt v (ptsL R (rl F p) d) w = true → goodOf (told v R F) (truths (told v R F) []) p d ≠ 2) ∧ (goodAt v (ptsL R (rl F p) d) w = false → goodOf (told v R F) (truths (told v R F) []) p d ≠ 1) := by
 have hv2 := told_vd hv h
 have hts : ∀ t ∈ truths (told v R F) [], TOk (told v R F) t := fun t ht => tok_of hv2 ht
 obtain ⟨t, ht, _⟩ := told_truth h
 have hf := told_full h hp d
 refine ⟨fun hg e => ?_, fun hg e => ?_⟩
 ·have := (good_two hv2 hts (List.ne_nil_of_mem ht) hp).1 e _ hf w hw.1 hw.2
  simp only [goodAt, Bool.and_eq_true, decide_eq_true_eq] at hg
  exact this hg
 ·have := good_one.1 e _ hf w hw.1 hw.2
  have h2 : v.full ≤ ptsL R (rl F p) d ∧ ptsL R (rl F p) d + w ≤ v.ripe := this
  rw [goodAt, decide_eq_true h2.1, decide_eq_true h2.2] at hg
  cases hg
end Go.Am.Room
set_option maxRecDepth 8000
namespace Go.Am.Room
def QXFFaQ9 := And.intro @encFarm_eq (And.intro @farmCells_eq (And.intro @encPlot_eq (And.intro @encLook_eq (And.intro @encSpan_eq (And.intro @S_mapPlot (And.intro @S_mapLook (And.intro @S_mapSpan (And.intro @T_sapp (And.intro @List.length_append.{0} (And.intro @Int.toNat_natCast (@S_u8s)))))))))))
def lookC (x : Look) : List AV := [.int .i64 x.plot, .int .i64 x.day, .int .i64 x.points]
theorem lookC_ok : Cells encLook lookC 3 := ⟨fun x => by simp only [encLook, lookC], fun x => rfl, by decide, fun x => rfl, data_look⟩
theorem lookC_okV (m : Nat) (x : Look) : okVs m (lookC x) := ⟨trivial, trivial, trivial, trivial⟩
def rnAt (v : Farm) (x : List Int) (i : Nat) : Int := match v.rain[i]? with | some s => oneOf s (turnOf x i) | none => 0
def fwAt (v : Farm) (x : List Int) (p : Nat) : Int := match v.plots[p]? with | some s => oneOf s.flower (turnOf x (7 + p)) | none => 0
def rnX (v : Farm) (x : List Int) (k : Nat) : List Int := (List.range k).map (rnAt v x)
def fwX (v : Farm) (x : List Int) (k : Nat) : List Int := (List.range k).map (fwAt v x)
theorem rnX_len (v : Farm) (x : List Int) (k : Nat) : (rnX v x k).length = k := by simp [rnX]
theorem fwX_len (v : Farm) (x : List Int) (k : Nat) : (fwX v x k).length = k := by simp [fwX]
theorem rnX_succ (v : Farm) (x : List Int) (k : Nat) : rnX v x (k + 1) = rnX v x k ++ [rnAt v x k] := by simp [rnX, List.range_succ]
theorem fwX_succ (v : Farm) (x : List Int) (k : Nat) : fwX v x (k + 1) = fwX v x k ++ [fwAt v x k] := by simp [fwX, List.range_succ]
theorem rl_rnX {v : Farm} {x : List Int} {k i : Nat} (h : i < k) : rl (rnX v x k) i = rnAt v x i := by simp [rl, rnX, h]
theorem rl_fwX {v : Farm} {x : List Int} {k i : Nat} (h : i < k) : rl (fwX v x k) i = fwAt v x i := by simp [rl, fwX, h]
theorem rnAt_eq {v : Farm} (x : List Int) {i : Nat} (h : i < v.rain.length) : rnAt v x i = oneOf v.rain[i] (turnOf x i) := by simp [rnAt, h]
theorem fwAt_eq {v : Farm} (x : List Int) {i : Nat} (h : i < v.plots.length) : fwAt v x i = oneOf v.plots[i].flower (turnOf x (7 + i)) := by simp [fwAt, h]
theorem truth_of {v : Farm} (hv : Vd v) {x : List Int} (hx : Bytes x) : TruthOf v (rnX v x v.rain.length) (fwX v x v.plots.length) := by
 refine ⟨⟨rnX_len _ _ _, fun i h => ?_⟩, fwX_len _ _ _, fun p h => ?_⟩
 ·rw [rl_rnX h, rnAt_eq x h]
  exact oneOf_in (hv.ra _ (List.getElem_mem h)).2.1 (turnOf_bd hx _).1
 ·rw [rl_fwX h, fwAt_eq x h]
  exact oneOf_in (pl_ok hv h).1.2.1 (turnOf_bd hx _).1
def toldX (v : Farm) (x : List Int) : Farm := told v (rnX v x v.rain.length) (fwX v x v.plots.length)
def tlkX (v : Farm) (x : List Int) : Look → Look := toldLook (rnX v x v.rain.length) (fwX v x v.plots.length)
def toldTo (v : Farm) (x : List Int) (k : Nat) : List Look := (v.looks.map (tlkX v x)).take k ++ v.looks.drop k
theorem toldTo_len (v : Farm) (x : List Int) (k : Nat) : (toldTo v x k).length = v.looks.length := by simp [toldTo]; omega
theorem toldTo_get (v : Farm) (x : List Int) {k : Nat} (h : k < v.looks.length) : (toldTo v x k)[k]'(by rw [toldTo_len]; exact h) = v.looks[k] := by
 have hl : ((v.looks.map (tlkX v x)).take k).length = k := by simp; omega
 have e : (toldTo v x k)[k]? = v.looks[k]? := by
  simp only [toldTo]
  rw [List.getElem?_append_right (by omega), hl, Nat.sub_self, List.getElem?_drop, Nat.add_zero]
 have hk : k < (toldTo v x k).length := by rw [toldTo_len]; exact h
 rw [List.getElem?_eq_getElem hk, List.getElem?_eq_getElem h] at e
 exact Option.some.inj e
theorem toldTo_set (v : Farm) (x : List Int) {k : Nat} (h : k < v.looks.length) : (toldTo v x k).set k (tlkX v x v.looks[k]) = toldTo v x (k + 1) := by
 have hl : ((v.looks.map (tlkX v x)).take k).length = k := by simp; omega
 have hk : k < (v.looks.map (tlkX v x)).length := by simpa using h
 simp only [toldTo]
 rw [List.set_append_right _ _ (by omega), hl, Nat.sub_self, List.drop_eq_getElem_cons h, List.set_cons_zero, List.take_succ_eq_append_getElem hk, List.append_assoc]
 simp
theorem toldTo_end (v : Farm) (x : List Int) : ({ v with looks := toldTo v x v.looks.length } : Farm) = toldX v x := by
 have : toldTo v x v.looks.length = v.looks.map (tlkX v x) := by
  simp only [toldTo, List.drop_length, List.append_nil]
  exact List.take_of_length_le (by simp)
 rw [this]; rfl
set_option maxHeartbeats 1000000 in
theorem toldX_ok (v : Farm) (x : List Int) (hv : Vd v) (hx : Bytes x) : Pure T 39 [encFarm v, u8s x] (.tuple [encFarm (toldX v x), ints (rnX v x v.rain.length), ints (fwX v x v.plots.length)]) := by
 refine pure_fn (af := a39) rfl (by simp [a39]) dd ?_
 have hnr := hv.nra
 have hnp := hv.npl
 have hnl := hv.nlk
 have hft := truth_of hv hx
 obtain ⟨M, hM⟩ : ∃ M, v.rain.length = M := ⟨_, rfl⟩
 obtain ⟨N, hN⟩ : ∃ N, v.plots.length = N := ⟨_, rfl⟩
 obtain ⟨Q, hQ⟩ : ∃ Q, encFarm (toldX v x) = Q := ⟨_, rfl⟩
 rw [hM, hN, hQ]
 (repeat (first | simp only [↓QA, QB, Nat.reduceLT, reduceIte, Nat.reduceEqDiff, Nat.reduceAdd, Nat.reduceLeDiff, Nat.reduceMul, Nat.reduceBEq, QXFFaQ9, a39, u8s] | refine rd0 rfl ?_))
 refine ghostK 7 1 [] rfl ?_
 refine ghostK 8 1 [] rfl ?_
 refine loopE (S := Nat × Bool) (0, false) (fun s => s.1 ≤ M) (fun s => M - s.1)
  (fun s => [(1, u8s x), (2, .ptr 0 0), (4, .ptr 1 0), (7, .lit ((rnX v x s.1).map (.int .i64)) false (some 2)), (8, .lit [] false (some 3)), (9, .int .i64 s.1)])
  (fun s => [.cells (farmCells v), .cells [.lit [] true none, .int .i64 0, .int .i64 0, .int .i64 0, .int .i64 0, .lit [] true none, .lit [] true none], .tok 1 s.1 s.2, .tok 1 0 false]) (by simp) (by simp [farmCells, ints]) ?_ fun s hs => ?_
 ·try simp only [TrimX, QE, Nat.reduceLT, reduceIte, Nat.reduceEqDiff, Nat.reduceAdd, Nat.reduceLeDiff, Nat.reduceMul, Nat.reduceBEq, QXFFaQ9, u8s]
  try simp [rnX]
 ·obtain ⟨k, ex⟩ := s
  simp only at hs
  have hlen := rnX_len v x k
  (repeat (first | simp only [↓QA, QB, Nat.reduceLT, reduceIte, Nat.reduceEqDiff, Nat.reduceAdd, Nat.reduceLeDiff, Nat.reduceMul, Nat.reduceBEq, QXFFaQ9, L39_0, u8s, hM] | refine rd0 rfl ?_))
  refine iteP_intro (fun h => ?_) fun h => ?_
  ·have hk1 : k < v.rain.length := by rw [hM]; simpa using h
   have hw := wrapN hk1 (by omega)
   have hs1 := hv.ra _ (List.getElem_mem hk1)
   have ht := turnOf_bd hx k
   have hat := rnAt_eq x hk1
   have hap := fun (b0 b1 : ABlk) (τ : St) => append_intT (σ := b0 :: b1 :: .tok 1 k ex :: τ) (l := rnX v x k) (a := rnAt v x k) (ex := ex) (t := 2) (by omega) (by rw [hlen]; rfl)
   rw [hlen] at hap
   have hone := one_ok v.rain[k] (turnOf x k) hs1.1 hs1.2.1 (by omega) ht.1 (by omega)
   rw [← hat] at hone
   obtain ⟨z, hz⟩ : ∃ z, v.rain[k] = z := ⟨_, rfl⟩
   rw [hz] at hone
   (repeat (first | simp only [↓QA, QB, Nat.reduceLT, reduceIte, Nat.reduceEqDiff, Nat.reduceAdd, Nat.reduceLeDiff, Nat.reduceMul, Nat.reduceBEq, QXFFaQ9, hk1, hz] | refine rd0 rfl ?_))
   ((first | refine callK_d (turn_ok x k hx (by omega)) rfl dd ?_ | refine callD_d (turn_ok x k hx (by omega)) rfl dd ?_); (repeat (first | simp only [↓QA, QB, Nat.reduceLT, reduceIte, Nat.reduceEqDiff, Nat.reduceAdd, Nat.reduceLeDiff, Nat.reduceMul, Nat.reduceBEq, QXFFaQ9, hk1, hz] | refine rd0 rfl ?_)))
   ((first | refine callK_d (hone) rfl dd ?_ | refine callD_d (hone) rfl dd ?_); (repeat (first | simp only [↓QA, QB, Nat.reduceLT, reduceIte, Nat.reduceEqDiff, Nat.reduceAdd, Nat.reduceLeDiff, Nat.reduceMul, Nat.reduceBEq, QXFFaQ9, hap, hw, hk1, hz] | refine rd0 rfl ?_)))
   refine ⟨(k + 1, true), by simp only; omega, by simp only; omega, ?_⟩
   try simp only [TrimX, QE, Nat.reduceLT, reduceIte, Nat.reduceEqDiff, Nat.reduceAdd, Nat.reduceLeDiff, Nat.reduceMul, Nat.reduceBEq, QXFFaQ9, hw, rnX_succ v x k, List.map_append, List.map_cons, List.map_nil, u8s, S_mapI]
   try simp [okBlk]
  ·have hk1 : k = M := by simp at h; omega
   subst hk1
   (repeat (first | simp only [↓QA, QB, Nat.reduceLT, reduceIte, Nat.reduceEqDiff, Nat.reduceAdd, Nat.reduceLeDiff, Nat.reduceMul, Nat.reduceBEq, QXFFaQ9] | refine rd0 rfl ?_))
   refine loopE (S := Nat × Bool) (0, false) (fun s => s.1 ≤ N) (fun s => N - s.1)
    (fun s => [(1, u8s x), (2, .ptr 0 0), (4, .ptr 1 0), (7, .lit ((rnX v x k).map (.int .i64)) false (some 2)), (8, .lit ((fwX v x s.1).map (.int .i64)) false (some 3)), (10, .int .i64 s.1)])
    (fun s => [.cells (farmCells v), .cells [.lit [] true none, .int .i64 0, .int .i64 0, .int .i64 0, .int .i64 0, .lit [] true none, .lit [] true none], .tok 1 k ex, .tok 1 s.1 s.2]) (by simp) (by simp [farmCells, ints]) ?_ fun s hs => ?_
   ·try simp only [TrimX, QE, Nat.reduceLT, reduceIte, Nat.reduceEqDiff, Nat.reduceAdd, Nat.reduceLeDiff, Nat.reduceMul, Nat.reduceBEq, QXFFaQ9, u8s]
    try simp [fwX]
   ·obtain ⟨p, ey⟩ := s
    simp only at hs
    have hlen2 := fwX_len v x p
    (repeat (first | simp only [↓QA, QB, Nat.reduceLT, reduceIte, Nat.reduceEqDiff, Nat.reduceAdd, Nat.reduceLeDiff, Nat.reduceMul, Nat.reduceBEq, QXFFaQ9, L39_2, u8s, hN] | refine rd0 rfl ?_))
    refine iteP_intro (fun h => ?_) fun h => ?_
    ·have hp1 : p < v.plots.length := by rw [hN]; simpa using h
     have hw := wrapN hp1 (by omega)
     have hw7 : IntKind.i64.wrap (7 + (p : Int)) = ((7 + p : Nat) : Int) := by rw [wrap64 ⟨by omega, by omega⟩]; omega
     have hs1 := (pl_ok hv hp1).1
     have ht := turnOf_bd hx (7 + p)
     have hat := fwAt_eq x hp1
     have hap := fun (b0 b1 b2 : ABlk) (τ : St) => append_intT (σ := b0 :: b1 :: b2 :: .tok 1 p ey :: τ) (l := fwX v x p) (a := fwAt v x p) (ex := ey) (t := 3) (by omega) (by rw [hlen2]; rfl)
     rw [hlen2] at hap
     have hone := one_ok v.plots[p].flower (turnOf x (7 + p)) hs1.1 hs1.2.1 (by omega) ht.1 (by omega)
     rw [← hat] at hone
     obtain ⟨z, hz⟩ : ∃ z, v.plots[p] = z := ⟨_, rfl⟩
     rw [hz] at hone
     (repeat (first | simp only [↓QA, QB, Nat.reduceLT, reduceIte, Nat.reduceEqDiff, Nat.reduceAdd, Nat.reduceLeDiff, Nat.reduceMul, Nat.reduceBEq, QXFFaQ9, hp1, hz, hw7] | refine rd0 rfl ?_))
     ((first | refine callK_d (turn_ok x (7 + p) hx (by omega)) rfl dd ?_ | refine callD_d (turn_ok x (7 + p) hx (by omega)) rfl dd ?_); (repeat (first | simp only [↓QA, QB, Nat.reduceLT, reduceIte, Nat.reduceEqDiff, Nat.reduceAdd, Nat.reduceLeDiff, Nat.reduceMul, Nat.reduceBEq, QXFFaQ9, hp1, hz] | refine rd0 rfl ?_)))
     ((first | refine callK_d (hone) rfl dd ?_ | refine callD_d (hone) rfl dd ?_); (repeat (first | simp only [↓QA, QB, Nat.reduceLT, reduceIte, Nat.reduceEqDiff, Nat.reduceAdd, Nat.reduceLeDiff, Nat.reduceMul, Nat.reduceBEq, QXFFaQ9, hap, hw, hp1, hz] | refine rd0 rfl ?_)))
     refine ⟨(p + 1, true), by simp only; omega, by simp only; omega, ?_⟩
     try simp only [TrimX, QE, Nat.reduceLT, reduceIte, Nat.reduceEqDiff, Nat.reduceAdd, Nat.reduceLeDiff, Nat.reduceMul, Nat.reduceBEq, QXFFaQ9, hw, fwX_succ v x p, List.map_append, List.map_cons, List.map_nil, u8s, S_mapI]
     try simp [okBlk]
    ·have hp1 : p = N := by simp at h; omega
     subst hp1
     by_cases hlk : v.looks = []
     ·have e : toldX v x = v := by
       have h1 : v.looks.map (tlkX v x) = v.looks := by rw [hlk]; rfl
       show ({ v with looks := v.looks.map (tlkX v x) } : Farm) = v
       rw [h1]
      rw [← hQ, e]
      have hnil : List.map encLook v.looks = [] := by rw [hlk]; rfl
      have hap0 : ∀ σ : St, aprefAV 3 24 σ (.lit [] true none) (.lit [] false none) = some (.lit [] true none, σ) := fun σ => by simp [aprefAV, view]
      (repeat (first | simp only [↓QA, QB, Nat.reduceLT, reduceIte, Nat.reduceEqDiff, Nat.reduceAdd, Nat.reduceLeDiff, Nat.reduceMul, Nat.reduceBEq, QXFFaQ9, hnil, hap0] | refine rd0 rfl ?_))
      refine loopE (S := Unit) () (fun _ => True) (fun _ => 0) (fun _ => [(2, .ptr 0 0), (4, .ptr 1 0), (7, .lit ((rnX v x k).map (.int .i64)) false (some 2)), (8, .lit ((fwX v x p).map (.int .i64)) false (some 3)), (11, .int .i64 0)])
       (fun _ => [.cells [.lit (v.rain.map encSpan) false none, .int .i64 v.full, .int .i64 v.ripe, .int .i64 v.way.lo, .int .i64 v.way.hi, .lit (v.plots.map encPlot) false none, .lit [] true none], .cells [.lit [] true none, .int .i64 0, .int .i64 0, .int .i64 0, .int .i64 0, .lit [] true none, .lit [] true none], .tok 1 k ex, .tok 1 p ey]) trivial rfl ?_ fun _ _ => ?_
      ·try simp only [TrimX, QE, Nat.reduceLT, reduceIte, Nat.reduceEqDiff, Nat.reduceAdd, Nat.reduceLeDiff, Nat.reduceMul, Nat.reduceBEq, QXFFaQ9]
       try simp
      ·(repeat (first | simp only [↓QA, QB, Nat.reduceLT, reduceIte, Nat.reduceEqDiff, Nat.reduceAdd, Nat.reduceLeDiff, Nat.reduceMul, Nat.reduceBEq, QXFFaQ9, L39_4, show decide ((0 : Int) < ((0 : Nat) : Int)) = false from rfl] | refine rd0 rfl ?_))
       try rw [hnil]
     ·obtain ⟨L, hL⟩ : ∃ L, v.looks.length = L := ⟨_, rfl⟩
      have hh0 : toldTo v x 0 = v.looks := by simp [toldTo]
      have hhl : ∀ i, (toldTo v x i).length = L := fun i => by rw [toldTo_len, hL]
      have hfl : ∀ i, (flatC lookC (toldTo v x i)).length = L * 3 := fun i => by rw [flatC_len lookC_ok, hhl]
      have hap := fun σ : St => flatC_apref lookC_ok (b := 24) (σ := σ) hlk (by simp [room]; omega) (by simp [room]; omega)
      rw [hL] at hap
      (repeat (first | simp only [↓QA, QB, Nat.reduceLT, reduceIte, Nat.reduceEqDiff, Nat.reduceAdd, Nat.reduceLeDiff, Nat.reduceMul, Nat.reduceBEq, QXFFaQ9, hap, hL] | refine rd0 rfl ?_))
      refine loopE (S := Nat) 0 (fun i => i ≤ L) (fun i => L - i) (fun i => [(2, .ptr 0 0), (4, .ptr 1 0), (7, .lit ((rnX v x k).map (.int .i64)) false (some 2)), (8, .lit ((fwX v x p).map (.int .i64)) false (some 3)), (11, .int .i64 i)])
       (fun i => [.cells [.lit (v.rain.map encSpan) false none, .int .i64 v.full, .int .i64 v.ripe, .int .i64 v.way.lo, .int .i64 v.way.hi, .lit (v.plots.map encPlot) false none, .ref 4 0 L 3], .cells [.lit [] true none, .int .i64 0, .int .i64 0, .int .i64 0, .int .i64 0, .lit [] true none, .lit [] true none], .tok 1 k ex, .tok 1 p ey, .cells (flatC lookC (toldTo v x i))]) (by simp) (by rw [hh0]) ?_ fun i hi => ?_
      ·try simp only [TrimX, QE, Nat.reduceLT, reduceIte, Nat.reduceEqDiff, Nat.reduceAdd, Nat.reduceLeDiff, Nat.reduceMul, Nat.reduceBEq, QXFFaQ9]
       try simp
      ·(repeat (first | simp only [↓QA, QB, Nat.reduceLT, reduceIte, Nat.reduceEqDiff, Nat.reduceAdd, Nat.reduceLeDiff, Nat.reduceMul, Nat.reduceBEq, QXFFaQ9, L39_4] | refine rd0 rfl ?_))
       refine iteP_intro (fun h2 => ?_) fun h2 => ?_
       ·have hi1 : i < v.looks.length := by rw [hL]; simpa using h2
        have hw := wrapN hi1 (by omega)
        have i1 : (0 : Int) ≤ (i : Int) ∧ (i : Int) < ((L : Nat) : Int) ∧ 3 = 3 := ⟨by omega, by omega, rfl⟩
        have c1 : i * 3 + 3 ≤ L * 3 := by omega
        obtain ⟨y, hy⟩ : ∃ y, v.looks[i] = y := ⟨_, rfl⟩
        have hly := hv.lk _ (List.getElem_mem hi1)
        rw [hy] at hly
        have hat := flatC_at lookC_ok (toldTo v x i) i (by rw [hhl]; omega)
        rw [toldTo_get v x hi1, hy] at hat
        have hset := flatC_set lookC_ok (toldTo v x i) i (tlkX v x y) (by rw [hhl]; omega)
        rw [← hy, toldTo_set v x hi1, hy] at hset
        simp only [lookC] at hat
        have hfb := hft.fl y.plot.toNat (by omega)
        simp only [hN] at hfb
        have hpl : y.plot.toNat < (fwX v x p).length := by rw [fwX_len]; omega
        have hp0 : 0 ≤ y.plot := hly.1.1
        obtain ⟨D, hD⟩ : ∃ D : Nat, y.day = (D : Int) := ⟨y.day.toNat, by omega⟩
        have hrlf : (fwX v x p)[y.plot.toNat] = rl (fwX v x p) y.plot.toNat := (rl_at hpl).symm
        have hpb := (pl_ok hv (show y.plot.toNat < v.plots.length by omega)).1
        obtain ⟨H, hH⟩ : ∃ H : Nat, rl (fwX v x p) y.plot.toNat = (H : Int) := ⟨(rl (fwX v x p) y.plot.toNat).toNat, by omega⟩
        have etl : tlkX v x y = ⟨y.plot, D, pts (rl (rnX v x k)) H D⟩ := by
         simp only [tlkX, toldLook, hM, hN, hD, ptsL, hH, Int.toNat_natCast]
        rw [etl] at hset
        simp only [lookC] at hset
        rw [hH] at hrlf
        rw [hD] at hat
        have hpo := points_ok (rnX v x k) H D (rain_bd hv (hM ▸ hft.rain)) (by rw [rnX_len]; omega) (by rw [rnX_len]; omega)
        (repeat (first | simp only [↓QA, QB, Nat.reduceLT, reduceIte, Nat.reduceEqDiff, Nat.reduceAdd, Nat.reduceLeDiff, Nat.reduceMul, Nat.reduceBEq, QXFFaQ9, i1, c1, hfl, hat, V_idxI, hp0, hpl, hrlf, Nat.zero_add] | refine rd0 rfl ?_))
        ((first | refine callK_s (hpo) (by try simp only [QS, QC, Nat.reduceLT, reduceIte, Nat.reduceEqDiff, Nat.reduceAdd, Nat.reduceLeDiff, Nat.reduceMul, Nat.reduceBEq, QXFFaQ9]) trivial ?_ | refine callD_s (hpo) (by try simp only [QS, QC, Nat.reduceLT, reduceIte, Nat.reduceEqDiff, Nat.reduceAdd, Nat.reduceLeDiff, Nat.reduceMul, Nat.reduceBEq, QXFFaQ9]) trivial ?_); (repeat (first | simp only [↓QA, QB, Nat.reduceLT, reduceIte, Nat.reduceEqDiff, Nat.reduceAdd, Nat.reduceLeDiff, Nat.reduceMul, Nat.reduceBEq, QXFFaQ9, i1, c1, hfl, hset, hw, V_idxI, hp0, hpl, hrlf, Nat.zero_add] | refine rd0 rfl ?_)))
        refine ⟨i + 1, by omega, by omega, ?_⟩
        try simp only [TrimX, QE, Nat.reduceLT, reduceIte, Nat.reduceEqDiff, Nat.reduceAdd, Nat.reduceLeDiff, Nat.reduceMul, Nat.reduceBEq, QXFFaQ9, hw, S_mapI]
        have := flatC_okVs lookC_ok 5 (lookC_okV 5) (toldTo v x (i + 1))
        try simp [okBlk, this]
       ·have hi1 : i = v.looks.length := by rw [hL]; simp at h2; omega
        subst hi1
        have hend := toldTo_end v x
        have hsl2 := toldTo_len v x v.looks.length
        obtain ⟨Y, hY⟩ : ∃ Y, toldTo v x v.looks.length = Y := ⟨_, rfl⟩
        rw [hY] at hend hsl2
        have hML : L = Y.length := by omega
        have hsn : ∀ (b0 b1 b2 b3 : ABlk) (τ : St), snapM (b0 :: b1 :: b2 :: b3 :: .cells (flatC lookC Y) :: τ) 0 20 (.ref 4 0 L 3) = some (.lit (Y.map encLook) false none) := fun b0 b1 b2 b3 τ => by
         rw [hML]
         exact flatC_snap lookC_ok (by simp [cellsAt])
        rw [hY]
        have eT : encFarm (toldX v x) = .agg [.lit (v.rain.map encSpan) false none, .int .i64 v.full, .int .i64 v.ripe, .int .i64 v.way.lo, .int .i64 v.way.hi, .lit (v.plots.map encPlot) false none, .lit (Y.map encLook) false none] := by
         rw [← hend]; simp only [encFarm, farmCells]
        rw [← hQ, eT]
        (repeat (first | simp only [↓QA, QB, Nat.reduceLT, reduceIte, Nat.reduceEqDiff, Nat.reduceAdd, Nat.reduceLeDiff, Nat.reduceMul, Nat.reduceBEq, QXFFaQ9, hsn] | refine rd0 rfl ?_))
end Go.Am.Room
set_option maxRecDepth 8000
namespace Go.Am.Room
def QXFFaQA := And.intro @encFarm_eq (And.intro @farmCells_eq (And.intro @encPlot_eq (And.intro @encLook_eq (And.intro @encSpan_eq (And.intro @S_mapPlot (And.intro @S_mapLook (And.intro @S_mapSpan (And.intro @T_sapp (And.intro @List.length_append.{0} (And.intro @Int.toNat_natCast (@S_u8s)))))))))))
structure TrueF (v : Farm) (x : List Int) (d : Farm) (R F : List Int) : Prop where
 vd : Vd d
 fits : Fits d
 sm : someV d = true
 wrong : wrongOf d = ([], 0)
 rain : d.rain.length = R.length
 plots : d.plots.length = F.length
 rb : ∀ i, 0 ≤ rl R i ∧ rl R i ≤ 2
 fb : ∀ p (h : p < F.length), 0 ≤ F[p] ∧ F[p] < R.length
 rin : ∀ k, k < R.length → inR (rl R k) (spanL (rainedIn (truths d []) k)).lo (spanL (rainedIn (truths d []) k)).hi = true
 fin : ∀ p k (h : p < F.length), inR (pts (rl R) F[p].toNat k) (fullS (truths d []) p k).lo (fullS (truths d []) p k).hi = true
 has : ∀ p (h : p < F.length), (floweredIn d (truths d []) p).contains F[p] = true
 good : ∀ p k w (h : p < F.length), d.way.lo ≤ w ∧ w ≤ d.way.hi → (goodAt d (pts (rl R) F[p].toNat k) w = true → goodOf d (truths d []) p k ≠ 2) ∧ (goodAt d (pts (rl R) F[p].toNat k) w = false → goodOf d (truths d []) p k ≠ 1)
 told : Pure T 39 [encFarm v, u8s x] (.tuple [encFarm d, ints R, ints F])
theorem true_facts {v : Farm} {x : List Int} (hf : Fits v) (hv : Vd v) (hx : Bytes x) : TrueF v x (toldX v x) (rnX v x v.rain.length) (fwX v x v.plots.length) := by
 have ht := truth_of hv hx
 have hv2 := told_vd hv ht
 have hts : ∀ t ∈ truths (toldX v x) [], TOk (toldX v x) t := fun t ht => tok_of hv2 ht
 have hlen := fwX_len v x v.plots.length
 have hrl : ∀ p (h : p < (fwX v x v.plots.length).length), (fwX v x v.plots.length)[p] = rl (fwX v x v.plots.length) p := fun p h => (rl_at h).symm
 refine ⟨hv2, ⟨hf.rain, hf.plots, by simpa [toldX, told] using hf.looks, hf.names⟩, told_some hv ht, told_wrong hv ht, (rnX_len _ _ _).symm, (fwX_len _ _ _).symm, rain_bd hv ht.rain, fun p h => ?_, fun k h => ?_, fun p k h => ?_, fun p h => ?_, fun p k w h hw => ?_, toldX_ok v x hv hx⟩
 ·rw [hrl p h, rnX_len]
  have hp : p < v.plots.length := by omega
  have h1 := ht.fl p hp
  have h2 := (pl_ok hv hp).1
  omega
 ·have hm := told_rain ht k
  have := (spanL_spec (List.ne_nil_of_mem hm)).2.2 _ hm
  rw [inR_iff]
  exact this
 ·rw [hrl p h]
  have hm := told_full ht (show p < v.plots.length by omega) k
  have := (spanL_spec (List.ne_nil_of_mem hm)).2.2 _ hm
  rw [inR_iff]
  simp only [ptsL, Int.toNat_natCast] at this
  exact this
 ·rw [hrl p h]
  exact told_when hv ht (by omega)
 ·rw [hrl p h]
  have := told_good hv ht (show p < v.plots.length by omega) k hw
  simp only [ptsL, Int.toNat_natCast] at this
  exact this
set_option maxHeartbeats 2000000 in
theorem farmtrue_ok (v : Farm) (x : List Int) (hf : Fits v) (hx : Bytes x) : Pure T 7 [encFarm v, u8s x] (.bool true) := by
 refine pure_fn (af := a7) rfl (by simp [a7]) dd ?_
 cases hs : decide ((check v).2.2 = 0)
 ·have hc : (check v).2.2 ≠ 0 := by simpa using hs
  have e1 : wrongOf v = ([], (check v).2.2) := if_neg hc
  have g : ((check v).2.2 == 0) = false := by simpa using hc
  (repeat (first | simp only [↓QA, QB, Nat.reduceLT, reduceIte, Nat.reduceEqDiff, Nat.reduceAdd, Nat.reduceLeDiff, Nat.reduceMul, Nat.reduceBEq, QXFFaQA, a7, u8s] | refine rd0 rfl ?_))
  ((first | refine callK_d (valid_ok v hf) rfl dd ?_ | refine callD_d (valid_ok v hf) rfl dd ?_); (repeat (first | simp only [↓QA, QB, Nat.reduceLT, reduceIte, Nat.reduceEqDiff, Nat.reduceAdd, Nat.reduceLeDiff, Nat.reduceMul, Nat.reduceBEq, QXFFaQA, hs, u8s] | refine rd0 rfl ?_)))
  ((first | refine callK_d (pwrong_ok v hf) rfl dd ?_ | refine callD_d (pwrong_ok v hf) rfl dd ?_); (repeat (first | simp only [↓QA, QB, Nat.reduceLT, reduceIte, Nat.reduceEqDiff, Nat.reduceAdd, Nat.reduceLeDiff, Nat.reduceMul, Nat.reduceBEq, QXFFaQA, encLE, e1, g] | refine rd0 rfl ?_)))
  refine callK_d awake_ok rfl datas_nil ?_
  (repeat (first | simp only [↓QA, QB, Nat.reduceLT, reduceIte, Nat.reduceEqDiff, Nat.reduceAdd, Nat.reduceLeDiff, Nat.reduceMul, Nat.reduceBEq, QXFFaQA] | refine rd0 rfl ?_))
 ·have hc : (check v).2.2 = 0 := by simpa using hs
  have hv := vd_of_check hc
  have hT := true_facts hf hv hx
  obtain ⟨d, hd⟩ : ∃ d, toldX v x = d := ⟨_, rfl⟩
  obtain ⟨R, hR⟩ : ∃ R, rnX v x v.rain.length = R := ⟨_, rfl⟩
  obtain ⟨F, hF⟩ : ∃ F, fwX v x v.plots.length = F := ⟨_, rfl⟩
  rw [hd, hR, hF] at hT
  have hvd := hT.vd
  have hfd := hT.fits
  have hsd := hT.sm
  have hwr := hT.wrong
  have htl := hT.told
  have hra := hT.rain
  have hpl := hT.plots
  have hnr := hvd.nra
  have hnp := hvd.npl
  have hway := hvd.way
  have hfu := hvd.full
  have hri := hvd.ripe
  have hne := (some_iff.1 hsd).2
  have hts : ∀ t ∈ truths d [], TOk d t := fun t ht => tok_of hvd ht
  have hfin := hT.fin
  have hhas := hT.has
  have hgood := hT.good
  have hrin := hT.rin
  have e11 := turnOf_bd hx 11
  have hyw := oneOf_in (s := d.way) hway.2.1 e11.1
  have hone := one_ok d.way (turnOf x 11) hway.1 hway.2.1 (by omega) e11.1 (by omega)
  obtain ⟨y, hy⟩ : ∃ y, oneOf d.way (turnOf x 11) = y := ⟨_, rfl⟩
  rw [hy] at hyw hone
  have okz : ((0 : Int) == 0) = true := rfl
  have hgr := fun (p k : Nat) (h1 : p < d.plots.length) (h2 : k ≤ d.rain.length) => grown_tr hsd h1 h2
  have hcu := fun (p k : Nat) (h1 : p < d.plots.length) (h2 : k ≤ d.rain.length) => cut_tr hsd h1 h2
  have hfl := fun (p : Nat) (h1 : p < d.plots.length) => flowered_tr hsd h1
  have hrn := fun (k : Nat) (h1 : k < d.rain.length) => rained_tr hsd h1
  obtain ⟨ts, htse⟩ : ∃ ts, truths d [] = ts := ⟨_, rfl⟩
  simp only [htse] at hgr hcu hfl hrn hne hts hfin hhas hgood hrin
  (repeat (first | simp only [↓QA, QB, Nat.reduceLT, reduceIte, Nat.reduceEqDiff, Nat.reduceAdd, Nat.reduceLeDiff, Nat.reduceMul, Nat.reduceBEq, QXFFaQA, a7, u8s] | refine rd0 rfl ?_))
  ((first | refine callK_d (valid_ok v hf) rfl dd ?_ | refine callD_d (valid_ok v hf) rfl dd ?_); (repeat (first | simp only [↓QA, QB, Nat.reduceLT, reduceIte, Nat.reduceEqDiff, Nat.reduceAdd, Nat.reduceLeDiff, Nat.reduceMul, Nat.reduceBEq, QXFFaQA, hs, u8s] | refine rd0 rfl ?_)))
  ((first | refine callK_d (htl) rfl dd ?_ | refine callD_d (htl) rfl dd ?_); (repeat (first | simp only [↓QA, QB, Nat.reduceLT, reduceIte, Nat.reduceEqDiff, Nat.reduceAdd, Nat.reduceLeDiff, Nat.reduceMul, Nat.reduceBEq, QXFFaQA, u8s] | refine rd0 rfl ?_)))
  ((first | refine callK_d (pwrong_ok d hfd) rfl dd ?_ | refine callD_d (pwrong_ok d hfd) rfl dd ?_); (repeat (first | simp only [↓QA, QB, Nat.reduceLT, reduceIte, Nat.reduceEqDiff, Nat.reduceAdd, Nat.reduceLeDiff, Nat.reduceMul, Nat.reduceBEq, QXFFaQA, encLE, hwr, okz, show decide ((0 : Int) < ((0 : Nat) : Int)) = false from rfl, u8s] | refine rd0 rfl ?_)))
  ((first | refine callK_d (turn_ok x 11 hx (by omega)) rfl dd ?_ | refine callD_d (turn_ok x 11 hx (by omega)) rfl dd ?_); (repeat (first | simp only [↓QA, QB, Nat.reduceLT, reduceIte, Nat.reduceEqDiff, Nat.reduceAdd, Nat.reduceLeDiff, Nat.reduceMul, Nat.reduceBEq, QXFFaQA, u8s] | refine rd0 rfl ?_)))
  ((first | refine callK_d (hone) rfl dd ?_ | refine callD_d (hone) rfl dd ?_); (repeat (first | simp only [↓QA, QB, Nat.reduceLT, reduceIte, Nat.reduceEqDiff, Nat.reduceAdd, Nat.reduceLeDiff, Nat.reduceMul, Nat.reduceBEq, QXFFaQA, u8s] | refine rd0 rfl ?_)))
  refine loopE (S := Nat) 0 (fun k => k ≤ R.length + 1) (fun k => R.length + 1 - k)
   (fun k => [(4, .bool false), (7, .ptr 1 0), (8, ints R), (9, ints F), (12, .int .i64 y), (13, .int .i64 k)]) (fun _ => [.cells (farmCells v), .cells (farmCells d)]) (by simp) (by simp [farmCells, ints]) ?_ fun k hk => ?_
  ·try simp only [TrimX, QE, Nat.reduceLT, reduceIte, Nat.reduceEqDiff, Nat.reduceAdd, Nat.reduceLeDiff, Nat.reduceMul, Nat.reduceBEq, QXFFaQA, u8s]
   try simp
  ·(repeat (first | simp only [↓QA, QB, Nat.reduceLT, reduceIte, Nat.reduceEqDiff, Nat.reduceAdd, Nat.reduceLeDiff, Nat.reduceMul, Nat.reduceBEq, QXFFaQA, L7_0] | refine rd0 rfl ?_))
   refine iteP_intro (fun h => ?_) fun h => ?_
   ·have hk1 : k ≤ R.length := by
     have h0 : (k : Int) ≤ (R.length : Int) := by simpa using h
     omega
    have hw := wrapN (show k < R.length + 1 by omega) (by omega)
    obtain ⟨S, g, hSg, hgo⟩ : ∃ S g, rainedOf d (k : Int) = (S, g) ∧ (k < R.length → g = 0 ∧ inR (rl R k) S.lo S.hi = true) := by
     refine ⟨(rainedOf d (k : Int)).1, (rainedOf d (k : Int)).2, rfl, fun hl => ?_⟩
     rw [hrn k (by omega)]
     exact ⟨rfl, hrin k hl⟩
    cases hkl : decide ((k : Int) < (R.length : Int))
    case' false =>
     (repeat (first | simp only [↓QA, QB, Nat.reduceLT, reduceIte, Nat.reduceEqDiff, Nat.reduceAdd, Nat.reduceLeDiff, Nat.reduceMul, Nat.reduceBEq, QXFFaQA] | refine rd0 rfl ?_))
     ((first | refine callK_d (prained_ok d (k : Int) hfd) rfl dd ?_ | refine callD_d (prained_ok d (k : Int) hfd) rfl dd ?_); (repeat (first | simp only [↓QA, QB, Nat.reduceLT, reduceIte, Nat.reduceEqDiff, Nat.reduceAdd, Nat.reduceLeDiff, Nat.reduceMul, Nat.reduceBEq, QXFFaQA, hSg, encSE, hkl] | refine rd0 rfl ?_)))
    case' true =>
     have hl : k < R.length := by
      have h0 : (k : Int) < (R.length : Int) := by simpa using hkl
      omega
     obtain ⟨hg0, hin⟩ := hgo hl
     have hg1 : (g == 0) = true := by rw [hg0]; rfl
     have hrk : R[k] = rl R k := (rl_at hl).symm
     (repeat (first | simp only [↓QA, QB, Nat.reduceLT, reduceIte, Nat.reduceEqDiff, Nat.reduceAdd, Nat.reduceLeDiff, Nat.reduceMul, Nat.reduceBEq, QXFFaQA] | refine rd0 rfl ?_))
     ((first | refine callK_d (prained_ok d (k : Int) hfd) rfl dd ?_ | refine callD_d (prained_ok d (k : Int) hfd) rfl dd ?_); (repeat (first | simp only [↓QA, QB, Nat.reduceLT, reduceIte, Nat.reduceEqDiff, Nat.reduceAdd, Nat.reduceLeDiff, Nat.reduceMul, Nat.reduceBEq, QXFFaQA, hSg, encSE, hkl, hg1, hl, hrk] | refine rd0 rfl ?_)))
     ((first | refine callK_d (inside_ok (rl R k) S) rfl dd ?_ | refine callD_d (inside_ok (rl R k) S) rfl dd ?_); (repeat (first | simp only [↓QA, QB, Nat.reduceLT, reduceIte, Nat.reduceEqDiff, Nat.reduceAdd, Nat.reduceLeDiff, Nat.reduceMul, Nat.reduceBEq, QXFFaQA, hin, hkl, hg1, hl, hrk] | refine rd0 rfl ?_)))
    all_goals
     refine loopE (S := Nat) 0 (fun p => p ≤ F.length) (fun p => F.length - p)
      (fun p => [(4, .bool false), (7, .ptr 1 0), (8, ints R), (9, ints F), (12, .int .i64 y), (13, .int .i64 k), (16, .int .i64 p)]) (fun _ => [.cells (farmCells v), .cells (farmCells d), .cells [.int .i64 S.lo, .int .i64 S.hi]]) (by simp) (by simp [farmCells, ints]) ?_ fun p hp => ?_
     ·try simp only [TrimX, QE, Nat.reduceLT, reduceIte, Nat.reduceEqDiff, Nat.reduceAdd, Nat.reduceLeDiff, Nat.reduceMul, Nat.reduceBEq, QXFFaQA]
      try simp
     ·(repeat (first | simp only [↓QA, QB, Nat.reduceLT, reduceIte, Nat.reduceEqDiff, Nat.reduceAdd, Nat.reduceLeDiff, Nat.reduceMul, Nat.reduceBEq, QXFFaQA, L7_2] | refine rd0 rfl ?_))
      refine iteP_intro (fun h => ?_) fun h => ?_
      ·have hp1 : p < F.length := by simpa using h
       have hwp := wrapN hp1 (by omega)
       have hp2 : p < d.plots.length := by omega
       have hk2 : k ≤ d.rain.length := by omega
       have hfb := hT.fb p hp1
       have h1 := hgr p k hp2 hk2
       have h2 := hcu p k hp2 hk2
       have h3 := hfl p hp2
       have h4 := hfin p k hp1
       have h5 := hhas p hp1
       have h6 := hgood p k y hp1 hyw
       obtain ⟨H, hH⟩ : ∃ H : Nat, F[p] = (H : Int) := ⟨F[p].toNat, by omega⟩
       have hpo := points_ok R H k hT.rb hk1 (by omega)
       have hpb := pts_bd hT.rb H k
       rw [hH] at h4 h5 h6
       rw [Int.toNat_natCast] at h4 h6
       obtain ⟨n, hn⟩ : ∃ n, pts (rl R) H k = n := ⟨_, rfl⟩
       rw [hn] at hpo h4 h6 hpb
       obtain ⟨A, hA⟩ : ∃ A, fullS ts p k = A := ⟨_, rfl⟩
       rw [hA] at h1 h4
       obtain ⟨G, hG⟩ : ∃ G, goodOf d ts p k = G := ⟨_, rfl⟩
       rw [hG] at h2 h6
       obtain ⟨W, hW⟩ : ∃ W, floweredIn d ts p = W := ⟨_, rfl⟩
       have hWl : W.length ≤ 7 := by rw [← hW]; exact lst5 hnr.2 _
       rw [hW] at h3 h5
       have hny : IntKind.i64.wrap (n + y) = n + y := wrap64 ⟨by omega, by omega⟩
       (repeat (first | simp only [↓QA, QB, Nat.reduceLT, reduceIte, Nat.reduceEqDiff, Nat.reduceAdd, Nat.reduceLeDiff, Nat.reduceMul, Nat.reduceBEq, QXFFaQA, hp1, hH] | refine rd0 rfl ?_))
       ((first | refine callK_d (hpo) rfl dd ?_ | refine callD_d (hpo) rfl dd ?_); (repeat (first | simp only [↓QA, QB, Nat.reduceLT, reduceIte, Nat.reduceEqDiff, Nat.reduceAdd, Nat.reduceLeDiff, Nat.reduceMul, Nat.reduceBEq, QXFFaQA, hp1, hH] | refine rd0 rfl ?_)))
       ((first | refine callK_d (pgrown_ok d p k hfd) rfl dd ?_ | refine callD_d (pgrown_ok d p k hfd) rfl dd ?_); (repeat (first | simp only [↓QA, QB, Nat.reduceLT, reduceIte, Nat.reduceEqDiff, Nat.reduceAdd, Nat.reduceLeDiff, Nat.reduceMul, Nat.reduceBEq, QXFFaQA, h1, encSE] | refine rd0 rfl ?_)))
       ((first | refine callK_d (pcut_ok d p k hfd) rfl dd ?_ | refine callD_d (pcut_ok d p k hfd) rfl dd ?_); (repeat (first | simp only [↓QA, QB, Nat.reduceLT, reduceIte, Nat.reduceEqDiff, Nat.reduceAdd, Nat.reduceLeDiff, Nat.reduceMul, Nat.reduceBEq, QXFFaQA, h2, encIE] | refine rd0 rfl ?_)))
       ((first | refine callK_d (pflowered_ok d p hfd) rfl dd ?_ | refine callD_d (pflowered_ok d p hfd) rfl dd ?_); (repeat (first | simp only [↓QA, QB, Nat.reduceLT, reduceIte, Nat.reduceEqDiff, Nat.reduceAdd, Nat.reduceLeDiff, Nat.reduceMul, Nat.reduceBEq, QXFFaQA, h3, encLE] | refine rd0 rfl ?_)))
       cases c1 : decide (d.full ≤ n)
       case' false =>
        have hG1 : (G == 1) = false := by
         have := h6.2 (by rw [goodAt, c1]; rfl)
         simpa using this
        (repeat (first | simp only [↓QA, QB, Nat.reduceLT, reduceIte, Nat.reduceEqDiff, Nat.reduceAdd, Nat.reduceLeDiff, Nat.reduceMul, Nat.reduceBEq, QXFFaQA, c1, okz] | refine rd0 rfl ?_))
        ((first | refine callK_d (inside_ok n A) rfl dd ?_ | refine callD_d (inside_ok n A) rfl dd ?_); (repeat (first | simp only [↓QA, QB, Nat.reduceLT, reduceIte, Nat.reduceEqDiff, Nat.reduceAdd, Nat.reduceLeDiff, Nat.reduceMul, Nat.reduceBEq, QXFFaQA, h4, okz, hp1, hH] | refine rd0 rfl ?_)))
        ((first | refine callK_d (has_ok W H (by omega)) rfl dd ?_ | refine callD_d (has_ok W H (by omega)) rfl dd ?_); (repeat (first | simp only [↓QA, QB, Nat.reduceLT, reduceIte, Nat.reduceEqDiff, Nat.reduceAdd, Nat.reduceLeDiff, Nat.reduceMul, Nat.reduceBEq, QXFFaQA, h5, okz, hG1, hwp, hp1, hH] | refine rd0 rfl ?_)))
       case' true =>
        cases c2 : decide (n + y ≤ d.ripe)
        case' false =>
         have hG1 : (G == 1) = false := by
          have := h6.2 (by rw [goodAt, c1, c2]; rfl)
          simpa using this
         (repeat (first | simp only [↓QA, QB, Nat.reduceLT, reduceIte, Nat.reduceEqDiff, Nat.reduceAdd, Nat.reduceLeDiff, Nat.reduceMul, Nat.reduceBEq, QXFFaQA, c1, c2, hny, okz] | refine rd0 rfl ?_))
         ((first | refine callK_d (inside_ok n A) rfl dd ?_ | refine callD_d (inside_ok n A) rfl dd ?_); (repeat (first | simp only [↓QA, QB, Nat.reduceLT, reduceIte, Nat.reduceEqDiff, Nat.reduceAdd, Nat.reduceLeDiff, Nat.reduceMul, Nat.reduceBEq, QXFFaQA, h4, okz, hp1, hH] | refine rd0 rfl ?_)))
         ((first | refine callK_d (has_ok W H (by omega)) rfl dd ?_ | refine callD_d (has_ok W H (by omega)) rfl dd ?_); (repeat (first | simp only [↓QA, QB, Nat.reduceLT, reduceIte, Nat.reduceEqDiff, Nat.reduceAdd, Nat.reduceLeDiff, Nat.reduceMul, Nat.reduceBEq, QXFFaQA, h5, okz, hG1, hwp, hp1, hH] | refine rd0 rfl ?_)))
        case' true =>
         have hG1 : (G == 2) = false := by
          have := h6.1 (by rw [goodAt, c1, c2]; rfl)
          simpa using this
         (repeat (first | simp only [↓QA, QB, Nat.reduceLT, reduceIte, Nat.reduceEqDiff, Nat.reduceAdd, Nat.reduceLeDiff, Nat.reduceMul, Nat.reduceBEq, QXFFaQA, c1, c2, hny, okz] | refine rd0 rfl ?_))
         ((first | refine callK_d (inside_ok n A) rfl dd ?_ | refine callD_d (inside_ok n A) rfl dd ?_); (repeat (first | simp only [↓QA, QB, Nat.reduceLT, reduceIte, Nat.reduceEqDiff, Nat.reduceAdd, Nat.reduceLeDiff, Nat.reduceMul, Nat.reduceBEq, QXFFaQA, h4, okz, hp1, hH] | refine rd0 rfl ?_)))
         ((first | refine callK_d (has_ok W H (by omega)) rfl dd ?_ | refine callD_d (has_ok W H (by omega)) rfl dd ?_); (repeat (first | simp only [↓QA, QB, Nat.reduceLT, reduceIte, Nat.reduceEqDiff, Nat.reduceAdd, Nat.reduceLeDiff, Nat.reduceMul, Nat.reduceBEq, QXFFaQA, h5, okz, hG1, hwp, hp1, hH] | refine rd0 rfl ?_)))
       all_goals
        refine ⟨p + 1, by omega, by omega, ?_⟩
        try simp only [TrimX, QE, Nat.reduceLT, reduceIte, Nat.reduceEqDiff, Nat.reduceAdd, Nat.reduceLeDiff, Nat.reduceMul, Nat.reduceBEq, QXFFaQA, hwp]
        try simp [okBlk]
      ·(repeat (first | simp only [↓QA, QB, Nat.reduceLT, reduceIte, Nat.reduceEqDiff, Nat.reduceAdd, Nat.reduceLeDiff, Nat.reduceMul, Nat.reduceBEq, QXFFaQA, hw] | refine rd0 rfl ?_))
       refine ⟨k + 1, by omega, by omega, ?_⟩
       try simp only [TrimX, QE, Nat.reduceLT, reduceIte, Nat.reduceEqDiff, Nat.reduceAdd, Nat.reduceLeDiff, Nat.reduceMul, Nat.reduceBEq, QXFFaQA, hw]
       try simp [okBlk]
   ·(repeat (first | simp only [↓QA, QB, Nat.reduceLT, reduceIte, Nat.reduceEqDiff, Nat.reduceAdd, Nat.reduceLeDiff, Nat.reduceMul, Nat.reduceBEq, QXFFaQA] | refine rd0 rfl ?_))
    refine callK_d awake_ok rfl datas_nil ?_
    (repeat (first | simp only [↓QA, QB, Nat.reduceLT, reduceIte, Nat.reduceEqDiff, Nat.reduceAdd, Nat.reduceLeDiff, Nat.reduceMul, Nat.reduceBEq, QXFFaQA] | refine rd0 rfl ?_))
end Go.Am.Room
