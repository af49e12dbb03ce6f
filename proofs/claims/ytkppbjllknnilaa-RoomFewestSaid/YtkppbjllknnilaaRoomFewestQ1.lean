/- A part of the proof of RoomFewest: an abstract machine, or what functions come to on it. -/
import Derived.Test.YtkppbjllknnilaaAllQ6
import Derived.ChangeArms
import Derived.SizedLaws
import Derived.ChangeBears
import Derived.ChangeShapes
import Derived.WideShapes
import Derived.ProofKit
import Derived.OpenShut
set_option linter.unusedVariables false
set_option linter.unusedSimpArgs false
set_option linter.defProp false
namespace Go.Am
open Go.ChangeShapes Go.WideShapes Go.ChangeAt Go.RowKit
variable {P : Program} {hh : String → Bool} {H : Type} {enc : TypeId × Value → H} {w : World} {sp : Nat → Bool} {held : Bool}
theorem wf_u8 {m : Int} (h : (Lit.int .u8 m).wf = true) : 0 ≤ m ∧ m < 256 := by
 simp [Lit.wf, IntKind.min, IntKind.max, IntKind.signed, IntKind.bits] at h
 omega
end Go.Am
namespace Go.Am
variable {T : FuncId → Option AFunc}
theorem S_ref (σ : St) (m d id off len sz : Nat) : snapM σ m (d + 1) (.ref id off len sz) =
  if id < m then some (.ref id off len sz) else (view σ (.ref id off len sz)).bind fun xs => if (decide (0 < sz) && allCells sz xs) = true then (snapMs σ m d xs).map fun ys => .lit ys false none else none := by
 simp only [snapM, snap]
 split
 ·simp [clr]
 ·cases view σ (.ref id off len sz) with
  | none => simp
  | some xs =>
   simp only [Option.bind_some]
   split
   ·simp only [snapMs]; cases snaps σ m d xs <;> simp [clr]
   ·simp
end Go.Am
namespace Go.Am
variable {T : FuncId → Option AFunc}
mutual
theorem okV0_noTok (t : Nat) : ∀ v, okV 0 v → noTok t v
 | .func _ first cap, h => ⟨okVs0_noToks t first h.1, okVs0_noToks t cap h.2⟩
 | .lptr xs _ _ tk, h => ⟨fun e => absurd (h.1 t e) (by omega), okVs0_noToks t xs h.2⟩
 | .lit xs _ tk, h => ⟨fun e => absurd (h.1 t e) (by omega), okVs0_noToks t xs h.2⟩
 | .agg cs, h => okVs0_noToks t cs h
 | .tuple vs, h => okVs0_noToks t vs h
 | .yield _, _ | .ptr _ _, _ | .ref _ _ _ _, _ | .map _, _ | .undef, _ | .int _ _, _ | .bool _, _ | .str _, _ | .nilFunc, _ | .nilPtr, _ | .nilMap, _ => trivial
theorem okVs0_noToks (t : Nat) : ∀ vs, okVs 0 vs → noToks t vs
 | [], _ => trivial
 | v :: vs, h => ⟨okV0_noTok t v h.1, okVs0_noToks t vs h.2⟩
end
theorem cells_ok {m : Nat} (v : AV) (h : okV m v) : okVs m v.cells := by
 cases v <;> first | exact h | exact ⟨h, trivial⟩
theorem pure_run {f : FuncId} {args : List AV} {v : AV} {af : AFunc} (hf : T f = some af) (hn : args.length ≤ af.ntmps) (hk : Datas args) (h : Run T (.code af.body (argsEnv 0 args) []) fun o => RetK af.results v o.j o.env o.σ) : Pure T f args v := by
 intro σ
 refine .frame hk.1 (.inl rfl) (R := fun o => o.v = v ∧ o.σ = []) (.call hf hn h fun o ho => ?_) fun o ho => ⟨ho.2, ho.1, rfl⟩
 obtain ⟨h1, v0, h2, h3⟩ := ho
 refine ⟨h1, v0, h2, ?_⟩
 unfold snapM at h3
 cases hs : snap o.σ 0 20 v0 with
 | none => rw [hs] at h3; cases h3
 | some v1 =>
  rw [hs] at h3
  simp at h3
  exact .inr ⟨20, v1, v, hs, .inr h3.symm, fun i hi => absurd hi (by simp), by simp, rfl, by simp⟩
theorem seq_run {a b : ACode} {e : Env} {σ : St} {Q : Out → Prop} (R : Env → St → Prop) (h : wp T a e σ fun j e' σ' => j = none ∧ R e' σ') (h2 : ∀ e' σ', R e' σ' → Run T (.code b e' σ') Q) : Run T (.code (.seq a b) e σ) Q :=
 .seq (run_wp h fun o ho => ho) (fun o ho _ => h2 _ _ ho.2) fun o ho hj => absurd ho.1 hj
theorem code_run {a : ACode} {e : Env} {σ : St} {K : KJ} (h : wp T a e σ K) : Run T (.code a e σ) fun o => K o.j o.env o.σ := run_wp h fun o ho => ho
theorem chain2 {a b c : ACode} {e : Env} {σ : St} {Q : Out → Prop} (R S : Env → St → Prop) (h : wp T (.seq a b) e σ fun j e' σ' => j = none ∧ R e' σ')
  (h2 : ∀ e' σ', R e' σ' → ∃ env1 σ1 env2 σ2, Trims2 σ e' σ' env1 σ1 ∧ ((env2 = env1 ∧ σ2 = σ1) ∨ Thaws σ.length env1 σ1 env2 σ2) ∧ S env2 σ2)
  (h3 : ∀ e σ, S e σ → Run T (.code c e σ) Q) : Run T (.code (.seq a (.seq b c)) e σ) Q := by
 refine Run.chain (a0 := a) (az := [b]) (c := c) (R := fun o => o.j = none ∧ R o.env o.σ) (S := S) ?_ (fun o ho hj => absurd ho.1 hj) (fun o ho _ => h2 _ _ ho.2) h3
 refine .chainCons (run_wp (show wp T a e σ _ from by simpa only [wp] using h) fun o ho => ho) (fun o ho hj => ?_) fun o ho hj => ?_
 ·rw [hj] at ho
  simp only [thenK] at ho
  exact .chainCons (run_wp ho fun o ho => ho) (fun o ho _ => .chainNil ⟨rfl, ho.2⟩) fun o ho hj => absurd ho.1 hj
 ·cases hq : o.j with
  | none => exact absurd hq hj
  | some q => rw [hq] at ho; simp only [thenK] at ho; exact absurd ho.1 (by simp)
end Go.Am
namespace Go.Am.Room
theorem join_ok (s : Span) (n : Int) : Pure T 96 [encSpan s, .int .i64 n] (encSpan (join s n)) := by
 refine pure_fn (af := a96) rfl (by simp [a96]) dd ?_
 (repeat (first | simp only [↓QA, QB, Nat.reduceLT, reduceIte, Nat.reduceEqDiff, Nat.reduceAdd, Nat.reduceLeDiff, Nat.reduceMul, Nat.reduceBEq, a96, encSpan_eq, join] | refine rd0 rfl ?_))
theorem has_ok (l : List Int) (n : Int) (hl : l.length < 9223372036854775808) : Pure T 60 [ints l, .int .i64 n] (.bool (l.contains n)) := by
 refine pure_fn (af := a60) rfl (by simp [a60]) dd ?_
 (repeat (first | simp only [↓QA, QB, Nat.reduceLT, reduceIte, Nat.reduceEqDiff, Nat.reduceAdd, Nat.reduceLeDiff, Nat.reduceMul, Nat.reduceBEq, a60] | refine rd0 rfl ?_))
 refine loopE (S := Nat) 0 (· ≤ l.length) (fun k => l.length - k) (fun k => [(0, ints l), (1, .int .i64 n), (5, .bool ((l.take k).contains n)), (6, .int .i64 k)]) (fun _ => []) (Nat.zero_le _) rfl ?_ fun k hk => ?_
 ·try simp only [TrimX, QE, Nat.reduceLT, reduceIte, Nat.reduceEqDiff, Nat.reduceAdd, Nat.reduceLeDiff, Nat.reduceMul, Nat.reduceBEq]
  try simp
 ·(repeat (first | simp only [↓QA, QB, Nat.reduceLT, reduceIte, Nat.reduceEqDiff, Nat.reduceAdd, Nat.reduceLeDiff, Nat.reduceMul, Nat.reduceBEq, L60_0] | refine rd0 rfl ?_))
  refine iteP_intro (fun h => ?_) fun h => ?_
  ·have hk1 : k < l.length := by simpa using h
   (repeat (first | simp only [↓QA, QB, Nat.reduceLT, reduceIte, Nat.reduceEqDiff, Nat.reduceAdd, Nat.reduceLeDiff, Nat.reduceMul, Nat.reduceBEq] | refine rd0 rfl ?_))
   refine iteP_intro (fun h2 => ?_) fun h2 => ?_
   all_goals
    (repeat (first | simp only [↓QA, QB, Nat.reduceLT, reduceIte, Nat.reduceEqDiff, Nat.reduceAdd, Nat.reduceLeDiff, Nat.reduceMul, Nat.reduceBEq, h2, hk1] | refine rd0 rfl ?_))
    refine ⟨k + 1, by omega, by omega, ?_⟩
    try simp only [TrimX, QE, Nat.reduceLT, reduceIte, Nat.reduceEqDiff, Nat.reduceAdd, Nat.reduceLeDiff, Nat.reduceMul, Nat.reduceBEq, wrapN hk1 hl]
    simp only [List.take_succ_eq_append_getElem hk1, List.contains_append, h2]
    simp
    try (rw [Bool.eq_iff_iff]; simp; exact eq_comm)
  ·have : k = l.length := by simp at h; omega
   (repeat (first | simp only [↓QA, QB, Nat.reduceLT, reduceIte, Nat.reduceEqDiff, Nat.reduceAdd, Nat.reduceLeDiff, Nat.reduceMul, Nat.reduceBEq] | refine rd0 rfl ?_))
   simp [this]
theorem len_beq (a b : Nat) : ((a : Int) == (b : Int)) = decide (a = b) := by rw [Bool.eq_iff_iff]; simp; omega
theorem fewer_ok (a b : List Int) (ha : a.length < 9223372036854775808) (hb : b.length < 9223372036854775808) : Pure T 57 [ints a, ints b] (.bool (fewer a b)) := by
 refine pure_fn (af := a57) rfl (by simp [a57]) dd ?_
 (repeat (first | simp only [↓QA, QB, Nat.reduceLT, reduceIte, Nat.reduceEqDiff, Nat.reduceAdd, Nat.reduceLeDiff, Nat.reduceMul, Nat.reduceBEq, a57, len_beq] | refine rd0 rfl ?_))
 refine iteP_intro (fun h => ?_) fun h => ?_
 ·have h' : ¬ a.length = b.length := by simpa using h
  (repeat (first | simp only [↓QA, QB, Nat.reduceLT, reduceIte, Nat.reduceEqDiff, Nat.reduceAdd, Nat.reduceLeDiff, Nat.reduceMul, Nat.reduceBEq] | refine rd0 rfl ?_))
  simp [fewer, h']
 ·have h' : a.length = b.length := by simpa using h
  (repeat (first | simp only [↓QA, QB, Nat.reduceLT, reduceIte, Nat.reduceEqDiff, Nat.reduceAdd, Nat.reduceLeDiff, Nat.reduceMul, Nat.reduceBEq] | refine rd0 rfl ?_))
  refine callK_d (less_ok a b ha hb) rfl dd ?_
  (repeat (first | simp only [↓QA, QB, Nat.reduceLT, reduceIte, Nat.reduceEqDiff, Nat.reduceAdd, Nat.reduceLeDiff, Nat.reduceMul, Nat.reduceBEq] | refine rd0 rfl ?_))
  simp [fewer, h']
def rising (below : Int) : Int → List Int → Bool
 | _, [] => true
 | last, x :: xs => decide (last < x) && decide (x < below) && rising below x xs
theorem rising_ok (l : List Int) (below : Int) (hl : l.length < 9223372036854775808) : Pure T 55 [ints l, .int .i64 below] (.bool (rising below (-1) l)) := by
 refine pure_fn (af := a55) rfl (by simp [a55]) dd ?_
 (repeat (first | simp only [↓QA, QB, Nat.reduceLT, reduceIte, Nat.reduceEqDiff, Nat.reduceAdd, Nat.reduceLeDiff, Nat.reduceMul, Nat.reduceBEq, a55] | refine rd0 rfl ?_))
 refine loopE (S := Nat × Int) (0, -1) (fun s => s.1 ≤ l.length ∧ rising below s.2 (l.drop s.1) = rising below (-1) l) (fun s => l.length - s.1) (fun s => [(0, ints l), (1, .int .i64 below), (4, .bool false), (5, .int .i64 s.2), (6, .int .i64 s.1)]) (fun _ => []) ⟨Nat.zero_le _, rfl⟩ rfl ?_ fun s hs => ?_
 ·try simp only [TrimX, QE, Nat.reduceLT, reduceIte, Nat.reduceEqDiff, Nat.reduceAdd, Nat.reduceLeDiff, Nat.reduceMul, Nat.reduceBEq]
  try simp
 ·obtain ⟨k, last⟩ := s
  obtain ⟨hk, hl2⟩ := hs
  simp only at hk hl2
  (repeat (first | simp only [↓QA, QB, Nat.reduceLT, reduceIte, Nat.reduceEqDiff, Nat.reduceAdd, Nat.reduceLeDiff, Nat.reduceMul, Nat.reduceBEq, L55_0] | refine rd0 rfl ?_))
  refine iteP_intro (fun h => ?_) fun h => ?_
  ·have hk1 : k < l.length := by simpa using h
   rw [List.drop_eq_getElem_cons hk1] at hl2
   simp only [rising] at hl2
   (repeat (first | simp only [↓QA, QB, Nat.reduceLT, reduceIte, Nat.reduceEqDiff, Nat.reduceAdd, Nat.reduceLeDiff, Nat.reduceMul, Nat.reduceBEq, hk1] | refine rd0 rfl ?_))
   refine iteP_intro (fun h2 => ?_) fun h2 => ?_
   ·have h2' : ¬ last < l[k] := by simp at h2; omega
    (repeat (first | simp only [↓QA, QB, Nat.reduceLT, reduceIte, Nat.reduceEqDiff, Nat.reduceAdd, Nat.reduceLeDiff, Nat.reduceMul, Nat.reduceBEq, h2] | refine rd0 rfl ?_))
    rw [← hl2]; simp [h2']
   ·have h2' : last < l[k] := by simp at h2; omega
    (repeat (first | simp only [↓QA, QB, Nat.reduceLT, reduceIte, Nat.reduceEqDiff, Nat.reduceAdd, Nat.reduceLeDiff, Nat.reduceMul, Nat.reduceBEq, h2, hk1] | refine rd0 rfl ?_))
    refine iteP_intro (fun h3 => ?_) fun h3 => ?_
    ·have h3' : ¬ l[k] < below := by simp at h3; omega
     (repeat (first | simp only [↓QA, QB, Nat.reduceLT, reduceIte, Nat.reduceEqDiff, Nat.reduceAdd, Nat.reduceLeDiff, Nat.reduceMul, Nat.reduceBEq, h3] | refine rd0 rfl ?_))
     rw [← hl2]; simp [h3']
    ·have h3' : l[k] < below := by simp at h3; omega
     (repeat (first | simp only [↓QA, QB, Nat.reduceLT, reduceIte, Nat.reduceEqDiff, Nat.reduceAdd, Nat.reduceLeDiff, Nat.reduceMul, Nat.reduceBEq, h3, hk1] | refine rd0 rfl ?_))
     refine ⟨(k + 1, l[k]), ⟨by simp; omega, by rw [← hl2]; simp [h2', h3']⟩, by simp; omega, ?_⟩
     try simp only [TrimX, QE, Nat.reduceLT, reduceIte, Nat.reduceEqDiff, Nat.reduceAdd, Nat.reduceLeDiff, Nat.reduceMul, Nat.reduceBEq, wrapN hk1 hl]
  ·have hk1 : k = l.length := by simp at h; omega
   (repeat (first | simp only [↓QA, QB, Nat.reduceLT, reduceIte, Nat.reduceEqDiff, Nat.reduceAdd, Nat.reduceLeDiff, Nat.reduceMul, Nat.reduceBEq] | refine rd0 rfl ?_))
   rw [← hl2, hk1, List.drop_length]; simp [rising]
def bitN (n : Nat) : Nat → Bool
 | 0 => n % 2 == 1
 | k + 1 => bitN (n / 2) k
theorem tdiv2 (n : Nat) : ((n : Int).tdiv 2) = ((n / 2 : Nat) : Int) := by rw [Int.tdiv_eq_ediv_of_nonneg (by omega)]; omega
theorem tmod2 (n : Nat) : ((n : Int).tmod 2) = ((n % 2 : Nat) : Int) := by rw [Int.tmod_eq_emod_of_nonneg (by omega)]; omega
theorem bit_ok (n at_ : Nat) (hn : n < 9223372036854775808) (ha : at_ < 9223372036854775808) : Pure T 54 [.int .i64 n, .int .i64 at_] (.bool (bitN n at_)) := by
 refine pure_fn (af := a54) rfl (by simp [a54]) dd ?_
 (repeat (first | simp only [↓QA, QB, Nat.reduceLT, reduceIte, Nat.reduceEqDiff, Nat.reduceAdd, Nat.reduceLeDiff, Nat.reduceMul, Nat.reduceBEq, a54] | refine rd0 rfl ?_))
 refine loopE (S := Nat × Nat) (n, 0) (fun s => s.2 ≤ at_ ∧ s.1 < 9223372036854775808 ∧ bitN s.1 (at_ - s.2) = bitN n at_) (fun s => at_ - s.2) (fun s => [(0, .int .i64 s.1), (1, .int .i64 at_), (5, .int .i64 s.2)]) (fun _ => []) ⟨Nat.zero_le _, hn, rfl⟩ rfl ?_ fun s hs => ?_
 ·try simp only [TrimX, QE, Nat.reduceLT, reduceIte, Nat.reduceEqDiff, Nat.reduceAdd, Nat.reduceLeDiff, Nat.reduceMul, Nat.reduceBEq]
  try simp
 ·obtain ⟨m, k⟩ := s
  obtain ⟨hk, hm, hb⟩ := hs
  simp only at hk hm hb
  (repeat (first | simp only [↓QA, QB, Nat.reduceLT, reduceIte, Nat.reduceEqDiff, Nat.reduceAdd, Nat.reduceLeDiff, Nat.reduceMul, Nat.reduceBEq, L54_0] | refine rd0 rfl ?_))
  refine iteP_intro (fun h => ?_) fun h => ?_
  ·have hk1 : k < at_ := by simpa using h
   have hw : IntKind.i64.wrap ((m : Int).tdiv 2) = ((m / 2 : Nat) : Int) := by rw [tdiv2, wrap64 ⟨by omega, by omega⟩]
   (repeat (first | simp only [↓QA, QB, Nat.reduceLT, reduceIte, Nat.reduceEqDiff, Nat.reduceAdd, Nat.reduceLeDiff, Nat.reduceMul, Nat.reduceBEq, V_quo _ _ _ (show (2 : Int) ≠ 0 by decide)] | refine rd0 rfl ?_))
   refine ⟨(m / 2, k + 1), ⟨by simp; omega, by simp; omega, ?_⟩, by simp; omega, ?_⟩
   ·rw [← hb, show at_ - k = (at_ - (k + 1)) + 1 by omega]; rfl
   ·try simp only [TrimX, QE, Nat.reduceLT, reduceIte, Nat.reduceEqDiff, Nat.reduceAdd, Nat.reduceLeDiff, Nat.reduceMul, Nat.reduceBEq, wrapN hk1 ha, hw]
  ·have hk1 : k = at_ := by simp at h; omega
   (repeat (first | simp only [↓QA, QB, Nat.reduceLT, reduceIte, Nat.reduceEqDiff, Nat.reduceAdd, Nat.reduceLeDiff, Nat.reduceMul, Nat.reduceBEq, V_rem _ _ _ (show (2 : Int) ≠ 0 by decide)] | refine rd0 rfl ?_))
   rw [← hb, hk1, Nat.sub_self, tmod2]
   simp only [bitN]
   congr 2
   rw [Bool.eq_iff_iff]; simp; omega
open Go
variable {P : Program}
theorem ty_u8 {n : Nat} {cs : List AV} (T : Tys P) (h : Typ P (n + 1) 5 cs) : ∃ x : Int, mkV P 5 cs = .int .u8 x ∧ (0 ≤ x ∧ x < 256) := by
 obtain ⟨x, rfl, hw⟩ := typ_int T.u8 h
 exact ⟨x, mkV_ne T.u8 (by intro fs e; cases e), wf_u8 hw⟩
theorem ty_room {n : Nat} {cs : List AV} (T : Tys P) (h : Typ P (n + 5) 28 cs) : ∃ r : Rm, mkV P 28 cs = encRoom r ∧ Fits r := by
 obtain ⟨r, h1, h2, _⟩ := ty_roomB T h
 exact ⟨r, h1, h2⟩
end Go.Am.Room
set_option maxRecDepth 4000
namespace Go.Am.Room
def QXRm4 := And.intro @Nat.mul_one (And.intro @Int.toNat_natCast (And.intro @encRoom_eq (And.intro @roomCells_eq (And.intro @encSetting_eq (And.intro @encLook_eq (@encSpan_eq))))))
theorem bits_get {p : Nat → Bool} {n : Nat} (h : n < 160) : (bits p)[n]? = some (.bool (p n)) := by simp [bits, h]
def upd (p : Nat → Bool) (n : Nat) (b : Bool) : Nat → Bool := fun m => if m = n then b else p m
theorem bits_upd {p : Nat → Bool} {n : Nat} {b : Bool} (h : n < 160) : (bits p).take n ++ [.bool b] ++ (bits p).drop (n + 1) = bits (upd p n b) := by
 apply List.ext_getElem?
 intro i
 have hl : ((bits p).take n).length = n := by simp [bits_len]; omega
 by_cases h1 : i < n
 ·rw [List.append_assoc, List.getElem?_append_left (by omega), List.getElem?_take_of_lt h1, bits_get (by omega), bits_get (by omega)]
  simp [upd, show i ≠ n by omega]
 ·by_cases h2 : i = n
  ·subst h2
   rw [List.append_assoc, List.getElem?_append_right (by omega), hl, Nat.sub_self, bits_get h]
   simp [upd]
  ·rw [List.getElem?_append_right (by simp [hl]; omega), List.getElem?_drop]
   simp only [List.length_append, hl, List.length_cons, List.length_nil]
   rw [show n + 1 + (i - (n + (0 + 1))) = i by omega]
   by_cases h3 : i < 160
   ·rw [bits_get h3, bits_get h3]; simp [upd, h2]
   ·rw [List.getElem?_eq_none (by simp [bits_len]; omega), List.getElem?_eq_none (by simp [bits_len]; omega)]
theorem bits_ok (p : Nat → Bool) (m : Nat) : okVs m (bits p) = True := by
 simp only [eq_iff_iff, iff_true]
 simp only [bits]
 generalize List.range 160 = l
 induction l with
 | nil => trivial
 | cons x l ih => exact ⟨trivial, ih⟩
theorem setE_cells (p : Nat → Bool) : (setE p).cells.length = 160 := by simp [setE, AV.cells, bits_len]
theorem bits_congr {p q : Nat → Bool} (h : ∀ n, n < 160 → p n = q n) : bits p = bits q := by
 refine List.map_congr_left fun n hn => ?_
 rw [h n (by simpa using hn)]
theorem both_ok (p q : Nat → Bool) : Pure T 106 [setE p, setE q] (setE fun n => p n && q n) := by
 refine pure_fn (af := a106) rfl (by simp [a106]) dd ?_
 (repeat (first | simp only [↓QA, QB, Nat.reduceLT, reduceIte, Nat.reduceEqDiff, Nat.reduceAdd, Nat.reduceLeDiff, Nat.reduceMul, Nat.reduceBEq, QXRm4, setE_eq, bits_len, bits_cell, bits_take, bits_drop, bits_zero, S_bits, a106] | refine rd0 rfl ?_))
 refine loopE (S := Nat) 0 (fun n => n ≤ 160) (fun n => 160 - n) (fun n => [(2, .ptr 0 0), (3, .ptr 1 0), (4, .ptr 2 0), (5, .ptr 3 0), (6, .int .i64 n)])
  (fun n => [.cells (bits p), .cells (bits q), .cells (bits fun _ => false), .cells (bits fun m => decide (m < n) && (p m && q m))]) (by omega) (by simp) ?_ fun n hn => ?_
 ·try simp only [TrimX, QE, Nat.reduceLT, reduceIte, Nat.reduceEqDiff, Nat.reduceAdd, Nat.reduceLeDiff, Nat.reduceMul, Nat.reduceBEq, QXRm4, setE_eq, bits_len, bits_cell, bits_take, bits_drop, bits_zero, S_bits]
  try simp
 ·(repeat (first | simp only [↓QA, QB, Nat.reduceLT, reduceIte, Nat.reduceEqDiff, Nat.reduceAdd, Nat.reduceLeDiff, Nat.reduceMul, Nat.reduceBEq, QXRm4, setE_eq, bits_len, bits_cell, bits_take, bits_drop, bits_zero, S_bits, L106_0] | refine rd0 rfl ?_))
  refine iteP_intro (fun h => ?_) fun h => ?_
  ·have h1 : n < 160 := by simp at h; omega
   have h2 : n + 1 ≤ 160 := h1
   have hr : (0 : Int) ≤ n ∧ (n : Int) < ((160 : Nat) : Int) := by omega
   have hw := wrapN h1 (by omega)
   (repeat (first | simp only [↓QA, QB, Nat.reduceLT, reduceIte, Nat.reduceEqDiff, Nat.reduceAdd, Nat.reduceLeDiff, Nat.reduceMul, Nat.reduceBEq, QXRm4, setE_eq, bits_len, bits_cell, bits_take, bits_drop, bits_zero, S_bits, h1, h2, hr, bits_get h1] | refine rd0 rfl ?_))
   have e : upd (fun m => decide (m < n) && (p m && q m)) n (p n && q n) = fun m => decide (m < n + 1) && (p m && q m) := by
    funext m
    simp only [upd]
    by_cases hm : m = n
    ·subst hm; simp
    ·simp [hm, show m < n + 1 ↔ m < n by omega]
   cases hp : p n
   all_goals
    rw [hp] at e
    (repeat (first | simp only [↓QA, QB, Nat.reduceLT, reduceIte, Nat.reduceEqDiff, Nat.reduceAdd, Nat.reduceLeDiff, Nat.reduceMul, Nat.reduceBEq, QXRm4, setE_eq, bits_len, bits_cell, bits_take, bits_drop, bits_zero, S_bits, h1, h2, hr, bits_get h1, bits_upd h1, hw] | refine rd0 rfl ?_))
    refine ⟨n + 1, by omega, by omega, ?_⟩
    try simp only [TrimX, QE, Nat.reduceLT, reduceIte, Nat.reduceEqDiff, Nat.reduceAdd, Nat.reduceLeDiff, Nat.reduceMul, Nat.reduceBEq, QXRm4, setE_eq, bits_len, bits_cell, bits_take, bits_drop, bits_zero, S_bits, ← e, bits_upd h1]
    try simp [okBlk, bits_ok]
  ·have h1 : n = 160 := by simp at h; omega
   subst h1
   (repeat (first | simp only [↓QA, QB, Nat.reduceLT, reduceIte, Nat.reduceEqDiff, Nat.reduceAdd, Nat.reduceLeDiff, Nat.reduceMul, Nat.reduceBEq, QXRm4, setE_eq, bits_len, bits_cell, bits_take, bits_drop, bits_zero, S_bits] | refine rd0 rfl ?_))
   have : bits (fun m => decide (m < 160) && (p m && q m)) = bits fun m => p m && q m := bits_congr fun m hm => by simp [hm]
   rw [this]
theorem of_ok (a : Nat) (b : Int) (hb : b < 160) : Pure T 107 [encSpan ⟨a, b⟩] (setE (within ⟨a, b⟩)) := by
 refine pure_fn (af := a107) rfl (by simp [a107]) dd ?_
 (repeat (first | simp only [↓QA, QB, Nat.reduceLT, reduceIte, Nat.reduceEqDiff, Nat.reduceAdd, Nat.reduceLeDiff, Nat.reduceMul, Nat.reduceBEq, QXRm4, setE_eq, bits_len, bits_cell, bits_take, bits_drop, bits_zero, S_bits, a107] | refine rd0 rfl ?_))
 refine loopE (S := Nat) a (fun n => a ≤ n ∧ ((n : Int) ≤ b + 1 ∨ n = a)) (fun n => 160 - n) (fun n => [(1, .ptr 0 0), (2, .ptr 1 0), (3, .ptr 2 0), (4, .int .i64 n)])
  (fun n => [.cells [.int .i64 a, .int .i64 b], .cells (bits fun _ => false), .cells (bits fun m => decide (a ≤ m) && decide (m < n))]) ⟨by omega, by omega⟩ ?_ ?_ fun n hn => ?_
 ·have : (fun m : Nat => decide (a ≤ m) && decide (m < a)) = fun _ => false := by
   funext m; simp
  rw [this]
 ·try simp only [TrimX, QE, Nat.reduceLT, reduceIte, Nat.reduceEqDiff, Nat.reduceAdd, Nat.reduceLeDiff, Nat.reduceMul, Nat.reduceBEq, QXRm4, setE_eq, bits_len, bits_cell, bits_take, bits_drop, bits_zero, S_bits]
  try simp
 ·obtain ⟨hn1, hn2⟩ := hn
  (repeat (first | simp only [↓QA, QB, Nat.reduceLT, reduceIte, Nat.reduceEqDiff, Nat.reduceAdd, Nat.reduceLeDiff, Nat.reduceMul, Nat.reduceBEq, QXRm4, setE_eq, bits_len, bits_cell, bits_take, bits_drop, bits_zero, S_bits, L107_0] | refine rd0 rfl ?_))
  refine iteP_intro (fun h => ?_) fun h => ?_
  ·have h0 : (n : Int) ≤ b := by simpa using h
   have h1 : n < 160 := by omega
   have h2 : n + 1 ≤ 160 := h1
   have hr : (0 : Int) ≤ n ∧ (n : Int) < ((160 : Nat) : Int) := by omega
   have hw := wrapN h1 (by omega)
   have e : upd (fun m => decide (a ≤ m) && decide (m < n)) n true = fun m => decide (a ≤ m) && decide (m < n + 1) := by
    funext m
    simp only [upd]
    by_cases hm : m = n
    ·subst hm; simp [hn1]
    ·simp [hm, show m < n + 1 ↔ m < n by omega]
   (repeat (first | simp only [↓QA, QB, Nat.reduceLT, reduceIte, Nat.reduceEqDiff, Nat.reduceAdd, Nat.reduceLeDiff, Nat.reduceMul, Nat.reduceBEq, QXRm4, setE_eq, bits_len, bits_cell, bits_take, bits_drop, bits_zero, S_bits, h1, h2, hr, bits_get h1, bits_upd h1, hw] | refine rd0 rfl ?_))
   refine ⟨n + 1, ⟨by omega, by omega⟩, by omega, ?_⟩
   try simp only [TrimX, QE, Nat.reduceLT, reduceIte, Nat.reduceEqDiff, Nat.reduceAdd, Nat.reduceLeDiff, Nat.reduceMul, Nat.reduceBEq, QXRm4, setE_eq, bits_len, bits_cell, bits_take, bits_drop, bits_zero, S_bits, ← e]
   try simp [okBlk, bits_ok]
  ·have h0 : ¬ (n : Int) ≤ b := by simpa using h
   (repeat (first | simp only [↓QA, QB, Nat.reduceLT, reduceIte, Nat.reduceEqDiff, Nat.reduceAdd, Nat.reduceLeDiff, Nat.reduceMul, Nat.reduceBEq, QXRm4, setE_eq, bits_len, bits_cell, bits_take, bits_drop, bits_zero, S_bits] | refine rd0 rfl ?_))
   have : bits (fun m => decide (a ≤ m) && decide (m < n)) = bits (within ⟨a, b⟩) := bits_congr fun m hm => by
    simp only [within]
    rcases hn2 with h | h
    ·rw [Bool.eq_iff_iff]; simp; omega
    ·rw [Bool.eq_iff_iff]; simp; omega
   rw [this]
theorem grownTo_succ (p : Nat → Bool) (g : Span) (n m : Nat) : grownTo p g (n + 1) m = (grownTo p g n m || (p n && (decide (g.lo ≤ (m : Int) - n) && decide ((m : Int) - n ≤ g.hi)))) := by
 simp [grownTo, List.range_succ]
theorem grown_ok (p : Nat → Bool) (a : Nat) (b : Int) (hb : b < 160) : Pure T 109 [setE p, encSpan ⟨a, b⟩] (setE (grownTo p ⟨a, b⟩ 160)) := by
 refine pure_fn (af := a109) rfl (by simp [a109]) dd ?_
 (repeat (first | simp only [↓QA, QB, Nat.reduceLT, reduceIte, Nat.reduceEqDiff, Nat.reduceAdd, Nat.reduceLeDiff, Nat.reduceMul, Nat.reduceBEq, QXRm4, setE_eq, bits_len, bits_cell, bits_take, bits_drop, bits_zero, S_bits, a109] | refine rd0 rfl ?_))
 refine loopE (S := Nat) 0 (fun n => n ≤ 160) (fun n => 160 - n) (fun n => [(2, .ptr 0 0), (3, .ptr 1 0), (4, .ptr 2 0), (5, .ptr 3 0), (6, .int .i64 n)])
  (fun n => [.cells (bits p), .cells [.int .i64 a, .int .i64 b], .cells (bits fun _ => false), .cells (bits (grownTo p ⟨a, b⟩ n))]) (by omega) (by rw [show grownTo p ⟨a, b⟩ 0 = fun _ => false from by funext m; simp [grownTo]]) ?_ fun n hn => ?_
 ·try simp only [TrimX, QE, Nat.reduceLT, reduceIte, Nat.reduceEqDiff, Nat.reduceAdd, Nat.reduceLeDiff, Nat.reduceMul, Nat.reduceBEq, QXRm4, setE_eq, bits_len, bits_cell, bits_take, bits_drop, bits_zero, S_bits]
  try simp
 ·(repeat (first | simp only [↓QA, QB, Nat.reduceLT, reduceIte, Nat.reduceEqDiff, Nat.reduceAdd, Nat.reduceLeDiff, Nat.reduceMul, Nat.reduceBEq, QXRm4, setE_eq, bits_len, bits_cell, bits_take, bits_drop, bits_zero, S_bits, L109_0] | refine rd0 rfl ?_))
  refine iteP_intro (fun h => ?_) fun h => ?_
  ·have h1 : n < 160 := by simp at h; omega
   have hr : (0 : Int) ≤ n ∧ (n : Int) < ((160 : Nat) : Int) := by omega
   have hw := wrapN h1 (by omega)
   (repeat (first | simp only [↓QA, QB, Nat.reduceLT, reduceIte, Nat.reduceEqDiff, Nat.reduceAdd, Nat.reduceLeDiff, Nat.reduceMul, Nat.reduceBEq, QXRm4, setE_eq, bits_len, bits_cell, bits_take, bits_drop, bits_zero, S_bits] | refine rd0 rfl ?_))
   refine loopE (S := Nat) a (fun x => a ≤ x ∧ ((x : Int) ≤ b + 1 ∨ x = a) ∧ (p n = false → x = a)) (fun x => 161 - x) (fun x => [(2, .ptr 0 0), (3, .ptr 1 0), (4, .ptr 2 0), (5, .ptr 3 0), (6, .int .i64 n), (7, .int .i64 x)])
    (fun x => [.cells (bits p), .cells [.int .i64 a, .int .i64 b], .cells (bits fun _ => false), .cells (bits fun m => grownTo p ⟨a, b⟩ n m || (p n && (decide ((a : Int) ≤ (m : Int) - n) && decide ((m : Int) - n < x))))]) ⟨by omega, by omega, fun _ => rfl⟩ ?_ ?_ fun x hx => ?_
   ·have : (fun m : Nat => grownTo p ⟨a, b⟩ n m || (p n && (decide ((a : Int) ≤ (m : Int) - n) && decide ((m : Int) - n < (a : Nat))))) = grownTo p ⟨a, b⟩ n := by
     funext m
     have : (decide ((a : Int) ≤ (m : Int) - n) && decide ((m : Int) - n < (a : Nat))) = false := by simp
     rw [this]; simp
    rw [this]
   ·try simp only [TrimX, QE, Nat.reduceLT, reduceIte, Nat.reduceEqDiff, Nat.reduceAdd, Nat.reduceLeDiff, Nat.reduceMul, Nat.reduceBEq, QXRm4, setE_eq, bits_len, bits_cell, bits_take, bits_drop, bits_zero, S_bits]
    try simp
   ·obtain ⟨hx1, hx2, hx3⟩ := hx
    have close : bits (fun m => grownTo p ⟨a, b⟩ n m || (p n && (decide ((a : Int) ≤ (m : Int) - n) && decide ((m : Int) - n < x)))) = bits (grownTo p ⟨a, b⟩ (n + 1)) → True := fun _ => trivial
    (repeat (first | simp only [↓QA, QB, Nat.reduceLT, reduceIte, Nat.reduceEqDiff, Nat.reduceAdd, Nat.reduceLeDiff, Nat.reduceMul, Nat.reduceBEq, QXRm4, setE_eq, bits_len, bits_cell, bits_take, bits_drop, bits_zero, S_bits, L109_2] | refine rd0 rfl ?_))
    by_cases hxb : (x : Int) ≤ b
    ·have g1 : decide ((x : Int) ≤ b) = true := by simpa using hxb
     cases hp : p n
     ·(repeat (first | simp only [↓QA, QB, Nat.reduceLT, reduceIte, Nat.reduceEqDiff, Nat.reduceAdd, Nat.reduceLeDiff, Nat.reduceMul, Nat.reduceBEq, QXRm4, setE_eq, bits_len, bits_cell, bits_take, bits_drop, bits_zero, S_bits, g1, h1, hr, bits_get h1, hp, hw] | refine rd0 rfl ?_))
      refine ⟨n + 1, by omega, by omega, ?_⟩
      have e : bits (fun m : Nat => grownTo p ⟨a, b⟩ n m || (false && (decide ((a : Int) ≤ (m : Int) - n) && decide ((m : Int) - n < (x : Nat))))) = bits (grownTo p ⟨a, b⟩ (n + 1)) := bits_congr fun m hm => by
       rw [grownTo_succ, hp]; simp
      try simp only [TrimX, QE, Nat.reduceLT, reduceIte, Nat.reduceEqDiff, Nat.reduceAdd, Nat.reduceLeDiff, Nat.reduceMul, Nat.reduceBEq, QXRm4, setE_eq, bits_len, bits_cell, bits_take, bits_drop, bits_zero, S_bits, hw]
      first | exact ⟨congrArg ABlk.cells e.symm, .inr (by simp [okBlk, bits_ok])⟩ | exact congrArg ABlk.cells e.symm
     ·have hws : IntKind.i64.wrap ((n : Int) + x) = ((n + x : Nat) : Int) := by rw [wrap64 ⟨by omega, by omega⟩]; omega
      have hwx : IntKind.i64.wrap ((x : Int) + 1) = ((x + 1 : Nat) : Int) := wrapN (show x < 160 by omega) (by omega)
      (repeat (first | simp only [↓QA, QB, Nat.reduceLT, reduceIte, Nat.reduceEqDiff, Nat.reduceAdd, Nat.reduceLeDiff, Nat.reduceMul, Nat.reduceBEq, QXRm4, setE_eq, bits_len, bits_cell, bits_take, bits_drop, bits_zero, S_bits, g1, h1, hr, bits_get h1, hp, hws, hwx] | refine rd0 rfl ?_))
      by_cases hlt : n + x < 160
      ·have g2 : decide (((n + x : Nat) : Int) < 160) = true := by simp; omega
       have g3 : (0 : Int) ≤ ((n + x : Nat) : Int) ∧ ((n + x : Nat) : Int) < ((160 : Nat) : Int) := by omega
       have g4 : n + x + 1 ≤ 160 := hlt
       (repeat (first | simp only [↓QA, QB, Nat.reduceLT, reduceIte, Nat.reduceEqDiff, Nat.reduceAdd, Nat.reduceLeDiff, Nat.reduceMul, Nat.reduceBEq, QXRm4, setE_eq, bits_len, bits_cell, bits_take, bits_drop, bits_zero, S_bits, g2, g3, g4, hws, hwx, bits_upd hlt] | refine rd0 rfl ?_))
       refine ⟨x + 1, ⟨by omega, by omega, by simp⟩, by omega, ?_⟩
       have e : bits (upd (fun m => grownTo p ⟨a, b⟩ n m || (decide ((a : Int) ≤ (m : Int) - n) && decide ((m : Int) - n < x))) (n + x) true) = bits fun m => grownTo p ⟨a, b⟩ n m || (decide ((a : Int) ≤ (m : Int) - n) && decide ((m : Int) - n < ((x + 1 : Nat) : Int))) := bits_congr fun m hm => by
        simp only [upd]
        by_cases hmn : m = n + x
        ·subst hmn; simp; omega
        ·simp only [hmn, if_false]
         have : decide ((m : Int) - n < ((x + 1 : Nat) : Int)) = decide ((m : Int) - n < x) := by simp; omega
         rw [this]
       try simp only [TrimX, QE, Nat.reduceLT, reduceIte, Nat.reduceEqDiff, Nat.reduceAdd, Nat.reduceLeDiff, Nat.reduceMul, Nat.reduceBEq, QXRm4, setE_eq, bits_len, bits_cell, bits_take, bits_drop, bits_zero, S_bits]
       first | exact ⟨congrArg ABlk.cells e.symm, .inr (by simp [okBlk, bits_ok])⟩ | exact congrArg ABlk.cells e.symm
      ·have g2 : decide (((n + x : Nat) : Int) < 160) = false := by simp; omega
       (repeat (first | simp only [↓QA, QB, Nat.reduceLT, reduceIte, Nat.reduceEqDiff, Nat.reduceAdd, Nat.reduceLeDiff, Nat.reduceMul, Nat.reduceBEq, QXRm4, setE_eq, bits_len, bits_cell, bits_take, bits_drop, bits_zero, S_bits, g2, hws, hwx] | refine rd0 rfl ?_))
       refine ⟨x + 1, ⟨by omega, by omega, by simp⟩, by omega, ?_⟩
       have e : bits (fun m => grownTo p ⟨a, b⟩ n m || (decide ((a : Int) ≤ (m : Int) - n) && decide ((m : Int) - n < x))) = bits fun m => grownTo p ⟨a, b⟩ n m || (decide ((a : Int) ≤ (m : Int) - n) && decide ((m : Int) - n < ((x + 1 : Nat) : Int))) := bits_congr fun m hm => by
        have : decide ((m : Int) - n < ((x + 1 : Nat) : Int)) = decide ((m : Int) - n < x) := by simp; omega
        rw [this]
       try simp only [TrimX, QE, Nat.reduceLT, reduceIte, Nat.reduceEqDiff, Nat.reduceAdd, Nat.reduceLeDiff, Nat.reduceMul, Nat.reduceBEq, QXRm4, setE_eq, bits_len, bits_cell, bits_take, bits_drop, bits_zero, S_bits]
       first | exact ⟨congrArg ABlk.cells e.symm, .inr (by simp [okBlk, bits_ok])⟩ | exact congrArg ABlk.cells e.symm
    ·have g1 : decide ((x : Int) ≤ b) = false := by simpa using hxb
     (repeat (first | simp only [↓QA, QB, Nat.reduceLT, reduceIte, Nat.reduceEqDiff, Nat.reduceAdd, Nat.reduceLeDiff, Nat.reduceMul, Nat.reduceBEq, QXRm4, setE_eq, bits_len, bits_cell, bits_take, bits_drop, bits_zero, S_bits, g1, hw] | refine rd0 rfl ?_))
     refine ⟨n + 1, by omega, by omega, ?_⟩
     have e : bits (fun m : Nat => grownTo p ⟨a, b⟩ n m || (p n && (decide ((a : Int) ≤ (m : Int) - n) && decide ((m : Int) - n < (x : Nat))))) = bits (grownTo p ⟨a, b⟩ (n + 1)) := bits_congr fun m hm => by
      rw [grownTo_succ]
      rcases hx2 with h2 | h2
      ·have : decide ((m : Int) - n < (x : Nat)) = decide ((m : Int) - n ≤ b) := by simp; omega
       rw [this]
      ·have : (decide ((a : Int) ≤ (m : Int) - n) && decide ((m : Int) - n < (x : Nat))) = (decide ((a : Int) ≤ (m : Int) - n) && decide ((m : Int) - n ≤ b)) := by rw [Bool.eq_iff_iff]; simp; omega
       rw [this]
     try simp only [TrimX, QE, Nat.reduceLT, reduceIte, Nat.reduceEqDiff, Nat.reduceAdd, Nat.reduceLeDiff, Nat.reduceMul, Nat.reduceBEq, QXRm4, setE_eq, bits_len, bits_cell, bits_take, bits_drop, bits_zero, S_bits, hw]
     first | exact ⟨congrArg ABlk.cells e.symm, .inr (by simp [okBlk, bits_ok])⟩ | exact congrArg ABlk.cells e.symm
  ·have h1 : n = 160 := by simp at h; omega
   subst h1
   (repeat (first | simp only [↓QA, QB, Nat.reduceLT, reduceIte, Nat.reduceEqDiff, Nat.reduceAdd, Nat.reduceLeDiff, Nat.reduceMul, Nat.reduceBEq, QXRm4, setE_eq, bits_len, bits_cell, bits_take, bits_drop, bits_zero, S_bits] | refine rd0 rfl ?_))
theorem shrTo_succ (p : Nat → Bool) (a x n : Nat) (h : a ≤ x) : shrTo p a ((x + 1 : Nat) : Int) n = (shrTo p a x n || (decide (n + x < 160) && p (n + x))) := by
 rw [Bool.eq_iff_iff]
 simp only [shrTo, List.any_eq_true, List.mem_range, Bool.or_eq_true, Bool.and_eq_true, decide_eq_true_eq]
 constructor
 ·rintro ⟨m, h1, h2, h3, h4⟩
  by_cases hm : m = n + x
  ·right; subst hm; exact ⟨h1, h2⟩
  ·left; exact ⟨m, h1, h2, h3, by omega⟩
 ·rintro (⟨m, h1, h2, h3, h4⟩ | ⟨h1, h2⟩)
  ·exact ⟨m, h1, h2, h3, by omega⟩
  ·exact ⟨n + x, h1, h2, by omega, by omega⟩
theorem shrTo_none (p : Nat → Bool) (a x : Int) (n : Nat) (h : x ≤ a) : shrTo p a x n = false := by
 rw [Bool.eq_false_iff]
 intro hh
 simp only [shrTo, List.any_eq_true, List.mem_range, Bool.and_eq_true, decide_eq_true_eq] at hh
 obtain ⟨m, _, _, h3, h4⟩ := hh
 omega
theorem shrunk_ok (p : Nat → Bool) (a : Nat) (b : Int) (hb : b < 160) : Pure T 110 [setE p, encSpan ⟨a, b⟩] (setE (shrunk p ⟨a, b⟩)) := by
 refine pure_fn (af := a110) rfl (by simp [a110]) dd ?_
 (repeat (first | simp only [↓QA, QB, Nat.reduceLT, reduceIte, Nat.reduceEqDiff, Nat.reduceAdd, Nat.reduceLeDiff, Nat.reduceMul, Nat.reduceBEq, QXRm4, setE_eq, bits_len, bits_cell, bits_take, bits_drop, bits_zero, S_bits, a110] | refine rd0 rfl ?_))
 refine loopE (S := Nat) 0 (fun n => n ≤ 160) (fun n => 160 - n) (fun n => [(2, .ptr 0 0), (3, .ptr 1 0), (4, .ptr 2 0), (5, .ptr 3 0), (6, .int .i64 n)])
  (fun n => [.cells (bits p), .cells [.int .i64 a, .int .i64 b], .cells (bits fun _ => false), .cells (bits fun m => decide (m < n) && shrunk p ⟨a, b⟩ m)]) (by omega) (by simp) ?_ fun n hn => ?_
 ·try simp only [TrimX, QE, Nat.reduceLT, reduceIte, Nat.reduceEqDiff, Nat.reduceAdd, Nat.reduceLeDiff, Nat.reduceMul, Nat.reduceBEq, QXRm4, setE_eq, bits_len, bits_cell, bits_take, bits_drop, bits_zero, S_bits]
  try simp
 ·(repeat (first | simp only [↓QA, QB, Nat.reduceLT, reduceIte, Nat.reduceEqDiff, Nat.reduceAdd, Nat.reduceLeDiff, Nat.reduceMul, Nat.reduceBEq, QXRm4, setE_eq, bits_len, bits_cell, bits_take, bits_drop, bits_zero, S_bits, L110_0] | refine rd0 rfl ?_))
  refine iteP_intro (fun h => ?_) fun h => ?_
  ·have h1 : n < 160 := by simp at h; omega
   have h2 : n + 1 ≤ 160 := h1
   have hr : (0 : Int) ≤ n ∧ (n : Int) < ((160 : Nat) : Int) := by omega
   have hw := wrapN h1 (by omega)
   (repeat (first | simp only [↓QA, QB, Nat.reduceLT, reduceIte, Nat.reduceEqDiff, Nat.reduceAdd, Nat.reduceLeDiff, Nat.reduceMul, Nat.reduceBEq, QXRm4, setE_eq, bits_len, bits_cell, bits_take, bits_drop, bits_zero, S_bits] | refine rd0 rfl ?_))
   refine loopE (S := Nat) a (fun x => a ≤ x ∧ ((x : Int) ≤ b + 1 ∨ x = a)) (fun x => 161 - x) (fun x => [(2, .ptr 0 0), (3, .ptr 1 0), (4, .ptr 2 0), (5, .ptr 3 0), (6, .int .i64 n), (7, .int .i64 x)])
    (fun x => [.cells (bits p), .cells [.int .i64 a, .int .i64 b], .cells (bits fun _ => false), .cells (bits fun m => (decide (m < n) && shrunk p ⟨a, b⟩ m) || (decide (m = n) && shrTo p a x n))]) ⟨by omega, by omega⟩ ?_ ?_ fun x hx => ?_
   ·have : (fun m : Nat => (decide (m < n) && shrunk p ⟨a, b⟩ m) || (decide (m = n) && shrTo p a (a : Nat) n)) = fun m => decide (m < n) && shrunk p ⟨a, b⟩ m := by
     funext m
     rw [shrTo_none p a a n (by omega)]; simp
    rw [this]
   ·try simp only [TrimX, QE, Nat.reduceLT, reduceIte, Nat.reduceEqDiff, Nat.reduceAdd, Nat.reduceLeDiff, Nat.reduceMul, Nat.reduceBEq, QXRm4, setE_eq, bits_len, bits_cell, bits_take, bits_drop, bits_zero, S_bits]
    try simp
   ·obtain ⟨hx1, hx2⟩ := hx
    (repeat (first | simp only [↓QA, QB, Nat.reduceLT, reduceIte, Nat.reduceEqDiff, Nat.reduceAdd, Nat.reduceLeDiff, Nat.reduceMul, Nat.reduceBEq, QXRm4, setE_eq, bits_len, bits_cell, bits_take, bits_drop, bits_zero, S_bits, L110_2] | refine rd0 rfl ?_))
    by_cases hxb : (x : Int) ≤ b
    ·have g1 : decide ((x : Int) ≤ b) = true := by simpa using hxb
     have hws : IntKind.i64.wrap ((n : Int) + x) = ((n + x : Nat) : Int) := by rw [wrap64 ⟨by omega, by omega⟩]; omega
     have hwx : IntKind.i64.wrap ((x : Int) + 1) = ((x + 1 : Nat) : Int) := wrapN (show x < 160 by omega) (by omega)
     have hss := shrTo_succ p a x n hx1
     (repeat (first | simp only [↓QA, QB, Nat.reduceLT, reduceIte, Nat.reduceEqDiff, Nat.reduceAdd, Nat.reduceLeDiff, Nat.reduceMul, Nat.reduceBEq, QXRm4, setE_eq, bits_len, bits_cell, bits_take, bits_drop, bits_zero, S_bits, g1, hws, hwx] | refine rd0 rfl ?_))
     by_cases hlt : n + x < 160
     ·have g2 : decide (((n + x : Nat) : Int) < 160) = true := by simp; omega
      have g3 : (0 : Int) ≤ ((n + x : Nat) : Int) ∧ ((n + x : Nat) : Int) < ((160 : Nat) : Int) := by omega
      (repeat (first | simp only [↓QA, QB, Nat.reduceLT, reduceIte, Nat.reduceEqDiff, Nat.reduceAdd, Nat.reduceLeDiff, Nat.reduceMul, Nat.reduceBEq, QXRm4, setE_eq, bits_len, bits_cell, bits_take, bits_drop, bits_zero, S_bits, g2, g3, hws, hwx, bits_get hlt] | refine rd0 rfl ?_))
      cases hp : p (n + x)
      ·(repeat (first | simp only [↓QA, QB, Nat.reduceLT, reduceIte, Nat.reduceEqDiff, Nat.reduceAdd, Nat.reduceLeDiff, Nat.reduceMul, Nat.reduceBEq, QXRm4, setE_eq, bits_len, bits_cell, bits_take, bits_drop, bits_zero, S_bits, hwx] | refine rd0 rfl ?_))
       refine ⟨x + 1, ⟨by omega, by omega⟩, by omega, ?_⟩
       have e : bits (fun m => (decide (m < n) && shrunk p ⟨a, b⟩ m) || (decide (m = n) && shrTo p a x n)) = bits fun m => (decide (m < n) && shrunk p ⟨a, b⟩ m) || (decide (m = n) && shrTo p a ((x + 1 : Nat) : Int) n) := bits_congr fun m hm => by
        rw [hss, hp]; simp
       try simp only [TrimX, QE, Nat.reduceLT, reduceIte, Nat.reduceEqDiff, Nat.reduceAdd, Nat.reduceLeDiff, Nat.reduceMul, Nat.reduceBEq, QXRm4, setE_eq, bits_len, bits_cell, bits_take, bits_drop, bits_zero, S_bits]
       first | exact ⟨congrArg ABlk.cells e.symm, .inr (by simp [okBlk, bits_ok])⟩ | exact congrArg ABlk.cells e.symm
      ·(repeat (first | simp only [↓QA, QB, Nat.reduceLT, reduceIte, Nat.reduceEqDiff, Nat.reduceAdd, Nat.reduceLeDiff, Nat.reduceMul, Nat.reduceBEq, QXRm4, setE_eq, bits_len, bits_cell, bits_take, bits_drop, bits_zero, S_bits, h1, h2, hr, hwx, bits_upd h1] | refine rd0 rfl ?_))
       refine ⟨x + 1, ⟨by omega, by omega⟩, by omega, ?_⟩
       have e : bits (upd (fun m => (decide (m < n) && shrunk p ⟨a, b⟩ m) || (decide (m = n) && shrTo p a x n)) n true) = bits fun m => (decide (m < n) && shrunk p ⟨a, b⟩ m) || (decide (m = n) && shrTo p a ((x + 1 : Nat) : Int) n) := bits_congr fun m hm => by
        rw [hss, hp]
        simp only [upd]
        by_cases hmn : m = n
        ·simp [hmn, hlt]
        ·simp [hmn]
       try simp only [TrimX, QE, Nat.reduceLT, reduceIte, Nat.reduceEqDiff, Nat.reduceAdd, Nat.reduceLeDiff, Nat.reduceMul, Nat.reduceBEq, QXRm4, setE_eq, bits_len, bits_cell, bits_take, bits_drop, bits_zero, S_bits]
       first | exact ⟨congrArg ABlk.cells e.symm, .inr (by simp [okBlk, bits_ok])⟩ | exact congrArg ABlk.cells e.symm
     ·have g2 : decide (((n + x : Nat) : Int) < 160) = false := by simp; omega
      (repeat (first | simp only [↓QA, QB, Nat.reduceLT, reduceIte, Nat.reduceEqDiff, Nat.reduceAdd, Nat.reduceLeDiff, Nat.reduceMul, Nat.reduceBEq, QXRm4, setE_eq, bits_len, bits_cell, bits_take, bits_drop, bits_zero, S_bits, g2, hws, hwx] | refine rd0 rfl ?_))
      refine ⟨x + 1, ⟨by omega, by omega⟩, by omega, ?_⟩
      have e : bits (fun m => (decide (m < n) && shrunk p ⟨a, b⟩ m) || (decide (m = n) && shrTo p a x n)) = bits fun m => (decide (m < n) && shrunk p ⟨a, b⟩ m) || (decide (m = n) && shrTo p a ((x + 1 : Nat) : Int) n) := bits_congr fun m hm => by
       rw [hss]; simp [hlt]
      try simp only [TrimX, QE, Nat.reduceLT, reduceIte, Nat.reduceEqDiff, Nat.reduceAdd, Nat.reduceLeDiff, Nat.reduceMul, Nat.reduceBEq, QXRm4, setE_eq, bits_len, bits_cell, bits_take, bits_drop, bits_zero, S_bits]
      first | exact ⟨congrArg ABlk.cells e.symm, .inr (by simp [okBlk, bits_ok])⟩ | exact congrArg ABlk.cells e.symm
    ·have g1 : decide ((x : Int) ≤ b) = false := by simpa using hxb
     (repeat (first | simp only [↓QA, QB, Nat.reduceLT, reduceIte, Nat.reduceEqDiff, Nat.reduceAdd, Nat.reduceLeDiff, Nat.reduceMul, Nat.reduceBEq, QXRm4, setE_eq, bits_len, bits_cell, bits_take, bits_drop, bits_zero, S_bits, g1, hw] | refine rd0 rfl ?_))
     refine ⟨n + 1, by omega, by omega, ?_⟩
     have e : bits (fun m => (decide (m < n) && shrunk p ⟨a, b⟩ m) || (decide (m = n) && shrTo p a x n)) = bits fun m => decide (m < n + 1) && shrunk p ⟨a, b⟩ m := bits_congr fun m hm => by
      have hs : shrTo p a x n = shrunk p ⟨a, b⟩ n := by
       rcases hx2 with h2 | h2
       ·rw [shrunk, show (x : Int) = b + 1 by omega]
       ·rw [shrunk, shrTo_none _ _ _ _ (by omega), shrTo_none _ _ _ _ (by simp only; omega)]
      rw [hs]
      by_cases hmn : m = n
      ·subst hmn; simp
      ·simp [hmn, show m < n + 1 ↔ m < n by omega]
     try simp only [TrimX, QE, Nat.reduceLT, reduceIte, Nat.reduceEqDiff, Nat.reduceAdd, Nat.reduceLeDiff, Nat.reduceMul, Nat.reduceBEq, QXRm4, setE_eq, bits_len, bits_cell, bits_take, bits_drop, bits_zero, S_bits, hw]
     first | exact ⟨congrArg ABlk.cells e.symm, .inr (by simp [okBlk, bits_ok])⟩ | exact congrArg ABlk.cells e.symm
  ·have h1 : n = 160 := by simp at h; omega
   subst h1
   (repeat (first | simp only [↓QA, QB, Nat.reduceLT, reduceIte, Nat.reduceEqDiff, Nat.reduceAdd, Nat.reduceLeDiff, Nat.reduceMul, Nat.reduceBEq, QXRm4, setE_eq, bits_len, bits_cell, bits_take, bits_drop, bits_zero, S_bits] | refine rd0 rfl ?_))
   have : bits (fun m => decide (m < 160) && shrunk p ⟨a, b⟩ m) = bits (shrunk p ⟨a, b⟩) := bits_congr fun m hm => by simp [hm]
   rw [this]
def encEnds (x : Span × Bool) : AV := .tuple [encSpan x.1, .bool x.2]
theorem setends_ok (p : Nat → Bool) : Pure T 52 [setE p] (encEnds (joinTo p 160, decide (0 ≤ (joinTo p 160).hi))) := by
 refine pure_fn (af := a52) rfl (by simp [a52]) dd ?_
 (repeat (first | simp only [↓QA, QB, Nat.reduceLT, reduceIte, Nat.reduceEqDiff, Nat.reduceAdd, Nat.reduceLeDiff, Nat.reduceMul, Nat.reduceBEq, QXRm4, setE_eq, bits_len, bits_cell, bits_take, bits_drop, bits_zero, S_bits, a52] | refine rd0 rfl ?_))
 refine loopE (S := Nat) 0 (fun n => n ≤ 160) (fun n => 160 - n) (fun n => [(1, .ptr 0 0), (2, .ptr 1 0), (4, .ptr 2 0), (5, .int .i64 n)])
  (fun n => [.cells (bits p), .cells [.int .i64 0, .int .i64 0], .cells [.int .i64 (joinTo p n).lo, .int .i64 (joinTo p n).hi]]) (by omega) (by simp [joinTo]) ?_ fun n hn => ?_
 ·try simp only [TrimX, QE, Nat.reduceLT, reduceIte, Nat.reduceEqDiff, Nat.reduceAdd, Nat.reduceLeDiff, Nat.reduceMul, Nat.reduceBEq, QXRm4, setE_eq, bits_len, bits_cell, bits_take, bits_drop, bits_zero, S_bits]
  try simp
 ·(repeat (first | simp only [↓QA, QB, Nat.reduceLT, reduceIte, Nat.reduceEqDiff, Nat.reduceAdd, Nat.reduceLeDiff, Nat.reduceMul, Nat.reduceBEq, QXRm4, setE_eq, bits_len, bits_cell, bits_take, bits_drop, bits_zero, S_bits, L52_0] | refine rd0 rfl ?_))
  refine iteP_intro (fun h => ?_) fun h => ?_
  ·have h1 : n < 160 := by simp at h; omega
   have hr : (0 : Int) ≤ n ∧ (n : Int) < ((160 : Nat) : Int) := by omega
   have hw := wrapN h1 (by omega)
   (repeat (first | simp only [↓QA, QB, Nat.reduceLT, reduceIte, Nat.reduceEqDiff, Nat.reduceAdd, Nat.reduceLeDiff, Nat.reduceMul, Nat.reduceBEq, QXRm4, setE_eq, bits_len, bits_cell, bits_take, bits_drop, bits_zero, S_bits, h1, hr, bits_get h1] | refine rd0 rfl ?_))
   cases hp : p n
   ·(repeat (first | simp only [↓QA, QB, Nat.reduceLT, reduceIte, Nat.reduceEqDiff, Nat.reduceAdd, Nat.reduceLeDiff, Nat.reduceMul, Nat.reduceBEq, QXRm4, setE_eq, bits_len, bits_cell, bits_take, bits_drop, bits_zero, S_bits, hw] | refine rd0 rfl ?_))
    refine ⟨n + 1, by omega, by omega, ?_⟩
    try simp only [TrimX, QE, Nat.reduceLT, reduceIte, Nat.reduceEqDiff, Nat.reduceAdd, Nat.reduceLeDiff, Nat.reduceMul, Nat.reduceBEq, QXRm4, setE_eq, bits_len, bits_cell, bits_take, bits_drop, bits_zero, S_bits, hw, joinTo, hp]
    try simp [okBlk, okVs, okV]
   ·(repeat (first | simp only [↓QA, QB, Nat.reduceLT, reduceIte, Nat.reduceEqDiff, Nat.reduceAdd, Nat.reduceLeDiff, Nat.reduceMul, Nat.reduceBEq, QXRm4, setE_eq, bits_len, bits_cell, bits_take, bits_drop, bits_zero, S_bits] | refine rd0 rfl ?_))
    ((first | refine callK_d (join_ok (joinTo p n) n) rfl dd ?_ | refine callD_d (join_ok (joinTo p n) n) rfl dd ?_); (repeat (first | simp only [↓QA, QB, Nat.reduceLT, reduceIte, Nat.reduceEqDiff, Nat.reduceAdd, Nat.reduceLeDiff, Nat.reduceMul, Nat.reduceBEq, QXRm4, setE_eq, bits_len, bits_cell, bits_take, bits_drop, bits_zero, S_bits, hw] | refine rd0 rfl ?_)))
    refine ⟨n + 1, by omega, by omega, ?_⟩
    try simp only [TrimX, QE, Nat.reduceLT, reduceIte, Nat.reduceEqDiff, Nat.reduceAdd, Nat.reduceLeDiff, Nat.reduceMul, Nat.reduceBEq, QXRm4, setE_eq, bits_len, bits_cell, bits_take, bits_drop, bits_zero, S_bits, hw, joinTo, hp]
    try simp [okBlk, okVs, okV]
  ·have h1 : n = 160 := by simp at h; omega
   subst h1
   (repeat (first | simp only [↓QA, QB, Nat.reduceLT, reduceIte, Nat.reduceEqDiff, Nat.reduceAdd, Nat.reduceLeDiff, Nat.reduceMul, Nat.reduceBEq, QXRm4, setE_eq, bits_len, bits_cell, bits_take, bits_drop, bits_zero, S_bits, encEnds] | refine rd0 rfl ?_))
theorem colour_ok (n : Int) (h0 : 0 ≤ n) (h1 : n < 9223372036854775808) : Pure T 41 [.int .i64 n] (.int .i64 (colourOf n)) := by
 refine pure_fn (af := a41) rfl (by simp [a41]) dd ?_
 have e : n.tdiv 10 = n / 10 := Int.tdiv_eq_ediv_of_nonneg h0
 (repeat (first | simp only [↓QA, QB, Nat.reduceLT, reduceIte, Nat.reduceEqDiff, Nat.reduceAdd, Nat.reduceLeDiff, Nat.reduceMul, Nat.reduceBEq, QXRm4, setE_eq, bits_len, bits_cell, bits_take, bits_drop, bits_zero, S_bits, a41, V_quo _ _ _ (show (10 : Int) ≠ 0 by decide), e, wrap64 (show -9223372036854775808 ≤ n / 10 ∧ n / 10 ≤ 9223372036854775807 by omega), wrap64 (show -9223372036854775808 ≤ 1 + n / 10 ∧ 1 + n / 10 ≤ 9223372036854775807 by omega), colourOf] | refine rd0 rfl ?_))
theorem seen_ok (r : Rm) (day : Int) (but : List Int) (h : Fits r) (hb : but.length < 9223372036854775808) : Pure T 108 [encRoom r, .int .i64 day, ints but] (setE (seenP r.looks day but)) := by
 refine pure_fn (af := a108) rfl (by simp [a108]) dd ?_
 have hfl := h.looks
 (repeat (first | simp only [↓QA, QB, Nat.reduceLT, reduceIte, Nat.reduceEqDiff, Nat.reduceAdd, Nat.reduceLeDiff, Nat.reduceMul, Nat.reduceBEq, QXRm4, setE_eq, bits_len, bits_cell, bits_take, bits_drop, bits_zero, S_bits, a108] | refine rd0 rfl ?_))
 refine loopE (S := Nat) 0 (fun n => n ≤ 160) (fun n => 160 - n) (fun n => [(1, .int .i64 day), (2, ints but), (3, .ptr 0 0), (6, .ptr 1 0), (7, .ptr 2 0), (8, .int .i64 n)])
  (fun n => [.cells (roomCells r), .cells (bits fun _ => false), .cells (bits fun m => decide (m < n) && seenP r.looks day but m)]) (by omega) (by simp [roomCells, ints]) ?_ fun n hn => ?_
 ·try simp only [TrimX, QE, Nat.reduceLT, reduceIte, Nat.reduceEqDiff, Nat.reduceAdd, Nat.reduceLeDiff, Nat.reduceMul, Nat.reduceBEq, QXRm4, setE_eq, bits_len, bits_cell, bits_take, bits_drop, bits_zero, S_bits]
  try simp
 ·(repeat (first | simp only [↓QA, QB, Nat.reduceLT, reduceIte, Nat.reduceEqDiff, Nat.reduceAdd, Nat.reduceLeDiff, Nat.reduceMul, Nat.reduceBEq, QXRm4, setE_eq, bits_len, bits_cell, bits_take, bits_drop, bits_zero, S_bits, L108_0] | refine rd0 rfl ?_))
  refine iteP_intro (fun hd => ?_) fun hd => ?_
  ·have h1 : n < 160 := by simp at hd; omega
   have h2 : n + 1 ≤ 160 := h1
   have hr : (0 : Int) ≤ n ∧ (n : Int) < ((160 : Nat) : Int) := by omega
   have hw := wrapN h1 (by omega)
   (repeat (first | simp only [↓QA, QB, Nat.reduceLT, reduceIte, Nat.reduceEqDiff, Nat.reduceAdd, Nat.reduceLeDiff, Nat.reduceMul, Nat.reduceBEq, QXRm4, setE_eq, bits_len, bits_cell, bits_take, bits_drop, bits_zero, S_bits] | refine rd0 rfl ?_))
   refine loopE (S := Nat × Bool) (0, true) (fun s => s.1 ≤ r.looks.length ∧ (s.2 && soFrom day but (colourOf n) (r.looks.drop s.1) s.1) = seenP r.looks day but n) (fun s => r.looks.length - s.1)
    (fun s => [(1, .int .i64 day), (2, ints but), (3, .ptr 0 0), (6, .ptr 1 0), (7, .ptr 2 0), (8, .int .i64 n), (9, .bool s.2), (10, .int .i64 s.1)])
    (fun s => [.cells (roomCells r), .cells (bits fun _ => false), .cells (bits fun m => decide (m < n) && seenP r.looks day but m)]) ⟨by simp, by simp [seenP]⟩ (by simp [roomCells, ints]) ?_ fun s hs => ?_
   ·try simp only [TrimX, QE, Nat.reduceLT, reduceIte, Nat.reduceEqDiff, Nat.reduceAdd, Nat.reduceLeDiff, Nat.reduceMul, Nat.reduceBEq, QXRm4, setE_eq, bits_len, bits_cell, bits_take, bits_drop, bits_zero, S_bits]
    try simp
   ·obtain ⟨i, so⟩ := s
    obtain ⟨hi, hso⟩ := hs
    simp only at hi hso
    (repeat (first | simp only [↓QA, QB, Nat.reduceLT, reduceIte, Nat.reduceEqDiff, Nat.reduceAdd, Nat.reduceLeDiff, Nat.reduceMul, Nat.reduceBEq, QXRm4, setE_eq, bits_len, bits_cell, bits_take, bits_drop, bits_zero, S_bits, L108_2] | refine rd0 rfl ?_))
    refine iteP_intro (fun hd2 => ?_) fun hd2 => ?_
    ·have hi1 : i < r.looks.length := by simpa using hd2
     have hwi := wrapN hi1 hfl
     rw [List.drop_eq_getElem_cons hi1] at hso
     simp only [soFrom] at hso
     (repeat (first | simp only [↓QA, QB, Nat.reduceLT, reduceIte, Nat.reduceEqDiff, Nat.reduceAdd, Nat.reduceLeDiff, Nat.reduceMul, Nat.reduceBEq, QXRm4, setE_eq, bits_len, bits_cell, bits_take, bits_drop, bits_zero, S_bits, hi1] | refine rd0 rfl ?_))
     cases hq : (r.looks[i].day == day)
     ·(repeat (first | simp only [↓QA, QB, Nat.reduceLT, reduceIte, Nat.reduceEqDiff, Nat.reduceAdd, Nat.reduceLeDiff, Nat.reduceMul, Nat.reduceBEq, QXRm4, setE_eq, bits_len, bits_cell, bits_take, bits_drop, bits_zero, S_bits, hwi, hi1] | refine rd0 rfl ?_))
      refine ⟨(i + 1, so), ⟨by simp only; omega, by rw [← hso, hq]; simp⟩, by simp only; omega, ?_⟩
      try simp only [TrimX, QE, Nat.reduceLT, reduceIte, Nat.reduceEqDiff, Nat.reduceAdd, Nat.reduceLeDiff, Nat.reduceMul, Nat.reduceBEq, QXRm4, setE_eq, bits_len, bits_cell, bits_take, bits_drop, bits_zero, S_bits, hwi]
      try simp
     ·(repeat (first | simp only [↓QA, QB, Nat.reduceLT, reduceIte, Nat.reduceEqDiff, Nat.reduceAdd, Nat.reduceLeDiff, Nat.reduceMul, Nat.reduceBEq, QXRm4, setE_eq, bits_len, bits_cell, bits_take, bits_drop, bits_zero, S_bits, hi1] | refine rd0 rfl ?_))
      ((first | refine callK_d (has_ok but (i : Int) hb) rfl dd ?_ | refine callD_d (has_ok but (i : Int) hb) rfl dd ?_); (repeat (first | simp only [↓QA, QB, Nat.reduceLT, reduceIte, Nat.reduceEqDiff, Nat.reduceAdd, Nat.reduceLeDiff, Nat.reduceMul, Nat.reduceBEq, QXRm4, setE_eq, bits_len, bits_cell, bits_take, bits_drop, bits_zero, S_bits] | refine rd0 rfl ?_)))
      cases hq2 : but.contains (i : Int)
      ·(repeat (first | simp only [↓QA, QB, Nat.reduceLT, reduceIte, Nat.reduceEqDiff, Nat.reduceAdd, Nat.reduceLeDiff, Nat.reduceMul, Nat.reduceBEq, QXRm4, setE_eq, bits_len, bits_cell, bits_take, bits_drop, bits_zero, S_bits, hi1] | refine rd0 rfl ?_))
       cases so with
       | false =>
        (repeat (first | simp only [↓QA, QB, Nat.reduceLT, reduceIte, Nat.reduceEqDiff, Nat.reduceAdd, Nat.reduceLeDiff, Nat.reduceMul, Nat.reduceBEq, QXRm4, setE_eq, bits_len, bits_cell, bits_take, bits_drop, bits_zero, S_bits, hi1, hwi] | refine rd0 rfl ?_))
        refine ⟨(i + 1, false), ⟨by simp only; omega, by rw [← hso]; simp⟩, by simp only; omega, ?_⟩
        try simp only [TrimX, QE, Nat.reduceLT, reduceIte, Nat.reduceEqDiff, Nat.reduceAdd, Nat.reduceLeDiff, Nat.reduceMul, Nat.reduceBEq, QXRm4, setE_eq, bits_len, bits_cell, bits_take, bits_drop, bits_zero, S_bits, hwi]
        try simp
       | true =>
        (repeat (first | simp only [↓QA, QB, Nat.reduceLT, reduceIte, Nat.reduceEqDiff, Nat.reduceAdd, Nat.reduceLeDiff, Nat.reduceMul, Nat.reduceBEq, QXRm4, setE_eq, bits_len, bits_cell, bits_take, bits_drop, bits_zero, S_bits, hi1] | refine rd0 rfl ?_))
        ((first | refine callK_d (colour_ok (n : Int) (by omega) (by omega)) rfl dd ?_ | refine callD_d (colour_ok (n : Int) (by omega) (by omega)) rfl dd ?_); (repeat (first | simp only [↓QA, QB, Nat.reduceLT, reduceIte, Nat.reduceEqDiff, Nat.reduceAdd, Nat.reduceLeDiff, Nat.reduceMul, Nat.reduceBEq, QXRm4, setE_eq, bits_len, bits_cell, bits_take, bits_drop, bits_zero, S_bits, hi1, hwi] | refine rd0 rfl ?_)))
        refine ⟨(i + 1, r.looks[i].colour == colourOf n), ⟨by simp only; omega, by rw [← hso, hq, hq2]; simp⟩, by simp only; omega, ?_⟩
        try simp only [TrimX, QE, Nat.reduceLT, reduceIte, Nat.reduceEqDiff, Nat.reduceAdd, Nat.reduceLeDiff, Nat.reduceMul, Nat.reduceBEq, QXRm4, setE_eq, bits_len, bits_cell, bits_take, bits_drop, bits_zero, S_bits, hwi]
        try simp
      ·(repeat (first | simp only [↓QA, QB, Nat.reduceLT, reduceIte, Nat.reduceEqDiff, Nat.reduceAdd, Nat.reduceLeDiff, Nat.reduceMul, Nat.reduceBEq, QXRm4, setE_eq, bits_len, bits_cell, bits_take, bits_drop, bits_zero, S_bits, hwi] | refine rd0 rfl ?_))
       refine ⟨(i + 1, so), ⟨by simp only; omega, by rw [← hso, hq, hq2]; simp⟩, by simp only; omega, ?_⟩
       try simp only [TrimX, QE, Nat.reduceLT, reduceIte, Nat.reduceEqDiff, Nat.reduceAdd, Nat.reduceLeDiff, Nat.reduceMul, Nat.reduceBEq, QXRm4, setE_eq, bits_len, bits_cell, bits_take, bits_drop, bits_zero, S_bits, hwi]
       try simp
    ·have hi1 : i = r.looks.length := by simp at hd2; omega
     have hv : so = seenP r.looks day but n := by rw [← hso, hi1, List.drop_length]; simp [soFrom]
     (repeat (first | simp only [↓QA, QB, Nat.reduceLT, reduceIte, Nat.reduceEqDiff, Nat.reduceAdd, Nat.reduceLeDiff, Nat.reduceMul, Nat.reduceBEq, QXRm4, setE_eq, bits_len, bits_cell, bits_take, bits_drop, bits_zero, S_bits, h1, h2, hr, hw, bits_upd h1] | refine rd0 rfl ?_))
     refine ⟨n + 1, by omega, by omega, ?_⟩
     have e : bits (upd (fun m => decide (m < n) && seenP r.looks day but m) n so) = bits fun m => decide (m < n + 1) && seenP r.looks day but m := bits_congr fun m hm => by
      simp only [upd]
      by_cases hmn : m = n
      ·simp [hmn, hv]
      ·simp [hmn, show m < n + 1 ↔ m < n by omega]
     try simp only [TrimX, QE, Nat.reduceLT, reduceIte, Nat.reduceEqDiff, Nat.reduceAdd, Nat.reduceLeDiff, Nat.reduceMul, Nat.reduceBEq, QXRm4, setE_eq, bits_len, bits_cell, bits_take, bits_drop, bits_zero, S_bits, hw]
     first | exact ⟨congrArg ABlk.cells e.symm, .inr (by simp [okBlk, bits_ok])⟩ | exact congrArg ABlk.cells e.symm
  ·have h1 : n = 160 := by simp at hd; omega
   subst h1
   (repeat (first | simp only [↓QA, QB, Nat.reduceLT, reduceIte, Nat.reduceEqDiff, Nat.reduceAdd, Nat.reduceLeDiff, Nat.reduceMul, Nat.reduceBEq, QXRm4, setE_eq, bits_len, bits_cell, bits_take, bits_drop, bits_zero, S_bits] | refine rd0 rfl ?_))
   have : bits (fun m => decide (m < 160) && seenP r.looks day but m) = bits (seenP r.looks day but) := bits_congr fun m hm => by simp [hm]
   rw [this]
end Go.Am.Room
set_option maxRecDepth 4000
namespace Go.Am.Room
def QXRm5 := And.intro @setE_eq (And.intro @bits_len (And.intro @bits_cell (And.intro @bits_take (And.intro @bits_drop (And.intro @bits_zero (And.intro @Nat.mul_one (And.intro @Int.toNat_natCast (And.intro @encRoom_eq (And.intro @roomCells_eq (And.intro @encSetting_eq (And.intro @encLook_eq (And.intro @encSpan_eq (@S_bits)))))))))))))
theorem of_s (s : Span) (h0 : 0 ≤ s.lo) (hb : s.hi < 160) : Pure T 107 [encSpan s] (setE (within s)) := by
 obtain ⟨lo, hi⟩ := s
 obtain ⟨a, rfl⟩ := Int.eq_ofNat_of_zero_le h0
 exact of_ok a hi hb
theorem grown_s (p : Nat → Bool) (s : Span) (h0 : 0 ≤ s.lo) (hb : s.hi < 160) : Pure T 109 [setE p, encSpan s] (setE (grownTo p s 160)) := by
 obtain ⟨lo, hi⟩ := s
 obtain ⟨a, rfl⟩ := Int.eq_ofNat_of_zero_le h0
 exact grown_ok p a hi hb
theorem shrunk_s (p : Nat → Bool) (s : Span) (h0 : 0 ≤ s.lo) (hb : s.hi < 160) : Pure T 110 [setE p, encSpan s] (setE (shrunk p s)) := by
 obtain ⟨lo, hi⟩ := s
 obtain ⟨a, rfl⟩ := Int.eq_ofNat_of_zero_le h0
 exact shrunk_ok p a hi hb
def encDays (ps : List (Nat → Bool)) : AV := .lit (ps.map setE) false none
def daysOf (r : Rm) (but : List Int) : List (Nat → Bool) := (List.range (r.ran.length + 1)).map (dayB r but)
theorem data_days (ps : List (Nat → Bool)) : Data (encDays ps) := data_list data_set ps
instance (ps : List (Nat → Bool)) : Dat (encDays ps) := ⟨data_days ps⟩
theorem S_mapE (σ : St) (m d : Nat) (ps : List (Nat → Bool)) : snapMs σ m d (ps.map setE) = some (ps.map setE) := S_datas (datas_map data_set ps) σ m d
theorem allCells_set (ps : List (Nat → Bool)) : allCells 160 (ps.map setE) = true := L_allM 160 setE ps fun p => by rw [setE_eq, C_agg, bits_len, bits_cell]; rfl
theorem flatL_cells : ∀ ps : List (Nat → Bool), (ps.map setE).flatMap AV.cells = flatL ps
 | [] => rfl
 | p :: ps => by simp only [List.map_cons, List.flatMap_cons, flatL, flatL_cells ps, setE, AV.cells]
theorem flatL_len : ∀ ps : List (Nat → Bool), (flatL ps).length = ps.length * 160
 | [] => rfl
 | p :: ps => by
  have := flatL_len ps
  simp only [flatL, List.flatMap_cons, List.length_append, bits_len, List.length_cons, Nat.add_mul] at this ⊢
  omega
theorem flatL_take : ∀ (ps : List (Nat → Bool)) (i : Nat), (flatL ps).take (i * 160) = flatL (ps.take i)
 | ps, 0 => by simp [flatL]
 | [], i + 1 => by simp [flatL]
 | p :: ps, i + 1 => by
  have ih := flatL_take ps i
  simp only [flatL, List.flatMap_cons, List.take_succ_cons] at ih ⊢
  rw [show (i + 1) * 160 = (bits p).length + i * 160 by rw [bits_len]; omega, List.take_append, List.take_of_length_le (by omega), Nat.add_sub_cancel_left, ih]
theorem flatL_set {ps : List (Nat → Bool)} {i : Nat} {q : Nat → Bool} (h : i < ps.length) : (flatL ps).take (i * 160) ++ bits q ++ (flatL ps).drop (i * 160 + 160) = flatL (ps.set i q) := by
 rw [show i * 160 + 160 = (i + 1) * 160 by omega, flatL_take, flatL_drop, List.set_eq_take_append_cons_drop, if_pos h]
 simp [flatL]
theorem view_flat (b : ABlk) (ps : List (Nat → Bool)) : view [b, .cells (flatL ps)] (.ref 1 0 ps.length 160) = some (ps.map setE) := by
 simp only [view, cellsAt, List.getElem?_cons_succ, List.getElem?_cons_zero, List.drop_zero]
 rw [if_pos (by rw [flatL_len]; omega), chop_flat]
def listF (r : Rm) (but : List Int) (d : Nat) : List (Nat → Bool) := (List.range (d + 1)).map (dayF r but)
theorem listF_len (r : Rm) (but : List Int) (d : Nat) : (listF r but d).length = d + 1 := by simp [listF]
theorem listF_succ (r : Rm) (but : List Int) (d : Nat) : listF r but (d + 1) = listF r but d ++ [dayF r but (d + 1)] := by
 simp [listF, List.range_succ]
theorem listF_get {r : Rm} {but : List Int} {d : Nat} (h : d < (listF r but d).length) : (listF r but d)[d] = dayF r but d := by simp [listF]
theorem append_set {k : Nat} {ps : List (Nat → Bool)} {q : Nat → Bool} {b : ABlk} {ex : Bool} (hk : ps.length = k) (hn : k < 100) :
  appendAV 160 160 [b, .tok 160 k ex] (.lit (ps.map setE) false (some 1)) (.lit [.agg (bits q)] true none) = some (.lit (ps.map setE ++ [.agg (bits q)]) false (some 1), [b, .tok 160 (k + 1) true]) := by
 have h1 := app_tok (sz := 160) (b := 160) (σ := [b, .tok 160 k ex]) (xs := ps.map setE) (ys := [.agg (bits q)]) (t := 1) (tk := none) (f := true) (ex := ex)
  ⟨allCells_set ps, by rw [L_all1, L_all0, C_agg, bits_len, bits_cell]; rfl, by simp [room, hk]; omega, by simp [room, hk]; omega⟩ (by simp) (by simp [hk])
 rw [h1]
 simp [hk]
theorem days_first (r : Rm) (but : List Int) (hv : Vd r) (hf : Fits r) (hb : but.length < 9223372036854775808) (K : KJ)
  (hK : ∀ e ex, (r.ran.length ≠ 0 → ex = true) → Env.get e 1 = ints but → Env.get e 2 = .ptr 0 0 → Env.get e 5 = .lit ((listF r but r.ran.length).map setE) false (some 1) → K (some (.exit 0)) e [.cells (roomCells r), .tok 160 (r.ran.length + 1) ex]) (e : Env)
  (e1 : Env.get e 1 = ints but) (e2 : Env.get e 2 = .ptr 0 0) (e5 : Env.get e 5 = .lit [setE (dayF r but 0)] true none) (e6 : Env.get e 6 = .int .i64 0) :
  rK (K := ⟨K⟩) T (.loop L82_0) e [.cells (roomCells r)] := by
 have hrl : r.ran.length ≤ 6 := by have := hv.ranLen; have := hv.days; omega
 refine ghostK 5 160 [setE (dayF r but 0)] e5 ?_
 refine loopE (S := Nat × Bool) (0, false) (fun s => s.1 ≤ r.ran.length ∧ (s.1 ≠ 0 → s.2 = true)) (fun s => r.ran.length - s.1) (fun s => [(1, ints but), (2, .ptr 0 0), (5, .lit ((listF r but s.1).map setE) false (some 1)), (6, .int .i64 s.1)])
  (fun s => [.cells (roomCells r), .tok 160 (s.1 + 1) s.2]) ⟨by simp, by simp⟩ (by simp) ?_ fun s hs => ?_
 ·try simp only [TrimX, QE, Nat.reduceLT, reduceIte, Nat.reduceEqDiff, Nat.reduceAdd, Nat.reduceLeDiff, Nat.reduceMul, Nat.reduceBEq, QXRm5, e1, e2, e5, e6]
  simp [listF, setE]
 ·obtain ⟨d, ex⟩ := s
  obtain ⟨hd, hex⟩ := hs
  simp only at hd hex
  (repeat (first | simp only [↓QA, QB, Nat.reduceLT, reduceIte, Nat.reduceEqDiff, Nat.reduceAdd, Nat.reduceLeDiff, Nat.reduceMul, Nat.reduceBEq, QXRm5, L82_0] | refine rd0 rfl ?_))
  ((first | refine callK_d (today_ok r) rfl dd ?_ | refine callD_d (today_ok r) rfl dd ?_); (repeat (first | simp only [↓QA, QB, Nat.reduceLT, reduceIte, Nat.reduceEqDiff, Nat.reduceAdd, Nat.reduceLeDiff, Nat.reduceMul, Nat.reduceBEq, QXRm5] | refine rd0 rfl ?_)))
  refine iteP_intro (fun hh => ?_) fun hh => ?_
  ·have hd1 : d < r.ran.length := by simpa using hh
   have hw := wrapN hd1 (by omega)
   have hg := hv.ran _ (List.getElem_mem hd1)
   have hg0 : 0 ≤ r.ran[d] := hg.1
   have hg1 : r.ran[d].toNat < r.settings.length := by omega
   have hgs := hv.gains _ (List.getElem_mem hg1)
   have hdl : d < (listF r but d).length := by rw [listF_len]; omega
   have hap := append_set (k := d + 1) (ps := listF r but d) (q := dayF r but (d + 1)) (b := .cells (roomCells r)) (ex := ex) (listF_len r but d) (by omega)
   rw [roomCells_eq] at hap
   have hga := gainAt_eq hd1 hg1
   (repeat (first | simp only [↓QA, QB, Nat.reduceLT, reduceIte, Nat.reduceEqDiff, Nat.reduceAdd, Nat.reduceLeDiff, Nat.reduceMul, Nat.reduceBEq, QXRm5, hd1, hdl, listF_get hdl, V_idxI, hg0, hg1, hw, setE_cells] | refine rd0 rfl ?_))
   ((first | refine callK_d (grown_s (dayF r but d) r.settings[r.ran[d].toNat].gain hgs.1 (by omega)) rfl dd ?_ | refine callD_d (grown_s (dayF r but d) r.settings[r.ran[d].toNat].gain hgs.1 (by omega)) rfl dd ?_); (repeat (first | simp only [↓QA, QB, Nat.reduceLT, reduceIte, Nat.reduceEqDiff, Nat.reduceAdd, Nat.reduceLeDiff, Nat.reduceMul, Nat.reduceBEq, QXRm5, hd1, hdl, listF_get hdl, V_idxI, hg0, hg1, hw, setE_cells] | refine rd0 rfl ?_)))
   ((first | refine callK_d (seen_ok r ((d + 1 : Nat) : Int) but hf hb) rfl dd ?_ | refine callD_d (seen_ok r ((d + 1 : Nat) : Int) but hf hb) rfl dd ?_); (repeat (first | simp only [↓QA, QB, Nat.reduceLT, reduceIte, Nat.reduceEqDiff, Nat.reduceAdd, Nat.reduceLeDiff, Nat.reduceMul, Nat.reduceBEq, QXRm5, hd1, hdl, listF_get hdl, V_idxI, hg0, hg1, hw, setE_cells] | refine rd0 rfl ?_)))
   ((first | refine callK_d (both_ok _ _) rfl dd ?_ | refine callD_d (both_ok _ _) rfl dd ?_); (repeat (first | simp only [↓QA, QB, Nat.reduceLT, reduceIte, Nat.reduceEqDiff, Nat.reduceAdd, Nat.reduceLeDiff, Nat.reduceMul, Nat.reduceBEq, QXRm5] | refine rd0 rfl ?_)))
   have hdf : (fun n => grownTo (dayF r but d) r.settings[r.ran[d].toNat].gain 160 n && seenP r.looks ((d + 1 : Nat) : Int) but n) = dayF r but (d + 1) := by
    rw [← hga]; simp [dayF]
   rw [hdf]
   (repeat (first | simp only [↓QA, QB, Nat.reduceLT, reduceIte, Nat.reduceEqDiff, Nat.reduceAdd, Nat.reduceLeDiff, Nat.reduceMul, Nat.reduceBEq, QXRm5, hd1, hdl, listF_get hdl, V_idxI, hg0, hg1, hw, setE_cells, hap] | refine rd0 rfl ?_))
   refine ⟨(d + 1, true), ⟨by simp only; omega, fun _ => rfl⟩, by simp only; omega, ?_⟩
   try simp only [TrimX, QE, Nat.reduceLT, reduceIte, Nat.reduceEqDiff, Nat.reduceAdd, Nat.reduceLeDiff, Nat.reduceMul, Nat.reduceBEq, QXRm5, hw, S_mapE, listF_succ, List.map_append, List.map_cons, List.map_nil]
   try simp [okBlk]
  ·have hd1 : d = r.ran.length := by simp at hh; omega
   subst hd1
   (repeat (first | simp only [↓QA, QB, Nat.reduceLT, reduceIte, Nat.reduceEqDiff, Nat.reduceAdd, Nat.reduceLeDiff, Nat.reduceMul, Nat.reduceBEq, QXRm5] | refine rd0 rfl ?_))
   refine hK _ ex hex ?_ ?_ ?_
   all_goals try simp only [TrimX, QE, Nat.reduceLT, reduceIte, Nat.reduceEqDiff, Nat.reduceAdd, Nat.reduceLeDiff, Nat.reduceMul, Nat.reduceBEq, QXRm5]
def listB (r : Rm) (but : List Int) (d : Nat) : List (Nat → Bool) := (List.range (r.ran.length + 1)).map fun i => if i < d then dayF r but i else dayB r but i
theorem listB_len (r : Rm) (but : List Int) (d : Nat) : (listB r but d).length = r.ran.length + 1 := by simp [listB]
theorem listB_start (r : Rm) (but : List Int) : listB r but r.ran.length = listF r but r.ran.length := by
 refine List.map_congr_left fun i hi => ?_
 have hi : i < r.ran.length + 1 := by simpa using hi
 by_cases h : i < r.ran.length
 ·simp [h]
 ·have : i = r.ran.length := by omega
  subst this
  simp [dayB, dayK]
theorem listB_end (r : Rm) (but : List Int) : listB r but 0 = daysOf r but := by simp [listB, daysOf]
theorem listB_lo {r : Rm} {but : List Int} {d : Nat} (h : d < (listB r but (d + 1)).length) : (listB r but (d + 1))[d] = dayF r but d := by simp [listB]
theorem listB_hi {r : Rm} {but : List Int} {d : Nat} (h : d + 1 < (listB r but (d + 1)).length) : (listB r but (d + 1))[d + 1] = dayB r but (d + 1) := by simp [listB]
theorem dayB_step (r : Rm) (but : List Int) (d : Nat) (h : d < r.ran.length) : (fun n => dayF r but d n && shrunk (dayB r but (d + 1)) (gainAt r d) n) = dayB r but d := by
 have e : r.ran.length - d = (r.ran.length - (d + 1)) + 1 := by omega
 simp only [dayB]
 rw [e]
 simp only [dayK]
 rw [show r.ran.length - (r.ran.length - (d + 1) + 1) = d by omega]
theorem listB_set (r : Rm) (but : List Int) (d : Nat) (h : d < r.ran.length) : (listB r but (d + 1)).set d (dayB r but d) = listB r but d := by
 apply List.ext_getElem?
 intro i
 by_cases hi : i = d
 ·subst hi
  rw [List.getElem?_set_self (by rw [listB_len]; omega)]
  simp [listB, show i < r.ran.length + 1 by omega]
 ·rw [List.getElem?_set_ne (fun e => hi e.symm)]
  simp only [listB, List.getElem?_map]
  by_cases h2 : i < r.ran.length + 1
  ·simp only [List.getElem?_range h2, Option.map_some]
   by_cases h3 : i < d
   ·simp [h3, show i < d + 1 by omega]
   ·simp [h3, show ¬ i < d + 1 by omega]
  ·rw [List.getElem?_eq_none (by simp; omega)]; rfl
theorem okVs_mono0 {m : Nat} : ∀ {vs : List AV}, okVs 0 vs → okVs m vs := fun {vs} h => by
 have key : ∀ v, okV 0 v → okV m v := by
  intro v hv
  exact okV_up v hv
 induction vs with
 | nil => trivial
 | cons v vs ih => exact ⟨key v h.1, ih h.2⟩
theorem okVs_flat : ∀ vs : List AV, okVs 0 vs → okVs 0 (vs.flatMap AV.cells)
 | [], _ => trivial
 | v :: vs, h => by
  simp only [List.flatMap_cons]
  refine okVs_app (cells_ok v h.1) (okVs_flat vs h.2)
theorem days_ok (r : Rm) (but : List Int) (hv : Vd r) (hf : Fits r) (hb : but.length < 9223372036854775808) : Pure T 82 [encRoom r, ints but] (encDays (daysOf r but)) := by
 have hrl : r.ran.length ≤ 6 := by have := hv.ranLen; have := hv.days; omega
 refine pure_run (af := a82) rfl (by simp [a82]) dd ?_
 simp only [a82]
 refine seq_run (fun e σ => Env.get e 1 = ints but ∧ Env.get e 2 = .ptr 0 0 ∧ σ = [.cells (roomCells r)]) ?_ fun e σ ⟨e1, e2, hσ⟩ => ?_
 ·(repeat (first | simp only [↓QA, QB, Nat.reduceLT, reduceIte, Nat.reduceEqDiff, Nat.reduceAdd, Nat.reduceLeDiff, Nat.reduceMul, Nat.reduceBEq, QXRm5] | refine rd0 rfl ?_))
 subst hσ
 refine chain2 (fun e σ => ∃ ex, (r.ran.length ≠ 0 → ex = true) ∧ Env.get e 1 = ints but ∧ Env.get e 2 = .ptr 0 0 ∧ Env.get e 5 = .lit ((listF r but r.ran.length).map setE) false (some 1) ∧ σ = [.cells (roomCells r), .tok 160 (r.ran.length + 1) ex])
  (fun e σ => Env.get e 2 = .ptr 0 0 ∧ ((r.ran.length = 0 ∧ Env.get e 5 = .lit ((daysOf r but).map setE) false (some 1) ∧ ∃ ex, σ = [.cells (roomCells r), .tok 160 (r.ran.length + 1) ex]) ∨ (r.ran.length ≠ 0 ∧ Env.get e 5 = .ref 1 0 (r.ran.length + 1) 160 ∧ σ = [.cells (roomCells r), .cells (flatL (listB r but r.ran.length))]))) ?_ ?_ ?_
 ·have hs := hv.start
  (repeat (first | simp only [↓QA, QB, Nat.reduceLT, reduceIte, Nat.reduceEqDiff, Nat.reduceAdd, Nat.reduceLeDiff, Nat.reduceMul, Nat.reduceBEq, QXRm5, e1, e2] | refine rd0 rfl ?_))
  ((first | refine callK_d (of_s r.start hs.1 (by omega)) rfl dd ?_ | refine callD_d (of_s r.start hs.1 (by omega)) rfl dd ?_); (repeat (first | simp only [↓QA, QB, Nat.reduceLT, reduceIte, Nat.reduceEqDiff, Nat.reduceAdd, Nat.reduceLeDiff, Nat.reduceMul, Nat.reduceBEq, QXRm5, e1, e2] | refine rd0 rfl ?_)))
  ((first | refine callK_d (seen_ok r 0 but hf hb) rfl dd ?_ | refine callD_d (seen_ok r 0 but hf hb) rfl dd ?_); (repeat (first | simp only [↓QA, QB, Nat.reduceLT, reduceIte, Nat.reduceEqDiff, Nat.reduceAdd, Nat.reduceLeDiff, Nat.reduceMul, Nat.reduceBEq, QXRm5, e1, e2] | refine rd0 rfl ?_)))
  ((first | refine callK_d (both_ok _ _) rfl dd ?_ | refine callD_d (both_ok _ _) rfl dd ?_); (repeat (first | simp only [↓QA, QB, Nat.reduceLT, reduceIte, Nat.reduceEqDiff, Nat.reduceAdd, Nat.reduceLeDiff, Nat.reduceMul, Nat.reduceBEq, QXRm5, e1, e2] | refine rd0 rfl ?_)))
  refine days_first r but hv hf hb _ ?_ _ ?_ ?_ ?_ ?_
  ·intro e ex h1 h2 h3 h4
   (repeat (first | simp only [↓QA, QB, Nat.reduceLT, reduceIte, Nat.reduceEqDiff, Nat.reduceAdd, Nat.reduceLeDiff, Nat.reduceMul, Nat.reduceBEq, QXRm5] | refine rd0 rfl ?_))
   exact ⟨ex, h1, h2, h3, h4, rfl⟩
  all_goals
   try simp only [TrimX, QE, Nat.reduceLT, reduceIte, Nat.reduceEqDiff, Nat.reduceAdd, Nat.reduceLeDiff, Nat.reduceMul, Nat.reduceBEq, QXRm5, e1, e2]
   try rfl
 ·rintro e σ ⟨ex, hex, q1, q2, q5, rfl⟩
  by_cases h0 : r.ran.length = 0
  ·refine ⟨[(5, .lit ((listF r but r.ran.length).map setE) false (some 1)), (2, .ptr 0 0)], _, _, _, trims_of (σ'' := [.cells (roomCells r), .tok 160 (r.ran.length + 1) ex]) ?_, .inl ⟨rfl, rfl⟩, rfl, .inl ⟨h0, ?_, ex, rfl⟩⟩
   ·try simp only [TrimX, QE, Nat.reduceLT, reduceIte, Nat.reduceEqDiff, Nat.reduceAdd, Nat.reduceLeDiff, Nat.reduceMul, Nat.reduceBEq, QXRm5, q2, q5, S_mapE]
    try simp [okBlk]
   ·rw [← listB_end, ← listB_start, h0]; rfl
  ·have hex := hex h0
   subst hex
   refine ⟨[(5, .lit ((listF r but r.ran.length).map setE) false (some 1)), (2, .ptr 0 0)], [.cells (roomCells r), .tok 160 (r.ran.length + 1) true], [(5, .ref 1 0 (r.ran.length + 1) 160), (2, .ptr 0 0)], [.cells (roomCells r), .cells (flatL (listB r but r.ran.length))], trims_of ?_, .inr ⟨1, 5, (listF r but r.ran.length).map setE, 160, by simp, allCells_set _, ?_, rfl, ?_, ?_, ?_, ?_, ?_⟩, rfl, .inr ⟨h0, rfl, rfl⟩⟩
   ·try simp only [TrimX, QE, Nat.reduceLT, reduceIte, Nat.reduceEqDiff, Nat.reduceAdd, Nat.reduceLeDiff, Nat.reduceMul, Nat.reduceBEq, QXRm5, q2, q5, S_mapE]
    try simp [okBlk]
   ·simp [listF_len]
   ·exact okVs0_noToks 1 _ (datas_map data_set _).1
   ·intro q hq
    simp only [List.tail_cons, List.mem_singleton] at hq
    subst hq
    trivial
   ·intro i b hi hb'
    match i with
    | 0 =>
     simp only [List.getElem?_cons_zero, Option.some.injEq] at hb'
     subst hb'
     exact okVs0_noToks 1 _ (show okVs 0 (roomCells r) from (data_room r).1)
    | 1 => exact absurd rfl hi
    | i + 2 => simp at hb'
   ·simp [listF_len]
   ·rw [flatL_cells, ← listB_start]; rfl
 ·rintro e σ ⟨q2, hc⟩
  rcases hc with ⟨h0, q5, ex, rfl⟩ | ⟨h0, q5, rfl⟩
  ·refine code_run ?_
   (repeat (first | simp only [↓QA, QB, Nat.reduceLT, reduceIte, Nat.reduceEqDiff, Nat.reduceAdd, Nat.reduceLeDiff, Nat.reduceMul, Nat.reduceBEq, QXRm5, q2, q5] | refine rd0 rfl ?_))
   ((first | refine callK_d (today_ok r) rfl dd ?_ | refine callD_d (today_ok r) rfl dd ?_); (repeat (first | simp only [↓QA, QB, Nat.reduceLT, reduceIte, Nat.reduceEqDiff, Nat.reduceAdd, Nat.reduceLeDiff, Nat.reduceMul, Nat.reduceBEq, QXRm5, h0] | refine rd0 rfl ?_)))
   refine loopE (S := Unit) () (fun _ => True) (fun _ => 0) (fun _ => [(2, .ptr 0 0), (5, .lit ((daysOf r but).map setE) false (some 1)), (7, .int .i64 (-1))]) (fun _ => [.cells (roomCells r), .tok 160 (r.ran.length + 1) ex]) trivial (by simp [roomCells, ints, h0]) ?_ fun u _ => ?_
   ·try simp only [TrimX, QE, Nat.reduceLT, reduceIte, Nat.reduceEqDiff, Nat.reduceAdd, Nat.reduceLeDiff, Nat.reduceMul, Nat.reduceBEq, QXRm5, q2, q5, h0]
    simp [wrap64]
   ·(repeat (first | simp only [↓QA, QB, Nat.reduceLT, reduceIte, Nat.reduceEqDiff, Nat.reduceAdd, Nat.reduceLeDiff, Nat.reduceMul, Nat.reduceBEq, QXRm5, L82_2, show decide ((0 : Int) ≤ -1) = false from rfl] | refine rd0 rfl ?_))
    rw [encDays]
    try simp only [QS, QC, Nat.reduceLT, reduceIte, Nat.reduceEqDiff, Nat.reduceAdd, Nat.reduceLeDiff, Nat.reduceMul, Nat.reduceBEq, QXRm5, S_mapE]
  ·refine code_run ?_
   (repeat (first | simp only [↓QA, QB, Nat.reduceLT, reduceIte, Nat.reduceEqDiff, Nat.reduceAdd, Nat.reduceLeDiff, Nat.reduceMul, Nat.reduceBEq, QXRm5, q2, q5] | refine rd0 rfl ?_))
   ((first | refine callK_d (today_ok r) rfl dd ?_ | refine callD_d (today_ok r) rfl dd ?_); (repeat (first | simp only [↓QA, QB, Nat.reduceLT, reduceIte, Nat.reduceEqDiff, Nat.reduceAdd, Nat.reduceLeDiff, Nat.reduceMul, Nat.reduceBEq, QXRm5] | refine rd0 rfl ?_)))
   refine loopE (S := Nat) r.ran.length (fun d => d ≤ r.ran.length) (fun d => d) (fun d => [(2, .ptr 0 0), (5, .ref 1 0 (r.ran.length + 1) 160), (7, .int .i64 ((d : Int) - 1))]) (fun d => [.cells (roomCells r), .cells (flatL (listB r but d))]) (Nat.le_refl _) (by simp [roomCells, ints]) ?_ fun d hd => ?_
   ·try simp only [TrimX, QE, Nat.reduceLT, reduceIte, Nat.reduceEqDiff, Nat.reduceAdd, Nat.reduceLeDiff, Nat.reduceMul, Nat.reduceBEq, QXRm5, q2, q5]
    rw [wrap64 ⟨by omega, by omega⟩]
    simp
   ·(repeat (first | simp only [↓QA, QB, Nat.reduceLT, reduceIte, Nat.reduceEqDiff, Nat.reduceAdd, Nat.reduceLeDiff, Nat.reduceMul, Nat.reduceBEq, QXRm5, L82_2] | refine rd0 rfl ?_))
    cases d with
    | zero =>
     (repeat (first | simp only [↓QA, QB, Nat.reduceLT, reduceIte, Nat.reduceEqDiff, Nat.reduceAdd, Nat.reduceLeDiff, Nat.reduceMul, Nat.reduceBEq, QXRm5, show decide ((0 : Int) ≤ ((0 : Nat) : Int) - 1) = false from rfl] | refine rd0 rfl ?_))
     rw [listB_end, encDays]
     have hl : (daysOf r but).length = r.ran.length + 1 := by simp [daysOf]
     rw [← hl, show (20 : Nat) = 19 + 1 from rfl, S_ref, if_neg (by omega), view_flat]
     simp only [Option.bind_some]
     rw [if_pos (by rw [allCells_set]; rfl), S_mapE]
     rfl
    | succ d =>
     have g1 : decide ((0 : Int) ≤ ((d + 1 : Nat) : Int) - 1) = true := by simp
     have hd1 : d < r.ran.length := hd
     have hd2 : d + 1 < r.ran.length + 1 := by omega
     have e1 : ((d + 1 : Nat) : Int) - 1 = (d : Int) := by omega
     have hw := wrapN hd1 (by omega)
     have hw2 : IntKind.i64.wrap ((d : Int) - 1) = (d : Int) - 1 := wrap64 ⟨by omega, by omega⟩
     have hg := hv.ran _ (List.getElem_mem hd1)
     have hg0 : 0 ≤ r.ran[d] := hg.1
     have hg1 : r.ran[d].toNat < r.settings.length := by omega
     have hgs := hv.gains _ (List.getElem_mem hg1)
     have hga := gainAt_eq hd1 hg1
     have l1 : d < (listB r but (d + 1)).length := by rw [listB_len]; omega
     have l2 : d + 1 < (listB r but (d + 1)).length := by rw [listB_len]; omega
     have i1 : (0 : Int) ≤ (d : Int) ∧ (d : Int) < ((r.ran.length + 1 : Nat) : Int) ∧ 160 = 160 := ⟨by omega, by omega, rfl⟩
     have i2 : (0 : Int) ≤ ((d + 1 : Nat) : Int) ∧ ((d + 1 : Nat) : Int) < ((r.ran.length + 1 : Nat) : Int) ∧ 160 = 160 := ⟨by omega, by omega, rfl⟩
     have b1 : d * 160 + 160 ≤ (flatL (listB r but (d + 1))).length := by rw [flatL_len, listB_len]; omega
     have b2 : (d + 1) * 160 + 160 ≤ (flatL (listB r but (d + 1))).length := by rw [flatL_len, listB_len]; omega
     have t1 := flatL_at l1
     have t2 := flatL_at l2
     rw [listB_lo l1] at t1
     rw [listB_hi l2] at t2
     rw [e1] at g1
     (repeat (first | simp only [↓QA, QB, Nat.reduceLT, reduceIte, Nat.reduceEqDiff, Nat.reduceAdd, Nat.reduceLeDiff, Nat.reduceMul, Nat.reduceBEq, QXRm5, g1, e1, hw, hw2, i1, i2, b1, b2, t1, t2, hd1, V_idxI, hg0, hg1] | refine rd0 rfl ?_))
     ((first | refine callK_d (shrunk_s (dayB r but (d + 1)) r.settings[r.ran[d].toNat].gain hgs.1 (by omega)) rfl dd ?_ | refine callD_d (shrunk_s (dayB r but (d + 1)) r.settings[r.ran[d].toNat].gain hgs.1 (by omega)) rfl dd ?_); (repeat (first | simp only [↓QA, QB, Nat.reduceLT, reduceIte, Nat.reduceEqDiff, Nat.reduceAdd, Nat.reduceLeDiff, Nat.reduceMul, Nat.reduceBEq, QXRm5, g1, e1, hw, hw2, i1, i2, b1, b2, t1, t2, hd1, V_idxI, hg0, hg1] | refine rd0 rfl ?_)))
     ((first | refine callK_d (both_ok _ _) rfl dd ?_ | refine callD_d (both_ok _ _) rfl dd ?_); (repeat (first | simp only [↓QA, QB, Nat.reduceLT, reduceIte, Nat.reduceEqDiff, Nat.reduceAdd, Nat.reduceLeDiff, Nat.reduceMul, Nat.reduceBEq, QXRm5, g1, e1, hw, hw2, i1, i2, b1, b2, t1, t2, hd1, V_idxI, hg0, hg1] | refine rd0 rfl ?_)))
     rw [← hga]
     have est : (flatL (listB r but (d + 1))).take (d * 160) ++ bits (fun n => dayF r but d n && shrunk (dayB r but (d + 1)) (gainAt r d) n) ++ (flatL (listB r but (d + 1))).drop (d * 160 + 160) = flatL (listB r but d) := by
      rw [dayB_step r but d hd1, flatL_set l1, listB_set r but d hd1]
     refine ⟨d, by omega, by omega, ?_⟩
     try simp only [TrimX, QE, Nat.reduceLT, reduceIte, Nat.reduceEqDiff, Nat.reduceAdd, Nat.reduceLeDiff, Nat.reduceMul, Nat.reduceBEq, QXRm5, est]
     refine ⟨S_refK (by omega), .inr (okVs_mono0 ?_)⟩
     rw [← flatL_cells]
     exact okVs_flat _ (datas_map data_set _).1
end Go.Am.Room
set_option maxRecDepth 4000
namespace Go.Am.Room
def QXRm6 := And.intro @setE_eq (And.intro @bits_len (And.intro @bits_cell (And.intro @bits_take (And.intro @bits_drop (And.intro @bits_zero (And.intro @Nat.mul_one (And.intro @Int.toNat_natCast (And.intro @encRoom_eq (And.intro @roomCells_eq (And.intro @encSetting_eq (And.intro @encLook_eq (And.intro @encSpan_eq (@S_bits)))))))))))))
theorem daysOf_len (r : Rm) (but : List Int) : (daysOf r but).length = r.ran.length + 1 := by simp [daysOf]
theorem daysOf_get {r : Rm} {but : List Int} {d : Nat} (h : d < (daysOf r but).length) : (daysOf r but)[d] = dayB r but d := by simp [daysOf]
theorem some_ok (r : Rm) (but : List Int) (hv : Vd r) (hf : Fits r) (hb : but.length < 9223372036854775808) : Pure T 56 [encRoom r, ints but] (.bool (someB r but)) := by
 refine pure_fn (af := a56) rfl (by simp [a56]) dd ?_
 have hl : r.ran.length < (daysOf r but).length := by rw [daysOf_len]; omega
 (repeat (first | simp only [↓QA, QB, Nat.reduceLT, reduceIte, Nat.reduceEqDiff, Nat.reduceAdd, Nat.reduceLeDiff, Nat.reduceMul, Nat.reduceBEq, QXRm6, a56] | refine rd0 rfl ?_))
 refine rK_dreg1 [.cells [.int .i64 0, .int .i64 0]] rfl ?_
 (repeat (first | simp only [↓QA, QB, Nat.reduceLT, reduceIte, Nat.reduceEqDiff, Nat.reduceAdd, Nat.reduceLeDiff, Nat.reduceMul, Nat.reduceBEq, QXRm6] | refine rd0 rfl ?_))
 ((first | refine callK_d (days_ok r but hv hf hb) rfl dd ?_ | refine callD_d (days_ok r but hv hf hb) rfl dd ?_); (repeat (first | simp only [↓QA, QB, Nat.reduceLT, reduceIte, Nat.reduceEqDiff, Nat.reduceAdd, Nat.reduceLeDiff, Nat.reduceMul, Nat.reduceBEq, QXRm6] | refine rd0 rfl ?_)))
 ((first | refine callK_d (today_ok r) rfl dd ?_ | refine callD_d (today_ok r) rfl dd ?_); (repeat (first | simp only [↓QA, QB, Nat.reduceLT, reduceIte, Nat.reduceEqDiff, Nat.reduceAdd, Nat.reduceLeDiff, Nat.reduceMul, Nat.reduceBEq, QXRm6, encDays, hl, setE_cells, daysOf_get hl] | refine rd0 rfl ?_)))
 ((first | refine callK_d (setends_ok _) rfl dd ?_ | refine callD_d (setends_ok _) rfl dd ?_); (repeat (first | simp only [↓QA, QB, Nat.reduceLT, reduceIte, Nat.reduceEqDiff, Nat.reduceAdd, Nat.reduceLeDiff, Nat.reduceMul, Nat.reduceBEq, QXRm6, encEnds, someB, endsOf, encDays, hl, setE_cells, daysOf_get hl] | refine rd0 rfl ?_)))
 rfl
end Go.Am.Room
set_option maxRecDepth 8000
namespace Go.Am.Room
theorem valid_ok (r : Rm) (hf : Fits r) : Pure T 38 [encRoom r] (.bool (decide ((check r).2.2 = 0))) := by
 refine pure_fn (af := a38) rfl (by simp [a38]) dd ?_
 (repeat (first | simp only [↓QA, QB, Nat.reduceLT, reduceIte, Nat.reduceEqDiff, Nat.reduceAdd, Nat.reduceLeDiff, Nat.reduceMul, Nat.reduceBEq, QXLaw1, a38] | refine rd0 rfl ?_))
 ((first | refine callK_d (refcheck_ok r hf) rfl dd ?_ | refine callD_d (refcheck_ok r hf) rfl dd ?_); (repeat (first | simp only [↓QA, QB, Nat.reduceLT, reduceIte, Nat.reduceEqDiff, Nat.reduceAdd, Nat.reduceLeDiff, Nat.reduceMul, Nat.reduceBEq, QXLaw1, enc3] | refine rd0 rfl ?_)))
 try rfl
 try (simp; rfl)
def turnOf (l : List Int) (n : Nat) : Int := if l.length = 0 then 0 else (l[n % l.length]?).getD 0
theorem S_u8s (σ : St) (m d : Nat) (l : List Int) : snapMs σ m d (l.map (.int .u8)) = some (l.map (.int .u8)) := S_datas (datas_map (data_int .u8) l) σ m d
def oneOf (s : Span) (n : Int) : Int := s.lo + n.tmod (s.hi - s.lo + 1)
end Go.Am.Room
set_option maxRecDepth 8000
namespace Go.Am.Room
theorem wrong_len (r : Rm) : (wrongOf r).1.length ≤ 4 := by
 unfold wrongOf
 split
 ·rename_i h0
  have hv := vd_of_check h0
  have hw := (wrFold_spec r r.looks.length (2 ^ r.looks.length) 0 none (fun w h => by cases h) (fun _ t h => by omega)).1 _ (wrong_eq hv)
  obtain ⟨_, t, _, e, _⟩ := hw
  have := lst_len r.looks.length t
  have := hv.looksLen
  simp only; rw [e]; omega
 ·simp
structure Tr (r : Rm) : Prop where
 vd : Vd r
 some : someB r [] = true
 chk : (check r).2.2 = 0
theorem Tr.ask {r : Rm} (h : Tr r) {n lo hi : Int} (h1 : lo ≤ n) (h2 : n ≤ hi) : errAsk r n lo hi = 0 := by simp [errAsk, h.chk, inR, h1, h2]
theorem Tr.known {r : Rm} (h : Tr r) : errKnown r 0 = 0 := by simp [errKnown, h.some]
theorem Tr.points {r : Rm} (h : Tr r) {d : Nat} (hd : d ≤ r.ran.length) : pointsOf r d = (ptsS r d, 0) := by
 have e := h.ask (n := (d : Int)) (lo := 0) (hi := r.ran.length) (by omega) (by omega)
 rw [pointsOf, e, h.known, if_pos rfl, Int.toNat_natCast, ptsS_eq h.vd]
theorem Tr.colours {r : Rm} (h : Tr r) {d : Nat} (hd : d ≤ r.ran.length) : coloursOf r d = (colours (ptsS r d), 0) := by
 rw [coloursOf, h.points hd]; rfl
theorem Tr.bd {r : Rm} (h : Tr r) (d : Nat) : 0 ≤ (ptsS r d).lo ∧ (ptsS r d).lo ≤ (ptsS r d).hi ∧ (ptsS r d).hi < 160 := ptsS_bd h.vd h.some d
theorem Tr.plan {r : Rm} (h : Tr r) {day c : Int} (h1 : (r.ran.length : Int) ≤ day) (h2 : day ≤ r.days) (h3 : 1 ≤ c) (h4 : c ≤ 7) : planOf r day c = (match bestOf r (ptsS r r.ran.length) (beforeOf r) (day - r.ran.length).toNat c with | .none => ([], 0, 9) | .some x => (x.1, x.2, 0)) := by
 have : isColour c = true := by simp [isColour, inR, h3, h4]
 rw [planOf, planErr, h.ask h1 h2, errWant, this]
 simp only [if_true, h.known]
 rfl
theorem Tr.fill {r : Rm} (h : (check r).2.2 = 0) {day c : Int} (h1 : 0 ≤ day) (h2 : day ≤ r.days) (h3 : 1 ≤ c) (h4 : c ≤ 7) : fillOf r day c = ((numbers 0 (day + 1).toNat).filter (fills r day c), 0) := by
 have : isColour c = true := by simp [isColour, inR, h3, h4]
 have e : errAsk r day 0 r.days = 0 := by simp [errAsk, h, inR, h1, h2]
 rw [fillOf, fillErr, e, errWant, this]
 simp
end Go.Am.Room
set_option maxRecDepth 8000
namespace Go.Am.Room
def tp (r : Rm) (x : List Int) : Nat → Int
 | 0 => oneOf r.start (turnOf x 0)
 | d + 1 => tp r x d + oneOf (gainAt r d) (turnOf x (1 + d))
def toldLooks (r : Rm) (x : List Int) (l : List Look) : List Look := l.map fun y => ⟨y.day, colourOf (tp r x y.day.toNat)⟩
def told (r : Rm) (x : List Int) : Rm := { r with looks := toldLooks r x r.looks }
end Go.Am.Room
set_option maxRecDepth 8000
namespace Go.Am.Room
def QXLaw6 := And.intro @S_mapSet (And.intro @S_mapLook (And.intro @S_u8s (And.intro @encRoom_eq (And.intro @roomCells_eq (And.intro @encSetting_eq (And.intro @encLook_eq (And.intro @encSpan_eq (And.intro @T_sapp (@List.length_append.{0})))))))))
theorem bitN_eq : ∀ (k n : Nat), bitN n k = decide (n / 2 ^ k % 2 = 1)
 | 0, n => by
  have : n % 2 = 0 ∨ n % 2 = 1 := by omega
  rcases this with h | h <;> simp [bitN, h]
 | k + 1, n => by
  rw [bitN, bitN_eq k (n / 2), Nat.div_div_eq_div_mul, show 2 * 2 ^ k = 2 ^ (k + 1) by rw [Nat.pow_succ, Nat.mul_comm]]
theorem lst_in2 : ∀ n : Fin 5, ∀ s : Fin 256, lst n s ∈ choices n (lst n s).length := by decide +kernel
theorem choices_rise : ∀ n m : Fin 5, ∀ c ∈ choices n m, rising n (-1) c = true := by decide +kernel
theorem roomfewest_ok (r : Rm) (b : Nat) (hf : Fits r) (hb : b < 256) : Pure T 9 [encRoom r, .int .u8 b] (.bool true) := by
 refine pure_fn (af := a9) rfl (by simp [a9]) dd ?_
 have hwl := wrong_len r
 (repeat (first | simp only [↓QA, QB, Nat.reduceLT, reduceIte, Nat.reduceEqDiff, Nat.reduceAdd, Nat.reduceLeDiff, Nat.reduceMul, Nat.reduceBEq, QXLaw6, a9] | refine rd0 rfl ?_))
 ((first | refine callK_d (pwrong_ok r hf) rfl dd ?_ | refine callD_d (pwrong_ok r hf) rfl dd ?_); (repeat (first | simp only [↓QA, QB, Nat.reduceLT, reduceIte, Nat.reduceEqDiff, Nat.reduceAdd, Nat.reduceLeDiff, Nat.reduceMul, Nat.reduceBEq, QXLaw6, encLE] | refine rd0 rfl ?_)))
 ((first | refine callK_d (valid_ok r hf) rfl dd ?_ | refine callD_d (valid_ok r hf) rfl dd ?_); (repeat (first | simp only [↓QA, QB, Nat.reduceLT, reduceIte, Nat.reduceEqDiff, Nat.reduceAdd, Nat.reduceLeDiff, Nat.reduceMul, Nat.reduceBEq, QXLaw6] | refine rd0 rfl ?_)))
 cases hs : decide ((check r).2.2 = 0)
 ·have hc : (check r).2.2 ≠ 0 := by simpa using hs
  have e1 : wrongOf r = ([], (check r).2.2) := if_neg hc
  have g : ((check r).2.2 == 0) = false := by simpa using hc
  (repeat (first | simp only [↓QA, QB, Nat.reduceLT, reduceIte, Nat.reduceEqDiff, Nat.reduceAdd, Nat.reduceLeDiff, Nat.reduceMul, Nat.reduceBEq, QXLaw6, e1, g, show (((0 : Nat) : Int) == 0) = true from rfl] | refine rd0 rfl ?_))
  refine callK_d awake_ok rfl datas_nil ?_
  (repeat (first | simp only [↓QA, QB, Nat.reduceLT, reduceIte, Nat.reduceEqDiff, Nat.reduceAdd, Nat.reduceLeDiff, Nat.reduceMul, Nat.reduceBEq, QXLaw6] | refine rd0 rfl ?_))
 ·have hc : (check r).2.2 = 0 := by simpa using hs
  have hv := vd_of_check hc
  have hll := hv.looksLen
  have e1 : wrongOf r = (wrongFrom r r.looks.length 0, 0) := if_pos hc
  obtain ⟨w1, w2, w3⟩ := wrong_spec r hll (some_full hv) r.looks.length 0 (by omega) (fun m' h => by omega)
  rw [e1] at hwl
  obtain ⟨W, hW⟩ : ∃ W, wrongFrom r r.looks.length 0 = W := ⟨_, rfl⟩
  rw [hW] at e1 w1 w2 w3 hwl
  simp only at hwl
  obtain ⟨N, hN⟩ : ∃ N, r.looks.length = N := ⟨_, rfl⟩
  rw [hN] at w1 w3 hll
  have hrise : rising N (-1) W = true := choices_rise ⟨N, by omega⟩ ⟨W.length, by omega⟩ W w1
  obtain ⟨O, hO⟩ : ∃ O, lst N b = O := ⟨_, rfl⟩
  have hOl : O.length ≤ N := by rw [← hO]; exact lst_len N b
  have hOin : O ∈ choices N O.length := by rw [← hO]; exact lst_in2 ⟨N, by omega⟩ ⟨b, hb⟩
  have hO' : [] ++ (numbers ((0 : Nat) : Int) (N - 0)).filter (fun i => decide (b / 2 ^ i.toNat % 2 = 1)) = O := hO
  have okz : ((0 : Int) == 0) = true := rfl
  have hwb : IntKind.i64.wrap (b : Int) = b := wrap64 ⟨by omega, by omega⟩
  (repeat (first | simp only [↓QA, QB, Nat.reduceLT, reduceIte, Nat.reduceEqDiff, Nat.reduceAdd, Nat.reduceLeDiff, Nat.reduceMul, Nat.reduceBEq, QXLaw6, e1, hN] | refine rd0 rfl ?_))
  refine ghostK 7 1 [] rfl ?_
  refine loopE (S := Nat × List Int × Bool) (0, [], false) (fun s => s.1 ≤ N ∧ s.2.1.length ≤ s.1 ∧ s.2.1 ++ (numbers (s.1 : Int) (N - s.1)).filter (fun i => decide (b / 2 ^ i.toNat % 2 = 1)) = O) (fun s => N - s.1)
   (fun s => [(1, .int .u8 b), (2, .ptr 0 0), (5, ints W), (6, .int .i64 0), (7, .lit (s.2.1.map (.int .i64)) false (some 1)), (8, .int .i64 s.1)]) (fun s => [.cells (roomCells r), .tok 1 s.2.1.length s.2.2]) ⟨by simp, by simp, hO'⟩ (by simp [roomCells, ints]) ?_ fun s hs => ?_
  ·try simp only [TrimX, QE, Nat.reduceLT, reduceIte, Nat.reduceEqDiff, Nat.reduceAdd, Nat.reduceLeDiff, Nat.reduceMul, Nat.reduceBEq, QXLaw6]
   try simp
  ·obtain ⟨k, acc, ex⟩ := s
   obtain ⟨hk, hal, hacc⟩ := hs
   simp only at hk hal hacc
   (repeat (first | simp only [↓QA, QB, Nat.reduceLT, reduceIte, Nat.reduceEqDiff, Nat.reduceAdd, Nat.reduceLeDiff, Nat.reduceMul, Nat.reduceBEq, QXLaw6, L9_0, hN] | refine rd0 rfl ?_))
   refine iteP_intro (fun h => ?_) fun h => ?_
   ·have hk1 : k < N := by simpa using h
    have hw := wrapN hk1 (by omega)
    rw [show N - k = (N - (k + 1)) + 1 by omega] at hacc
    simp only [numbers, List.filter_cons, Int.toNat_natCast] at hacc
    rw [show ((k : Int) + 1) = ((k + 1 : Nat) : Int) by omega] at hacc
    (repeat (first | simp only [↓QA, QB, Nat.reduceLT, reduceIte, Nat.reduceEqDiff, Nat.reduceAdd, Nat.reduceLeDiff, Nat.reduceMul, Nat.reduceBEq, QXLaw6, hwb] | refine rd0 rfl ?_))
    ((first | refine callK_d (bit_ok b k (by omega) (by omega)) rfl dd ?_ | refine callD_d (bit_ok b k (by omega) (by omega)) rfl dd ?_); (repeat (first | simp only [↓QA, QB, Nat.reduceLT, reduceIte, Nat.reduceEqDiff, Nat.reduceAdd, Nat.reduceLeDiff, Nat.reduceMul, Nat.reduceBEq, QXLaw6, bitN_eq] | refine rd0 rfl ?_)))
    cases hbt : decide (b / 2 ^ k % 2 = 1)
    ·simp only [hbt, Bool.false_eq_true, if_false] at hacc
     (repeat (first | simp only [↓QA, QB, Nat.reduceLT, reduceIte, Nat.reduceEqDiff, Nat.reduceAdd, Nat.reduceLeDiff, Nat.reduceMul, Nat.reduceBEq, QXLaw6, hw] | refine rd0 rfl ?_))
     refine ⟨(k + 1, acc, ex), ⟨by simp only; omega, by simp only; omega, by simpa using hacc⟩, by simp only; omega, ?_⟩
     try simp only [TrimX, QE, Nat.reduceLT, reduceIte, Nat.reduceEqDiff, Nat.reduceAdd, Nat.reduceLeDiff, Nat.reduceMul, Nat.reduceBEq, QXLaw6, hw, S_mapI]
     try simp [okBlk]
    ·simp only [hbt, if_true] at hacc
     have hap := fun (b0 : ABlk) (τ : St) => append_intT (σ := b0 :: .tok 1 acc.length ex :: τ) (l := acc) (a := (k : Int)) (ex := ex) (t := 1) (by omega) rfl
     (repeat (first | simp only [↓QA, QB, Nat.reduceLT, reduceIte, Nat.reduceEqDiff, Nat.reduceAdd, Nat.reduceLeDiff, Nat.reduceMul, Nat.reduceBEq, QXLaw6, hw, hap] | refine rd0 rfl ?_))
     refine ⟨(k + 1, acc ++ [(k : Int)], true), ⟨by simp only; omega, by simp only [List.length_append, List.length_cons, List.length_nil]; omega, by rw [← hacc]; simp⟩, by simp only; omega, ?_⟩
     try simp only [TrimX, QE, Nat.reduceLT, reduceIte, Nat.reduceEqDiff, Nat.reduceAdd, Nat.reduceLeDiff, Nat.reduceMul, Nat.reduceBEq, QXLaw6, hw, S_mapI, List.map_append, List.map_cons, List.map_nil]
     try simp [okBlk]
   ·have hk1 : k = N := by simp at h; omega
    rw [hk1] at hacc
    simp only [Nat.sub_self, numbers, List.filter_nil, List.append_nil] at hacc
    subst hacc
    have hO3 := w3 acc.length hOl acc hOin
    have hso := some_ok r acc hv hf (by omega)
    have hfw := fewer_ok acc W (by omega) (by omega)
    (repeat (first | simp only [↓QA, QB, Nat.reduceLT, reduceIte, Nat.reduceEqDiff, Nat.reduceAdd, Nat.reduceLeDiff, Nat.reduceMul, Nat.reduceBEq, QXLaw6, okz, hN] | refine rd0 rfl ?_))
    ((first | refine callK_d (rising_ok W N (by omega)) rfl dd ?_ | refine callD_d (rising_ok W N (by omega)) rfl dd ?_); (repeat (first | simp only [↓QA, QB, Nat.reduceLT, reduceIte, Nat.reduceEqDiff, Nat.reduceAdd, Nat.reduceLeDiff, Nat.reduceMul, Nat.reduceBEq, QXLaw6, hrise] | refine rd0 rfl ?_)))
    ((first | refine callK_d (some_ok r W hv hf (by omega)) rfl dd ?_ | refine callD_d (some_ok r W hv hf (by omega)) rfl dd ?_); (repeat (first | simp only [↓QA, QB, Nat.reduceLT, reduceIte, Nat.reduceEqDiff, Nat.reduceAdd, Nat.reduceLeDiff, Nat.reduceMul, Nat.reduceBEq, QXLaw6, w2] | refine rd0 rfl ?_)))
    ((first | refine callK_s (hso) (by try simp only [QS, QC, Nat.reduceLT, reduceIte, Nat.reduceEqDiff, Nat.reduceAdd, Nat.reduceLeDiff, Nat.reduceMul, Nat.reduceBEq, QXLaw6]) trivial ?_ | refine callD_s (hso) (by try simp only [QS, QC, Nat.reduceLT, reduceIte, Nat.reduceEqDiff, Nat.reduceAdd, Nat.reduceLeDiff, Nat.reduceMul, Nat.reduceBEq, QXLaw6]) trivial ?_); (repeat (first | simp only [↓QA, QB, Nat.reduceLT, reduceIte, Nat.reduceEqDiff, Nat.reduceAdd, Nat.reduceLeDiff, Nat.reduceMul, Nat.reduceBEq, QXLaw6] | refine rd0 rfl ?_)))
    cases hsm : someB r acc
    ·(repeat (first | simp only [↓QA, QB, Nat.reduceLT, reduceIte, Nat.reduceEqDiff, Nat.reduceAdd, Nat.reduceLeDiff, Nat.reduceMul, Nat.reduceBEq, QXLaw6] | refine rd0 rfl ?_))
     refine callK_d awake_ok rfl datas_nil ?_
     (repeat (first | simp only [↓QA, QB, Nat.reduceLT, reduceIte, Nat.reduceEqDiff, Nat.reduceAdd, Nat.reduceLeDiff, Nat.reduceMul, Nat.reduceBEq, QXLaw6] | refine rd0 rfl ?_))
    ·have := hO3 hsm
     (repeat (first | simp only [↓QA, QB, Nat.reduceLT, reduceIte, Nat.reduceEqDiff, Nat.reduceAdd, Nat.reduceLeDiff, Nat.reduceMul, Nat.reduceBEq, QXLaw6] | refine rd0 rfl ?_))
     ((first | refine callK_s (hfw) (by try simp only [QS, QC, Nat.reduceLT, reduceIte, Nat.reduceEqDiff, Nat.reduceAdd, Nat.reduceLeDiff, Nat.reduceMul, Nat.reduceBEq, QXLaw6]) trivial ?_ | refine callD_s (hfw) (by try simp only [QS, QC, Nat.reduceLT, reduceIte, Nat.reduceEqDiff, Nat.reduceAdd, Nat.reduceLeDiff, Nat.reduceMul, Nat.reduceBEq, QXLaw6]) trivial ?_); (repeat (first | simp only [↓QA, QB, Nat.reduceLT, reduceIte, Nat.reduceEqDiff, Nat.reduceAdd, Nat.reduceLeDiff, Nat.reduceMul, Nat.reduceBEq, QXLaw6, this] | refine rd0 rfl ?_)))
     refine callK_d awake_ok rfl datas_nil ?_
     (repeat (first | simp only [↓QA, QB, Nat.reduceLT, reduceIte, Nat.reduceEqDiff, Nat.reduceAdd, Nat.reduceLeDiff, Nat.reduceMul, Nat.reduceBEq, QXLaw6] | refine rd0 rfl ?_))
end Go.Am.Room
