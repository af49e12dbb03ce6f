/- A part of the proof of RoomOften: an abstract machine, or what functions come to on it. -/
import Derived.Test.YtkppbjllknnilaaAllQ6
import Derived.ChangeArms
import Derived.SizedLaws
import Derived.ChangeBears
import Derived.ChangeShapes
import Derived.WideShapes
import Derived.ProofKit
import Derived.OpenShut
set_option linter.unusedVariables false
set_option linter.unusedSimpArgs false
set_option linter.defProp false
namespace Go.Am
open Go.ChangeShapes Go.WideShapes Go.ChangeAt Go.RowKit
variable {P : Program} {hh : String → Bool} {H : Type} {enc : TypeId × Value → H} {w : World} {sp : Nat → Bool} {held : Bool}
theorem wf_u8 {m : Int} (h : (Lit.int .u8 m).wf = true) : 0 ≤ m ∧ m < 256 := by
 simp [Lit.wf, IntKind.min, IntKind.max, IntKind.signed, IntKind.bits] at h
 omega
end Go.Am
namespace Go.Am
variable {T : FuncId → Option AFunc}
theorem S_ref (σ : St) (m d id off len sz : Nat) : snapM σ m (d + 1) (.ref id off len sz) =
  if id < m then some (.ref id off len sz) else (view σ (.ref id off len sz)).bind fun xs => if (decide (0 < sz) && allCells sz xs) = true then (snapMs σ m d xs).map fun ys => .lit ys false none else none := by
 simp only [snapM, snap]
 split
 ·simp [clr]
 ·cases view σ (.ref id off len sz) with
  | none => simp
  | some xs =>
   simp only [Option.bind_some]
   split
   ·simp only [snapMs]; cases snaps σ m d xs <;> simp [clr]
   ·simp
end Go.Am
namespace Go.Am
variable {T : FuncId → Option AFunc}
mutual
theorem okV0_noTok (t : Nat) : ∀ v, okV 0 v → noTok t v
 | .func _ first cap, h => ⟨okVs0_noToks t first h.1, okVs0_noToks t cap h.2⟩
 | .lptr xs _ _ tk, h => ⟨fun e => absurd (h.1 t e) (by omega), okVs0_noToks t xs h.2⟩
 | .lit xs _ tk, h => ⟨fun e => absurd (h.1 t e) (by omega), okVs0_noToks t xs h.2⟩
 | .agg cs, h => okVs0_noToks t cs h
 | .tuple vs, h => okVs0_noToks t vs h
 | .yield _, _ | .ptr _ _, _ | .ref _ _ _ _, _ | .map _, _ | .undef, _ | .int _ _, _ | .bool _, _ | .str _, _ | .nilFunc, _ | .nilPtr, _ | .nilMap, _ => trivial
theorem okVs0_noToks (t : Nat) : ∀ vs, okVs 0 vs → noToks t vs
 | [], _ => trivial
 | v :: vs, h => ⟨okV0_noTok t v h.1, okVs0_noToks t vs h.2⟩
end
theorem cells_ok {m : Nat} (v : AV) (h : okV m v) : okVs m v.cells := by
 cases v <;> first | exact h | exact ⟨h, trivial⟩
theorem pure_run {f : FuncId} {args : List AV} {v : AV} {af : AFunc} (hf : T f = some af) (hn : args.length ≤ af.ntmps) (hk : Datas args) (h : Run T (.code af.body (argsEnv 0 args) []) fun o => RetK af.results v o.j o.env o.σ) : Pure T f args v := by
 intro σ
 refine .frame hk.1 (.inl rfl) (R := fun o => o.v = v ∧ o.σ = []) (.call hf hn h fun o ho => ?_) fun o ho => ⟨ho.2, ho.1, rfl⟩
 obtain ⟨h1, v0, h2, h3⟩ := ho
 refine ⟨h1, v0, h2, ?_⟩
 unfold snapM at h3
 cases hs : snap o.σ 0 20 v0 with
 | none => rw [hs] at h3; cases h3
 | some v1 =>
  rw [hs] at h3
  simp at h3
  exact .inr ⟨20, v1, v, hs, .inr h3.symm, fun i hi => absurd hi (by simp), by simp, rfl, by simp⟩
theorem seq_run {a b : ACode} {e : Env} {σ : St} {Q : Out → Prop} (R : Env → St → Prop) (h : wp T a e σ fun j e' σ' => j = none ∧ R e' σ') (h2 : ∀ e' σ', R e' σ' → Run T (.code b e' σ') Q) : Run T (.code (.seq a b) e σ) Q :=
 .seq (run_wp h fun o ho => ho) (fun o ho _ => h2 _ _ ho.2) fun o ho hj => absurd ho.1 hj
theorem code_run {a : ACode} {e : Env} {σ : St} {K : KJ} (h : wp T a e σ K) : Run T (.code a e σ) fun o => K o.j o.env o.σ := run_wp h fun o ho => ho
theorem chain2 {a b c : ACode} {e : Env} {σ : St} {Q : Out → Prop} (R S : Env → St → Prop) (h : wp T (.seq a b) e σ fun j e' σ' => j = none ∧ R e' σ')
  (h2 : ∀ e' σ', R e' σ' → ∃ env1 σ1 env2 σ2, Trims2 σ e' σ' env1 σ1 ∧ ((env2 = env1 ∧ σ2 = σ1) ∨ Thaws σ.length env1 σ1 env2 σ2) ∧ S env2 σ2)
  (h3 : ∀ e σ, S e σ → Run T (.code c e σ) Q) : Run T (.code (.seq a (.seq b c)) e σ) Q := by
 refine Run.chain (a0 := a) (az := [b]) (c := c) (R := fun o => o.j = none ∧ R o.env o.σ) (S := S) ?_ (fun o ho hj => absurd ho.1 hj) (fun o ho _ => h2 _ _ ho.2) h3
 refine .chainCons (run_wp (show wp T a e σ _ from by simpa only [wp] using h) fun o ho => ho) (fun o ho hj => ?_) fun o ho hj => ?_
 ·rw [hj] at ho
  simp only [thenK] at ho
  exact .chainCons (run_wp ho fun o ho => ho) (fun o ho _ => .chainNil ⟨rfl, ho.2⟩) fun o ho hj => absurd ho.1 hj
 ·cases hq : o.j with
  | none => exact absurd hq hj
  | some q => rw [hq] at ho; simp only [thenK] at ho; exact absurd ho.1 (by simp)
end Go.Am
namespace Go.Am.Room
theorem join_ok (s : Span) (n : Int) : Pure T 96 [encSpan s, .int .i64 n] (encSpan (join s n)) := by
 refine pure_fn (af := a96) rfl (by simp [a96]) dd ?_
 (repeat (first | simp only [↓QA, QB, Nat.reduceLT, reduceIte, Nat.reduceEqDiff, Nat.reduceAdd, Nat.reduceLeDiff, Nat.reduceMul, Nat.reduceBEq, a96, encSpan_eq, join] | refine rd0 rfl ?_))
theorem has_ok (l : List Int) (n : Int) (hl : l.length < 9223372036854775808) : Pure T 60 [ints l, .int .i64 n] (.bool (l.contains n)) := by
 refine pure_fn (af := a60) rfl (by simp [a60]) dd ?_
 (repeat (first | simp only [↓QA, QB, Nat.reduceLT, reduceIte, Nat.reduceEqDiff, Nat.reduceAdd, Nat.reduceLeDiff, Nat.reduceMul, Nat.reduceBEq, a60] | refine rd0 rfl ?_))
 refine loopE (S := Nat) 0 (· ≤ l.length) (fun k => l.length - k) (fun k => [(0, ints l), (1, .int .i64 n), (5, .bool ((l.take k).contains n)), (6, .int .i64 k)]) (fun _ => []) (Nat.zero_le _) rfl ?_ fun k hk => ?_
 ·try simp only [TrimX, QE, Nat.reduceLT, reduceIte, Nat.reduceEqDiff, Nat.reduceAdd, Nat.reduceLeDiff, Nat.reduceMul, Nat.reduceBEq]
  try simp
 ·(repeat (first | simp only [↓QA, QB, Nat.reduceLT, reduceIte, Nat.reduceEqDiff, Nat.reduceAdd, Nat.reduceLeDiff, Nat.reduceMul, Nat.reduceBEq, L60_0] | refine rd0 rfl ?_))
  refine iteP_intro (fun h => ?_) fun h => ?_
  ·have hk1 : k < l.length := by simpa using h
   (repeat (first | simp only [↓QA, QB, Nat.reduceLT, reduceIte, Nat.reduceEqDiff, Nat.reduceAdd, Nat.reduceLeDiff, Nat.reduceMul, Nat.reduceBEq] | refine rd0 rfl ?_))
   refine iteP_intro (fun h2 => ?_) fun h2 => ?_
   all_goals
    (repeat (first | simp only [↓QA, QB, Nat.reduceLT, reduceIte, Nat.reduceEqDiff, Nat.reduceAdd, Nat.reduceLeDiff, Nat.reduceMul, Nat.reduceBEq, h2, hk1] | refine rd0 rfl ?_))
    refine ⟨k + 1, by omega, by omega, ?_⟩
    try simp only [TrimX, QE, Nat.reduceLT, reduceIte, Nat.reduceEqDiff, Nat.reduceAdd, Nat.reduceLeDiff, Nat.reduceMul, Nat.reduceBEq, wrapN hk1 hl]
    simp only [List.take_succ_eq_append_getElem hk1, List.contains_append, h2]
    simp
    try (rw [Bool.eq_iff_iff]; simp; exact eq_comm)
  ·have : k = l.length := by simp at h; omega
   (repeat (first | simp only [↓QA, QB, Nat.reduceLT, reduceIte, Nat.reduceEqDiff, Nat.reduceAdd, Nat.reduceLeDiff, Nat.reduceMul, Nat.reduceBEq] | refine rd0 rfl ?_))
   simp [this]
open Go
variable {P : Program}
theorem ty_u8 {n : Nat} {cs : List AV} (T : Tys P) (h : Typ P (n + 1) 5 cs) : ∃ x : Int, mkV P 5 cs = .int .u8 x ∧ (0 ≤ x ∧ x < 256) := by
 obtain ⟨x, rfl, hw⟩ := typ_int T.u8 h
 exact ⟨x, mkV_ne T.u8 (by intro fs e; cases e), wf_u8 hw⟩
theorem ty_want {n : Nat} {cs : List AV} (T : Tys P) (h : Typ P (n + 2) 65 cs) : ∃ x y : Int, mkV P 65 cs = .agg [.int .u8 x, .int .u8 y] ∧ (0 ≤ x ∧ x < 256) ∧ (0 ≤ y ∧ y < 256) := by
 obtain ⟨e, a, b, rfl, h1, c, d, rfl, h2, rfl⟩ := typ_st T.want h
 obtain ⟨x, rfl, hx⟩ := typ_int T.u8 h1
 obtain ⟨y, rfl, hy⟩ := typ_int T.u8 h2
 exact ⟨x, y, e, wf_u8 hx, wf_u8 hy⟩
theorem ty_room {n : Nat} {cs : List AV} (T : Tys P) (h : Typ P (n + 5) 28 cs) : ∃ r : Rm, mkV P 28 cs = encRoom r ∧ Fits r := by
 obtain ⟨r, h1, h2, _⟩ := ty_roomB T h
 exact ⟨r, h1, h2⟩
end Go.Am.Room
set_option maxRecDepth 4000
namespace Go.Am.Room
def QXRm4 := And.intro @Nat.mul_one (And.intro @Int.toNat_natCast (And.intro @encRoom_eq (And.intro @roomCells_eq (And.intro @encSetting_eq (And.intro @encLook_eq (@encSpan_eq))))))
theorem bits_get {p : Nat → Bool} {n : Nat} (h : n < 160) : (bits p)[n]? = some (.bool (p n)) := by simp [bits, h]
def upd (p : Nat → Bool) (n : Nat) (b : Bool) : Nat → Bool := fun m => if m = n then b else p m
theorem bits_upd {p : Nat → Bool} {n : Nat} {b : Bool} (h : n < 160) : (bits p).take n ++ [.bool b] ++ (bits p).drop (n + 1) = bits (upd p n b) := by
 apply List.ext_getElem?
 intro i
 have hl : ((bits p).take n).length = n := by simp [bits_len]; omega
 by_cases h1 : i < n
 ·rw [List.append_assoc, List.getElem?_append_left (by omega), List.getElem?_take_of_lt h1, bits_get (by omega), bits_get (by omega)]
  simp [upd, show i ≠ n by omega]
 ·by_cases h2 : i = n
  ·subst h2
   rw [List.append_assoc, List.getElem?_append_right (by omega), hl, Nat.sub_self, bits_get h]
   simp [upd]
  ·rw [List.getElem?_append_right (by simp [hl]; omega), List.getElem?_drop]
   simp only [List.length_append, hl, List.length_cons, List.length_nil]
   rw [show n + 1 + (i - (n + (0 + 1))) = i by omega]
   by_cases h3 : i < 160
   ·rw [bits_get h3, bits_get h3]; simp [upd, h2]
   ·rw [List.getElem?_eq_none (by simp [bits_len]; omega), List.getElem?_eq_none (by simp [bits_len]; omega)]
theorem bits_ok (p : Nat → Bool) (m : Nat) : okVs m (bits p) = True := by
 simp only [eq_iff_iff, iff_true]
 simp only [bits]
 generalize List.range 160 = l
 induction l with
 | nil => trivial
 | cons x l ih => exact ⟨trivial, ih⟩
theorem setE_cells (p : Nat → Bool) : (setE p).cells.length = 160 := by simp [setE, AV.cells, bits_len]
theorem bits_congr {p q : Nat → Bool} (h : ∀ n, n < 160 → p n = q n) : bits p = bits q := by
 refine List.map_congr_left fun n hn => ?_
 rw [h n (by simpa using hn)]
theorem both_ok (p q : Nat → Bool) : Pure T 106 [setE p, setE q] (setE fun n => p n && q n) := by
 refine pure_fn (af := a106) rfl (by simp [a106]) dd ?_
 (repeat (first | simp only [↓QA, QB, Nat.reduceLT, reduceIte, Nat.reduceEqDiff, Nat.reduceAdd, Nat.reduceLeDiff, Nat.reduceMul, Nat.reduceBEq, QXRm4, setE_eq, bits_len, bits_cell, bits_take, bits_drop, bits_zero, S_bits, a106] | refine rd0 rfl ?_))
 refine loopE (S := Nat) 0 (fun n => n ≤ 160) (fun n => 160 - n) (fun n => [(2, .ptr 0 0), (3, .ptr 1 0), (4, .ptr 2 0), (5, .ptr 3 0), (6, .int .i64 n)])
  (fun n => [.cells (bits p), .cells (bits q), .cells (bits fun _ => false), .cells (bits fun m => decide (m < n) && (p m && q m))]) (by omega) (by simp) ?_ fun n hn => ?_
 ·try simp only [TrimX, QE, Nat.reduceLT, reduceIte, Nat.reduceEqDiff, Nat.reduceAdd, Nat.reduceLeDiff, Nat.reduceMul, Nat.reduceBEq, QXRm4, setE_eq, bits_len, bits_cell, bits_take, bits_drop, bits_zero, S_bits]
  try simp
 ·(repeat (first | simp only [↓QA, QB, Nat.reduceLT, reduceIte, Nat.reduceEqDiff, Nat.reduceAdd, Nat.reduceLeDiff, Nat.reduceMul, Nat.reduceBEq, QXRm4, setE_eq, bits_len, bits_cell, bits_take, bits_drop, bits_zero, S_bits, L106_0] | refine rd0 rfl ?_))
  refine iteP_intro (fun h => ?_) fun h => ?_
  ·have h1 : n < 160 := by simp at h; omega
   have h2 : n + 1 ≤ 160 := h1
   have hr : (0 : Int) ≤ n ∧ (n : Int) < ((160 : Nat) : Int) := by omega
   have hw := wrapN h1 (by omega)
   (repeat (first | simp only [↓QA, QB, Nat.reduceLT, reduceIte, Nat.reduceEqDiff, Nat.reduceAdd, Nat.reduceLeDiff, Nat.reduceMul, Nat.reduceBEq, QXRm4, setE_eq, bits_len, bits_cell, bits_take, bits_drop, bits_zero, S_bits, h1, h2, hr, bits_get h1] | refine rd0 rfl ?_))
   have e : upd (fun m => decide (m < n) && (p m && q m)) n (p n && q n) = fun m => decide (m < n + 1) && (p m && q m) := by
    funext m
    simp only [upd]
    by_cases hm : m = n
    ·subst hm; simp
    ·simp [hm, show m < n + 1 ↔ m < n by omega]
   cases hp : p n
   all_goals
    rw [hp] at e
    (repeat (first | simp only [↓QA, QB, Nat.reduceLT, reduceIte, Nat.reduceEqDiff, Nat.reduceAdd, Nat.reduceLeDiff, Nat.reduceMul, Nat.reduceBEq, QXRm4, setE_eq, bits_len, bits_cell, bits_take, bits_drop, bits_zero, S_bits, h1, h2, hr, bits_get h1, bits_upd h1, hw] | refine rd0 rfl ?_))
    refine ⟨n + 1, by omega, by omega, ?_⟩
    try simp only [TrimX, QE, Nat.reduceLT, reduceIte, Nat.reduceEqDiff, Nat.reduceAdd, Nat.reduceLeDiff, Nat.reduceMul, Nat.reduceBEq, QXRm4, setE_eq, bits_len, bits_cell, bits_take, bits_drop, bits_zero, S_bits, ← e, bits_upd h1]
    try simp [okBlk, bits_ok]
  ·have h1 : n = 160 := by simp at h; omega
   subst h1
   (repeat (first | simp only [↓QA, QB, Nat.reduceLT, reduceIte, Nat.reduceEqDiff, Nat.reduceAdd, Nat.reduceLeDiff, Nat.reduceMul, Nat.reduceBEq, QXRm4, setE_eq, bits_len, bits_cell, bits_take, bits_drop, bits_zero, S_bits] | refine rd0 rfl ?_))
   have : bits (fun m => decide (m < 160) && (p m && q m)) = bits fun m => p m && q m := bits_congr fun m hm => by simp [hm]
   rw [this]
theorem of_ok (a : Nat) (b : Int) (hb : b < 160) : Pure T 107 [encSpan ⟨a, b⟩] (setE (within ⟨a, b⟩)) := by
 refine pure_fn (af := a107) rfl (by simp [a107]) dd ?_
 (repeat (first | simp only [↓QA, QB, Nat.reduceLT, reduceIte, Nat.reduceEqDiff, Nat.reduceAdd, Nat.reduceLeDiff, Nat.reduceMul, Nat.reduceBEq, QXRm4, setE_eq, bits_len, bits_cell, bits_take, bits_drop, bits_zero, S_bits, a107] | refine rd0 rfl ?_))
 refine loopE (S := Nat) a (fun n => a ≤ n ∧ ((n : Int) ≤ b + 1 ∨ n = a)) (fun n => 160 - n) (fun n => [(1, .ptr 0 0), (2, .ptr 1 0), (3, .ptr 2 0), (4, .int .i64 n)])
  (fun n => [.cells [.int .i64 a, .int .i64 b], .cells (bits fun _ => false), .cells (bits fun m => decide (a ≤ m) && decide (m < n))]) ⟨by omega, by omega⟩ ?_ ?_ fun n hn => ?_
 ·have : (fun m : Nat => decide (a ≤ m) && decide (m < a)) = fun _ => false := by
   funext m; simp
  rw [this]
 ·try simp only [TrimX, QE, Nat.reduceLT, reduceIte, Nat.reduceEqDiff, Nat.reduceAdd, Nat.reduceLeDiff, Nat.reduceMul, Nat.reduceBEq, QXRm4, setE_eq, bits_len, bits_cell, bits_take, bits_drop, bits_zero, S_bits]
  try simp
 ·obtain ⟨hn1, hn2⟩ := hn
  (repeat (first | simp only [↓QA, QB, Nat.reduceLT, reduceIte, Nat.reduceEqDiff, Nat.reduceAdd, Nat.reduceLeDiff, Nat.reduceMul, Nat.reduceBEq, QXRm4, setE_eq, bits_len, bits_cell, bits_take, bits_drop, bits_zero, S_bits, L107_0] | refine rd0 rfl ?_))
  refine iteP_intro (fun h => ?_) fun h => ?_
  ·have h0 : (n : Int) ≤ b := by simpa using h
   have h1 : n < 160 := by omega
   have h2 : n + 1 ≤ 160 := h1
   have hr : (0 : Int) ≤ n ∧ (n : Int) < ((160 : Nat) : Int) := by omega
   have hw := wrapN h1 (by omega)
   have e : upd (fun m => decide (a ≤ m) && decide (m < n)) n true = fun m => decide (a ≤ m) && decide (m < n + 1) := by
    funext m
    simp only [upd]
    by_cases hm : m = n
    ·subst hm; simp [hn1]
    ·simp [hm, show m < n + 1 ↔ m < n by omega]
   (repeat (first | simp only [↓QA, QB, Nat.reduceLT, reduceIte, Nat.reduceEqDiff, Nat.reduceAdd, Nat.reduceLeDiff, Nat.reduceMul, Nat.reduceBEq, QXRm4, setE_eq, bits_len, bits_cell, bits_take, bits_drop, bits_zero, S_bits, h1, h2, hr, bits_get h1, bits_upd h1, hw] | refine rd0 rfl ?_))
   refine ⟨n + 1, ⟨by omega, by omega⟩, by omega, ?_⟩
   try simp only [TrimX, QE, Nat.reduceLT, reduceIte, Nat.reduceEqDiff, Nat.reduceAdd, Nat.reduceLeDiff, Nat.reduceMul, Nat.reduceBEq, QXRm4, setE_eq, bits_len, bits_cell, bits_take, bits_drop, bits_zero, S_bits, ← e]
   try simp [okBlk, bits_ok]
  ·have h0 : ¬ (n : Int) ≤ b := by simpa using h
   (repeat (first | simp only [↓QA, QB, Nat.reduceLT, reduceIte, Nat.reduceEqDiff, Nat.reduceAdd, Nat.reduceLeDiff, Nat.reduceMul, Nat.reduceBEq, QXRm4, setE_eq, bits_len, bits_cell, bits_take, bits_drop, bits_zero, S_bits] | refine rd0 rfl ?_))
   have : bits (fun m => decide (a ≤ m) && decide (m < n)) = bits (within ⟨a, b⟩) := bits_congr fun m hm => by
    simp only [within]
    rcases hn2 with h | h
    ·rw [Bool.eq_iff_iff]; simp; omega
    ·rw [Bool.eq_iff_iff]; simp; omega
   rw [this]
theorem grownTo_succ (p : Nat → Bool) (g : Span) (n m : Nat) : grownTo p g (n + 1) m = (grownTo p g n m || (p n && (decide (g.lo ≤ (m : Int) - n) && decide ((m : Int) - n ≤ g.hi)))) := by
 simp [grownTo, List.range_succ]
theorem grown_ok (p : Nat → Bool) (a : Nat) (b : Int) (hb : b < 160) : Pure T 109 [setE p, encSpan ⟨a, b⟩] (setE (grownTo p ⟨a, b⟩ 160)) := by
 refine pure_fn (af := a109) rfl (by simp [a109]) dd ?_
 (repeat (first | simp only [↓QA, QB, Nat.reduceLT, reduceIte, Nat.reduceEqDiff, Nat.reduceAdd, Nat.reduceLeDiff, Nat.reduceMul, Nat.reduceBEq, QXRm4, setE_eq, bits_len, bits_cell, bits_take, bits_drop, bits_zero, S_bits, a109] | refine rd0 rfl ?_))
 refine loopE (S := Nat) 0 (fun n => n ≤ 160) (fun n => 160 - n) (fun n => [(2, .ptr 0 0), (3, .ptr 1 0), (4, .ptr 2 0), (5, .ptr 3 0), (6, .int .i64 n)])
  (fun n => [.cells (bits p), .cells [.int .i64 a, .int .i64 b], .cells (bits fun _ => false), .cells (bits (grownTo p ⟨a, b⟩ n))]) (by omega) (by rw [show grownTo p ⟨a, b⟩ 0 = fun _ => false from by funext m; simp [grownTo]]) ?_ fun n hn => ?_
 ·try simp only [TrimX, QE, Nat.reduceLT, reduceIte, Nat.reduceEqDiff, Nat.reduceAdd, Nat.reduceLeDiff, Nat.reduceMul, Nat.reduceBEq, QXRm4, setE_eq, bits_len, bits_cell, bits_take, bits_drop, bits_zero, S_bits]
  try simp
 ·(repeat (first | simp only [↓QA, QB, Nat.reduceLT, reduceIte, Nat.reduceEqDiff, Nat.reduceAdd, Nat.reduceLeDiff, Nat.reduceMul, Nat.reduceBEq, QXRm4, setE_eq, bits_len, bits_cell, bits_take, bits_drop, bits_zero, S_bits, L109_0] | refine rd0 rfl ?_))
  refine iteP_intro (fun h => ?_) fun h => ?_
  ·have h1 : n < 160 := by simp at h; omega
   have hr : (0 : Int) ≤ n ∧ (n : Int) < ((160 : Nat) : Int) := by omega
   have hw := wrapN h1 (by omega)
   (repeat (first | simp only [↓QA, QB, Nat.reduceLT, reduceIte, Nat.reduceEqDiff, Nat.reduceAdd, Nat.reduceLeDiff, Nat.reduceMul, Nat.reduceBEq, QXRm4, setE_eq, bits_len, bits_cell, bits_take, bits_drop, bits_zero, S_bits] | refine rd0 rfl ?_))
   refine loopE (S := Nat) a (fun x => a ≤ x ∧ ((x : Int) ≤ b + 1 ∨ x = a) ∧ (p n = false → x = a)) (fun x => 161 - x) (fun x => [(2, .ptr 0 0), (3, .ptr 1 0), (4, .ptr 2 0), (5, .ptr 3 0), (6, .int .i64 n), (7, .int .i64 x)])
    (fun x => [.cells (bits p), .cells [.int .i64 a, .int .i64 b], .cells (bits fun _ => false), .cells (bits fun m => grownTo p ⟨a, b⟩ n m || (p n && (decide ((a : Int) ≤ (m : Int) - n) && decide ((m : Int) - n < x))))]) ⟨by omega, by omega, fun _ => rfl⟩ ?_ ?_ fun x hx => ?_
   ·have : (fun m : Nat => grownTo p ⟨a, b⟩ n m || (p n && (decide ((a : Int) ≤ (m : Int) - n) && decide ((m : Int) - n < (a : Nat))))) = grownTo p ⟨a, b⟩ n := by
     funext m
     have : (decide ((a : Int) ≤ (m : Int) - n) && decide ((m : Int) - n < (a : Nat))) = false := by simp
     rw [this]; simp
    rw [this]
   ·try simp only [TrimX, QE, Nat.reduceLT, reduceIte, Nat.reduceEqDiff, Nat.reduceAdd, Nat.reduceLeDiff, Nat.reduceMul, Nat.reduceBEq, QXRm4, setE_eq, bits_len, bits_cell, bits_take, bits_drop, bits_zero, S_bits]
    try simp
   ·obtain ⟨hx1, hx2, hx3⟩ := hx
    have close : bits (fun m => grownTo p ⟨a, b⟩ n m || (p n && (decide ((a : Int) ≤ (m : Int) - n) && decide ((m : Int) - n < x)))) = bits (grownTo p ⟨a, b⟩ (n + 1)) → True := fun _ => trivial
    (repeat (first | simp only [↓QA, QB, Nat.reduceLT, reduceIte, Nat.reduceEqDiff, Nat.reduceAdd, Nat.reduceLeDiff, Nat.reduceMul, Nat.reduceBEq, QXRm4, setE_eq, bits_len, bits_cell, bits_take, bits_drop, bits_zero, S_bits, L109_2] | refine rd0 rfl ?_))
    by_cases hxb : (x : Int) ≤ b
    ·have g1 : decide ((x : Int) ≤ b) = true := by simpa using hxb
     cases hp : p n
     ·(repeat (first | simp only [↓QA, QB, Nat.reduceLT, reduceIte, Nat.reduceEqDiff, Nat.reduceAdd, Nat.reduceLeDiff, Nat.reduceMul, Nat.reduceBEq, QXRm4, setE_eq, bits_len, bits_cell, bits_take, bits_drop, bits_zero, S_bits, g1, h1, hr, bits_get h1, hp, hw] | refine rd0 rfl ?_))
      refine ⟨n + 1, by omega, by omega, ?_⟩
      have e : bits (fun m : Nat => grownTo p ⟨a, b⟩ n m || (false && (decide ((a : Int) ≤ (m : Int) - n) && decide ((m : Int) - n < (x : Nat))))) = bits (grownTo p ⟨a, b⟩ (n + 1)) := bits_congr fun m hm => by
       rw [grownTo_succ, hp]; simp
      try simp only [TrimX, QE, Nat.reduceLT, reduceIte, Nat.reduceEqDiff, Nat.reduceAdd, Nat.reduceLeDiff, Nat.reduceMul, Nat.reduceBEq, QXRm4, setE_eq, bits_len, bits_cell, bits_take, bits_drop, bits_zero, S_bits, hw]
      first | exact ⟨congrArg ABlk.cells e.symm, .inr (by simp [okBlk, bits_ok])⟩ | exact congrArg ABlk.cells e.symm
     ·have hws : IntKind.i64.wrap ((n : Int) + x) = ((n + x : Nat) : Int) := by rw [wrap64 ⟨by omega, by omega⟩]; omega
      have hwx : IntKind.i64.wrap ((x : Int) + 1) = ((x + 1 : Nat) : Int) := wrapN (show x < 160 by omega) (by omega)
      (repeat (first | simp only [↓QA, QB, Nat.reduceLT, reduceIte, Nat.reduceEqDiff, Nat.reduceAdd, Nat.reduceLeDiff, Nat.reduceMul, Nat.reduceBEq, QXRm4, setE_eq, bits_len, bits_cell, bits_take, bits_drop, bits_zero, S_bits, g1, h1, hr, bits_get h1, hp, hws, hwx] | refine rd0 rfl ?_))
      by_cases hlt : n + x < 160
      ·have g2 : decide (((n + x : Nat) : Int) < 160) = true := by simp; omega
       have g3 : (0 : Int) ≤ ((n + x : Nat) : Int) ∧ ((n + x : Nat) : Int) < ((160 : Nat) : Int) := by omega
       have g4 : n + x + 1 ≤ 160 := hlt
       (repeat (first | simp only [↓QA, QB, Nat.reduceLT, reduceIte, Nat.reduceEqDiff, Nat.reduceAdd, Nat.reduceLeDiff, Nat.reduceMul, Nat.reduceBEq, QXRm4, setE_eq, bits_len, bits_cell, bits_take, bits_drop, bits_zero, S_bits, g2, g3, g4, hws, hwx, bits_upd hlt] | refine rd0 rfl ?_))
       refine ⟨x + 1, ⟨by omega, by omega, by simp⟩, by omega, ?_⟩
       have e : bits (upd (fun m => grownTo p ⟨a, b⟩ n m || (decide ((a : Int) ≤ (m : Int) - n) && decide ((m : Int) - n < x))) (n + x) true) = bits fun m => grownTo p ⟨a, b⟩ n m || (decide ((a : Int) ≤ (m : Int) - n) && decide ((m : Int) - n < ((x + 1 : Nat) : Int))) := bits_congr fun m hm => by
        simp only [upd]
        by_cases hmn : m = n + x
        ·subst hmn; simp; omega
        ·simp only [hmn, if_false]
         have : decide ((m : Int) - n < ((x + 1 : Nat) : Int)) = decide ((m : Int) - n < x) := by simp; omega
         rw [this]
       try simp only [TrimX, QE, Nat.reduceLT, reduceIte, Nat.reduceEqDiff, Nat.reduceAdd, Nat.reduceLeDiff, Nat.reduceMul, Nat.reduceBEq, QXRm4, setE_eq, bits_len, bits_cell, bits_take, bits_drop, bits_zero, S_bits]
       first | exact ⟨congrArg ABlk.cells e.symm, .inr (by simp [okBlk, bits_ok])⟩ | exact congrArg ABlk.cells e.symm
      ·have g2 : decide (((n + x : Nat) : Int) < 160) = false := by simp; omega
       (repeat (first | simp only [↓QA, QB, Nat.reduceLT, reduceIte, Nat.reduceEqDiff, Nat.reduceAdd, Nat.reduceLeDiff, Nat.reduceMul, Nat.reduceBEq, QXRm4, setE_eq, bits_len, bits_cell, bits_take, bits_drop, bits_zero, S_bits, g2, hws, hwx] | refine rd0 rfl ?_))
       refine ⟨x + 1, ⟨by omega, by omega, by simp⟩, by omega, ?_⟩
       have e : bits (fun m => grownTo p ⟨a, b⟩ n m || (decide ((a : Int) ≤ (m : Int) - n) && decide ((m : Int) - n < x))) = bits fun m => grownTo p ⟨a, b⟩ n m || (decide ((a : Int) ≤ (m : Int) - n) && decide ((m : Int) - n < ((x + 1 : Nat) : Int))) := bits_congr fun m hm => by
        have : decide ((m : Int) - n < ((x + 1 : Nat) : Int)) = decide ((m : Int) - n < x) := by simp; omega
        rw [this]
       try simp only [TrimX, QE, Nat.reduceLT, reduceIte, Nat.reduceEqDiff, Nat.reduceAdd, Nat.reduceLeDiff, Nat.reduceMul, Nat.reduceBEq, QXRm4, setE_eq, bits_len, bits_cell, bits_take, bits_drop, bits_zero, S_bits]
       first | exact ⟨congrArg ABlk.cells e.symm, .inr (by simp [okBlk, bits_ok])⟩ | exact congrArg ABlk.cells e.symm
    ·have g1 : decide ((x : Int) ≤ b) = false := by simpa using hxb
     (repeat (first | simp only [↓QA, QB, Nat.reduceLT, reduceIte, Nat.reduceEqDiff, Nat.reduceAdd, Nat.reduceLeDiff, Nat.reduceMul, Nat.reduceBEq, QXRm4, setE_eq, bits_len, bits_cell, bits_take, bits_drop, bits_zero, S_bits, g1, hw] | refine rd0 rfl ?_))
     refine ⟨n + 1, by omega, by omega, ?_⟩
     have e : bits (fun m : Nat => grownTo p ⟨a, b⟩ n m || (p n && (decide ((a : Int) ≤ (m : Int) - n) && decide ((m : Int) - n < (x : Nat))))) = bits (grownTo p ⟨a, b⟩ (n + 1)) := bits_congr fun m hm => by
      rw [grownTo_succ]
      rcases hx2 with h2 | h2
      ·have : decide ((m : Int) - n < (x : Nat)) = decide ((m : Int) - n ≤ b) := by simp; omega
       rw [this]
      ·have : (decide ((a : Int) ≤ (m : Int) - n) && decide ((m : Int) - n < (x : Nat))) = (decide ((a : Int) ≤ (m : Int) - n) && decide ((m : Int) - n ≤ b)) := by rw [Bool.eq_iff_iff]; simp; omega
       rw [this]
     try simp only [TrimX, QE, Nat.reduceLT, reduceIte, Nat.reduceEqDiff, Nat.reduceAdd, Nat.reduceLeDiff, Nat.reduceMul, Nat.reduceBEq, QXRm4, setE_eq, bits_len, bits_cell, bits_take, bits_drop, bits_zero, S_bits, hw]
     first | exact ⟨congrArg ABlk.cells e.symm, .inr (by simp [okBlk, bits_ok])⟩ | exact congrArg ABlk.cells e.symm
  ·have h1 : n = 160 := by simp at h; omega
   subst h1
   (repeat (first | simp only [↓QA, QB, Nat.reduceLT, reduceIte, Nat.reduceEqDiff, Nat.reduceAdd, Nat.reduceLeDiff, Nat.reduceMul, Nat.reduceBEq, QXRm4, setE_eq, bits_len, bits_cell, bits_take, bits_drop, bits_zero, S_bits] | refine rd0 rfl ?_))
theorem shrTo_succ (p : Nat → Bool) (a x n : Nat) (h : a ≤ x) : shrTo p a ((x + 1 : Nat) : Int) n = (shrTo p a x n || (decide (n + x < 160) && p (n + x))) := by
 rw [Bool.eq_iff_iff]
 simp only [shrTo, List.any_eq_true, List.mem_range, Bool.or_eq_true, Bool.and_eq_true, decide_eq_true_eq]
 constructor
 ·rintro ⟨m, h1, h2, h3, h4⟩
  by_cases hm : m = n + x
  ·right; subst hm; exact ⟨h1, h2⟩
  ·left; exact ⟨m, h1, h2, h3, by omega⟩
 ·rintro (⟨m, h1, h2, h3, h4⟩ | ⟨h1, h2⟩)
  ·exact ⟨m, h1, h2, h3, by omega⟩
  ·exact ⟨n + x, h1, h2, by omega, by omega⟩
theorem shrTo_none (p : Nat → Bool) (a x : Int) (n : Nat) (h : x ≤ a) : shrTo p a x n = false := by
 rw [Bool.eq_false_iff]
 intro hh
 simp only [shrTo, List.any_eq_true, List.mem_range, Bool.and_eq_true, decide_eq_true_eq] at hh
 obtain ⟨m, _, _, h3, h4⟩ := hh
 omega
theorem shrunk_ok (p : Nat → Bool) (a : Nat) (b : Int) (hb : b < 160) : Pure T 110 [setE p, encSpan ⟨a, b⟩] (setE (shrunk p ⟨a, b⟩)) := by
 refine pure_fn (af := a110) rfl (by simp [a110]) dd ?_
 (repeat (first | simp only [↓QA, QB, Nat.reduceLT, reduceIte, Nat.reduceEqDiff, Nat.reduceAdd, Nat.reduceLeDiff, Nat.reduceMul, Nat.reduceBEq, QXRm4, setE_eq, bits_len, bits_cell, bits_take, bits_drop, bits_zero, S_bits, a110] | refine rd0 rfl ?_))
 refine loopE (S := Nat) 0 (fun n => n ≤ 160) (fun n => 160 - n) (fun n => [(2, .ptr 0 0), (3, .ptr 1 0), (4, .ptr 2 0), (5, .ptr 3 0), (6, .int .i64 n)])
  (fun n => [.cells (bits p), .cells [.int .i64 a, .int .i64 b], .cells (bits fun _ => false), .cells (bits fun m => decide (m < n) && shrunk p ⟨a, b⟩ m)]) (by omega) (by simp) ?_ fun n hn => ?_
 ·try simp only [TrimX, QE, Nat.reduceLT, reduceIte, Nat.reduceEqDiff, Nat.reduceAdd, Nat.reduceLeDiff, Nat.reduceMul, Nat.reduceBEq, QXRm4, setE_eq, bits_len, bits_cell, bits_take, bits_drop, bits_zero, S_bits]
  try simp
 ·(repeat (first | simp only [↓QA, QB, Nat.reduceLT, reduceIte, Nat.reduceEqDiff, Nat.reduceAdd, Nat.reduceLeDiff, Nat.reduceMul, Nat.reduceBEq, QXRm4, setE_eq, bits_len, bits_cell, bits_take, bits_drop, bits_zero, S_bits, L110_0] | refine rd0 rfl ?_))
  refine iteP_intro (fun h => ?_) fun h => ?_
  ·have h1 : n < 160 := by simp at h; omega
   have h2 : n + 1 ≤ 160 := h1
   have hr : (0 : Int) ≤ n ∧ (n : Int) < ((160 : Nat) : Int) := by omega
   have hw := wrapN h1 (by omega)
   (repeat (first | simp only [↓QA, QB, Nat.reduceLT, reduceIte, Nat.reduceEqDiff, Nat.reduceAdd, Nat.reduceLeDiff, Nat.reduceMul, Nat.reduceBEq, QXRm4, setE_eq, bits_len, bits_cell, bits_take, bits_drop, bits_zero, S_bits] | refine rd0 rfl ?_))
   refine loopE (S := Nat) a (fun x => a ≤ x ∧ ((x : Int) ≤ b + 1 ∨ x = a)) (fun x => 161 - x) (fun x => [(2, .ptr 0 0), (3, .ptr 1 0), (4, .ptr 2 0), (5, .ptr 3 0), (6, .int .i64 n), (7, .int .i64 x)])
    (fun x => [.cells (bits p), .cells [.int .i64 a, .int .i64 b], .cells (bits fun _ => false), .cells (bits fun m => (decide (m < n) && shrunk p ⟨a, b⟩ m) || (decide (m = n) && shrTo p a x n))]) ⟨by omega, by omega⟩ ?_ ?_ fun x hx => ?_
   ·have : (fun m : Nat => (decide (m < n) && shrunk p ⟨a, b⟩ m) || (decide (m = n) && shrTo p a (a : Nat) n)) = fun m => decide (m < n) && shrunk p ⟨a, b⟩ m := by
     funext m
     rw [shrTo_none p a a n (by omega)]; simp
    rw [this]
   ·try simp only [TrimX, QE, Nat.reduceLT, reduceIte, Nat.reduceEqDiff, Nat.reduceAdd, Nat.reduceLeDiff, Nat.reduceMul, Nat.reduceBEq, QXRm4, setE_eq, bits_len, bits_cell, bits_take, bits_drop, bits_zero, S_bits]
    try simp
   ·obtain ⟨hx1, hx2⟩ := hx
    (repeat (first | simp only [↓QA, QB, Nat.reduceLT, reduceIte, Nat.reduceEqDiff, Nat.reduceAdd, Nat.reduceLeDiff, Nat.reduceMul, Nat.reduceBEq, QXRm4, setE_eq, bits_len, bits_cell, bits_take, bits_drop, bits_zero, S_bits, L110_2] | refine rd0 rfl ?_))
    by_cases hxb : (x : Int) ≤ b
    ·have g1 : decide ((x : Int) ≤ b) = true := by simpa using hxb
     have hws : IntKind.i64.wrap ((n : Int) + x) = ((n + x : Nat) : Int) := by rw [wrap64 ⟨by omega, by omega⟩]; omega
     have hwx : IntKind.i64.wrap ((x : Int) + 1) = ((x + 1 : Nat) : Int) := wrapN (show x < 160 by omega) (by omega)
     have hss := shrTo_succ p a x n hx1
     (repeat (first | simp only [↓QA, QB, Nat.reduceLT, reduceIte, Nat.reduceEqDiff, Nat.reduceAdd, Nat.reduceLeDiff, Nat.reduceMul, Nat.reduceBEq, QXRm4, setE_eq, bits_len, bits_cell, bits_take, bits_drop, bits_zero, S_bits, g1, hws, hwx] | refine rd0 rfl ?_))
     by_cases hlt : n + x < 160
     ·have g2 : decide (((n + x : Nat) : Int) < 160) = true := by simp; omega
      have g3 : (0 : Int) ≤ ((n + x : Nat) : Int) ∧ ((n + x : Nat) : Int) < ((160 : Nat) : Int) := by omega
      (repeat (first | simp only [↓QA, QB, Nat.reduceLT, reduceIte, Nat.reduceEqDiff, Nat.reduceAdd, Nat.reduceLeDiff, Nat.reduceMul, Nat.reduceBEq, QXRm4, setE_eq, bits_len, bits_cell, bits_take, bits_drop, bits_zero, S_bits, g2, g3, hws, hwx, bits_get hlt] | refine rd0 rfl ?_))
      cases hp : p (n + x)
      ·(repeat (first | simp only [↓QA, QB, Nat.reduceLT, reduceIte, Nat.reduceEqDiff, Nat.reduceAdd, Nat.reduceLeDiff, Nat.reduceMul, Nat.reduceBEq, QXRm4, setE_eq, bits_len, bits_cell, bits_take, bits_drop, bits_zero, S_bits, hwx] | refine rd0 rfl ?_))
       refine ⟨x + 1, ⟨by omega, by omega⟩, by omega, ?_⟩
       have e : bits (fun m => (decide (m < n) && shrunk p ⟨a, b⟩ m) || (decide (m = n) && shrTo p a x n)) = bits fun m => (decide (m < n) && shrunk p ⟨a, b⟩ m) || (decide (m = n) && shrTo p a ((x + 1 : Nat) : Int) n) := bits_congr fun m hm => by
        rw [hss, hp]; simp
       try simp only [TrimX, QE, Nat.reduceLT, reduceIte, Nat.reduceEqDiff, Nat.reduceAdd, Nat.reduceLeDiff, Nat.reduceMul, Nat.reduceBEq, QXRm4, setE_eq, bits_len, bits_cell, bits_take, bits_drop, bits_zero, S_bits]
       first | exact ⟨congrArg ABlk.cells e.symm, .inr (by simp [okBlk, bits_ok])⟩ | exact congrArg ABlk.cells e.symm
      ·(repeat (first | simp only [↓QA, QB, Nat.reduceLT, reduceIte, Nat.reduceEqDiff, Nat.reduceAdd, Nat.reduceLeDiff, Nat.reduceMul, Nat.reduceBEq, QXRm4, setE_eq, bits_len, bits_cell, bits_take, bits_drop, bits_zero, S_bits, h1, h2, hr, hwx, bits_upd h1] | refine rd0 rfl ?_))
       refine ⟨x + 1, ⟨by omega, by omega⟩, by omega, ?_⟩
       have e : bits (upd (fun m => (decide (m < n) && shrunk p ⟨a, b⟩ m) || (decide (m = n) && shrTo p a x n)) n true) = bits fun m => (decide (m < n) && shrunk p ⟨a, b⟩ m) || (decide (m = n) && shrTo p a ((x + 1 : Nat) : Int) n) := bits_congr fun m hm => by
        rw [hss, hp]
        simp only [upd]
        by_cases hmn : m = n
        ·simp [hmn, hlt]
        ·simp [hmn]
       try simp only [TrimX, QE, Nat.reduceLT, reduceIte, Nat.reduceEqDiff, Nat.reduceAdd, Nat.reduceLeDiff, Nat.reduceMul, Nat.reduceBEq, QXRm4, setE_eq, bits_len, bits_cell, bits_take, bits_drop, bits_zero, S_bits]
       first | exact ⟨congrArg ABlk.cells e.symm, .inr (by simp [okBlk, bits_ok])⟩ | exact congrArg ABlk.cells e.symm
     ·have g2 : decide (((n + x : Nat) : Int) < 160) = false := by simp; omega
      (repeat (first | simp only [↓QA, QB, Nat.reduceLT, reduceIte, Nat.reduceEqDiff, Nat.reduceAdd, Nat.reduceLeDiff, Nat.reduceMul, Nat.reduceBEq, QXRm4, setE_eq, bits_len, bits_cell, bits_take, bits_drop, bits_zero, S_bits, g2, hws, hwx] | refine rd0 rfl ?_))
      refine ⟨x + 1, ⟨by omega, by omega⟩, by omega, ?_⟩
      have e : bits (fun m => (decide (m < n) && shrunk p ⟨a, b⟩ m) || (decide (m = n) && shrTo p a x n)) = bits fun m => (decide (m < n) && shrunk p ⟨a, b⟩ m) || (decide (m = n) && shrTo p a ((x + 1 : Nat) : Int) n) := bits_congr fun m hm => by
       rw [hss]; simp [hlt]
      try simp only [TrimX, QE, Nat.reduceLT, reduceIte, Nat.reduceEqDiff, Nat.reduceAdd, Nat.reduceLeDiff, Nat.reduceMul, Nat.reduceBEq, QXRm4, setE_eq, bits_len, bits_cell, bits_take, bits_drop, bits_zero, S_bits]
      first | exact ⟨congrArg ABlk.cells e.symm, .inr (by simp [okBlk, bits_ok])⟩ | exact congrArg ABlk.cells e.symm
    ·have g1 : decide ((x : Int) ≤ b) = false := by simpa using hxb
     (repeat (first | simp only [↓QA, QB, Nat.reduceLT, reduceIte, Nat.reduceEqDiff, Nat.reduceAdd, Nat.reduceLeDiff, Nat.reduceMul, Nat.reduceBEq, QXRm4, setE_eq, bits_len, bits_cell, bits_take, bits_drop, bits_zero, S_bits, g1, hw] | refine rd0 rfl ?_))
     refine ⟨n + 1, by omega, by omega, ?_⟩
     have e : bits (fun m => (decide (m < n) && shrunk p ⟨a, b⟩ m) || (decide (m = n) && shrTo p a x n)) = bits fun m => decide (m < n + 1) && shrunk p ⟨a, b⟩ m := bits_congr fun m hm => by
      have hs : shrTo p a x n = shrunk p ⟨a, b⟩ n := by
       rcases hx2 with h2 | h2
       ·rw [shrunk, show (x : Int) = b + 1 by omega]
       ·rw [shrunk, shrTo_none _ _ _ _ (by omega), shrTo_none _ _ _ _ (by simp only; omega)]
      rw [hs]
      by_cases hmn : m = n
      ·subst hmn; simp
      ·simp [hmn, show m < n + 1 ↔ m < n by omega]
     try simp only [TrimX, QE, Nat.reduceLT, reduceIte, Nat.reduceEqDiff, Nat.reduceAdd, Nat.reduceLeDiff, Nat.reduceMul, Nat.reduceBEq, QXRm4, setE_eq, bits_len, bits_cell, bits_take, bits_drop, bits_zero, S_bits, hw]
     first | exact ⟨congrArg ABlk.cells e.symm, .inr (by simp [okBlk, bits_ok])⟩ | exact congrArg ABlk.cells e.symm
  ·have h1 : n = 160 := by simp at h; omega
   subst h1
   (repeat (first | simp only [↓QA, QB, Nat.reduceLT, reduceIte, Nat.reduceEqDiff, Nat.reduceAdd, Nat.reduceLeDiff, Nat.reduceMul, Nat.reduceBEq, QXRm4, setE_eq, bits_len, bits_cell, bits_take, bits_drop, bits_zero, S_bits] | refine rd0 rfl ?_))
   have : bits (fun m => decide (m < 160) && shrunk p ⟨a, b⟩ m) = bits (shrunk p ⟨a, b⟩) := bits_congr fun m hm => by simp [hm]
   rw [this]
def encEnds (x : Span × Bool) : AV := .tuple [encSpan x.1, .bool x.2]
theorem setends_ok (p : Nat → Bool) : Pure T 52 [setE p] (encEnds (joinTo p 160, decide (0 ≤ (joinTo p 160).hi))) := by
 refine pure_fn (af := a52) rfl (by simp [a52]) dd ?_
 (repeat (first | simp only [↓QA, QB, Nat.reduceLT, reduceIte, Nat.reduceEqDiff, Nat.reduceAdd, Nat.reduceLeDiff, Nat.reduceMul, Nat.reduceBEq, QXRm4, setE_eq, bits_len, bits_cell, bits_take, bits_drop, bits_zero, S_bits, a52] | refine rd0 rfl ?_))
 refine loopE (S := Nat) 0 (fun n => n ≤ 160) (fun n => 160 - n) (fun n => [(1, .ptr 0 0), (2, .ptr 1 0), (4, .ptr 2 0), (5, .int .i64 n)])
  (fun n => [.cells (bits p), .cells [.int .i64 0, .int .i64 0], .cells [.int .i64 (joinTo p n).lo, .int .i64 (joinTo p n).hi]]) (by omega) (by simp [joinTo]) ?_ fun n hn => ?_
 ·try simp only [TrimX, QE, Nat.reduceLT, reduceIte, Nat.reduceEqDiff, Nat.reduceAdd, Nat.reduceLeDiff, Nat.reduceMul, Nat.reduceBEq, QXRm4, setE_eq, bits_len, bits_cell, bits_take, bits_drop, bits_zero, S_bits]
  try simp
 ·(repeat (first | simp only [↓QA, QB, Nat.reduceLT, reduceIte, Nat.reduceEqDiff, Nat.reduceAdd, Nat.reduceLeDiff, Nat.reduceMul, Nat.reduceBEq, QXRm4, setE_eq, bits_len, bits_cell, bits_take, bits_drop, bits_zero, S_bits, L52_0] | refine rd0 rfl ?_))
  refine iteP_intro (fun h => ?_) fun h => ?_
  ·have h1 : n < 160 := by simp at h; omega
   have hr : (0 : Int) ≤ n ∧ (n : Int) < ((160 : Nat) : Int) := by omega
   have hw := wrapN h1 (by omega)
   (repeat (first | simp only [↓QA, QB, Nat.reduceLT, reduceIte, Nat.reduceEqDiff, Nat.reduceAdd, Nat.reduceLeDiff, Nat.reduceMul, Nat.reduceBEq, QXRm4, setE_eq, bits_len, bits_cell, bits_take, bits_drop, bits_zero, S_bits, h1, hr, bits_get h1] | refine rd0 rfl ?_))
   cases hp : p n
   ·(repeat (first | simp only [↓QA, QB, Nat.reduceLT, reduceIte, Nat.reduceEqDiff, Nat.reduceAdd, Nat.reduceLeDiff, Nat.reduceMul, Nat.reduceBEq, QXRm4, setE_eq, bits_len, bits_cell, bits_take, bits_drop, bits_zero, S_bits, hw] | refine rd0 rfl ?_))
    refine ⟨n + 1, by omega, by omega, ?_⟩
    try simp only [TrimX, QE, Nat.reduceLT, reduceIte, Nat.reduceEqDiff, Nat.reduceAdd, Nat.reduceLeDiff, Nat.reduceMul, Nat.reduceBEq, QXRm4, setE_eq, bits_len, bits_cell, bits_take, bits_drop, bits_zero, S_bits, hw, joinTo, hp]
    try simp [okBlk, okVs, okV]
   ·(repeat (first | simp only [↓QA, QB, Nat.reduceLT, reduceIte, Nat.reduceEqDiff, Nat.reduceAdd, Nat.reduceLeDiff, Nat.reduceMul, Nat.reduceBEq, QXRm4, setE_eq, bits_len, bits_cell, bits_take, bits_drop, bits_zero, S_bits] | refine rd0 rfl ?_))
    ((first | refine callK_d (join_ok (joinTo p n) n) rfl dd ?_ | refine callD_d (join_ok (joinTo p n) n) rfl dd ?_); (repeat (first | simp only [↓QA, QB, Nat.reduceLT, reduceIte, Nat.reduceEqDiff, Nat.reduceAdd, Nat.reduceLeDiff, Nat.reduceMul, Nat.reduceBEq, QXRm4, setE_eq, bits_len, bits_cell, bits_take, bits_drop, bits_zero, S_bits, hw] | refine rd0 rfl ?_)))
    refine ⟨n + 1, by omega, by omega, ?_⟩
    try simp only [TrimX, QE, Nat.reduceLT, reduceIte, Nat.reduceEqDiff, Nat.reduceAdd, Nat.reduceLeDiff, Nat.reduceMul, Nat.reduceBEq, QXRm4, setE_eq, bits_len, bits_cell, bits_take, bits_drop, bits_zero, S_bits, hw, joinTo, hp]
    try simp [okBlk, okVs, okV]
  ·have h1 : n = 160 := by simp at h; omega
   subst h1
   (repeat (first | simp only [↓QA, QB, Nat.reduceLT, reduceIte, Nat.reduceEqDiff, Nat.reduceAdd, Nat.reduceLeDiff, Nat.reduceMul, Nat.reduceBEq, QXRm4, setE_eq, bits_len, bits_cell, bits_take, bits_drop, bits_zero, S_bits, encEnds] | refine rd0 rfl ?_))
theorem colour_ok (n : Int) (h0 : 0 ≤ n) (h1 : n < 9223372036854775808) : Pure T 41 [.int .i64 n] (.int .i64 (colourOf n)) := by
 refine pure_fn (af := a41) rfl (by simp [a41]) dd ?_
 have e : n.tdiv 10 = n / 10 := Int.tdiv_eq_ediv_of_nonneg h0
 (repeat (first | simp only [↓QA, QB, Nat.reduceLT, reduceIte, Nat.reduceEqDiff, Nat.reduceAdd, Nat.reduceLeDiff, Nat.reduceMul, Nat.reduceBEq, QXRm4, setE_eq, bits_len, bits_cell, bits_take, bits_drop, bits_zero, S_bits, a41, V_quo _ _ _ (show (10 : Int) ≠ 0 by decide), e, wrap64 (show -9223372036854775808 ≤ n / 10 ∧ n / 10 ≤ 9223372036854775807 by omega), wrap64 (show -9223372036854775808 ≤ 1 + n / 10 ∧ 1 + n / 10 ≤ 9223372036854775807 by omega), colourOf] | refine rd0 rfl ?_))
theorem seen_ok (r : Rm) (day : Int) (but : List Int) (h : Fits r) (hb : but.length < 9223372036854775808) : Pure T 108 [encRoom r, .int .i64 day, ints but] (setE (seenP r.looks day but)) := by
 refine pure_fn (af := a108) rfl (by simp [a108]) dd ?_
 have hfl := h.looks
 (repeat (first | simp only [↓QA, QB, Nat.reduceLT, reduceIte, Nat.reduceEqDiff, Nat.reduceAdd, Nat.reduceLeDiff, Nat.reduceMul, Nat.reduceBEq, QXRm4, setE_eq, bits_len, bits_cell, bits_take, bits_drop, bits_zero, S_bits, a108] | refine rd0 rfl ?_))
 refine loopE (S := Nat) 0 (fun n => n ≤ 160) (fun n => 160 - n) (fun n => [(1, .int .i64 day), (2, ints but), (3, .ptr 0 0), (6, .ptr 1 0), (7, .ptr 2 0), (8, .int .i64 n)])
  (fun n => [.cells (roomCells r), .cells (bits fun _ => false), .cells (bits fun m => decide (m < n) && seenP r.looks day but m)]) (by omega) (by simp [roomCells, ints]) ?_ fun n hn => ?_
 ·try simp only [TrimX, QE, Nat.reduceLT, reduceIte, Nat.reduceEqDiff, Nat.reduceAdd, Nat.reduceLeDiff, Nat.reduceMul, Nat.reduceBEq, QXRm4, setE_eq, bits_len, bits_cell, bits_take, bits_drop, bits_zero, S_bits]
  try simp
 ·(repeat (first | simp only [↓QA, QB, Nat.reduceLT, reduceIte, Nat.reduceEqDiff, Nat.reduceAdd, Nat.reduceLeDiff, Nat.reduceMul, Nat.reduceBEq, QXRm4, setE_eq, bits_len, bits_cell, bits_take, bits_drop, bits_zero, S_bits, L108_0] | refine rd0 rfl ?_))
  refine iteP_intro (fun hd => ?_) fun hd => ?_
  ·have h1 : n < 160 := by simp at hd; omega
   have h2 : n + 1 ≤ 160 := h1
   have hr : (0 : Int) ≤ n ∧ (n : Int) < ((160 : Nat) : Int) := by omega
   have hw := wrapN h1 (by omega)
   (repeat (first | simp only [↓QA, QB, Nat.reduceLT, reduceIte, Nat.reduceEqDiff, Nat.reduceAdd, Nat.reduceLeDiff, Nat.reduceMul, Nat.reduceBEq, QXRm4, setE_eq, bits_len, bits_cell, bits_take, bits_drop, bits_zero, S_bits] | refine rd0 rfl ?_))
   refine loopE (S := Nat × Bool) (0, true) (fun s => s.1 ≤ r.looks.length ∧ (s.2 && soFrom day but (colourOf n) (r.looks.drop s.1) s.1) = seenP r.looks day but n) (fun s => r.looks.length - s.1)
    (fun s => [(1, .int .i64 day), (2, ints but), (3, .ptr 0 0), (6, .ptr 1 0), (7, .ptr 2 0), (8, .int .i64 n), (9, .bool s.2), (10, .int .i64 s.1)])
    (fun s => [.cells (roomCells r), .cells (bits fun _ => false), .cells (bits fun m => decide (m < n) && seenP r.looks day but m)]) ⟨by simp, by simp [seenP]⟩ (by simp [roomCells, ints]) ?_ fun s hs => ?_
   ·try simp only [TrimX, QE, Nat.reduceLT, reduceIte, Nat.reduceEqDiff, Nat.reduceAdd, Nat.reduceLeDiff, Nat.reduceMul, Nat.reduceBEq, QXRm4, setE_eq, bits_len, bits_cell, bits_take, bits_drop, bits_zero, S_bits]
    try simp
   ·obtain ⟨i, so⟩ := s
    obtain ⟨hi, hso⟩ := hs
    simp only at hi hso
    (repeat (first | simp only [↓QA, QB, Nat.reduceLT, reduceIte, Nat.reduceEqDiff, Nat.reduceAdd, Nat.reduceLeDiff, Nat.reduceMul, Nat.reduceBEq, QXRm4, setE_eq, bits_len, bits_cell, bits_take, bits_drop, bits_zero, S_bits, L108_2] | refine rd0 rfl ?_))
    refine iteP_intro (fun hd2 => ?_) fun hd2 => ?_
    ·have hi1 : i < r.looks.length := by simpa using hd2
     have hwi := wrapN hi1 hfl
     rw [List.drop_eq_getElem_cons hi1] at hso
     simp only [soFrom] at hso
     (repeat (first | simp only [↓QA, QB, Nat.reduceLT, reduceIte, Nat.reduceEqDiff, Nat.reduceAdd, Nat.reduceLeDiff, Nat.reduceMul, Nat.reduceBEq, QXRm4, setE_eq, bits_len, bits_cell, bits_take, bits_drop, bits_zero, S_bits, hi1] | refine rd0 rfl ?_))
     cases hq : (r.looks[i].day == day)
     ·(repeat (first | simp only [↓QA, QB, Nat.reduceLT, reduceIte, Nat.reduceEqDiff, Nat.reduceAdd, Nat.reduceLeDiff, Nat.reduceMul, Nat.reduceBEq, QXRm4, setE_eq, bits_len, bits_cell, bits_take, bits_drop, bits_zero, S_bits, hwi, hi1] | refine rd0 rfl ?_))
      refine ⟨(i + 1, so), ⟨by simp only; omega, by rw [← hso, hq]; simp⟩, by simp only; omega, ?_⟩
      try simp only [TrimX, QE, Nat.reduceLT, reduceIte, Nat.reduceEqDiff, Nat.reduceAdd, Nat.reduceLeDiff, Nat.reduceMul, Nat.reduceBEq, QXRm4, setE_eq, bits_len, bits_cell, bits_take, bits_drop, bits_zero, S_bits, hwi]
      try simp
     ·(repeat (first | simp only [↓QA, QB, Nat.reduceLT, reduceIte, Nat.reduceEqDiff, Nat.reduceAdd, Nat.reduceLeDiff, Nat.reduceMul, Nat.reduceBEq, QXRm4, setE_eq, bits_len, bits_cell, bits_take, bits_drop, bits_zero, S_bits, hi1] | refine rd0 rfl ?_))
      ((first | refine callK_d (has_ok but (i : Int) hb) rfl dd ?_ | refine callD_d (has_ok but (i : Int) hb) rfl dd ?_); (repeat (first | simp only [↓QA, QB, Nat.reduceLT, reduceIte, Nat.reduceEqDiff, Nat.reduceAdd, Nat.reduceLeDiff, Nat.reduceMul, Nat.reduceBEq, QXRm4, setE_eq, bits_len, bits_cell, bits_take, bits_drop, bits_zero, S_bits] | refine rd0 rfl ?_)))
      cases hq2 : but.contains (i : Int)
      ·(repeat (first | simp only [↓QA, QB, Nat.reduceLT, reduceIte, Nat.reduceEqDiff, Nat.reduceAdd, Nat.reduceLeDiff, Nat.reduceMul, Nat.reduceBEq, QXRm4, setE_eq, bits_len, bits_cell, bits_take, bits_drop, bits_zero, S_bits, hi1] | refine rd0 rfl ?_))
       cases so with
       | false =>
        (repeat (first | simp only [↓QA, QB, Nat.reduceLT, reduceIte, Nat.reduceEqDiff, Nat.reduceAdd, Nat.reduceLeDiff, Nat.reduceMul, Nat.reduceBEq, QXRm4, setE_eq, bits_len, bits_cell, bits_take, bits_drop, bits_zero, S_bits, hi1, hwi] | refine rd0 rfl ?_))
        refine ⟨(i + 1, false), ⟨by simp only; omega, by rw [← hso]; simp⟩, by simp only; omega, ?_⟩
        try simp only [TrimX, QE, Nat.reduceLT, reduceIte, Nat.reduceEqDiff, Nat.reduceAdd, Nat.reduceLeDiff, Nat.reduceMul, Nat.reduceBEq, QXRm4, setE_eq, bits_len, bits_cell, bits_take, bits_drop, bits_zero, S_bits, hwi]
        try simp
       | true =>
        (repeat (first | simp only [↓QA, QB, Nat.reduceLT, reduceIte, Nat.reduceEqDiff, Nat.reduceAdd, Nat.reduceLeDiff, Nat.reduceMul, Nat.reduceBEq, QXRm4, setE_eq, bits_len, bits_cell, bits_take, bits_drop, bits_zero, S_bits, hi1] | refine rd0 rfl ?_))
        ((first | refine callK_d (colour_ok (n : Int) (by omega) (by omega)) rfl dd ?_ | refine callD_d (colour_ok (n : Int) (by omega) (by omega)) rfl dd ?_); (repeat (first | simp only [↓QA, QB, Nat.reduceLT, reduceIte, Nat.reduceEqDiff, Nat.reduceAdd, Nat.reduceLeDiff, Nat.reduceMul, Nat.reduceBEq, QXRm4, setE_eq, bits_len, bits_cell, bits_take, bits_drop, bits_zero, S_bits, hi1, hwi] | refine rd0 rfl ?_)))
        refine ⟨(i + 1, r.looks[i].colour == colourOf n), ⟨by simp only; omega, by rw [← hso, hq, hq2]; simp⟩, by simp only; omega, ?_⟩
        try simp only [TrimX, QE, Nat.reduceLT, reduceIte, Nat.reduceEqDiff, Nat.reduceAdd, Nat.reduceLeDiff, Nat.reduceMul, Nat.reduceBEq, QXRm4, setE_eq, bits_len, bits_cell, bits_take, bits_drop, bits_zero, S_bits, hwi]
        try simp
      ·(repeat (first | simp only [↓QA, QB, Nat.reduceLT, reduceIte, Nat.reduceEqDiff, Nat.reduceAdd, Nat.reduceLeDiff, Nat.reduceMul, Nat.reduceBEq, QXRm4, setE_eq, bits_len, bits_cell, bits_take, bits_drop, bits_zero, S_bits, hwi] | refine rd0 rfl ?_))
       refine ⟨(i + 1, so), ⟨by simp only; omega, by rw [← hso, hq, hq2]; simp⟩, by simp only; omega, ?_⟩
       try simp only [TrimX, QE, Nat.reduceLT, reduceIte, Nat.reduceEqDiff, Nat.reduceAdd, Nat.reduceLeDiff, Nat.reduceMul, Nat.reduceBEq, QXRm4, setE_eq, bits_len, bits_cell, bits_take, bits_drop, bits_zero, S_bits, hwi]
       try simp
    ·have hi1 : i = r.looks.length := by simp at hd2; omega
     have hv : so = seenP r.looks day but n := by rw [← hso, hi1, List.drop_length]; simp [soFrom]
     (repeat (first | simp only [↓QA, QB, Nat.reduceLT, reduceIte, Nat.reduceEqDiff, Nat.reduceAdd, Nat.reduceLeDiff, Nat.reduceMul, Nat.reduceBEq, QXRm4, setE_eq, bits_len, bits_cell, bits_take, bits_drop, bits_zero, S_bits, h1, h2, hr, hw, bits_upd h1] | refine rd0 rfl ?_))
     refine ⟨n + 1, by omega, by omega, ?_⟩
     have e : bits (upd (fun m => decide (m < n) && seenP r.looks day but m) n so) = bits fun m => decide (m < n + 1) && seenP r.looks day but m := bits_congr fun m hm => by
      simp only [upd]
      by_cases hmn : m = n
      ·simp [hmn, hv]
      ·simp [hmn, show m < n + 1 ↔ m < n by omega]
     try simp only [TrimX, QE, Nat.reduceLT, reduceIte, Nat.reduceEqDiff, Nat.reduceAdd, Nat.reduceLeDiff, Nat.reduceMul, Nat.reduceBEq, QXRm4, setE_eq, bits_len, bits_cell, bits_take, bits_drop, bits_zero, S_bits, hw]
     first | exact ⟨congrArg ABlk.cells e.symm, .inr (by simp [okBlk, bits_ok])⟩ | exact congrArg ABlk.cells e.symm
  ·have h1 : n = 160 := by simp at hd; omega
   subst h1
   (repeat (first | simp only [↓QA, QB, Nat.reduceLT, reduceIte, Nat.reduceEqDiff, Nat.reduceAdd, Nat.reduceLeDiff, Nat.reduceMul, Nat.reduceBEq, QXRm4, setE_eq, bits_len, bits_cell, bits_take, bits_drop, bits_zero, S_bits] | refine rd0 rfl ?_))
   have : bits (fun m => decide (m < 160) && seenP r.looks day but m) = bits (seenP r.looks day but) := bits_congr fun m hm => by simp [hm]
   rw [this]
end Go.Am.Room
set_option maxRecDepth 4000
namespace Go.Am.Room
def QXRm5 := And.intro @setE_eq (And.intro @bits_len (And.intro @bits_cell (And.intro @bits_take (And.intro @bits_drop (And.intro @bits_zero (And.intro @Nat.mul_one (And.intro @Int.toNat_natCast (And.intro @encRoom_eq (And.intro @roomCells_eq (And.intro @encSetting_eq (And.intro @encLook_eq (And.intro @encSpan_eq (@S_bits)))))))))))))
theorem of_s (s : Span) (h0 : 0 ≤ s.lo) (hb : s.hi < 160) : Pure T 107 [encSpan s] (setE (within s)) := by
 obtain ⟨lo, hi⟩ := s
 obtain ⟨a, rfl⟩ := Int.eq_ofNat_of_zero_le h0
 exact of_ok a hi hb
theorem grown_s (p : Nat → Bool) (s : Span) (h0 : 0 ≤ s.lo) (hb : s.hi < 160) : Pure T 109 [setE p, encSpan s] (setE (grownTo p s 160)) := by
 obtain ⟨lo, hi⟩ := s
 obtain ⟨a, rfl⟩ := Int.eq_ofNat_of_zero_le h0
 exact grown_ok p a hi hb
theorem shrunk_s (p : Nat → Bool) (s : Span) (h0 : 0 ≤ s.lo) (hb : s.hi < 160) : Pure T 110 [setE p, encSpan s] (setE (shrunk p s)) := by
 obtain ⟨lo, hi⟩ := s
 obtain ⟨a, rfl⟩ := Int.eq_ofNat_of_zero_le h0
 exact shrunk_ok p a hi hb
def encDays (ps : List (Nat → Bool)) : AV := .lit (ps.map setE) false none
def daysOf (r : Rm) (but : List Int) : List (Nat → Bool) := (List.range (r.ran.length + 1)).map (dayB r but)
theorem data_days (ps : List (Nat → Bool)) : Data (encDays ps) := data_list data_set ps
instance (ps : List (Nat → Bool)) : Dat (encDays ps) := ⟨data_days ps⟩
theorem S_mapE (σ : St) (m d : Nat) (ps : List (Nat → Bool)) : snapMs σ m d (ps.map setE) = some (ps.map setE) := S_datas (datas_map data_set ps) σ m d
theorem allCells_set (ps : List (Nat → Bool)) : allCells 160 (ps.map setE) = true := L_allM 160 setE ps fun p => by rw [setE_eq, C_agg, bits_len, bits_cell]; rfl
theorem flatL_cells : ∀ ps : List (Nat → Bool), (ps.map setE).flatMap AV.cells = flatL ps
 | [] => rfl
 | p :: ps => by simp only [List.map_cons, List.flatMap_cons, flatL, flatL_cells ps, setE, AV.cells]
theorem flatL_len : ∀ ps : List (Nat → Bool), (flatL ps).length = ps.length * 160
 | [] => rfl
 | p :: ps => by
  have := flatL_len ps
  simp only [flatL, List.flatMap_cons, List.length_append, bits_len, List.length_cons, Nat.add_mul] at this ⊢
  omega
theorem flatL_take : ∀ (ps : List (Nat → Bool)) (i : Nat), (flatL ps).take (i * 160) = flatL (ps.take i)
 | ps, 0 => by simp [flatL]
 | [], i + 1 => by simp [flatL]
 | p :: ps, i + 1 => by
  have ih := flatL_take ps i
  simp only [flatL, List.flatMap_cons, List.take_succ_cons] at ih ⊢
  rw [show (i + 1) * 160 = (bits p).length + i * 160 by rw [bits_len]; omega, List.take_append, List.take_of_length_le (by omega), Nat.add_sub_cancel_left, ih]
theorem flatL_set {ps : List (Nat → Bool)} {i : Nat} {q : Nat → Bool} (h : i < ps.length) : (flatL ps).take (i * 160) ++ bits q ++ (flatL ps).drop (i * 160 + 160) = flatL (ps.set i q) := by
 rw [show i * 160 + 160 = (i + 1) * 160 by omega, flatL_take, flatL_drop, List.set_eq_take_append_cons_drop, if_pos h]
 simp [flatL]
theorem view_flat (b : ABlk) (ps : List (Nat → Bool)) : view [b, .cells (flatL ps)] (.ref 1 0 ps.length 160) = some (ps.map setE) := by
 simp only [view, cellsAt, List.getElem?_cons_succ, List.getElem?_cons_zero, List.drop_zero]
 rw [if_pos (by rw [flatL_len]; omega), chop_flat]
def listF (r : Rm) (but : List Int) (d : Nat) : List (Nat → Bool) := (List.range (d + 1)).map (dayF r but)
theorem listF_len (r : Rm) (but : List Int) (d : Nat) : (listF r but d).length = d + 1 := by simp [listF]
theorem listF_succ (r : Rm) (but : List Int) (d : Nat) : listF r but (d + 1) = listF r but d ++ [dayF r but (d + 1)] := by
 simp [listF, List.range_succ]
theorem listF_get {r : Rm} {but : List Int} {d : Nat} (h : d < (listF r but d).length) : (listF r but d)[d] = dayF r but d := by simp [listF]
theorem append_set {k : Nat} {ps : List (Nat → Bool)} {q : Nat → Bool} {b : ABlk} {ex : Bool} (hk : ps.length = k) (hn : k < 100) :
  appendAV 160 160 [b, .tok 160 k ex] (.lit (ps.map setE) false (some 1)) (.lit [.agg (bits q)] true none) = some (.lit (ps.map setE ++ [.agg (bits q)]) false (some 1), [b, .tok 160 (k + 1) true]) := by
 have h1 := app_tok (sz := 160) (b := 160) (σ := [b, .tok 160 k ex]) (xs := ps.map setE) (ys := [.agg (bits q)]) (t := 1) (tk := none) (f := true) (ex := ex)
  ⟨allCells_set ps, by rw [L_all1, L_all0, C_agg, bits_len, bits_cell]; rfl, by simp [room, hk]; omega, by simp [room, hk]; omega⟩ (by simp) (by simp [hk])
 rw [h1]
 simp [hk]
theorem days_first (r : Rm) (but : List Int) (hv : Vd r) (hf : Fits r) (hb : but.length < 9223372036854775808) (K : KJ)
  (hK : ∀ e ex, (r.ran.length ≠ 0 → ex = true) → Env.get e 1 = ints but → Env.get e 2 = .ptr 0 0 → Env.get e 5 = .lit ((listF r but r.ran.length).map setE) false (some 1) → K (some (.exit 0)) e [.cells (roomCells r), .tok 160 (r.ran.length + 1) ex]) (e : Env)
  (e1 : Env.get e 1 = ints but) (e2 : Env.get e 2 = .ptr 0 0) (e5 : Env.get e 5 = .lit [setE (dayF r but 0)] true none) (e6 : Env.get e 6 = .int .i64 0) :
  rK (K := ⟨K⟩) T (.loop L82_0) e [.cells (roomCells r)] := by
 have hrl : r.ran.length ≤ 6 := by have := hv.ranLen; have := hv.days; omega
 refine ghostK 5 160 [setE (dayF r but 0)] e5 ?_
 refine loopE (S := Nat × Bool) (0, false) (fun s => s.1 ≤ r.ran.length ∧ (s.1 ≠ 0 → s.2 = true)) (fun s => r.ran.length - s.1) (fun s => [(1, ints but), (2, .ptr 0 0), (5, .lit ((listF r but s.1).map setE) false (some 1)), (6, .int .i64 s.1)])
  (fun s => [.cells (roomCells r), .tok 160 (s.1 + 1) s.2]) ⟨by simp, by simp⟩ (by simp) ?_ fun s hs => ?_
 ·try simp only [TrimX, QE, Nat.reduceLT, reduceIte, Nat.reduceEqDiff, Nat.reduceAdd, Nat.reduceLeDiff, Nat.reduceMul, Nat.reduceBEq, QXRm5, e1, e2, e5, e6]
  simp [listF, setE]
 ·obtain ⟨d, ex⟩ := s
  obtain ⟨hd, hex⟩ := hs
  simp only at hd hex
  (repeat (first | simp only [↓QA, QB, Nat.reduceLT, reduceIte, Nat.reduceEqDiff, Nat.reduceAdd, Nat.reduceLeDiff, Nat.reduceMul, Nat.reduceBEq, QXRm5, L82_0] | refine rd0 rfl ?_))
  ((first | refine callK_d (today_ok r) rfl dd ?_ | refine callD_d (today_ok r) rfl dd ?_); (repeat (first | simp only [↓QA, QB, Nat.reduceLT, reduceIte, Nat.reduceEqDiff, Nat.reduceAdd, Nat.reduceLeDiff, Nat.reduceMul, Nat.reduceBEq, QXRm5] | refine rd0 rfl ?_)))
  refine iteP_intro (fun hh => ?_) fun hh => ?_
  ·have hd1 : d < r.ran.length := by simpa using hh
   have hw := wrapN hd1 (by omega)
   have hg := hv.ran _ (List.getElem_mem hd1)
   have hg0 : 0 ≤ r.ran[d] := hg.1
   have hg1 : r.ran[d].toNat < r.settings.length := by omega
   have hgs := hv.gains _ (List.getElem_mem hg1)
   have hdl : d < (listF r but d).length := by rw [listF_len]; omega
   have hap := append_set (k := d + 1) (ps := listF r but d) (q := dayF r but (d + 1)) (b := .cells (roomCells r)) (ex := ex) (listF_len r but d) (by omega)
   rw [roomCells_eq] at hap
   have hga := gainAt_eq hd1 hg1
   (repeat (first | simp only [↓QA, QB, Nat.reduceLT, reduceIte, Nat.reduceEqDiff, Nat.reduceAdd, Nat.reduceLeDiff, Nat.reduceMul, Nat.reduceBEq, QXRm5, hd1, hdl, listF_get hdl, V_idxI, hg0, hg1, hw, setE_cells] | refine rd0 rfl ?_))
   ((first | refine callK_d (grown_s (dayF r but d) r.settings[r.ran[d].toNat].gain hgs.1 (by omega)) rfl dd ?_ | refine callD_d (grown_s (dayF r but d) r.settings[r.ran[d].toNat].gain hgs.1 (by omega)) rfl dd ?_); (repeat (first | simp only [↓QA, QB, Nat.reduceLT, reduceIte, Nat.reduceEqDiff, Nat.reduceAdd, Nat.reduceLeDiff, Nat.reduceMul, Nat.reduceBEq, QXRm5, hd1, hdl, listF_get hdl, V_idxI, hg0, hg1, hw, setE_cells] | refine rd0 rfl ?_)))
   ((first | refine callK_d (seen_ok r ((d + 1 : Nat) : Int) but hf hb) rfl dd ?_ | refine callD_d (seen_ok r ((d + 1 : Nat) : Int) but hf hb) rfl dd ?_); (repeat (first | simp only [↓QA, QB, Nat.reduceLT, reduceIte, Nat.reduceEqDiff, Nat.reduceAdd, Nat.reduceLeDiff, Nat.reduceMul, Nat.reduceBEq, QXRm5, hd1, hdl, listF_get hdl, V_idxI, hg0, hg1, hw, setE_cells] | refine rd0 rfl ?_)))
   ((first | refine callK_d (both_ok _ _) rfl dd ?_ | refine callD_d (both_ok _ _) rfl dd ?_); (repeat (first | simp only [↓QA, QB, Nat.reduceLT, reduceIte, Nat.reduceEqDiff, Nat.reduceAdd, Nat.reduceLeDiff, Nat.reduceMul, Nat.reduceBEq, QXRm5] | refine rd0 rfl ?_)))
   have hdf : (fun n => grownTo (dayF r but d) r.settings[r.ran[d].toNat].gain 160 n && seenP r.looks ((d + 1 : Nat) : Int) but n) = dayF r but (d + 1) := by
    rw [← hga]; simp [dayF]
   rw [hdf]
   (repeat (first | simp only [↓QA, QB, Nat.reduceLT, reduceIte, Nat.reduceEqDiff, Nat.reduceAdd, Nat.reduceLeDiff, Nat.reduceMul, Nat.reduceBEq, QXRm5, hd1, hdl, listF_get hdl, V_idxI, hg0, hg1, hw, setE_cells, hap] | refine rd0 rfl ?_))
   refine ⟨(d + 1, true), ⟨by simp only; omega, fun _ => rfl⟩, by simp only; omega, ?_⟩
   try simp only [TrimX, QE, Nat.reduceLT, reduceIte, Nat.reduceEqDiff, Nat.reduceAdd, Nat.reduceLeDiff, Nat.reduceMul, Nat.reduceBEq, QXRm5, hw, S_mapE, listF_succ, List.map_append, List.map_cons, List.map_nil]
   try simp [okBlk]
  ·have hd1 : d = r.ran.length := by simp at hh; omega
   subst hd1
   (repeat (first | simp only [↓QA, QB, Nat.reduceLT, reduceIte, Nat.reduceEqDiff, Nat.reduceAdd, Nat.reduceLeDiff, Nat.reduceMul, Nat.reduceBEq, QXRm5] | refine rd0 rfl ?_))
   refine hK _ ex hex ?_ ?_ ?_
   all_goals try simp only [TrimX, QE, Nat.reduceLT, reduceIte, Nat.reduceEqDiff, Nat.reduceAdd, Nat.reduceLeDiff, Nat.reduceMul, Nat.reduceBEq, QXRm5]
def listB (r : Rm) (but : List Int) (d : Nat) : List (Nat → Bool) := (List.range (r.ran.length + 1)).map fun i => if i < d then dayF r but i else dayB r but i
theorem listB_len (r : Rm) (but : List Int) (d : Nat) : (listB r but d).length = r.ran.length + 1 := by simp [listB]
theorem listB_start (r : Rm) (but : List Int) : listB r but r.ran.length = listF r but r.ran.length := by
 refine List.map_congr_left fun i hi => ?_
 have hi : i < r.ran.length + 1 := by simpa using hi
 by_cases h : i < r.ran.length
 ·simp [h]
 ·have : i = r.ran.length := by omega
  subst this
  simp [dayB, dayK]
theorem listB_end (r : Rm) (but : List Int) : listB r but 0 = daysOf r but := by simp [listB, daysOf]
theorem listB_lo {r : Rm} {but : List Int} {d : Nat} (h : d < (listB r but (d + 1)).length) : (listB r but (d + 1))[d] = dayF r but d := by simp [listB]
theorem listB_hi {r : Rm} {but : List Int} {d : Nat} (h : d + 1 < (listB r but (d + 1)).length) : (listB r but (d + 1))[d + 1] = dayB r but (d + 1) := by simp [listB]
theorem dayB_step (r : Rm) (but : List Int) (d : Nat) (h : d < r.ran.length) : (fun n => dayF r but d n && shrunk (dayB r but (d + 1)) (gainAt r d) n) = dayB r but d := by
 have e : r.ran.length - d = (r.ran.length - (d + 1)) + 1 := by omega
 simp only [dayB]
 rw [e]
 simp only [dayK]
 rw [show r.ran.length - (r.ran.length - (d + 1) + 1) = d by omega]
theorem listB_set (r : Rm) (but : List Int) (d : Nat) (h : d < r.ran.length) : (listB r but (d + 1)).set d (dayB r but d) = listB r but d := by
 apply List.ext_getElem?
 intro i
 by_cases hi : i = d
 ·subst hi
  rw [List.getElem?_set_self (by rw [listB_len]; omega)]
  simp [listB, show i < r.ran.length + 1 by omega]
 ·rw [List.getElem?_set_ne (fun e => hi e.symm)]
  simp only [listB, List.getElem?_map]
  by_cases h2 : i < r.ran.length + 1
  ·simp only [List.getElem?_range h2, Option.map_some]
   by_cases h3 : i < d
   ·simp [h3, show i < d + 1 by omega]
   ·simp [h3, show ¬ i < d + 1 by omega]
  ·rw [List.getElem?_eq_none (by simp; omega)]; rfl
theorem okVs_mono0 {m : Nat} : ∀ {vs : List AV}, okVs 0 vs → okVs m vs := fun {vs} h => by
 have key : ∀ v, okV 0 v → okV m v := by
  intro v hv
  exact okV_up v hv
 induction vs with
 | nil => trivial
 | cons v vs ih => exact ⟨key v h.1, ih h.2⟩
theorem okVs_flat : ∀ vs : List AV, okVs 0 vs → okVs 0 (vs.flatMap AV.cells)
 | [], _ => trivial
 | v :: vs, h => by
  simp only [List.flatMap_cons]
  refine okVs_app (cells_ok v h.1) (okVs_flat vs h.2)
theorem days_ok (r : Rm) (but : List Int) (hv : Vd r) (hf : Fits r) (hb : but.length < 9223372036854775808) : Pure T 82 [encRoom r, ints but] (encDays (daysOf r but)) := by
 have hrl : r.ran.length ≤ 6 := by have := hv.ranLen; have := hv.days; omega
 refine pure_run (af := a82) rfl (by simp [a82]) dd ?_
 simp only [a82]
 refine seq_run (fun e σ => Env.get e 1 = ints but ∧ Env.get e 2 = .ptr 0 0 ∧ σ = [.cells (roomCells r)]) ?_ fun e σ ⟨e1, e2, hσ⟩ => ?_
 ·(repeat (first | simp only [↓QA, QB, Nat.reduceLT, reduceIte, Nat.reduceEqDiff, Nat.reduceAdd, Nat.reduceLeDiff, Nat.reduceMul, Nat.reduceBEq, QXRm5] | refine rd0 rfl ?_))
 subst hσ
 refine chain2 (fun e σ => ∃ ex, (r.ran.length ≠ 0 → ex = true) ∧ Env.get e 1 = ints but ∧ Env.get e 2 = .ptr 0 0 ∧ Env.get e 5 = .lit ((listF r but r.ran.length).map setE) false (some 1) ∧ σ = [.cells (roomCells r), .tok 160 (r.ran.length + 1) ex])
  (fun e σ => Env.get e 2 = .ptr 0 0 ∧ ((r.ran.length = 0 ∧ Env.get e 5 = .lit ((daysOf r but).map setE) false (some 1) ∧ ∃ ex, σ = [.cells (roomCells r), .tok 160 (r.ran.length + 1) ex]) ∨ (r.ran.length ≠ 0 ∧ Env.get e 5 = .ref 1 0 (r.ran.length + 1) 160 ∧ σ = [.cells (roomCells r), .cells (flatL (listB r but r.ran.length))]))) ?_ ?_ ?_
 ·have hs := hv.start
  (repeat (first | simp only [↓QA, QB, Nat.reduceLT, reduceIte, Nat.reduceEqDiff, Nat.reduceAdd, Nat.reduceLeDiff, Nat.reduceMul, Nat.reduceBEq, QXRm5, e1, e2] | refine rd0 rfl ?_))
  ((first | refine callK_d (of_s r.start hs.1 (by omega)) rfl dd ?_ | refine callD_d (of_s r.start hs.1 (by omega)) rfl dd ?_); (repeat (first | simp only [↓QA, QB, Nat.reduceLT, reduceIte, Nat.reduceEqDiff, Nat.reduceAdd, Nat.reduceLeDiff, Nat.reduceMul, Nat.reduceBEq, QXRm5, e1, e2] | refine rd0 rfl ?_)))
  ((first | refine callK_d (seen_ok r 0 but hf hb) rfl dd ?_ | refine callD_d (seen_ok r 0 but hf hb) rfl dd ?_); (repeat (first | simp only [↓QA, QB, Nat.reduceLT, reduceIte, Nat.reduceEqDiff, Nat.reduceAdd, Nat.reduceLeDiff, Nat.reduceMul, Nat.reduceBEq, QXRm5, e1, e2] | refine rd0 rfl ?_)))
  ((first | refine callK_d (both_ok _ _) rfl dd ?_ | refine callD_d (both_ok _ _) rfl dd ?_); (repeat (first | simp only [↓QA, QB, Nat.reduceLT, reduceIte, Nat.reduceEqDiff, Nat.reduceAdd, Nat.reduceLeDiff, Nat.reduceMul, Nat.reduceBEq, QXRm5, e1, e2] | refine rd0 rfl ?_)))
  refine days_first r but hv hf hb _ ?_ _ ?_ ?_ ?_ ?_
  ·intro e ex h1 h2 h3 h4
   (repeat (first | simp only [↓QA, QB, Nat.reduceLT, reduceIte, Nat.reduceEqDiff, Nat.reduceAdd, Nat.reduceLeDiff, Nat.reduceMul, Nat.reduceBEq, QXRm5] | refine rd0 rfl ?_))
   exact ⟨ex, h1, h2, h3, h4, rfl⟩
  all_goals
   try simp only [TrimX, QE, Nat.reduceLT, reduceIte, Nat.reduceEqDiff, Nat.reduceAdd, Nat.reduceLeDiff, Nat.reduceMul, Nat.reduceBEq, QXRm5, e1, e2]
   try rfl
 ·rintro e σ ⟨ex, hex, q1, q2, q5, rfl⟩
  by_cases h0 : r.ran.length = 0
  ·refine ⟨[(5, .lit ((listF r but r.ran.length).map setE) false (some 1)), (2, .ptr 0 0)], _, _, _, trims_of (σ'' := [.cells (roomCells r), .tok 160 (r.ran.length + 1) ex]) ?_, .inl ⟨rfl, rfl⟩, rfl, .inl ⟨h0, ?_, ex, rfl⟩⟩
   ·try simp only [TrimX, QE, Nat.reduceLT, reduceIte, Nat.reduceEqDiff, Nat.reduceAdd, Nat.reduceLeDiff, Nat.reduceMul, Nat.reduceBEq, QXRm5, q2, q5, S_mapE]
    try simp [okBlk]
   ·rw [← listB_end, ← listB_start, h0]; rfl
  ·have hex := hex h0
   subst hex
   refine ⟨[(5, .lit ((listF r but r.ran.length).map setE) false (some 1)), (2, .ptr 0 0)], [.cells (roomCells r), .tok 160 (r.ran.length + 1) true], [(5, .ref 1 0 (r.ran.length + 1) 160), (2, .ptr 0 0)], [.cells (roomCells r), .cells (flatL (listB r but r.ran.length))], trims_of ?_, .inr ⟨1, 5, (listF r but r.ran.length).map setE, 160, by simp, allCells_set _, ?_, rfl, ?_, ?_, ?_, ?_, ?_⟩, rfl, .inr ⟨h0, rfl, rfl⟩⟩
   ·try simp only [TrimX, QE, Nat.reduceLT, reduceIte, Nat.reduceEqDiff, Nat.reduceAdd, Nat.reduceLeDiff, Nat.reduceMul, Nat.reduceBEq, QXRm5, q2, q5, S_mapE]
    try simp [okBlk]
   ·simp [listF_len]
   ·exact okVs0_noToks 1 _ (datas_map data_set _).1
   ·intro q hq
    simp only [List.tail_cons, List.mem_singleton] at hq
    subst hq
    trivial
   ·intro i b hi hb'
    match i with
    | 0 =>
     simp only [List.getElem?_cons_zero, Option.some.injEq] at hb'
     subst hb'
     exact okVs0_noToks 1 _ (show okVs 0 (roomCells r) from (data_room r).1)
    | 1 => exact absurd rfl hi
    | i + 2 => simp at hb'
   ·simp [listF_len]
   ·rw [flatL_cells, ← listB_start]; rfl
 ·rintro e σ ⟨q2, hc⟩
  rcases hc with ⟨h0, q5, ex, rfl⟩ | ⟨h0, q5, rfl⟩
  ·refine code_run ?_
   (repeat (first | simp only [↓QA, QB, Nat.reduceLT, reduceIte, Nat.reduceEqDiff, Nat.reduceAdd, Nat.reduceLeDiff, Nat.reduceMul, Nat.reduceBEq, QXRm5, q2, q5] | refine rd0 rfl ?_))
   ((first | refine callK_d (today_ok r) rfl dd ?_ | refine callD_d (today_ok r) rfl dd ?_); (repeat (first | simp only [↓QA, QB, Nat.reduceLT, reduceIte, Nat.reduceEqDiff, Nat.reduceAdd, Nat.reduceLeDiff, Nat.reduceMul, Nat.reduceBEq, QXRm5, h0] | refine rd0 rfl ?_)))
   refine loopE (S := Unit) () (fun _ => True) (fun _ => 0) (fun _ => [(2, .ptr 0 0), (5, .lit ((daysOf r but).map setE) false (some 1)), (7, .int .i64 (-1))]) (fun _ => [.cells (roomCells r), .tok 160 (r.ran.length + 1) ex]) trivial (by simp [roomCells, ints, h0]) ?_ fun u _ => ?_
   ·try simp only [TrimX, QE, Nat.reduceLT, reduceIte, Nat.reduceEqDiff, Nat.reduceAdd, Nat.reduceLeDiff, Nat.reduceMul, Nat.reduceBEq, QXRm5, q2, q5, h0]
    simp [wrap64]
   ·(repeat (first | simp only [↓QA, QB, Nat.reduceLT, reduceIte, Nat.reduceEqDiff, Nat.reduceAdd, Nat.reduceLeDiff, Nat.reduceMul, Nat.reduceBEq, QXRm5, L82_2, show decide ((0 : Int) ≤ -1) = false from rfl] | refine rd0 rfl ?_))
    rw [encDays]
    try simp only [QS, QC, Nat.reduceLT, reduceIte, Nat.reduceEqDiff, Nat.reduceAdd, Nat.reduceLeDiff, Nat.reduceMul, Nat.reduceBEq, QXRm5, S_mapE]
  ·refine code_run ?_
   (repeat (first | simp only [↓QA, QB, Nat.reduceLT, reduceIte, Nat.reduceEqDiff, Nat.reduceAdd, Nat.reduceLeDiff, Nat.reduceMul, Nat.reduceBEq, QXRm5, q2, q5] | refine rd0 rfl ?_))
   ((first | refine callK_d (today_ok r) rfl dd ?_ | refine callD_d (today_ok r) rfl dd ?_); (repeat (first | simp only [↓QA, QB, Nat.reduceLT, reduceIte, Nat.reduceEqDiff, Nat.reduceAdd, Nat.reduceLeDiff, Nat.reduceMul, Nat.reduceBEq, QXRm5] | refine rd0 rfl ?_)))
   refine loopE (S := Nat) r.ran.length (fun d => d ≤ r.ran.length) (fun d => d) (fun d => [(2, .ptr 0 0), (5, .ref 1 0 (r.ran.length + 1) 160), (7, .int .i64 ((d : Int) - 1))]) (fun d => [.cells (roomCells r), .cells (flatL (listB r but d))]) (Nat.le_refl _) (by simp [roomCells, ints]) ?_ fun d hd => ?_
   ·try simp only [TrimX, QE, Nat.reduceLT, reduceIte, Nat.reduceEqDiff, Nat.reduceAdd, Nat.reduceLeDiff, Nat.reduceMul, Nat.reduceBEq, QXRm5, q2, q5]
    rw [wrap64 ⟨by omega, by omega⟩]
    simp
   ·(repeat (first | simp only [↓QA, QB, Nat.reduceLT, reduceIte, Nat.reduceEqDiff, Nat.reduceAdd, Nat.reduceLeDiff, Nat.reduceMul, Nat.reduceBEq, QXRm5, L82_2] | refine rd0 rfl ?_))
    cases d with
    | zero =>
     (repeat (first | simp only [↓QA, QB, Nat.reduceLT, reduceIte, Nat.reduceEqDiff, Nat.reduceAdd, Nat.reduceLeDiff, Nat.reduceMul, Nat.reduceBEq, QXRm5, show decide ((0 : Int) ≤ ((0 : Nat) : Int) - 1) = false from rfl] | refine rd0 rfl ?_))
     rw [listB_end, encDays]
     have hl : (daysOf r but).length = r.ran.length + 1 := by simp [daysOf]
     rw [← hl, show (20 : Nat) = 19 + 1 from rfl, S_ref, if_neg (by omega), view_flat]
     simp only [Option.bind_some]
     rw [if_pos (by rw [allCells_set]; rfl), S_mapE]
     rfl
    | succ d =>
     have g1 : decide ((0 : Int) ≤ ((d + 1 : Nat) : Int) - 1) = true := by simp
     have hd1 : d < r.ran.length := hd
     have hd2 : d + 1 < r.ran.length + 1 := by omega
     have e1 : ((d + 1 : Nat) : Int) - 1 = (d : Int) := by omega
     have hw := wrapN hd1 (by omega)
     have hw2 : IntKind.i64.wrap ((d : Int) - 1) = (d : Int) - 1 := wrap64 ⟨by omega, by omega⟩
     have hg := hv.ran _ (List.getElem_mem hd1)
     have hg0 : 0 ≤ r.ran[d] := hg.1
     have hg1 : r.ran[d].toNat < r.settings.length := by omega
     have hgs := hv.gains _ (List.getElem_mem hg1)
     have hga := gainAt_eq hd1 hg1
     have l1 : d < (listB r but (d + 1)).length := by rw [listB_len]; omega
     have l2 : d + 1 < (listB r but (d + 1)).length := by rw [listB_len]; omega
     have i1 : (0 : Int) ≤ (d : Int) ∧ (d : Int) < ((r.ran.length + 1 : Nat) : Int) ∧ 160 = 160 := ⟨by omega, by omega, rfl⟩
     have i2 : (0 : Int) ≤ ((d + 1 : Nat) : Int) ∧ ((d + 1 : Nat) : Int) < ((r.ran.length + 1 : Nat) : Int) ∧ 160 = 160 := ⟨by omega, by omega, rfl⟩
     have b1 : d * 160 + 160 ≤ (flatL (listB r but (d + 1))).length := by rw [flatL_len, listB_len]; omega
     have b2 : (d + 1) * 160 + 160 ≤ (flatL (listB r but (d + 1))).length := by rw [flatL_len, listB_len]; omega
     have t1 := flatL_at l1
     have t2 := flatL_at l2
     rw [listB_lo l1] at t1
     rw [listB_hi l2] at t2
     rw [e1] at g1
     (repeat (first | simp only [↓QA, QB, Nat.reduceLT, reduceIte, Nat.reduceEqDiff, Nat.reduceAdd, Nat.reduceLeDiff, Nat.reduceMul, Nat.reduceBEq, QXRm5, g1, e1, hw, hw2, i1, i2, b1, b2, t1, t2, hd1, V_idxI, hg0, hg1] | refine rd0 rfl ?_))
     ((first | refine callK_d (shrunk_s (dayB r but (d + 1)) r.settings[r.ran[d].toNat].gain hgs.1 (by omega)) rfl dd ?_ | refine callD_d (shrunk_s (dayB r but (d + 1)) r.settings[r.ran[d].toNat].gain hgs.1 (by omega)) rfl dd ?_); (repeat (first | simp only [↓QA, QB, Nat.reduceLT, reduceIte, Nat.reduceEqDiff, Nat.reduceAdd, Nat.reduceLeDiff, Nat.reduceMul, Nat.reduceBEq, QXRm5, g1, e1, hw, hw2, i1, i2, b1, b2, t1, t2, hd1, V_idxI, hg0, hg1] | refine rd0 rfl ?_)))
     ((first | refine callK_d (both_ok _ _) rfl dd ?_ | refine callD_d (both_ok _ _) rfl dd ?_); (repeat (first | simp only [↓QA, QB, Nat.reduceLT, reduceIte, Nat.reduceEqDiff, Nat.reduceAdd, Nat.reduceLeDiff, Nat.reduceMul, Nat.reduceBEq, QXRm5, g1, e1, hw, hw2, i1, i2, b1, b2, t1, t2, hd1, V_idxI, hg0, hg1] | refine rd0 rfl ?_)))
     rw [← hga]
     have est : (flatL (listB r but (d + 1))).take (d * 160) ++ bits (fun n => dayF r but d n && shrunk (dayB r but (d + 1)) (gainAt r d) n) ++ (flatL (listB r but (d + 1))).drop (d * 160 + 160) = flatL (listB r but d) := by
      rw [dayB_step r but d hd1, flatL_set l1, listB_set r but d hd1]
     refine ⟨d, by omega, by omega, ?_⟩
     try simp only [TrimX, QE, Nat.reduceLT, reduceIte, Nat.reduceEqDiff, Nat.reduceAdd, Nat.reduceLeDiff, Nat.reduceMul, Nat.reduceBEq, QXRm5, est]
     refine ⟨S_refK (by omega), .inr (okVs_mono0 ?_)⟩
     rw [← flatL_cells]
     exact okVs_flat _ (datas_map data_set _).1
end Go.Am.Room
set_option maxRecDepth 4000
namespace Go.Am.Room
def QXRm6 := And.intro @setE_eq (And.intro @bits_len (And.intro @bits_cell (And.intro @bits_take (And.intro @bits_drop (And.intro @bits_zero (And.intro @Nat.mul_one (And.intro @Int.toNat_natCast (And.intro @encRoom_eq (And.intro @roomCells_eq (And.intro @encSetting_eq (And.intro @encLook_eq (And.intro @encSpan_eq (@S_bits)))))))))))))
theorem room_nil (r : Rm) : clrs [encRoom r, .lit [] true none] = [encRoom r, ints []] := by simp [clrs, (data_room r).2, clr, ints]
theorem room_nil_ok (r : Rm) : okVs 0 [encRoom r, .lit [] true none] := ⟨(data_room r).1, by simp [okV, okVs], trivial⟩
theorem daysOf_len (r : Rm) (but : List Int) : (daysOf r but).length = r.ran.length + 1 := by simp [daysOf]
theorem daysOf_get {r : Rm} {but : List Int} {d : Nat} (h : d < (daysOf r but).length) : (daysOf r but)[d] = dayB r but d := by simp [daysOf]
theorem some_ok (r : Rm) (but : List Int) (hv : Vd r) (hf : Fits r) (hb : but.length < 9223372036854775808) : Pure T 56 [encRoom r, ints but] (.bool (someB r but)) := by
 refine pure_fn (af := a56) rfl (by simp [a56]) dd ?_
 have hl : r.ran.length < (daysOf r but).length := by rw [daysOf_len]; omega
 (repeat (first | simp only [↓QA, QB, Nat.reduceLT, reduceIte, Nat.reduceEqDiff, Nat.reduceAdd, Nat.reduceLeDiff, Nat.reduceMul, Nat.reduceBEq, QXRm6, a56] | refine rd0 rfl ?_))
 refine rK_dreg1 [.cells [.int .i64 0, .int .i64 0]] rfl ?_
 (repeat (first | simp only [↓QA, QB, Nat.reduceLT, reduceIte, Nat.reduceEqDiff, Nat.reduceAdd, Nat.reduceLeDiff, Nat.reduceMul, Nat.reduceBEq, QXRm6] | refine rd0 rfl ?_))
 ((first | refine callK_d (days_ok r but hv hf hb) rfl dd ?_ | refine callD_d (days_ok r but hv hf hb) rfl dd ?_); (repeat (first | simp only [↓QA, QB, Nat.reduceLT, reduceIte, Nat.reduceEqDiff, Nat.reduceAdd, Nat.reduceLeDiff, Nat.reduceMul, Nat.reduceBEq, QXRm6] | refine rd0 rfl ?_)))
 ((first | refine callK_d (today_ok r) rfl dd ?_ | refine callD_d (today_ok r) rfl dd ?_); (repeat (first | simp only [↓QA, QB, Nat.reduceLT, reduceIte, Nat.reduceEqDiff, Nat.reduceAdd, Nat.reduceLeDiff, Nat.reduceMul, Nat.reduceBEq, QXRm6, encDays, hl, setE_cells, daysOf_get hl] | refine rd0 rfl ?_)))
 ((first | refine callK_d (setends_ok _) rfl dd ?_ | refine callD_d (setends_ok _) rfl dd ?_); (repeat (first | simp only [↓QA, QB, Nat.reduceLT, reduceIte, Nat.reduceEqDiff, Nat.reduceAdd, Nat.reduceLeDiff, Nat.reduceMul, Nat.reduceBEq, QXRm6, encEnds, someB, endsOf, encDays, hl, setE_cells, daysOf_get hl] | refine rd0 rfl ?_)))
 rfl
end Go.Am.Room
set_option maxRecDepth 8000
namespace Go.Am.Room
theorem valid_ok (r : Rm) (hf : Fits r) : Pure T 38 [encRoom r] (.bool (decide ((check r).2.2 = 0))) := by
 refine pure_fn (af := a38) rfl (by simp [a38]) dd ?_
 (repeat (first | simp only [↓QA, QB, Nat.reduceLT, reduceIte, Nat.reduceEqDiff, Nat.reduceAdd, Nat.reduceLeDiff, Nat.reduceMul, Nat.reduceBEq, QXLaw1, a38] | refine rd0 rfl ?_))
 ((first | refine callK_d (refcheck_ok r hf) rfl dd ?_ | refine callD_d (refcheck_ok r hf) rfl dd ?_); (repeat (first | simp only [↓QA, QB, Nat.reduceLT, reduceIte, Nat.reduceEqDiff, Nat.reduceAdd, Nat.reduceLeDiff, Nat.reduceMul, Nat.reduceBEq, QXLaw1, enc3] | refine rd0 rfl ?_)))
 try rfl
 try (simp; rfl)
def someV (r : Rm) : Bool := decide ((check r).2.2 = 0) && someB r []
theorem some2_ok (r : Rm) (hf : Fits r) : Pure T 45 [encRoom r] (.bool (someV r)) := by
 refine pure_fn (af := a45) rfl (by simp [a45]) dd ?_
 (repeat (first | simp only [↓QA, QB, Nat.reduceLT, reduceIte, Nat.reduceEqDiff, Nat.reduceAdd, Nat.reduceLeDiff, Nat.reduceMul, Nat.reduceBEq, QXLaw1, a45] | refine rd0 rfl ?_))
 ((first | refine callK_d (valid_ok r hf) rfl dd ?_ | refine callD_d (valid_ok r hf) rfl dd ?_); (repeat (first | simp only [↓QA, QB, Nat.reduceLT, reduceIte, Nat.reduceEqDiff, Nat.reduceAdd, Nat.reduceLeDiff, Nat.reduceMul, Nat.reduceBEq, QXLaw1] | refine rd0 rfl ?_)))
 cases h0 : decide ((check r).2.2 = 0)
 ·(repeat (first | simp only [↓QA, QB, Nat.reduceLT, reduceIte, Nat.reduceEqDiff, Nat.reduceAdd, Nat.reduceLeDiff, Nat.reduceMul, Nat.reduceBEq, QXLaw1, someV, h0, Bool.false_and] | refine rd0 rfl ?_))
 ·have hv := vd_of_check (by simpa using h0)
  have hs := some_ok r [] hv hf (by simp)
  (repeat (first | simp only [↓QA, QB, Nat.reduceLT, reduceIte, Nat.reduceEqDiff, Nat.reduceAdd, Nat.reduceLeDiff, Nat.reduceMul, Nat.reduceBEq, QXLaw1] | refine rd0 rfl ?_))
  refine callK_v hs (room_nil r) (room_nil_ok r) ?_
  (repeat (first | simp only [↓QA, QB, Nat.reduceLT, reduceIte, Nat.reduceEqDiff, Nat.reduceAdd, Nat.reduceLeDiff, Nat.reduceMul, Nat.reduceBEq, QXLaw1, someV, h0, Bool.true_and] | refine rd0 rfl ?_))
def turnOf (l : List Int) (n : Nat) : Int := if l.length = 0 then 0 else (l[n % l.length]?).getD 0
def oneOf (s : Span) (n : Int) : Int := s.lo + n.tmod (s.hi - s.lo + 1)
theorem subset_ok (a b : List Int) (ha : a.length < 9223372036854775808) (hb : b.length < 9223372036854775808) : Pure T 59 [ints a, ints b] (.bool (a.all b.contains)) := by
 refine pure_fn (af := a59) rfl (by simp [a59]) dd ?_
 (repeat (first | simp only [↓QA, QB, Nat.reduceLT, reduceIte, Nat.reduceEqDiff, Nat.reduceAdd, Nat.reduceLeDiff, Nat.reduceMul, Nat.reduceBEq, QXLaw1, a59] | refine rd0 rfl ?_))
 refine loopE (S := Nat) 0 (fun k => k ≤ a.length ∧ (a.drop k).all b.contains = a.all b.contains) (fun k => a.length - k) (fun k => [(0, ints a), (1, ints b), (5, .int .i64 k)]) (fun _ => []) ⟨by simp, by simp⟩ rfl ?_ fun k hk => ?_
 ·try simp only [TrimX, QE, Nat.reduceLT, reduceIte, Nat.reduceEqDiff, Nat.reduceAdd, Nat.reduceLeDiff, Nat.reduceMul, Nat.reduceBEq, QXLaw1]
  try simp
 ·obtain ⟨hk, hq⟩ := hk
  (repeat (first | simp only [↓QA, QB, Nat.reduceLT, reduceIte, Nat.reduceEqDiff, Nat.reduceAdd, Nat.reduceLeDiff, Nat.reduceMul, Nat.reduceBEq, QXLaw1, L59_0] | refine rd0 rfl ?_))
  refine iteP_intro (fun h => ?_) fun h => ?_
  ·have hk1 : k < a.length := by simpa using h
   have hw := wrapN hk1 ha
   rw [List.drop_eq_getElem_cons hk1, List.all_cons] at hq
   (repeat (first | simp only [↓QA, QB, Nat.reduceLT, reduceIte, Nat.reduceEqDiff, Nat.reduceAdd, Nat.reduceLeDiff, Nat.reduceMul, Nat.reduceBEq, QXLaw1, hk1] | refine rd0 rfl ?_))
   ((first | refine callK_d (has_ok b a[k] hb) rfl dd ?_ | refine callD_d (has_ok b a[k] hb) rfl dd ?_); (repeat (first | simp only [↓QA, QB, Nat.reduceLT, reduceIte, Nat.reduceEqDiff, Nat.reduceAdd, Nat.reduceLeDiff, Nat.reduceMul, Nat.reduceBEq, QXLaw1, hk1] | refine rd0 rfl ?_)))
   cases h2 : b.contains a[k]
   ·rw [h2, Bool.false_and] at hq
    (repeat (first | simp only [↓QA, QB, Nat.reduceLT, reduceIte, Nat.reduceEqDiff, Nat.reduceAdd, Nat.reduceLeDiff, Nat.reduceMul, Nat.reduceBEq, QXLaw1, ← hq] | refine rd0 rfl ?_))
   ·rw [h2, Bool.true_and] at hq
    (repeat (first | simp only [↓QA, QB, Nat.reduceLT, reduceIte, Nat.reduceEqDiff, Nat.reduceAdd, Nat.reduceLeDiff, Nat.reduceMul, Nat.reduceBEq, QXLaw1, hk1] | refine rd0 rfl ?_))
    refine ⟨k + 1, ⟨by omega, hq⟩, by omega, ?_⟩
    try simp only [TrimX, QE, Nat.reduceLT, reduceIte, Nat.reduceEqDiff, Nat.reduceAdd, Nat.reduceLeDiff, Nat.reduceMul, Nat.reduceBEq, QXLaw1, hw]
  ·have hk1 : k = a.length := by simp at h; omega
   rw [hk1, List.drop_length, List.all_nil] at hq
   (repeat (first | simp only [↓QA, QB, Nat.reduceLT, reduceIte, Nat.reduceEqDiff, Nat.reduceAdd, Nat.reduceLeDiff, Nat.reduceMul, Nat.reduceBEq, QXLaw1, ← hq] | refine rd0 rfl ?_))
end Go.Am.Room
set_option maxRecDepth 8000
namespace Go.Am.Room
theorem reach_len (r : Rm) (day : Int) : (reachOf r day).1.length ≤ 7 := by
 unfold reachOf
 split
 ·have := List.length_filter_le (reaches r day) (numbers 1 7)
  simpa [numbers_len] using this
 ·simp
theorem plan_len (r : Rm) (day c : Int) : (planOf r day c).1.length ≤ 7 := by
 unfold planOf
 split
 ·rename_i h0
  obtain ⟨h1, hs⟩ := errKnown_ok h0
  obtain ⟨h2, _, _⟩ := errWant_ok h1
  obtain ⟨hv, hd0, hd1⟩ := errAsk_ok h2
  have hdd := hv.days
  have hdr := hv.ranLen
  rcases best_cases r (ptsS r r.ran.length) (beforeOf r) (day - r.ran.length).toNat c with ⟨hb, _⟩ | ⟨j, l, hl, hb, _⟩
  ·rw [hb]; simp
  ·rw [hb]
   have := (listsOf_spec _ _ l (List.mem_of_getElem? hl)).1
   simp only; omega
 ·simp
theorem fill_len (r : Rm) (day c : Int) : (fillOf r day c).1.length ≤ 7 := by
 unfold fillOf
 split
 ·rename_i h0
  obtain ⟨h1, _, _⟩ := errWant_ok h0
  obtain ⟨hv, hd0, hd1⟩ := errAsk_ok h1
  have hdd := hv.days
  have := List.length_filter_le (fills r day c) (numbers 0 (day + 1).toNat)
  rw [numbers_len] at this
  simp only; omega
 ·simp
structure Tr (r : Rm) : Prop where
 vd : Vd r
 some : someB r [] = true
 chk : (check r).2.2 = 0
theorem tr_of {r : Rm} (h : (decide ((check r).2.2 = 0) && someB r []) = true) : Tr r := by
 simp only [Bool.and_eq_true, decide_eq_true_eq] at h
 exact ⟨vd_of_check h.1, h.2, h.1⟩
theorem Tr.ask {r : Rm} (h : Tr r) {n lo hi : Int} (h1 : lo ≤ n) (h2 : n ≤ hi) : errAsk r n lo hi = 0 := by simp [errAsk, h.chk, inR, h1, h2]
theorem Tr.known {r : Rm} (h : Tr r) : errKnown r 0 = 0 := by simp [errKnown, h.some]
theorem Tr.points {r : Rm} (h : Tr r) {d : Nat} (hd : d ≤ r.ran.length) : pointsOf r d = (ptsS r d, 0) := by
 have e := h.ask (n := (d : Int)) (lo := 0) (hi := r.ran.length) (by omega) (by omega)
 rw [pointsOf, e, h.known, if_pos rfl, Int.toNat_natCast, ptsS_eq h.vd]
theorem Tr.colours {r : Rm} (h : Tr r) {d : Nat} (hd : d ≤ r.ran.length) : coloursOf r d = (colours (ptsS r d), 0) := by
 rw [coloursOf, h.points hd]; rfl
theorem Tr.bd {r : Rm} (h : Tr r) (d : Nat) : 0 ≤ (ptsS r d).lo ∧ (ptsS r d).lo ≤ (ptsS r d).hi ∧ (ptsS r d).hi < 160 := ptsS_bd h.vd h.some d
theorem Tr.reach {r : Rm} (h : Tr r) {day : Int} (h1 : (r.ran.length : Int) ≤ day) (h2 : day ≤ r.days) : reachOf r day = ((numbers 1 7).filter (reaches r day), 0) := by
 rw [reachOf, reachErr, h.ask h1 h2, h.known, if_pos rfl]
theorem Tr.plan {r : Rm} (h : Tr r) {day c : Int} (h1 : (r.ran.length : Int) ≤ day) (h2 : day ≤ r.days) (h3 : 1 ≤ c) (h4 : c ≤ 7) : planOf r day c = (match bestOf r (ptsS r r.ran.length) (beforeOf r) (day - r.ran.length).toNat c with | .none => ([], 0, 9) | .some x => (x.1, x.2, 0)) := by
 have : isColour c = true := by simp [isColour, inR, h3, h4]
 rw [planOf, planErr, h.ask h1 h2, errWant, this]
 simp only [if_true, h.known]
 rfl
theorem Tr.fill {r : Rm} (h : (check r).2.2 = 0) {day c : Int} (h1 : 0 ≤ day) (h2 : day ≤ r.days) (h3 : 1 ≤ c) (h4 : c ≤ 7) : fillOf r day c = ((numbers 0 (day + 1).toNat).filter (fills r day c), 0) := by
 have : isColour c = true := by simp [isColour, inR, h3, h4]
 have e : errAsk r day 0 r.days = 0 := by simp [errAsk, h, inR, h1, h2]
 rw [fillOf, fillErr, e, errWant, this]
 simp
end Go.Am.Room
set_option maxRecDepth 8000
namespace Go.Am.Room
def tp (r : Rm) (x : List Int) : Nat → Int
 | 0 => oneOf r.start (turnOf x 0)
 | d + 1 => tp r x d + oneOf (gainAt r d) (turnOf x (1 + d))
def toldLooks (r : Rm) (x : List Int) (l : List Look) : List Look := l.map fun y => ⟨y.day, colourOf (tp r x y.day.toNat)⟩
def told (r : Rm) (x : List Int) : Rm := { r with looks := toldLooks r x r.looks }
end Go.Am.Room
set_option maxRecDepth 8000
namespace Go.Am.Room
def QXLaw5 := And.intro @encRoom_eq (And.intro @roomCells_eq (And.intro @encSetting_eq (And.intro @encLook_eq (And.intro @encSpan_eq (And.intro @T_sapp (@List.length_append.{0}))))))
def oft (r : Rm) (m : Int) : Rm := { r with opens := min 6 (r.opens + m.tmod 3) }
theorem sum_oft (r : Rm) (m : Int) : ∀ l, sumS (oft r m) l = sumS r l
 | [] => rfl
 | n :: l => by simp only [sumS, sum_oft r m l]; rfl
theorem fwd_oft (r : Rm) (m : Int) (but : List Int) : ∀ d, fwd (oft r m) but d = fwd r but d
 | 0 => rfl
 | d + 1 => by simp only [fwd, fwd_oft r m but d]; rfl
theorem bwd_oft (r : Rm) (m : Int) (but : List Int) : ∀ d, bwd (oft r m) but d = bwd r but d
 | 0 => fwd_oft r m but _
 | d + 1 => by simp only [bwd, bwd_oft r m but d, fwd_oft]; rfl
theorem oft_opens {r : Rm} (hv : Vd r) {m : Int} (hm : 0 ≤ m) : r.opens ≤ (oft r m).opens ∧ (oft r m).opens ≤ 6 ∧ 0 ≤ (oft r m).opens := by
 have := hv.opens
 have h1 := Int.tmod_nonneg 3 hm
 simp only [oft]; omega
theorem oft_tr {r : Rm} (tr : Tr r) {m : Int} (hm : 0 ≤ m) : Tr (oft r m) := by
 have hv := tr.vd
 have ho := oft_opens hv hm
 have hoo := hv.opens
 have hv2 : Vd (oft r m) := ⟨hv.days, hv.start, hv.nset, hv.gains, ⟨ho.2.2, ho.2.1⟩, hv.ranLen, hv.ran, hv.looksLen, hv.looks⟩
 refine ⟨hv2, ?_, ?_⟩
 ·rw [someB_eq hv2, fwd_oft]
  have := tr.some
  rw [someB_eq hv] at this
  exact this
 ·have h := tr.chk
  have h1 : inR r.opens 0 6 = true := by simp [inR]; omega
  have h2 : inR (oft r m).opens 0 6 = true := by simp [inR]; omega
  have hd : inR r.days 1 6 = true := by have := hv.days; simp [inR]; omega
  have hst : ends r.start 0 69 = 0 := by have := hv.start; simp [ends, inR]; omega
  have e : check (oft r m) = check r := by
   have e1 : check2 (oft r m) = check2 r := rfl
   simp only [check, h1, h2, e1, show (oft r m).days = r.days from rfl, show (oft r m).start = r.start from rfl]
  rw [e]; exact h
theorem okpl_oft {r : Rm} {m : Int} {s : Span} {b c : Int} {l : List Int} : OkPl (oft r m) s b c l ↔ changesOf b l ≤ (oft r m).opens ∧ givesOf r s l c = true := by
 simp only [OkPl, givesOf, sum_oft]
theorem best_oft {r : Rm} (hv : Vd r) {m : Int} (hm : 0 ≤ m) {s : Span} {b c : Int} {many : Nat} {x : List Int × Int} (h : bestOf r s b many c = some x) : bestOf (oft r m) s b many c = some x := by
 have ho := oft_opens hv hm
 rcases best_cases r s b many c with ⟨h1, _⟩ | ⟨j, l, h1, h2, h3, h4, h5⟩
 ·rw [h1] at h; cases h
 rw [← h, h2]
 have hm1 := List.mem_of_getElem? h1
 have okl : OkPl (oft r m) s b c l := okpl_oft.2 ⟨by have := h3.1; omega, h3.2⟩
 rcases best_cases (oft r m) s b many c with ⟨g1, g2⟩ | ⟨j', l', g1, g2, g3, g4, g5⟩
 ·exact absurd okl (g2 l hm1)
 ·have hm2 := List.mem_of_getElem? g1
  have a1 := g4 l hm1 okl
  have okl' : OkPl r s b c l' := ⟨by have := h3.1; omega, (okpl_oft.1 g3).2⟩
  have a2 := h4 l' hm2 okl'
  rw [g2]
  have hjj : j = j' := by
   by_cases q1 : j' < j
   ·have := h5 j' l' q1 g1 okl'; omega
   ·by_cases q2 : j < j'
    ·have := g5 j l q2 h1 okl; omega
    ·omega
  subst hjj
  have : (listsOf (oft r m).settings.length many) = listsOf r.settings.length many := rfl
  rw [this, h1] at g1
  cases g1
  rfl
theorem roomoften_ok (r : Rm) (m x y : Int) (hf : Fits r) (hm : 0 ≤ m ∧ m < 256) (hx : 0 ≤ x ∧ x < 256) (hy : 0 ≤ y ∧ y < 256) : Pure T 14 [encRoom r, .int .u8 m, encWanted x y] (.bool true) := by
 refine pure_fn (af := a14) rfl (by simp [a14]) dd ?_
 (repeat (first | simp only [↓QA, QB, Nat.reduceLT, reduceIte, Nat.reduceEqDiff, Nat.reduceAdd, Nat.reduceLeDiff, Nat.reduceMul, Nat.reduceBEq, QXLaw5, a14, encWanted] | refine rd0 rfl ?_))
 ((first | refine callK_d (some2_ok r hf) rfl dd ?_ | refine callD_d (some2_ok r hf) rfl dd ?_); (repeat (first | simp only [↓QA, QB, Nat.reduceLT, reduceIte, Nat.reduceEqDiff, Nat.reduceAdd, Nat.reduceLeDiff, Nat.reduceMul, Nat.reduceBEq, QXLaw5] | refine rd0 rfl ?_)))
 cases hs : someV r
 ·(repeat (first | simp only [↓QA, QB, Nat.reduceLT, reduceIte, Nat.reduceEqDiff, Nat.reduceAdd, Nat.reduceLeDiff, Nat.reduceMul, Nat.reduceBEq, QXLaw5] | refine rd0 rfl ?_))
  refine callK_d awake_ok rfl datas_nil ?_
  (repeat (first | simp only [↓QA, QB, Nat.reduceLT, reduceIte, Nat.reduceEqDiff, Nat.reduceAdd, Nat.reduceLeDiff, Nat.reduceMul, Nat.reduceBEq, QXLaw5] | refine rd0 rfl ?_))
 ·have tr := tr_of hs
  have hv := tr.vd
  have hdd := hv.days
  have hdr := hv.ranLen
  have hoo := hv.opens
  have tr2 := oft_tr tr hm.1
  have hf2 : Fits (oft r m) := ⟨hf.settings, hf.ran, hf.looks, hf.names⟩
  have hd := want_bd hv hx.1
  have hc := wantC_bd hy.1
  obtain ⟨D, hD⟩ : ∃ D, wantDay r x = D := ⟨_, rfl⟩
  obtain ⟨C, hC⟩ : ∃ C, wantColour y = C := ⟨_, rfl⟩
  rw [hD] at hd
  rw [hC] at hc
  have pts2 : ptsS (oft r m) r.ran.length = ptsS r r.ran.length := by simp only [ptsS, bwd_oft]; rfl
  have e1 := tr.reach hd.1 hd.2
  have e2 : reachOf (oft r m) D = ((numbers 1 7).filter (reaches (oft r m) D), 0) := tr2.reach hd.1 hd.2
  have e3 := Tr.fill tr.chk (show 0 ≤ D by omega) hd.2 hc.1 hc.2
  have e4 : fillOf (oft r m) D C = ((numbers 0 (D + 1).toNat).filter (fills (oft r m) D C), 0) := Tr.fill tr2.chk (show 0 ≤ D by omega) hd.2 hc.1 hc.2
  have e5 := tr.plan hd.1 hd.2 hc.1 hc.2
  have e6 : planOf (oft r m) D C = (match bestOf (oft r m) (ptsS r r.ran.length) (beforeOf r) (D - r.ran.length).toNat C with | none => ([], 0, 9) | some x => (x.1, x.2, 0)) := by
   have := tr2.plan hd.1 hd.2 hc.1 hc.2
   rw [show (oft r m).ran = r.ran from rfl, pts2] at this
   exact this
  have s1 : ((numbers 1 7).filter (reaches r D)).all ((numbers 1 7).filter (reaches (oft r m) D)).contains = true := by
   rw [List.all_eq_true]
   intro v hv1
   rw [List.mem_filter] at hv1
   rw [List.contains_iff_mem, List.mem_filter]
   refine ⟨hv1.1, ?_⟩
   have h1 := hv1.2
   unfold reaches at h1 ⊢
   obtain ⟨z, hz⟩ := Option.isSome_iff_exists.1 h1
   rw [show (oft r m).ran = r.ran from rfl, pts2, show beforeOf (oft r m) = beforeOf r from rfl, best_oft hv hm.1 hz]; rfl
  have s2 : ((numbers 0 (D + 1).toNat).filter (fills r D C)).all ((numbers 0 (D + 1).toNat).filter (fills (oft r m) D C)).contains = true := by
   rw [List.all_eq_true]
   intro v hv1
   rw [List.mem_filter] at hv1
   rw [List.contains_iff_mem, List.mem_filter]
   refine ⟨hv1.1, ?_⟩
   have h1 := hv1.2
   unfold fills at h1 ⊢
   obtain ⟨z, hz⟩ := Option.isSome_iff_exists.1 h1
   rw [show (oft r m).start = r.start from rfl, best_oft hv hm.1 hz]; rfl
  have l1 := reach_len r D
  have l2 := reach_len (oft r m) D
  have l3 := fill_len r D C
  have l4 := fill_len (oft r m) D C
  have l5 := plan_len r D C
  rw [e1] at l1
  rw [e2] at l2
  rw [e3] at l3
  rw [e4] at l4
  have okz : ((0 : Int) == 0) = true := rfl
  have hw1 : IntKind.i64.wrap m = m := wrap64 ⟨by omega, by omega⟩
  have t1 := Int.tmod_nonneg 3 hm.1
  have t2 := Int.tmod_lt_of_pos m (show (0 : Int) < 3 by omega)
  have hw2 : IntKind.i64.wrap (r.opens + m.tmod 3) = r.opens + m.tmod 3 := wrap64 ⟨by omega, by omega⟩
  (repeat (first | simp only [↓QA, QB, Nat.reduceLT, reduceIte, Nat.reduceEqDiff, Nat.reduceAdd, Nat.reduceLeDiff, Nat.reduceMul, Nat.reduceBEq, QXLaw5, hw1, V_rem _ _ _ (show (3 : Int) ≠ 0 by decide), hw2] | refine rd0 rfl ?_))
  ((first | refine callK_d (wanted_ok r x y hv hx hy) rfl dd ?_ | refine callD_d (wanted_ok r x y hv hx hy) rfl dd ?_); (repeat (first | simp only [↓QA, QB, Nat.reduceLT, reduceIte, Nat.reduceEqDiff, Nat.reduceAdd, Nat.reduceLeDiff, Nat.reduceMul, Nat.reduceBEq, QXLaw5, hD, hC] | refine rd0 rfl ?_)))
  ((first | refine callK_d (reach_ok r D hf) rfl dd ?_ | refine callD_d (reach_ok r D hf) rfl dd ?_); (repeat (first | simp only [↓QA, QB, Nat.reduceLT, reduceIte, Nat.reduceEqDiff, Nat.reduceAdd, Nat.reduceLeDiff, Nat.reduceMul, Nat.reduceBEq, QXLaw5, encLE, e1] | refine rd0 rfl ?_)))
  ((first | refine callK_d (reach_ok (oft r m) D hf2) rfl dd ?_ | refine callD_d (reach_ok (oft r m) D hf2) rfl dd ?_); (repeat (first | simp only [↓QA, QB, Nat.reduceLT, reduceIte, Nat.reduceEqDiff, Nat.reduceAdd, Nat.reduceLeDiff, Nat.reduceMul, Nat.reduceBEq, QXLaw5, encLE, e2] | refine rd0 rfl ?_)))
  ((first | refine callK_d (fill_ok r D C hf) rfl dd ?_ | refine callD_d (fill_ok r D C hf) rfl dd ?_); (repeat (first | simp only [↓QA, QB, Nat.reduceLT, reduceIte, Nat.reduceEqDiff, Nat.reduceAdd, Nat.reduceLeDiff, Nat.reduceMul, Nat.reduceBEq, QXLaw5, encLE, e3] | refine rd0 rfl ?_)))
  ((first | refine callK_d (fill_ok (oft r m) D C hf2) rfl dd ?_ | refine callD_d (fill_ok (oft r m) D C hf2) rfl dd ?_); (repeat (first | simp only [↓QA, QB, Nat.reduceLT, reduceIte, Nat.reduceEqDiff, Nat.reduceAdd, Nat.reduceLeDiff, Nat.reduceMul, Nat.reduceBEq, QXLaw5, encLE, e4] | refine rd0 rfl ?_)))
  ((first | refine callK_d (plan_ok r D C hf) rfl dd ?_ | refine callD_d (plan_ok r D C hf) rfl dd ?_); (repeat (first | simp only [↓QA, QB, Nat.reduceLT, reduceIte, Nat.reduceEqDiff, Nat.reduceAdd, Nat.reduceLeDiff, Nat.reduceMul, Nat.reduceBEq, QXLaw5, encLNE] | refine rd0 rfl ?_)))
  ((first | refine callK_d (plan_ok (oft r m) D C hf2) rfl dd ?_ | refine callD_d (plan_ok (oft r m) D C hf2) rfl dd ?_); (repeat (first | simp only [↓QA, QB, Nat.reduceLT, reduceIte, Nat.reduceEqDiff, Nat.reduceAdd, Nat.reduceLeDiff, Nat.reduceMul, Nat.reduceBEq, QXLaw5, encLNE, okz] | refine rd0 rfl ?_)))
  ((first | refine callK_d (subset_ok _ _ (show ((numbers 1 7).filter (reaches r D)).length < 9223372036854775808 by simp only at l1; omega) (show ((numbers 1 7).filter (reaches (oft r m) D)).length < 9223372036854775808 by simp only at l2; omega)) rfl dd ?_ | refine callD_d (subset_ok _ _ (show ((numbers 1 7).filter (reaches r D)).length < 9223372036854775808 by simp only at l1; omega) (show ((numbers 1 7).filter (reaches (oft r m) D)).length < 9223372036854775808 by simp only at l2; omega)) rfl dd ?_); (repeat (first | simp only [↓QA, QB, Nat.reduceLT, reduceIte, Nat.reduceEqDiff, Nat.reduceAdd, Nat.reduceLeDiff, Nat.reduceMul, Nat.reduceBEq, QXLaw5, s1, okz] | refine rd0 rfl ?_)))
  ((first | refine callK_d (subset_ok _ _ (show ((numbers 0 (D + 1).toNat).filter (fills r D C)).length < 9223372036854775808 by simp only at l3; omega) (show ((numbers 0 (D + 1).toNat).filter (fills (oft r m) D C)).length < 9223372036854775808 by simp only at l4; omega)) rfl dd ?_ | refine callD_d (subset_ok _ _ (show ((numbers 0 (D + 1).toNat).filter (fills r D C)).length < 9223372036854775808 by simp only at l3; omega) (show ((numbers 0 (D + 1).toNat).filter (fills (oft r m) D C)).length < 9223372036854775808 by simp only at l4; omega)) rfl dd ?_); (repeat (first | simp only [↓QA, QB, Nat.reduceLT, reduceIte, Nat.reduceEqDiff, Nat.reduceAdd, Nat.reduceLeDiff, Nat.reduceMul, Nat.reduceBEq, QXLaw5, s2, okz] | refine rd0 rfl ?_)))
  cases hb : bestOf r (ptsS r r.ran.length) (beforeOf r) (D - r.ran.length).toNat C with
  | none =>
   rw [hb] at e5
   simp only at e5
   simp only [e5, show ((9 : Int) == 0) = false from rfl, Bool.not_false, iteP_true]
   (repeat (first | simp only [↓QA, QB, Nat.reduceLT, reduceIte, Nat.reduceEqDiff, Nat.reduceAdd, Nat.reduceLeDiff, Nat.reduceMul, Nat.reduceBEq, QXLaw5, e5, show ((9 : Int) == 0) = false from rfl] | refine rd0 rfl ?_))
   refine callK_d awake_ok rfl datas_nil ?_
   (repeat (first | simp only [↓QA, QB, Nat.reduceLT, reduceIte, Nat.reduceEqDiff, Nat.reduceAdd, Nat.reduceLeDiff, Nat.reduceMul, Nat.reduceBEq, QXLaw5] | refine rd0 rfl ?_))
  | some z =>
   rw [best_oft hv hm.1 hb] at e6
   rw [hb] at e5
   simp only at e5 e6
   rw [e5] at l5
   simp only [e5, okz, Bool.not_true, iteP_false]
   (repeat (first | simp only [↓QA, QB, Nat.reduceLT, reduceIte, Nat.reduceEqDiff, Nat.reduceAdd, Nat.reduceLeDiff, Nat.reduceMul, Nat.reduceBEq, QXLaw5, e5, e6, okz] | refine rd0 rfl ?_))
   ((first | refine callK_d (ints_ok z.1 z.1 (by simp only at l5; omega) (by simp only at l5; omega)) rfl dd ?_ | refine callD_d (ints_ok z.1 z.1 (by simp only at l5; omega) (by simp only at l5; omega)) rfl dd ?_); (repeat (first | simp only [↓QA, QB, Nat.reduceLT, reduceIte, Nat.reduceEqDiff, Nat.reduceAdd, Nat.reduceLeDiff, Nat.reduceMul, Nat.reduceBEq, QXLaw5, eq_self, okz] | refine rd0 rfl ?_)))
   refine callK_d awake_ok rfl datas_nil ?_
   (repeat (first | simp only [↓QA, QB, Nat.reduceLT, reduceIte, Nat.reduceEqDiff, Nat.reduceAdd, Nat.reduceLeDiff, Nat.reduceMul, Nat.reduceBEq, QXLaw5] | refine rd0 rfl ?_))
end Go.Am.Room
