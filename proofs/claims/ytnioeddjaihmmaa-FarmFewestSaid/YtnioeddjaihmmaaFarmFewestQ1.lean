/- A part of the proof of FarmFewest: an abstract machine, or what functions come to on it. -/
import Derived.Test.YtnioeddjaihmmaaOutQ6
import Derived.ChangeArms
import Derived.SizedLaws
import Derived.ChangeBears
import Derived.ChangeShapes
import Derived.WideShapes
import Derived.ProofKit
import Derived.OpenShut
import Derived.Lib.Strings
set_option linter.unusedVariables false
set_option linter.unusedSimpArgs false
set_option linter.defProp false
namespace Go.Am
open Go.ChangeShapes Go.WideShapes Go.ChangeAt Go.RowKit
variable {P : Program} {hh : String → Bool} {H : Type} {enc : TypeId × Value → H} {w : World} {sp : Nat → Bool} {held : Bool}
theorem mkV_one {t : TypeId} {a : AV} (hu : ∀ fs, P.underlying t ≠ some (.struct fs)) (hu2 : ∀ k e, P.underlying t ≠ some (.array k e)) : mkV P t [a] = a := by
 unfold mkV
 split
 ·rename_i fs h; exact absurd h (hu fs)
 ·rename_i k e h; exact absurd h (hu2 k e)
 ·rfl
end Go.Am
namespace Go.Am
variable {T : FuncId → Option AFunc}
theorem V_quo (k : IntKind) (a b : Int) (h : b ≠ 0) : binAV .quo (.int k a) (.int k b) = some (.int k (k.wrap (a.tdiv b))) := by simp [binAV, binInt, h]
theorem app_full {sz b : Nat} {σ : St} {xs ys : List AV} {tk t : Option Nat} {f : Bool} (h : AppOk sz b xs ys) (h0 : ys.length ≠ 0) :
  appendAV sz b σ (.lit xs true tk) (.lit ys f t) = some (.lit (xs ++ ys) false (some σ.length), σ ++ [.tok sz (xs.length + ys.length) true]) := by
 obtain ⟨h1, h2, h3, h4⟩ := h
 simp [appendAV, view, sized, h0, h1, h2, h3, h4]
theorem app_nil {sz b : Nat} {σ : St} {xs : List AV} {tk t : Option Nat} {f f' : Bool} : appendAV sz b σ (.lit xs f' tk) (.lit [] f t) = some (.lit xs f' tk, σ) := by
 simp [appendAV, view]
end Go.Am
namespace Go.Am
variable {T : FuncId → Option AFunc}
theorem V_idxI {α : Type} {sz : Nat} {enc : α → AV} {l : List α} {i : Int} {t : Option Nat} (h0 : 0 ≤ i) (h : i.toNat < l.length) (hs : ∀ x, (enc x).cells.length = sz) : vIdx sz (l.map enc) i t = some (.lptr (l.map enc) i.toNat 0 t) := by
 simp [vIdx, List.getElem?_map, h, hs, h0]
def intss (l : List (List Int)) : AV := .lit (l.map ints) false none
theorem data_intss (l : List (List Int)) : Data (intss l) := data_list data_ints l
end Go.Am
namespace Go.Am
variable {T : FuncId → Option AFunc}
theorem pure_run {f : FuncId} {args : List AV} {v : AV} {af : AFunc} (hf : T f = some af) (hn : args.length ≤ af.ntmps) (hk : Datas args) (h : Run T (.code af.body (argsEnv 0 args) []) fun o => RetK af.results v o.j o.env o.σ) : Pure T f args v := by
 intro σ
 refine .frame hk.1 (.inl rfl) (R := fun o => o.v = v ∧ o.σ = []) (.call hf hn h fun o ho => ?_) fun o ho => ⟨ho.2, ho.1, rfl⟩
 obtain ⟨h1, v0, h2, h3⟩ := ho
 refine ⟨h1, v0, h2, ?_⟩
 unfold snapM at h3
 cases hs : snap o.σ 0 20 v0 with
 | none => rw [hs] at h3; cases h3
 | some v1 =>
  rw [hs] at h3
  simp at h3
  exact .inr ⟨20, v1, v, hs, .inr h3.symm, fun i hi => absurd hi (by simp), by simp, rfl, by simp⟩
theorem seq_run {a b : ACode} {e : Env} {σ : St} {Q : Out → Prop} (R : Env → St → Prop) (h : wp T a e σ fun j e' σ' => j = none ∧ R e' σ') (h2 : ∀ e' σ', R e' σ' → Run T (.code b e' σ') Q) : Run T (.code (.seq a b) e σ) Q :=
 .seq (run_wp h fun o ho => ho) (fun o ho _ => h2 _ _ ho.2) fun o ho hj => absurd ho.1 hj
theorem code_run {a : ACode} {e : Env} {σ : St} {K : KJ} (h : wp T a e σ K) : Run T (.code a e σ) fun o => K o.j o.env o.σ := run_wp h fun o ho => ho
theorem chain2 {a b c : ACode} {e : Env} {σ : St} {Q : Out → Prop} (R S : Env → St → Prop) (h : wp T (.seq a b) e σ fun j e' σ' => j = none ∧ R e' σ')
  (h2 : ∀ e' σ', R e' σ' → ∃ env1 σ1 env2 σ2, Trims2 σ e' σ' env1 σ1 ∧ ((env2 = env1 ∧ σ2 = σ1) ∨ Thaws σ.length env1 σ1 env2 σ2) ∧ S env2 σ2)
  (h3 : ∀ e σ, S e σ → Run T (.code c e σ) Q) : Run T (.code (.seq a (.seq b c)) e σ) Q := by
 refine Run.chain (a0 := a) (az := [b]) (c := c) (R := fun o => o.j = none ∧ R o.env o.σ) (S := S) ?_ (fun o ho hj => absurd ho.1 hj) (fun o ho _ => h2 _ _ ho.2) h3
 refine .chainCons (run_wp (show wp T a e σ _ from by simpa only [wp] using h) fun o ho => ho) (fun o ho hj => ?_) fun o ho hj => ?_
 ·rw [hj] at ho
  simp only [thenK] at ho
  exact .chainCons (run_wp ho fun o ho => ho) (fun o ho _ => .chainNil ⟨rfl, ho.2⟩) fun o ho hj => absurd ho.1 hj
 ·cases hq : o.j with
  | none => exact absurd hq hj
  | some q => rw [hq] at ho; simp only [thenK] at ho; exact absurd ho.1 (by simp)
end Go.Am
namespace Go.Am
instance (l : List (List Int)) : Dat (intss l) := ⟨data_intss l⟩
end Go.Am
namespace Go.Am.Room
theorem join_ok (s : Span) (n : Int) : Pure T 83 [encSpan s, .int .i64 n] (encSpan (join s n)) := by
 refine pure_fn (af := a83) rfl (by simp [a83]) dd ?_
 (repeat (first | simp only [↓QA, QB, Nat.reduceLT, reduceIte, Nat.reduceEqDiff, Nat.reduceAdd, Nat.reduceLeDiff, Nat.reduceMul, Nat.reduceBEq, a83, encSpan_eq, join] | refine rd0 rfl ?_))
theorem len_beq (a b : Nat) : ((a : Int) == (b : Int)) = decide (a = b) := by rw [Bool.eq_iff_iff]; simp; omega
theorem fewer_ok (a b : List Int) (ha : a.length < 9223372036854775808) (hb : b.length < 9223372036854775808) : Pure T 53 [ints a, ints b] (.bool (fewer a b)) := by
 refine pure_fn (af := a53) rfl (by simp [a53]) dd ?_
 (repeat (first | simp only [↓QA, QB, Nat.reduceLT, reduceIte, Nat.reduceEqDiff, Nat.reduceAdd, Nat.reduceLeDiff, Nat.reduceMul, Nat.reduceBEq, a53, len_beq] | refine rd0 rfl ?_))
 refine iteP_intro (fun h => ?_) fun h => ?_
 ·have h' : ¬ a.length = b.length := by simpa using h
  (repeat (first | simp only [↓QA, QB, Nat.reduceLT, reduceIte, Nat.reduceEqDiff, Nat.reduceAdd, Nat.reduceLeDiff, Nat.reduceMul, Nat.reduceBEq] | refine rd0 rfl ?_))
  simp [fewer, h']
 ·have h' : a.length = b.length := by simpa using h
  (repeat (first | simp only [↓QA, QB, Nat.reduceLT, reduceIte, Nat.reduceEqDiff, Nat.reduceAdd, Nat.reduceLeDiff, Nat.reduceMul, Nat.reduceBEq] | refine rd0 rfl ?_))
  refine callK_d (less_ok a b ha hb) rfl dd ?_
  (repeat (first | simp only [↓QA, QB, Nat.reduceLT, reduceIte, Nat.reduceEqDiff, Nat.reduceAdd, Nat.reduceLeDiff, Nat.reduceMul, Nat.reduceBEq] | refine rd0 rfl ?_))
  simp [fewer, h']
def rising (below : Int) : Int → List Int → Bool
 | _, [] => true
 | last, x :: xs => decide (last < x) && decide (x < below) && rising below x xs
theorem rising_ok (l : List Int) (below : Int) (hl : l.length < 9223372036854775808) : Pure T 46 [ints l, .int .i64 below] (.bool (rising below (-1) l)) := by
 refine pure_fn (af := a46) rfl (by simp [a46]) dd ?_
 (repeat (first | simp only [↓QA, QB, Nat.reduceLT, reduceIte, Nat.reduceEqDiff, Nat.reduceAdd, Nat.reduceLeDiff, Nat.reduceMul, Nat.reduceBEq, a46] | refine rd0 rfl ?_))
 refine loopE (S := Nat × Int) (0, -1) (fun s => s.1 ≤ l.length ∧ rising below s.2 (l.drop s.1) = rising below (-1) l) (fun s => l.length - s.1) (fun s => [(0, ints l), (1, .int .i64 below), (4, .bool false), (5, .int .i64 s.2), (6, .int .i64 s.1)]) (fun _ => []) ⟨Nat.zero_le _, rfl⟩ rfl ?_ fun s hs => ?_
 ·try simp only [TrimX, QE, Nat.reduceLT, reduceIte, Nat.reduceEqDiff, Nat.reduceAdd, Nat.reduceLeDiff, Nat.reduceMul, Nat.reduceBEq]
  try simp
 ·obtain ⟨k, last⟩ := s
  obtain ⟨hk, hl2⟩ := hs
  simp only at hk hl2
  (repeat (first | simp only [↓QA, QB, Nat.reduceLT, reduceIte, Nat.reduceEqDiff, Nat.reduceAdd, Nat.reduceLeDiff, Nat.reduceMul, Nat.reduceBEq, L46_0] | refine rd0 rfl ?_))
  refine iteP_intro (fun h => ?_) fun h => ?_
  ·have hk1 : k < l.length := by simpa using h
   rw [List.drop_eq_getElem_cons hk1] at hl2
   simp only [rising] at hl2
   (repeat (first | simp only [↓QA, QB, Nat.reduceLT, reduceIte, Nat.reduceEqDiff, Nat.reduceAdd, Nat.reduceLeDiff, Nat.reduceMul, Nat.reduceBEq, hk1] | refine rd0 rfl ?_))
   refine iteP_intro (fun h2 => ?_) fun h2 => ?_
   ·have h2' : ¬ last < l[k] := by simp at h2; omega
    (repeat (first | simp only [↓QA, QB, Nat.reduceLT, reduceIte, Nat.reduceEqDiff, Nat.reduceAdd, Nat.reduceLeDiff, Nat.reduceMul, Nat.reduceBEq, h2] | refine rd0 rfl ?_))
    rw [← hl2]; simp [h2']
   ·have h2' : last < l[k] := by simp at h2; omega
    (repeat (first | simp only [↓QA, QB, Nat.reduceLT, reduceIte, Nat.reduceEqDiff, Nat.reduceAdd, Nat.reduceLeDiff, Nat.reduceMul, Nat.reduceBEq, h2, hk1] | refine rd0 rfl ?_))
    refine iteP_intro (fun h3 => ?_) fun h3 => ?_
    ·have h3' : ¬ l[k] < below := by simp at h3; omega
     (repeat (first | simp only [↓QA, QB, Nat.reduceLT, reduceIte, Nat.reduceEqDiff, Nat.reduceAdd, Nat.reduceLeDiff, Nat.reduceMul, Nat.reduceBEq, h3] | refine rd0 rfl ?_))
     rw [← hl2]; simp [h3']
    ·have h3' : l[k] < below := by simp at h3; omega
     (repeat (first | simp only [↓QA, QB, Nat.reduceLT, reduceIte, Nat.reduceEqDiff, Nat.reduceAdd, Nat.reduceLeDiff, Nat.reduceMul, Nat.reduceBEq, h3, hk1] | refine rd0 rfl ?_))
     refine ⟨(k + 1, l[k]), ⟨by simp; omega, by rw [← hl2]; simp [h2', h3']⟩, by simp; omega, ?_⟩
     try simp only [TrimX, QE, Nat.reduceLT, reduceIte, Nat.reduceEqDiff, Nat.reduceAdd, Nat.reduceLeDiff, Nat.reduceMul, Nat.reduceBEq, wrapN hk1 hl]
  ·have hk1 : k = l.length := by simp at h; omega
   (repeat (first | simp only [↓QA, QB, Nat.reduceLT, reduceIte, Nat.reduceEqDiff, Nat.reduceAdd, Nat.reduceLeDiff, Nat.reduceMul, Nat.reduceBEq] | refine rd0 rfl ?_))
   rw [← hl2, hk1, List.drop_length]; simp [rising]
def bitN (n : Nat) : Nat → Bool
 | 0 => n % 2 == 1
 | k + 1 => bitN (n / 2) k
theorem tdiv2 (n : Nat) : ((n : Int).tdiv 2) = ((n / 2 : Nat) : Int) := by rw [Int.tdiv_eq_ediv_of_nonneg (by omega)]; omega
theorem tmod2 (n : Nat) : ((n : Int).tmod 2) = ((n % 2 : Nat) : Int) := by rw [Int.tmod_eq_emod_of_nonneg (by omega)]; omega
theorem bit_ok (n at_ : Nat) (hn : n < 9223372036854775808) (ha : at_ < 9223372036854775808) : Pure T 50 [.int .i64 n, .int .i64 at_] (.bool (bitN n at_)) := by
 refine pure_fn (af := a50) rfl (by simp [a50]) dd ?_
 (repeat (first | simp only [↓QA, QB, Nat.reduceLT, reduceIte, Nat.reduceEqDiff, Nat.reduceAdd, Nat.reduceLeDiff, Nat.reduceMul, Nat.reduceBEq, a50] | refine rd0 rfl ?_))
 refine loopE (S := Nat × Nat) (n, 0) (fun s => s.2 ≤ at_ ∧ s.1 < 9223372036854775808 ∧ bitN s.1 (at_ - s.2) = bitN n at_) (fun s => at_ - s.2) (fun s => [(0, .int .i64 s.1), (1, .int .i64 at_), (5, .int .i64 s.2)]) (fun _ => []) ⟨Nat.zero_le _, hn, rfl⟩ rfl ?_ fun s hs => ?_
 ·try simp only [TrimX, QE, Nat.reduceLT, reduceIte, Nat.reduceEqDiff, Nat.reduceAdd, Nat.reduceLeDiff, Nat.reduceMul, Nat.reduceBEq]
  try simp
 ·obtain ⟨m, k⟩ := s
  obtain ⟨hk, hm, hb⟩ := hs
  simp only at hk hm hb
  (repeat (first | simp only [↓QA, QB, Nat.reduceLT, reduceIte, Nat.reduceEqDiff, Nat.reduceAdd, Nat.reduceLeDiff, Nat.reduceMul, Nat.reduceBEq, L50_0] | refine rd0 rfl ?_))
  refine iteP_intro (fun h => ?_) fun h => ?_
  ·have hk1 : k < at_ := by simpa using h
   have hw : IntKind.i64.wrap ((m : Int).tdiv 2) = ((m / 2 : Nat) : Int) := by rw [tdiv2, wrap64 ⟨by omega, by omega⟩]
   (repeat (first | simp only [↓QA, QB, Nat.reduceLT, reduceIte, Nat.reduceEqDiff, Nat.reduceAdd, Nat.reduceLeDiff, Nat.reduceMul, Nat.reduceBEq, V_quo _ _ _ (show (2 : Int) ≠ 0 by decide)] | refine rd0 rfl ?_))
   refine ⟨(m / 2, k + 1), ⟨by simp; omega, by simp; omega, ?_⟩, by simp; omega, ?_⟩
   ·rw [← hb, show at_ - k = (at_ - (k + 1)) + 1 by omega]; rfl
   ·try simp only [TrimX, QE, Nat.reduceLT, reduceIte, Nat.reduceEqDiff, Nat.reduceAdd, Nat.reduceLeDiff, Nat.reduceMul, Nat.reduceBEq, wrapN hk1 ha, hw]
  ·have hk1 : k = at_ := by simp at h; omega
   (repeat (first | simp only [↓QA, QB, Nat.reduceLT, reduceIte, Nat.reduceEqDiff, Nat.reduceAdd, Nat.reduceLeDiff, Nat.reduceMul, Nat.reduceBEq, V_rem _ _ _ (show (2 : Int) ≠ 0 by decide)] | refine rd0 rfl ?_))
   rw [← hb, hk1, Nat.sub_self, tmod2]
   simp only [bitN]
   congr 2
   rw [Bool.eq_iff_iff]; simp; omega
theorem flat_le {α β : Type} (f : α → List β) (b : Nat) : ∀ l : List α, (∀ x ∈ l, (f x).length ≤ b) → (l.flatMap f).length ≤ l.length * b
 | [], _ => by simp
 | x :: l, h => by
  have h1 := h x (by simp)
  have h2 := flat_le f b l fun y hy => h y (List.mem_cons_of_mem _ hy)
  simp only [List.flatMap_cons, List.length_append, List.length_cons, Nat.add_mul]
  omega
theorem allCells_ints (l : List (List Int)) : allCells 1 (l.map ints) = true := L_allM 1 ints l fun x => C_lit _ _ _
theorem allCells_int (l : List Int) : allCells 1 (l.map (.int .i64)) = true := L_allM 1 _ l fun x => C_int _ _
open Go
variable {P : Program}
theorem mkV_ne {t : TypeId} {a : AV} {d : TypeDesc} (hu : P.underlying t = some d) (hd : ∀ fs, d ≠ .struct fs := by intro fs h; cases h) (hd2 : ∀ k e, d ≠ .array k e := by intro k e h; cases h) : mkV P t [a] = a := mkV_one (by rw [hu]; intro fs e; cases e; exact hd _ rfl) (by rw [hu]; intro k e h; cases h; exact hd2 _ _ rfl)
theorem tc_u8 {n : Nat} {t : TypeId} {cs : List AV} (hi : P.underlying t = some (.int .u8)) (h : Typ P (n + 1) t cs) : ∃ x : Int, mkV P t cs = .int .u8 x ∧ (0 ≤ x ∧ x < 256) := by
 obtain ⟨x, rfl, hw⟩ := typ_int hi h
 exact ⟨x, mkV_ne hi, wf_u8 hw⟩
end Go.Am.Room
namespace Go.Am.Room
theorem truthsAV_eq (l : List Truth) : truthsAV l = .lit (l.map encTruth) false none := by simp only [truthsAV]
open Go
variable {P : Program}
theorem wf_u16 {x : Int} (h : (Lit.int .u16 x).wf = true) : 0 ≤ x ∧ x < 65536 := by
 simp [Lit.wf, IntKind.min, IntKind.max, IntKind.signed, IntKind.bits] at h
 omega
theorem ty_u8 {n : Nat} {cs : List AV} (T : Tys P) (h : Typ P (n + 1) 5 cs) : ∃ x : Int, mkV P 5 cs = .int .u8 x ∧ (0 ≤ x ∧ x < 256) := tc_u8 T.u8 h
theorem ty_want {n : Nat} {cs : List AV} (T : Tys P) (h : Typ P (n + 2) 65 cs) : ∃ x y : Int, mkV P 65 cs = .agg [.int .u8 x, .int .u16 y] ∧ (0 ≤ x ∧ x < 256) ∧ (0 ≤ y ∧ y < 65536) := by
 obtain ⟨e, a, b, rfl, h1, c, d, rfl, h2, rfl⟩ := typ_st T.want h
 obtain ⟨x, rfl, hx⟩ := typ_int T.u8 h1
 obtain ⟨y, rfl, hy⟩ := typ_int T.u16 h2
 exact ⟨x, y, e, wf_u8 hx, wf_u16 hy⟩
theorem ty_farm {n : Nat} {cs : List AV} (T : Tys P) (h : Typ P (n + 5) 28 cs) : ∃ s : Farm, mkV P 28 cs = encFarm s ∧ Fits s := by
 obtain ⟨r, h1, h2, _⟩ := ty_farmB T h
 exact ⟨r, h1, h2⟩
end Go.Am.Room
namespace Go.Am.Room
theorem weatherTo_len {rs : List Span} (h : ∀ s ∈ rs, 0 ≤ s.lo ∧ s.lo ≤ s.hi ∧ s.hi ≤ 2) : ∀ k, (weatherTo rs k).length ≤ 3 ^ k
 | 0 => by simp [weatherTo]
 | k + 1 => by
  have ih := weatherTo_len h k
  by_cases hk : k < rs.length
  ·rw [weatherTo_succ hk, Nat.pow_succ]
   have := h _ (List.getElem_mem hk)
   refine Nat.le_trans (flat_le (ext rs[k]) 3 _ fun c _ => ?_) (Nat.mul_le_mul_right _ ih)
   simp only [ext, List.length_map, waysIn_len]
   omega
  ·simp only [weatherTo, List.getElem?_eq_none (Nat.le_of_not_lt hk)]
   rw [Nat.pow_succ]; omega
theorem weather_len {v : Farm} (h : Vd v) : (weather v).length ≤ 2187 := by
 refine Nat.le_trans (weatherTo_len h.ra _) ?_
 have := h.nra
 exact Nat.le_trans (Nat.pow_le_pow_right (by omega) this.2) (by decide)
theorem truths_len {v : Farm} (hv : Vd v) (but : List Int) : (truths v but).length ≤ 2187 := Nat.le_trans (List.length_filterMap_le _ _) (weather_len hv)
def app0 (sz : Nat) (σ : St) (xs : List AV) : AV × St := if xs.length = 0 then (.lit [] true none, σ) else (.lit xs false (some σ.length), σ ++ [.tok sz xs.length true])
theorem app0_eq {sz b : Nat} {σ : St} {xs : List AV} {f : Bool} {tk : Option Nat} (h : AppOk sz b [] xs) : appendAV sz b σ (.lit [] true none) (.lit xs f tk) = some ((app0 sz σ xs).1, (app0 sz σ xs).2) := by
 by_cases h0 : xs.length = 0
 ·have : xs = [] := List.length_eq_zero_iff.1 h0
  subst this
  rw [app_nil]; simp [app0]
 ·rw [app_full h h0]; simp [app0, h0]
theorem app0_more {sz b : Nat} {σ : St} {xs ys : List AV} {f : Bool} {tk : Option Nat} (h : AppOk sz b xs ys) (hy : ys.length ≠ 0) : appendAV sz b (app0 sz σ xs).2 (app0 sz σ xs).1 (.lit ys f tk) = some (.lit (xs ++ ys) false (some σ.length), σ ++ [.tok sz (xs.length + ys.length) true]) := by
 by_cases h0 : xs.length = 0
 ·have : xs = [] := List.length_eq_zero_iff.1 h0
  subst this
  simp only [app0, List.length_nil, if_true]
  rw [app_full h hy]
  simp
 ·simp only [app0, h0, if_false]
  rw [app_tok (ex := true) h hy (by simp)]
  simp
theorem append_at {σ : St} {sz b : Nat} {xs ys : List AV} {ex f : Bool} {t : Nat} {tk : Option Nat} (h : AppOk sz b xs ys) (h0 : ys.length ≠ 0) (n : Nat) (hn : n = xs.length) (ht : σ[t]? = some (.tok sz n ex)) :
  appendAV sz b σ (.lit xs false (some t)) (.lit ys f tk) = some (.lit (xs ++ ys) false (some t), σ.set t (.tok sz (n + ys.length) true)) := by
 subst hn
 exact app_tok h h0 ht
end Go.Am.Room
set_option maxRecDepth 4000
namespace Go.Am.Room
theorem weather_in {rs : List Span} : ∀ k, k ≤ rs.length → ∀ c ∈ weatherTo rs k, c.length = k := fun k hk c hc => ((weatherTo_mem hk).1 hc).1
theorem rweather_ok (v : Farm) (hv : Vd v) : Pure T 87 [encFarm v] (intss (weather v)) := by
 refine pure_fn (af := a87) rfl (by simp [a87]) dd ?_
 have hno := hv.nra
 rw [show weather v = weatherTo v.rain v.rain.length from rfl]
 (repeat (first | simp only [↓QA, QB, Nat.reduceLT, reduceIte, Nat.reduceEqDiff, Nat.reduceAdd, Nat.reduceLeDiff, Nat.reduceMul, Nat.reduceBEq, QXFFaC2, a87] | refine rd0 rfl ?_))
 refine loopE (S := Nat) 0 (fun n => n ≤ v.rain.length) (fun n => v.rain.length - n) (fun n => [(1, .ptr 0 0), (3, intss (weatherTo v.rain n)), (4, .int .i64 n)]) (fun _ => [.cells (farmCells v)]) (Nat.zero_le _) (by simp [farmCells, ints]) ?_ fun n hn => ?_
 ·try simp only [TrimX, QE, Nat.reduceLT, reduceIte, Nat.reduceEqDiff, Nat.reduceAdd, Nat.reduceLeDiff, Nat.reduceMul, Nat.reduceBEq, QXFFaC2]
  simp [intss, ints, weatherTo, clr, clrs]
 ·(repeat (first | simp only [↓QA, QB, Nat.reduceLT, reduceIte, Nat.reduceEqDiff, Nat.reduceAdd, Nat.reduceLeDiff, Nat.reduceMul, Nat.reduceBEq, QXFFaC2, L87_0, intss] | refine rd0 rfl ?_))
  refine iteP_intro (fun h => ?_) fun h => ?_
  ·have hn1 : n < v.rain.length := by simpa using h
   have hwn : IntKind.i64.wrap ((n : Int) + 1) = ((n + 1 : Nat) : Int) := wrapN hn1 (by omega)
   have hwl : ∀ j, j ≤ 7 → (weatherTo v.rain j).length ≤ 2187 := fun j hj => Nat.le_trans (weatherTo_len hv.ra j) (Nat.le_trans (Nat.pow_le_pow_right (by omega) hj) (by decide))
   have hsl := hwl n (by omega)
   have hsl2 := hwl (n + 1) (by omega)
   have hin := weather_in (rs := v.rain) n hn
   have hsu := weatherTo_succ hn1
   have hra := hv.ra _ (List.getElem_mem hn1)
   obtain ⟨s, hs⟩ : ∃ s, v.rain[n] = s := ⟨_, rfl⟩
   rw [hs] at hsu hra
   rw [hsu] at hsl2
   obtain ⟨W, hW⟩ : ∃ W, weatherTo v.rain n = W := ⟨_, rfl⟩
   rw [hW] at hsl hsl2 hsu hin
   rw [hW]
   obtain ⟨X, hX⟩ : ∃ X, W.flatMap (ext s) = X := ⟨_, rfl⟩
   rw [hX] at hsl2 hsu
   (repeat (first | simp only [↓QA, QB, Nat.reduceLT, reduceIte, Nat.reduceEqDiff, Nat.reduceAdd, Nat.reduceLeDiff, Nat.reduceMul, Nat.reduceBEq, QXFFaC2] | refine rd0 rfl ?_))
   refine ghostK 5 1 [] rfl ?_
   refine loopE (S := Nat × List (List Int) × Bool) (0, [], false) (fun a => a.1 ≤ W.length ∧ a.2.1 ++ (W.drop a.1).flatMap (ext s) = X) (fun a => W.length - a.1)
    (fun a => [(1, .ptr 0 0), (3, intss W), (4, .int .i64 n), (5, .lit (a.2.1.map ints) false (some 1)), (6, .int .i64 a.1)])
    (fun a => [.cells (farmCells v), .tok 1 a.2.1.length a.2.2]) ⟨Nat.zero_le _, by simpa using hX⟩ (by simp [farmCells, ints]) ?_ fun a ha => ?_
   ·try simp only [TrimX, QE, Nat.reduceLT, reduceIte, Nat.reduceEqDiff, Nat.reduceAdd, Nat.reduceLeDiff, Nat.reduceMul, Nat.reduceBEq, QXFFaC2, intss, ints]
    try simp
   ·obtain ⟨k, acc, ex⟩ := a
    obtain ⟨hk, hacc⟩ := ha
    simp only at hk hacc
    (repeat (first | simp only [↓QA, QB, Nat.reduceLT, reduceIte, Nat.reduceEqDiff, Nat.reduceAdd, Nat.reduceLeDiff, Nat.reduceMul, Nat.reduceBEq, QXFFaC2, L87_2, intss] | refine rd0 rfl ?_))
    refine iteP_intro (fun h2 => ?_) fun h2 => ?_
    ·have hk1 : k < W.length := by simpa using h2
     have hwk := wrapN hk1 (by omega)
     obtain ⟨c, hc⟩ : ∃ c, W[k] = c := ⟨_, rfl⟩
     have hcl := hin _ (List.getElem_mem hk1)
     rw [hc] at hcl
     rw [List.drop_eq_getElem_cons hk1, hc, List.flatMap_cons, ext, waysIn] at hacc
     (repeat (first | simp only [↓QA, QB, Nat.reduceLT, reduceIte, Nat.reduceEqDiff, Nat.reduceAdd, Nat.reduceLeDiff, Nat.reduceMul, Nat.reduceBEq, QXFFaC2, hn1, hs] | refine rd0 rfl ?_))
     have hlo := hra.1
     have hhi := hra.2.2
     refine loopE (S := Int × List (List Int) × Bool × St) (s.lo, acc, ex, []) (fun a => s.lo ≤ a.1 ∧ a.1 ≤ s.hi + 1 ∧ a.2.1 ++ ((numbers a.1 (s.hi + 1 - a.1).toNat).map (fun n => c ++ [n]) ++ (W.drop (k + 1)).flatMap (ext s)) = X) (fun a => (s.hi + 1 - a.1).toNat)
      (fun a => [(1, .ptr 0 0), (3, intss W), (4, .int .i64 n), (5, .lit (a.2.1.map ints) false (some 1)), (6, .int .i64 k), (7, .int .i64 a.1)])
      (fun a => .cells (farmCells v) :: .tok 1 a.2.1.length a.2.2.1 :: a.2.2.2) ⟨Int.le_refl _, by omega, by simpa using hacc⟩ (by simp [farmCells]) ?_ fun a ha => ?_
     ·try simp only [TrimX, QE, Nat.reduceLT, reduceIte, Nat.reduceEqDiff, Nat.reduceAdd, Nat.reduceLeDiff, Nat.reduceMul, Nat.reduceBEq, QXFFaC2, intss, ints]
      try simp
     ·obtain ⟨m, acc, ex, τ⟩ := a
      obtain ⟨hm0, hm1, hacc⟩ := ha
      simp only at hm0 hm1 hacc
      (repeat (first | simp only [↓QA, QB, Nat.reduceLT, reduceIte, Nat.reduceEqDiff, Nat.reduceAdd, Nat.reduceLeDiff, Nat.reduceMul, Nat.reduceBEq, QXFFaC2, L87_4, intss, hn1, hs] | refine rd0 rfl ?_))
      refine iteP_intro (fun h3 => ?_) fun h3 => ?_
      ·have hm2 : m ≤ s.hi := by simpa using h3
       have hwm : IntKind.i64.wrap (m + 1) = m + 1 := wrap64 ⟨by omega, by omega⟩
       rw [ways_step hm2] at hacc
       have hal : acc.length ≤ 2187 := by
        have := congrArg List.length hacc
        simp only [List.length_append] at this
        omega
       have a0 : ∀ (σ : St), appendAV 1 8 σ (.lit [] true none) (.lit (c.map (.int .i64)) false none) = some ((app0 1 σ (c.map (.int .i64))).1, (app0 1 σ (c.map (.int .i64))).2) := fun σ => app0_eq ⟨rfl, allCells_int c, by simp [room]; omega, by simp [room]; omega⟩
       have a1 : ∀ (σ : St), appendAV 1 8 (app0 1 σ (c.map (.int .i64))).2 (app0 1 σ (c.map (.int .i64))).1 (.lit [.int .i64 m] true none) = some (.lit (c.map (.int .i64) ++ [.int .i64 m]) false (some σ.length), σ ++ [.tok 1 (c.length + 1) true]) := fun σ => by
        rw [app0_more ⟨allCells_int c, by simp [allCells, AV.cells, AV.cell], by simp [room]; omega, by simp [room]; omega⟩ (by simp)]
        simp
       have a2 := fun (b0 : ABlk) (τ : St) (t : Nat) => append_at (σ := b0 :: .tok 1 acc.length ex :: τ) (t := 1) (ex := ex) (sz := 1) (b := 24) (xs := acc.map ints) (ys := [.lit (c.map (.int .i64) ++ [.int .i64 m]) false (some t)]) (f := true) (tk := none) ⟨allCells_ints acc, by simp [allCells, AV.cells, AV.cell], by simp [room]; omega, by simp [room]; omega⟩ (by simp) acc.length (by simp) rfl
       (repeat (first | simp only [↓QA, QB, Nat.reduceLT, reduceIte, Nat.reduceEqDiff, Nat.reduceAdd, Nat.reduceLeDiff, Nat.reduceMul, Nat.reduceBEq, QXFFaC2, hk1, hc, ints, a0, a1, a2, hwm] | refine rd0 rfl ?_))
       refine ⟨(m + 1, acc ++ [c ++ [m]], true, τ), ⟨by simp only; omega, by simp only; omega, by rw [← hacc]; simp⟩, by simp only; omega, ?_⟩
       try simp only [TrimX, QE, Nat.reduceLT, reduceIte, Nat.reduceEqDiff, Nat.reduceAdd, Nat.reduceLeDiff, Nat.reduceMul, Nat.reduceBEq, QXFFaC2, hwm, intss, ints, List.map_append, List.map_cons, List.map_nil]
       try simp [okBlk]
      ·have hm2 : ¬ m ≤ s.hi := by simpa using h3
       rw [ways_end hm2] at hacc
       simp only [List.map_nil, List.nil_append] at hacc
       (repeat (first | simp only [↓QA, QB, Nat.reduceLT, reduceIte, Nat.reduceEqDiff, Nat.reduceAdd, Nat.reduceLeDiff, Nat.reduceMul, Nat.reduceBEq, QXFFaC2, hwk] | refine rd0 rfl ?_))
       refine ⟨(k + 1, acc, ex), ⟨by simp only; omega, hacc⟩, by simp only; omega, ?_⟩
       try simp only [TrimX, QE, Nat.reduceLT, reduceIte, Nat.reduceEqDiff, Nat.reduceAdd, Nat.reduceLeDiff, Nat.reduceMul, Nat.reduceBEq, QXFFaC2, hwk, intss, ints]
       try simp [okBlk]
    ·have hk1 : k = W.length := by simp at h2; omega
     rw [hk1, List.drop_length] at hacc
     simp only [List.flatMap_nil, List.append_nil] at hacc
     subst hacc
     (repeat (first | simp only [↓QA, QB, Nat.reduceLT, reduceIte, Nat.reduceEqDiff, Nat.reduceAdd, Nat.reduceLeDiff, Nat.reduceMul, Nat.reduceBEq, QXFFaC2, hwn] | refine rd0 rfl ?_))
     refine ⟨n + 1, by omega, by omega, ?_⟩
     try simp only [TrimX, QE, Nat.reduceLT, reduceIte, Nat.reduceEqDiff, Nat.reduceAdd, Nat.reduceLeDiff, Nat.reduceMul, Nat.reduceBEq, QXFFaC2, hwn, hsu, intss, ints]
     try simp [okBlk]
  ·have hn1 : n = v.rain.length := by simp at h; omega
   subst hn1
   (repeat (first | simp only [↓QA, QB, Nat.reduceLT, reduceIte, Nat.reduceEqDiff, Nat.reduceAdd, Nat.reduceLeDiff, Nat.reduceMul, Nat.reduceBEq, QXFFaC2, intss] | refine rd0 rfl ?_))
   try try simp only [QS, QC, Nat.reduceLT, reduceIte, Nat.reduceEqDiff, Nat.reduceAdd, Nat.reduceLeDiff, Nat.reduceMul, Nat.reduceBEq, QXFFaC2]
end Go.Am.Room
set_option maxRecDepth 4000
namespace Go.Am.Room
def QXFFaC3 := And.intro @encFarm_eq (And.intro @farmCells_eq (And.intro @encPlot_eq (And.intro @encLook_eq (And.intro @encSpan_eq (And.intro @S_mapPlot (And.intro @S_mapLook (@S_mapSpan)))))))
theorem rflowers_ok (v : Farm) (hv : Vd v) (p : Nat) (hp : p < v.plots.length) (rain but : List Int) (hr : ∀ i, 0 ≤ rl rain i ∧ rl rain i ≤ 2) (hrl : rain.length = v.rain.length) (hbu : but.length < 9223372036854775808) :
    Pure T 88 [encFarm v, .int .i64 p, ints rain, ints but] (ints (flowersOf v p rain but)) := by
  refine pure_fn (af := a88) rfl (by simp [a88]) dd ?_
  have hno := hv.nra
  have hnl := hv.nlk
  have hpl := (pl_ok hv hp).1
  obtain ⟨R, hR⟩ : ∃ R, flowersOf v p rain but = R := ⟨_, rfl⟩
  have hR' := hR
  have hRl := (flowers_bd hv hp rain but).1
  rw [hR] at hRl ⊢
  rw [flowersOf, waysIn, flower_at hp] at hR'
  obtain ⟨y, hy⟩ : ∃ y, v.plots[p] = y := ⟨_, rfl⟩
  rw [hy] at hpl hR'
  obtain ⟨L, hL⟩ : ∃ L : Nat, y.flower.lo = (L : Int) := ⟨y.flower.lo.toNat, by omega⟩
  obtain ⟨H, hH⟩ : ∃ H : Nat, y.flower.hi = (H : Int) := ⟨y.flower.hi.toNat, by omega⟩
  rw [hL, hH] at hR' hpl
  (repeat (first | simp only [↓QA, QB, Nat.reduceLT, reduceIte, Nat.reduceEqDiff, Nat.reduceAdd, Nat.reduceLeDiff, Nat.reduceMul, Nat.reduceBEq, QXFFaC3, a88, hp, hy, hL] | refine rd0 rfl ?_))
  refine ghostK 9 1 [] rfl ?_
  refine loopE (S := Nat × List Int × Bool) (L, [], false) (fun a => L ≤ a.1 ∧ a.1 ≤ H + 1 ∧ a.2.1 ++ (numbers (a.1 : Int) ((H : Int) + 1 - a.1).toNat).filter (flowerOk v p rain but) = R) (fun a => H + 1 - a.1)
    (fun a => [(1, .int .i64 p), (2, ints rain), (3, ints but), (4, .ptr 0 0), (9, .lit (a.2.1.map (.int .i64)) false (some 1)), (10, .int .i64 a.1)])
    (fun a => [.cells (farmCells v), .tok 1 a.2.1.length a.2.2]) ⟨Nat.le_refl _, by simp only; omega, by simpa using hR'⟩ (by simp [farmCells, ints]) ?_ fun a ha => ?_
  · try simp only [TrimX, QE, Nat.reduceLT, reduceIte, Nat.reduceEqDiff, Nat.reduceAdd, Nat.reduceLeDiff, Nat.reduceMul, Nat.reduceBEq, QXFFaC3, ints]
    try simp
  · obtain ⟨d, acc, ex⟩ := a
    obtain ⟨hd0, hd1, hacc⟩ := ha
    simp only at hd0 hd1 hacc
    (repeat (first | simp only [↓QA, QB, Nat.reduceLT, reduceIte, Nat.reduceEqDiff, Nat.reduceAdd, Nat.reduceLeDiff, Nat.reduceMul, Nat.reduceBEq, QXFFaC3, L88_0, hp, hy, hH] | refine rd0 rfl ?_))
    refine iteP_intro (fun h => ?_) fun h => ?_
    · have hd2 : d ≤ H := by have h0 : (d : Int) ≤ (H : Int) := by simpa using h
                             omega
      have hw := wrapN (show d < H + 1 by omega) (by omega)
      rw [ways_step (show (d : Int) ≤ (H : Int) by omega), List.filter_cons, show (d : Int) + 1 = ((d + 1 : Nat) : Int) by omega] at hacc
      have hal : acc.length ≤ 7 := by
        have := congrArg List.length hacc
        simp only [List.length_append] at this
        omega
      (repeat (first | simp only [↓QA, QB, Nat.reduceLT, reduceIte, Nat.reduceEqDiff, Nat.reduceAdd, Nat.reduceLeDiff, Nat.reduceMul, Nat.reduceBEq, QXFFaC3] | refine rd0 rfl ?_))
      refine loopE (S := Nat) 0 (fun k => k ≤ v.looks.length) (fun k => v.looks.length - k)
        (fun k => [(1, .int .i64 p), (2, ints rain), (3, ints but), (4, .ptr 0 0), (9, .lit (acc.map (.int .i64)) false (some 1)), (10, .int .i64 d), (11, .bool (flowerUpTo v p rain but d k)), (12, .int .i64 k)])
        (fun k => [.cells (farmCells v), .tok 1 acc.length ex]) (Nat.zero_le _) (by simp [farmCells, ints]) ?_ fun k hk => ?_
      · try simp only [TrimX, QE, Nat.reduceLT, reduceIte, Nat.reduceEqDiff, Nat.reduceAdd, Nat.reduceLeDiff, Nat.reduceMul, Nat.reduceBEq, QXFFaC3, ints]
        try simp [flowerUpTo]
      · (repeat (first | simp only [↓QA, QB, Nat.reduceLT, reduceIte, Nat.reduceEqDiff, Nat.reduceAdd, Nat.reduceLeDiff, Nat.reduceMul, Nat.reduceBEq, QXFFaC3, L88_2] | refine rd0 rfl ?_))
        refine iteP_intro (fun h2 => ?_) fun h2 => ?_
        · have hk1 : k < v.looks.length := by simpa using h2
          have hwk := wrapN hk1 (by omega)
          have hsu := flowerUpTo_succ hk1 p rain but d
          have hlx := hv.lk _ (List.getElem_mem hk1)
          obtain ⟨x, hx⟩ : ∃ x, v.looks[k] = x := ⟨_, rfl⟩
          rw [hx] at hsu hlx
          simp only [lookOk] at hsu
          have hxl : decide (x.plot = (p : Int)) = (x.plot == (p : Int)) := by rw [Bool.eq_iff_iff]; simp
          rw [hxl] at hsu
          obtain ⟨D, hD⟩ : ∃ D : Nat, x.day = (D : Int) := ⟨x.day.toNat, by omega⟩
          have hpt := points_ok rain d D hr (by omega) (by omega)
          have hpe : ptsL rain d x.day = pts (rl rain) d D := by rw [ptsL, hD, Int.toNat_natCast, Int.toNat_natCast]
          rw [hpe] at hsu
          obtain ⟨q, hq⟩ : ∃ q, flowerUpTo v p rain but d k = q := ⟨_, rfl⟩
          rw [hq] at hsu
          rw [hq]
          (repeat (first | simp only [↓QA, QB, Nat.reduceLT, reduceIte, Nat.reduceEqDiff, Nat.reduceAdd, Nat.reduceLeDiff, Nat.reduceMul, Nat.reduceBEq, QXFFaC3, hk1, hx] | refine rd0 rfl ?_))
          cases hl : (x.plot == (p : Int))
          · rw [hl] at hsu
            simp only [Bool.not_false, Bool.true_or, Bool.and_true] at hsu
            (repeat (first | simp only [↓QA, QB, Nat.reduceLT, reduceIte, Nat.reduceEqDiff, Nat.reduceAdd, Nat.reduceLeDiff, Nat.reduceMul, Nat.reduceBEq, QXFFaC3, hl, hwk] | refine rd0 rfl ?_))
            refine ⟨k + 1, by omega, by omega, ?_⟩
            try simp only [TrimX, QE, Nat.reduceLT, reduceIte, Nat.reduceEqDiff, Nat.reduceAdd, Nat.reduceLeDiff, Nat.reduceMul, Nat.reduceBEq, QXFFaC3, hwk, hsu, ints]
            try simp [okBlk]
          · rw [hl] at hsu
            simp only [Bool.not_true, Bool.false_or] at hsu
            (repeat (first | simp only [↓QA, QB, Nat.reduceLT, reduceIte, Nat.reduceEqDiff, Nat.reduceAdd, Nat.reduceLeDiff, Nat.reduceMul, Nat.reduceBEq, QXFFaC3, hl] | refine rd0 rfl ?_))
            ((first | refine callK_d (has_ok but (k : Int) hbu) rfl dd ?_ | refine callD_d (has_ok but (k : Int) hbu) rfl dd ?_); (repeat (first | simp only [↓QA, QB, Nat.reduceLT, reduceIte, Nat.reduceEqDiff, Nat.reduceAdd, Nat.reduceLeDiff, Nat.reduceMul, Nat.reduceBEq, QXFFaC3] | refine rd0 rfl ?_)))
            cases hb : but.contains (k : Int)
            · rw [hb, Bool.false_or] at hsu
              (repeat (first | simp only [↓QA, QB, Nat.reduceLT, reduceIte, Nat.reduceEqDiff, Nat.reduceAdd, Nat.reduceLeDiff, Nat.reduceMul, Nat.reduceBEq, QXFFaC3] | refine rd0 rfl ?_))
              cases q
              · rw [Bool.false_and] at hsu
                (repeat (first | simp only [↓QA, QB, Nat.reduceLT, reduceIte, Nat.reduceEqDiff, Nat.reduceAdd, Nat.reduceLeDiff, Nat.reduceMul, Nat.reduceBEq, QXFFaC3, hwk] | refine rd0 rfl ?_))
                refine ⟨k + 1, by omega, by omega, ?_⟩
                try simp only [TrimX, QE, Nat.reduceLT, reduceIte, Nat.reduceEqDiff, Nat.reduceAdd, Nat.reduceLeDiff, Nat.reduceMul, Nat.reduceBEq, QXFFaC3, hwk, hsu, ints]
                try simp [okBlk]
              · rw [Bool.true_and] at hsu
                (repeat (first | simp only [↓QA, QB, Nat.reduceLT, reduceIte, Nat.reduceEqDiff, Nat.reduceAdd, Nat.reduceLeDiff, Nat.reduceMul, Nat.reduceBEq, QXFFaC3, hk1, hx, hD] | refine rd0 rfl ?_))
                ((first | refine callK_d (hpt) rfl dd ?_ | refine callD_d (hpt) rfl dd ?_); (repeat (first | simp only [↓QA, QB, Nat.reduceLT, reduceIte, Nat.reduceEqDiff, Nat.reduceAdd, Nat.reduceLeDiff, Nat.reduceMul, Nat.reduceBEq, QXFFaC3, hk1, hx, hwk, hD] | refine rd0 rfl ?_)))
                refine ⟨k + 1, by omega, by omega, ?_⟩
                try simp only [TrimX, QE, Nat.reduceLT, reduceIte, Nat.reduceEqDiff, Nat.reduceAdd, Nat.reduceLeDiff, Nat.reduceMul, Nat.reduceBEq, QXFFaC3, hwk, hsu, ints]
                try simp [okBlk]
            · rw [hb, Bool.true_or, Bool.and_true] at hsu
              (repeat (first | simp only [↓QA, QB, Nat.reduceLT, reduceIte, Nat.reduceEqDiff, Nat.reduceAdd, Nat.reduceLeDiff, Nat.reduceMul, Nat.reduceBEq, QXFFaC3, hwk] | refine rd0 rfl ?_))
              refine ⟨k + 1, by omega, by omega, ?_⟩
              try simp only [TrimX, QE, Nat.reduceLT, reduceIte, Nat.reduceEqDiff, Nat.reduceAdd, Nat.reduceLeDiff, Nat.reduceMul, Nat.reduceBEq, QXFFaC3, hwk, hsu, ints]
              try simp [okBlk]
        · have hk1 : k = v.looks.length := by simp at h2; omega
          subst hk1
          have hto : flowerUpTo v p rain but d v.looks.length = flowerOk v p rain but d := rfl
          rw [hto]
          cases hc : flowerOk v p rain but d
          · rw [hc] at hacc
            simp only [Bool.false_eq_true, if_false] at hacc
            (repeat (first | simp only [↓QA, QB, Nat.reduceLT, reduceIte, Nat.reduceEqDiff, Nat.reduceAdd, Nat.reduceLeDiff, Nat.reduceMul, Nat.reduceBEq, QXFFaC3, hw] | refine rd0 rfl ?_))
            refine ⟨(d + 1, acc, ex), ⟨by simp only; omega, by simp only; omega, hacc⟩, by simp only; omega, ?_⟩
            try simp only [TrimX, QE, Nat.reduceLT, reduceIte, Nat.reduceEqDiff, Nat.reduceAdd, Nat.reduceLeDiff, Nat.reduceMul, Nat.reduceBEq, QXFFaC3, hw, ints]
            try simp [okBlk]
          · rw [hc] at hacc
            simp only [if_true] at hacc
            have hap := fun (b0 : ABlk) (τ : St) => append_intT (σ := b0 :: .tok 1 acc.length ex :: τ) (l := acc) (a := (d : Int)) (ex := ex) (t := 1) (by omega) rfl
            (repeat (first | simp only [↓QA, QB, Nat.reduceLT, reduceIte, Nat.reduceEqDiff, Nat.reduceAdd, Nat.reduceLeDiff, Nat.reduceMul, Nat.reduceBEq, QXFFaC3, hw, hap] | refine rd0 rfl ?_))
            refine ⟨(d + 1, acc ++ [(d : Int)], true), ⟨by simp only; omega, by simp only; omega, by rw [← hacc]; simp⟩, by simp only; omega, ?_⟩
            try simp only [TrimX, QE, Nat.reduceLT, reduceIte, Nat.reduceEqDiff, Nat.reduceAdd, Nat.reduceLeDiff, Nat.reduceMul, Nat.reduceBEq, QXFFaC3, hw, S_mapI, ints, List.map_append, List.map_cons, List.map_nil]
            try simp [okBlk]
    · have hd2 : d = H + 1 := by
        have h0 : ¬ (d : Int) ≤ (H : Int) := by simpa using h
        omega
      rw [ways_end (show ¬ (d : Int) ≤ (H : Int) by omega)] at hacc
      simp only [List.filter_nil, List.append_nil] at hacc
      subst hacc
      (repeat (first | simp only [↓QA, QB, Nat.reduceLT, reduceIte, Nat.reduceEqDiff, Nat.reduceAdd, Nat.reduceLeDiff, Nat.reduceMul, Nat.reduceBEq, QXFFaC3, ints] | refine rd0 rfl ?_))
      try try simp only [QS, QC, Nat.reduceLT, reduceIte, Nat.reduceEqDiff, Nat.reduceAdd, Nat.reduceLeDiff, Nat.reduceMul, Nat.reduceBEq, QXFFaC3]
end Go.Am.Room
set_option maxRecDepth 4000
namespace Go.Am.Room
def QXFFaC4 := And.intro @encFarm_eq (And.intro @farmCells_eq (And.intro @encPlot_eq (And.intro @encLook_eq (And.intro @encSpan_eq (And.intro @S_mapPlot (And.intro @S_mapLook (And.intro @S_mapSpan (And.intro @T_sapp (And.intro @T_sapp0 (@S_mapT))))))))))
theorem flTo_succ (v : Farm) (rain but : List Int) (k : Nat) : flTo v rain but (k + 1) = flTo v rain but k ++ [flowersOf v k rain but] := by simp [flTo, List.range_succ]
theorem allFl_succ (v : Farm) (rain but : List Int) (k : Nat) : allFl v rain but (k + 1) = (allFl v rain but k && !(flowersOf v k rain but).isEmpty) := by simp [allFl, flTo_succ, List.all_append]
theorem allFl_le {v : Farm} {rain but : List Int} {k : Nat} (h : allFl v rain but k = false) : ∀ j, k ≤ j → allFl v rain but j = false := by
  intro j hj
  induction j with
  | zero => have : k = 0 := by omega
            subst this; exact h
  | succ j ih =>
    by_cases hk : k = j + 1
    · subst hk; exact h
    · rw [allFl_succ, ih (by omega), Bool.false_and]
theorem truths_in (v : Farm) (hv : Vd v) (but : List Int) (hbu : but.length < 9223372036854775808) (W : List (List Int)) (bl : List Int) (hbl : bl.length = v.rain.length) (hr : ∀ i, 0 ≤ rl bl i ∧ rl bl i ≤ 2) (k : Nat) (hk : k < W.length) (hkb : W[k] = bl) (acc : List Truth) (ex : Bool) (e : Env) (K : KJ)
  (e1 : Env.get e 1 = ints but) (e2 : Env.get e 2 = .ptr 0 0) (e5 : Env.get e 5 = intss W) (e6 : Env.get e 6 = .lit (acc.map encTruth) false (some 1)) (e7 : Env.get e 7 = .int .i64 k) (e8 : Env.get e 8 = .ptr 2 0) (e9 : Env.get e 9 = .bool true) (e10 : Env.get e 10 = .int .i64 0)
  (hK : ∀ e' xs f tk τ, (∀ t, tk = some t → 2 < t) → (allFl v bl but v.plots.length = true → xs = (flTo v bl but v.plots.length).map ints) → Env.get e' 1 = ints but → Env.get e' 2 = .ptr 0 0 → Env.get e' 5 = intss W → Env.get e' 6 = .lit (acc.map encTruth) false (some 1) → Env.get e' 7 = .int .i64 k → Env.get e' 8 = .ptr 2 0 → Env.get e' 9 = .bool (allFl v bl but v.plots.length) →
   K (some (.exit 2)) e' (.cells (farmCells v) :: .tok 2 acc.length ex :: .cells [.lit (bl.map (.int .i64)) false none, .lit xs f tk] :: τ)) :
  rK (K := ⟨K⟩) T (.loop L49_2) e [.cells (farmCells v), .tok 2 acc.length ex, .cells [.lit (bl.map (.int .i64)) false none, .lit [] true none]] := by
 have hno := hv.npl
 refine loopE (S := Nat × Bool × Option Nat × St) (0, true, none, []) (fun a => a.1 ≤ v.plots.length ∧ ∀ t, a.2.2.1 = some t → 2 < t ∧ t < 3 + a.2.2.2.length) (fun a => v.plots.length - a.1)
  (fun a => [(1, ints but), (2, .ptr 0 0), (5, intss W), (6, .lit (acc.map encTruth) false (some 1)), (7, .int .i64 k), (8, .ptr 2 0), (9, .bool (allFl v bl but a.1)), (10, .int .i64 a.1)])
  (fun a => .cells (farmCells v) :: .tok 2 acc.length ex :: .cells [.lit (bl.map (.int .i64)) false none, .lit ((flTo v bl but a.1).map ints) a.2.1 a.2.2.1] :: a.2.2.2) ⟨Nat.zero_le _, fun t h => by cases h⟩ rfl ?_ fun a ha => ?_
 ·try simp only [TrimX, QE, Nat.reduceLT, reduceIte, Nat.reduceEqDiff, Nat.reduceAdd, Nat.reduceLeDiff, Nat.reduceMul, Nat.reduceBEq, QXFFaC4, e1, e2, e5, e6, e7, e8, e9, e10]
  try simp [allFl, flTo]
 ·obtain ⟨h, f, tk, τ⟩ := a
  obtain ⟨hh, htk⟩ := ha
  simp only at hh htk
  by_cases hh1 : h < v.plots.length
  ·have g : decide ((h : Int) < (v.plots.length : Int)) = true := by simp; omega
   have hw := wrapN hh1 (by omega)
   have hsucc := flTo_succ v bl but h
   have hall := allFl_succ v bl but h
   cases hc : allFl v bl but h
   ·have hfull := allFl_le hc v.plots.length hh
    (repeat (first | simp only [↓QA, QB, Nat.reduceLT, reduceIte, Nat.reduceEqDiff, Nat.reduceAdd, Nat.reduceLeDiff, Nat.reduceMul, Nat.reduceBEq, QXFFaC4, L49_2, g] | refine rd0 rfl ?_))
    have hk0 := hK
    rw [farmCells_eq, hfull] at hk0
    refine hk0 _ _ f tk τ (fun t ht => (htk t ht).1) (fun h => by cases h) ?_ ?_ ?_ ?_ ?_ ?_ ?_
    all_goals try simp only [TrimX, QE, Nat.reduceLT, reduceIte, Nat.reduceEqDiff, Nat.reduceAdd, Nat.reduceLeDiff, Nat.reduceMul, Nat.reduceBEq, QXFFaC4]
   ·rw [hc, Bool.true_and] at hall
    have hll := (flowers_bd hv hh1 bl but).1
    have hst := rflowers_ok v hv h hh1 bl but hr hbl hbu
    obtain ⟨l, hl⟩ : ∃ l, flowersOf v h bl but = l := ⟨_, rfl⟩
    rw [hl] at hst hsucc hall hll
    have hlenp : decide ((0 : Int) < (l.length : Int)) = !l.isEmpty := by cases l <;> simp
    obtain ⟨xs, hxs⟩ : ∃ xs, (flTo v bl but h).map ints = xs := ⟨_, rfl⟩
    have hxl : xs.length ≤ 4 := by rw [← hxs]; simp [flTo]; omega
    have hxa : allCells 1 xs = true := by rw [← hxs]; exact allCells_ints _
    have a0 : ∀ (σ : St), appendAV 1 24 σ (.lit [] true none) (.lit xs f tk) = some ((app0 1 σ xs).1, (app0 1 σ xs).2) := fun σ => app0_eq ⟨rfl, hxa, by simp [room]; omega, by simp [room]; omega⟩
    have a1 : ∀ (σ : St), appendAV 1 24 (app0 1 σ xs).2 (app0 1 σ xs).1 (.lit [.lit (l.map (.int .i64)) false none] true none) = some (.lit (xs ++ [.lit (l.map (.int .i64)) false none]) false (some σ.length), σ ++ [.tok 1 (xs.length + 1) true]) := fun σ => by
     rw [app0_more ⟨hxa, by simp [allCells, AV.cells, AV.cell], by simp [room]; omega, by simp [room]; omega⟩ (by simp)]
     simp
    simp only [hxs]
    (repeat (first | simp only [↓QA, QB, Nat.reduceLT, reduceIte, Nat.reduceEqDiff, Nat.reduceAdd, Nat.reduceLeDiff, Nat.reduceMul, Nat.reduceBEq, QXFFaC4, L49_2, g, hk, hkb, intss, ints] | refine rd0 rfl ?_))
    ((first | refine callK_d (hst) rfl dd ?_ | refine callD_d (hst) rfl dd ?_); (repeat (first | simp only [↓QA, QB, Nat.reduceLT, reduceIte, Nat.reduceEqDiff, Nat.reduceAdd, Nat.reduceLeDiff, Nat.reduceMul, Nat.reduceBEq, QXFFaC4, hlenp, a0, a1, hk, hkb, intss, ints] | refine rd0 rfl ?_)))
    refine ⟨(h + 1, false, some (τ.length + 1 + 1 + 1), τ ++ [.tok 1 (xs.length + 1) true]), ⟨by simp only; omega, fun t ht => by simp only [Option.some.injEq] at ht; subst ht; simp only [List.length_append, List.length_cons, List.length_nil]; omega⟩, by simp only; omega, ?_⟩
    rw [hsucc, hall, List.map_append, hxs]
    try simp only [TrimX, QE, Nat.reduceLT, reduceIte, Nat.reduceEqDiff, Nat.reduceAdd, Nat.reduceLeDiff, Nat.reduceMul, Nat.reduceBEq, QXFFaC4, hw, List.map_append, List.map_cons, List.map_nil, List.length_append, intss, ints]
    try simp [okBlk, okVs, okV]
    exact ⟨ok_datas (datas_map (data_int .i64) bl) _, okVs_app (ok_datas (by rw [← hxs]; exact datas_map data_ints _) _) (ok_datas (datas_cons (data_ints l) datas_nil) _)⟩
  ·have g : decide ((h : Int) < (v.plots.length : Int)) = false := by simp; omega
   obtain rfl : h = v.plots.length := by omega
   (repeat (first | simp only [↓QA, QB, Nat.reduceLT, reduceIte, Nat.reduceEqDiff, Nat.reduceAdd, Nat.reduceLeDiff, Nat.reduceMul, Nat.reduceBEq, QXFFaC4, L49_2, g] | refine rd0 rfl ?_))
   have hk0 := hK
   rw [farmCells_eq] at hk0
   refine hk0 _ _ f tk τ (fun t ht => (htk t ht).1) (fun _ => rfl) ?_ ?_ ?_ ?_ ?_ ?_ ?_
   all_goals try simp only [TrimX, QE, Nat.reduceLT, reduceIte, Nat.reduceEqDiff, Nat.reduceAdd, Nat.reduceLeDiff, Nat.reduceMul, Nat.reduceBEq, QXFFaC4]
theorem allCells_truths (l : List Truth) : allCells 2 (l.map encTruth) = true := L_allM 2 encTruth l fun x => by simp [cellsOk, encTruth, AV.cells, AV.cell, ints, intss]
theorem rtruths_ok (v : Farm) (hv : Vd v) (but : List Int) (hbu : but.length < 9223372036854775808) : Pure T 49 [encFarm v, ints but] (truthsAV (truths v but)) := by
 refine pure_fn (af := a49) rfl (by simp [a49]) dd ?_
 have hwl := weather_len hv
 have hwm := fun c => (weather_mem (v := v) (c := c)).1
 obtain ⟨R, hR⟩ : ∃ R, truths v but = R := ⟨_, rfl⟩
 have hRl := truths_len hv but
 have hR' : [] ++ ((weather v).drop 0).filterMap (truthOf v but) = R := hR
 rw [hR] at hRl ⊢
 have hrw := rweather_ok v hv
 obtain ⟨W, hW⟩ : ∃ W, weather v = W := ⟨_, rfl⟩
 rw [hW] at hwl hR' hrw
 simp only [hW] at hwm
 (repeat (first | simp only [↓QA, QB, Nat.reduceLT, reduceIte, Nat.reduceEqDiff, Nat.reduceAdd, Nat.reduceLeDiff, Nat.reduceMul, Nat.reduceBEq, QXFFaC4, a49] | refine rd0 rfl ?_))
 ((first | refine callK_d (hrw) rfl dd ?_ | refine callD_d (hrw) rfl dd ?_); (repeat (first | simp only [↓QA, QB, Nat.reduceLT, reduceIte, Nat.reduceEqDiff, Nat.reduceAdd, Nat.reduceLeDiff, Nat.reduceMul, Nat.reduceBEq, QXFFaC4] | refine rd0 rfl ?_)))
 refine ghostK 6 2 [] rfl ?_
 refine loopE (S := Nat × List Truth × Bool) (0, [], false) (fun a => a.1 ≤ W.length ∧ a.2.1 ++ (W.drop a.1).filterMap (truthOf v but) = R) (fun a => W.length - a.1)
  (fun a => [(1, ints but), (2, .ptr 0 0), (5, intss W), (6, .lit (a.2.1.map encTruth) false (some 1)), (7, .int .i64 a.1)])
  (fun a => [.cells (farmCells v), .tok 2 a.2.1.length a.2.2]) ⟨Nat.zero_le _, hR'⟩ (by simp [farmCells, ints]) ?_ fun a ha => ?_
 ·try simp only [TrimX, QE, Nat.reduceLT, reduceIte, Nat.reduceEqDiff, Nat.reduceAdd, Nat.reduceLeDiff, Nat.reduceMul, Nat.reduceBEq, QXFFaC4]
  try simp
 ·obtain ⟨k, acc, ex⟩ := a
  obtain ⟨hk, hacc⟩ := ha
  simp only at hk hacc
  (repeat (first | simp only [↓QA, QB, Nat.reduceLT, reduceIte, Nat.reduceEqDiff, Nat.reduceAdd, Nat.reduceLeDiff, Nat.reduceMul, Nat.reduceBEq, QXFFaC4, L49_0, intss] | refine rd0 rfl ?_))
  refine iteP_intro (fun hd => ?_) fun hd => ?_
  ·have hk1 : k < W.length := by simpa using hd
   have hw := wrapN hk1 (by omega)
   have hro := hwm _ (List.getElem_mem hk1)
   obtain ⟨bl, hbl⟩ : ∃ bl, W[k] = bl := ⟨_, rfl⟩
   rw [hbl] at hro
   rw [List.drop_eq_getElem_cons hk1, hbl, List.filterMap_cons] at hacc
   have hal : acc.length ≤ 2187 := by
    have := congrArg List.length hacc
    simp only [List.length_append] at this
    omega
   have hin := truths_in v hv but hbu W bl hro.len (rain_bd hv hro) k hk1 hbl acc ex
   rw [farmCells_eq] at hin
   have hap := fun (y : AV) (hy : allCells 2 [y] = true) (τ : St) => append_at (σ := .cells (farmCells v) :: .tok 2 acc.length ex :: τ) (t := 1) (ex := ex) (sz := 2) (b := 48) (xs := acc.map encTruth) (ys := [y]) (f := true) (tk := none) ⟨allCells_truths acc, hy, by simp [room]; omega, by simp [room]; omega⟩ (by simp) acc.length (by simp) rfl
   rw [farmCells_eq] at hap
   have hap2 := fun (l : List AV) (f : Bool) (tk : Option Nat) => hap (.agg [.lit (bl.map (.int .i64)) false none, .lit l f tk]) rfl
   (repeat (first | simp only [↓QA, QB, Nat.reduceLT, reduceIte, Nat.reduceEqDiff, Nat.reduceAdd, Nat.reduceLeDiff, Nat.reduceMul, Nat.reduceBEq, QXFFaC4, hk1, hbl, ints, intss] | refine rd0 rfl ?_))
   refine hin _ _ ?_ ?_ ?_ ?_ ?_ ?_ ?_ ?_ ?_
   all_goals try try simp only [TrimX, QE, Nat.reduceLT, reduceIte, Nat.reduceEqDiff, Nat.reduceAdd, Nat.reduceLeDiff, Nat.reduceMul, Nat.reduceBEq, QXFFaC4, intss, ints]
   intro e' xs f tk τ htk hxs q1 q2 q5 q6 q7 q8 q9
   cases hall : allFl v bl but v.plots.length
   ·rw [truthOf_eq, hall] at hacc
    rw [hall] at q9
    (repeat (first | simp only [↓QA, QB, Nat.reduceLT, reduceIte, Nat.reduceEqDiff, Nat.reduceAdd, Nat.reduceLeDiff, Nat.reduceMul, Nat.reduceBEq, QXFFaC4, q1, q2, q5, q6, q7, q8, q9, ints, intss] | refine rd0 rfl ?_))
    refine ⟨(k + 1, acc, ex), ⟨by simp only; omega, by simpa using hacc⟩, by simp only; omega, ?_⟩
    try simp only [TrimX, QE, Nat.reduceLT, reduceIte, Nat.reduceEqDiff, Nat.reduceAdd, Nat.reduceLeDiff, Nat.reduceMul, Nat.reduceBEq, QXFFaC4, q1, q2, q5, q6, q7, q8, q9, hw, ints, intss]
    try simp [okBlk]
   ·rw [truthOf_eq, hall] at hacc
    rw [hall] at q9
    rw [hxs hall]
    (repeat (first | simp only [↓QA, QB, Nat.reduceLT, reduceIte, Nat.reduceEqDiff, Nat.reduceAdd, Nat.reduceLeDiff, Nat.reduceMul, Nat.reduceBEq, QXFFaC4, q1, q2, q5, q6, q7, q8, q9, ints, intss, hap2] | refine rd0 rfl ?_))
    refine ⟨(k + 1, acc ++ [⟨bl, flTo v bl but v.plots.length⟩], true), ⟨by simp only; omega, by simpa using hacc⟩, by simp only; omega, ?_⟩
    cases tk with
    | none =>
     try simp only [TrimX, QE, Nat.reduceLT, reduceIte, Nat.reduceEqDiff, Nat.reduceAdd, Nat.reduceLeDiff, Nat.reduceMul, Nat.reduceBEq, QXFFaC4, q1, q2, q5, q6, q7, q8, q9, hw, ints, intss, List.map_append, List.map_cons, List.map_nil, List.length_append, encTruth_eq, Bool.and_false]
     try simp [okBlk]
    | some t =>
     have h2 := htk t rfl
     try simp only [TrimX, QE, Nat.reduceLT, reduceIte, Nat.reduceEqDiff, Nat.reduceAdd, Nat.reduceLeDiff, Nat.reduceMul, Nat.reduceBEq, QXFFaC4, q1, q2, q5, q6, q7, q8, q9, hw, ints, intss, List.map_append, List.map_cons, List.map_nil, List.length_append, encTruth_eq, Bool.and_false, Nat.not_lt.2 (Nat.le_of_lt h2)]
     try simp [okBlk]
  ·have hk1 : k = W.length := by simp at hd; omega
   rw [hk1, List.drop_length] at hacc
   simp only [List.filterMap_nil, List.append_nil] at hacc
   subst hacc
   (repeat (first | simp only [↓QA, QB, Nat.reduceLT, reduceIte, Nat.reduceEqDiff, Nat.reduceAdd, Nat.reduceLeDiff, Nat.reduceMul, Nat.reduceBEq, QXFFaC4, truthsAV] | refine rd0 rfl ?_))
   try try simp only [QS, QC, Nat.reduceLT, reduceIte, Nat.reduceEqDiff, Nat.reduceAdd, Nat.reduceLeDiff, Nat.reduceMul, Nat.reduceBEq, QXFFaC4]
end Go.Am.Room
set_option maxRecDepth 4000
namespace Go.Am.Room
def QXFFaC5 := And.intro @encFarm_eq (And.intro @farmCells_eq (And.intro @encPlot_eq (And.intro @encLook_eq (And.intro @encSpan_eq (And.intro @S_mapPlot (And.intro @S_mapLook (And.intro @S_mapSpan (And.intro @T_sapp (And.intro @T_sapp0 (And.intro @S_mapT (And.intro @truthsAV_eq (@encTruth_eq))))))))))))
theorem farm_nil (v : Farm) : clrs [encFarm v, .lit [] true none] = [encFarm v, ints []] := by simp [clrs, (data_farm v).2, clr, ints]
theorem farm_nil_ok (v : Farm) : okVs 0 [encFarm v, .lit [] true none] := ⟨(data_farm v).1, by simp [okV, okVs], trivial⟩
theorem join_self (x : Int) : join ⟨x, x⟩ x = ⟨x, x⟩ := by simp [join]
theorem fullIn_step {l : List Truth} {i : Nat} (hi : i < l.length) (p d : Nat) : fullIn (l.drop i) p d = (flAt l[i] p).map (ptsT l[i] d) ++ fullIn (l.drop (i + 1)) p d := by
 rw [fullIn, List.drop_eq_getElem_cons hi, List.flatMap_cons]; rfl
theorem flAt_get {t : Truth} {p : Nat} (h : p < t.fl.length) : flAt t p = t.fl[p] := by simp [flAt, h]
theorem spanL_fold {x : Int} {xs : List Int} : (x :: xs).foldl join ⟨x, x⟩ = spanL (x :: xs) := by
 rw [List.foldl_cons, join_self]; rfl
theorem rfull_ok (v : Farm) (hv : Vd v) (l : List Truth) (hl : ∀ t ∈ l, TOk v t) (hll : l.length ≤ 2187) (hne : l ≠ []) (p d : Nat) (hp : p < v.plots.length) (hd : d ≤ v.rain.length) :
  Pure T 76 [truthsAV l, .int .i64 p, .int .i64 d] (encSpan (fullS l p d)) := by
 refine pure_fn (af := a76) rfl (by simp [a76]) dd ?_
 have hno := hv.nra
 have hpos : 0 < l.length := List.length_pos_iff.2 hne
 have hget : ∀ i (h : i < l.length), ∃ st : List Int, ∃ h2 : p < l[i].fl.length, l[i].fl[p] = st ∧ flAt l[i] p = st ∧ 0 < st.length ∧ st.length ≤ 7 ∧ ∀ h ∈ st, 0 ≤ h ∧ h < v.rain.length := fun i h => by
  have ht := hl _ (List.getElem_mem h)
  have hlen := ht.len
  have hf := ht.fl p hp
  have h2 : p < l[i].fl.length := by omega
  exact ⟨_, h2, rfl, flAt_get h2, by rw [← flAt_get h2]; exact List.length_pos_iff.2 hf.1, by rw [← flAt_get h2]; exact hf.2.1, by rw [← flAt_get h2]; exact hf.2.2⟩
 have hpo : ∀ i (h : i < l.length) (H : Nat), H < v.rain.length → Pure T 43 [ints l[i].rain, .int .i64 H, .int .i64 d] (.int .i64 (ptsT l[i] d H)) := fun i h H hH => by
  have ht := hl _ (List.getElem_mem h)
  have hlen := ht.rain.len
  have := points_ok l[i].rain H d (rain_bd hv ht.rain) (by omega) (by omega)
  simpa [ptsT, ptsL] using this
 obtain ⟨st0, h02, hst0, hfl0, hs00, hs01, hsm0⟩ := hget 0 hpos
 have hm0 := hsm0 _ (List.getElem_mem hs00)
 obtain ⟨H0, hH0⟩ : ∃ H : Nat, st0[0] = (H : Int) := ⟨st0[0].toNat, by omega⟩
 have hp0 := hpo 0 hpos H0 (by omega)
 obtain ⟨X, hX⟩ : ∃ X, ptsT l[0] d H0 = X := ⟨_, rfl⟩
 rw [hX] at hp0
 have hR : (fullIn (l.drop 0) p d).foldl join ⟨X, X⟩ = fullS l p d := by
  have e := fullIn_step hpos p d
  rw [hfl0] at e
  have e2 : st0 = (H0 : Int) :: st0.drop 1 := by
   have := List.drop_eq_getElem_cons hs00
   rw [hH0] at this
   simpa using this
  rw [e2, List.map_cons, hX, List.cons_append] at e
  rw [e, spanL_fold, fullS, ← e, List.drop_zero]
 obtain ⟨R, hRe⟩ : ∃ R, fullS l p d = R := ⟨_, rfl⟩
 rw [hRe] at hR ⊢
 obtain ⟨t0, ht0⟩ : ∃ t, l[0] = t := ⟨_, rfl⟩
 simp only [ht0] at hp0 h02 hst0
 (repeat (first | simp only [↓QA, QB, Nat.reduceLT, reduceIte, Nat.reduceEqDiff, Nat.reduceAdd, Nat.reduceLeDiff, Nat.reduceMul, Nat.reduceBEq, QXFFaC5, a76, V_idxI, Int.le_refl, Int.toNat_zero, hpos, ht0, h02, hst0, hs00, hH0, ints] | refine rd0 rfl ?_))
 ((first | refine callK_d (hp0) rfl dd ?_ | refine callD_d (hp0) rfl dd ?_); (repeat (first | simp only [↓QA, QB, Nat.reduceLT, reduceIte, Nat.reduceEqDiff, Nat.reduceAdd, Nat.reduceLeDiff, Nat.reduceMul, Nat.reduceBEq, QXFFaC5, V_idxI, Int.le_refl, Int.toNat_zero, hpos, ht0, h02, hst0, hs00, hH0, ints] | refine rd0 rfl ?_)))
 refine loopE (S := Nat × Span) (0, ⟨X, X⟩) (fun a => a.1 ≤ l.length ∧ (fullIn (l.drop a.1) p d).foldl join a.2 = R) (fun a => l.length - a.1)
  (fun a => [(0, truthsAV l), (1, .int .i64 p), (2, .int .i64 d), (6, .ptr 0 0), (8, .ptr 1 0), (9, .int .i64 a.1)])
  (fun a => [.cells [.int .i64 0, .int .i64 0], .cells [.int .i64 a.2.lo, .int .i64 a.2.hi]]) ⟨Nat.zero_le _, hR⟩ (by simp) ?_ fun a ha => ?_
 ·try simp only [TrimX, QE, Nat.reduceLT, reduceIte, Nat.reduceEqDiff, Nat.reduceAdd, Nat.reduceLeDiff, Nat.reduceMul, Nat.reduceBEq, QXFFaC5, ints]
  try simp
 ·obtain ⟨i, sp⟩ := a
  obtain ⟨hi, hy⟩ := ha
  simp only at hi hy
  (repeat (first | simp only [↓QA, QB, Nat.reduceLT, reduceIte, Nat.reduceEqDiff, Nat.reduceAdd, Nat.reduceLeDiff, Nat.reduceMul, Nat.reduceBEq, QXFFaC5, L76_0] | refine rd0 rfl ?_))
  refine iteP_intro (fun h => ?_) fun h => ?_
  ·have hi1 : i < l.length := by simpa using h
   have hwi := wrapN hi1 (by omega)
   obtain ⟨st, h2, hst, hfl, _, hs1, hsm⟩ := hget i hi1
   rw [fullIn_step hi1, hfl] at hy
   have hpi := hpo i hi1
   obtain ⟨t, hte⟩ : ∃ t, l[i] = t := ⟨_, rfl⟩
   simp only [hte] at hy h2 hst hpi
   (repeat (first | simp only [↓QA, QB, Nat.reduceLT, reduceIte, Nat.reduceEqDiff, Nat.reduceAdd, Nat.reduceLeDiff, Nat.reduceMul, Nat.reduceBEq, QXFFaC5] | refine rd0 rfl ?_))
   refine loopE (S := Nat × Span) (0, sp) (fun a => a.1 ≤ st.length ∧ (((st.drop a.1).map (ptsT t d)) ++ fullIn (l.drop (i + 1)) p d).foldl join a.2 = R) (fun a => st.length - a.1)
    (fun a => [(0, truthsAV l), (1, .int .i64 p), (2, .int .i64 d), (6, .ptr 0 0), (8, .ptr 1 0), (9, .int .i64 i), (10, .int .i64 a.1)])
    (fun a => [.cells [.int .i64 0, .int .i64 0], .cells [.int .i64 a.2.lo, .int .i64 a.2.hi]]) ⟨Nat.zero_le _, by simpa using hy⟩ (by simp) ?_ fun a ha => ?_
   ·try simp only [TrimX, QE, Nat.reduceLT, reduceIte, Nat.reduceEqDiff, Nat.reduceAdd, Nat.reduceLeDiff, Nat.reduceMul, Nat.reduceBEq, QXFFaC5]
    try simp
   ·obtain ⟨k, sp⟩ := a
    obtain ⟨hk, hy⟩ := ha
    simp only at hk hy
    (repeat (first | simp only [↓QA, QB, Nat.reduceLT, reduceIte, Nat.reduceEqDiff, Nat.reduceAdd, Nat.reduceLeDiff, Nat.reduceMul, Nat.reduceBEq, QXFFaC5, L76_2, hi1, hte, h2, hst, ints] | refine rd0 rfl ?_))
    refine iteP_intro (fun h3 => ?_) fun h3 => ?_
    ·have hk1 : k < st.length := by simpa using h3
     have hwk := wrapN hk1 (by omega)
     have hm := hsm _ (List.getElem_mem hk1)
     obtain ⟨H, hH⟩ : ∃ H : Nat, st[k] = (H : Int) := ⟨st[k].toNat, by omega⟩
     have hpk := hpi H (by omega)
     rw [List.drop_eq_getElem_cons hk1, hH, List.map_cons, List.cons_append, List.foldl_cons] at hy
     obtain ⟨x, hx⟩ : ∃ x, ptsT t d H = x := ⟨_, rfl⟩
     rw [hx] at hpk hy
     (repeat (first | simp only [↓QA, QB, Nat.reduceLT, reduceIte, Nat.reduceEqDiff, Nat.reduceAdd, Nat.reduceLeDiff, Nat.reduceMul, Nat.reduceBEq, QXFFaC5, hi1, hte, h2, hst, hk1, hH, ints] | refine rd0 rfl ?_))
     ((first | refine callK_d (hpk) rfl dd ?_ | refine callD_d (hpk) rfl dd ?_); (repeat (first | simp only [↓QA, QB, Nat.reduceLT, reduceIte, Nat.reduceEqDiff, Nat.reduceAdd, Nat.reduceLeDiff, Nat.reduceMul, Nat.reduceBEq, QXFFaC5, hi1, hte, h2, hst, hk1, hH, ints] | refine rd0 rfl ?_)))
     ((first | refine callK_d (join_ok sp x) rfl dd ?_ | refine callD_d (join_ok sp x) rfl dd ?_); (repeat (first | simp only [↓QA, QB, Nat.reduceLT, reduceIte, Nat.reduceEqDiff, Nat.reduceAdd, Nat.reduceLeDiff, Nat.reduceMul, Nat.reduceBEq, QXFFaC5, hi1, hte, h2, hst, hk1, hH, ints, hwk] | refine rd0 rfl ?_)))
     refine ⟨(k + 1, join sp x), ⟨by simp only; omega, hy⟩, by simp only; omega, ?_⟩
     try simp only [TrimX, QE, Nat.reduceLT, reduceIte, Nat.reduceEqDiff, Nat.reduceAdd, Nat.reduceLeDiff, Nat.reduceMul, Nat.reduceBEq, QXFFaC5, hwk]
     try simp [okBlk, okVs, okV]
    ·have hk1 : k = st.length := by simp at h3; omega
     rw [hk1, List.drop_length, List.map_nil, List.nil_append] at hy
     (repeat (first | simp only [↓QA, QB, Nat.reduceLT, reduceIte, Nat.reduceEqDiff, Nat.reduceAdd, Nat.reduceLeDiff, Nat.reduceMul, Nat.reduceBEq, QXFFaC5, hwi] | refine rd0 rfl ?_))
     refine ⟨(i + 1, sp), ⟨by simp only; omega, hy⟩, by simp only; omega, ?_⟩
     try simp only [TrimX, QE, Nat.reduceLT, reduceIte, Nat.reduceEqDiff, Nat.reduceAdd, Nat.reduceLeDiff, Nat.reduceMul, Nat.reduceBEq, QXFFaC5, hwi]
     try simp [okBlk, okVs, okV]
  ·have hi1 : i = l.length := by simp at h; omega
   rw [hi1, List.drop_length] at hy
   simp only [fullIn, List.flatMap_nil, List.foldl_nil] at hy
   subst hy
   (repeat (first | simp only [↓QA, QB, Nat.reduceLT, reduceIte, Nat.reduceEqDiff, Nat.reduceAdd, Nat.reduceLeDiff, Nat.reduceMul, Nat.reduceBEq, QXFFaC5] | refine rd0 rfl ?_))
   try try simp only [QS, QC, Nat.reduceLT, reduceIte, Nat.reduceEqDiff, Nat.reduceAdd, Nat.reduceLeDiff, Nat.reduceMul, Nat.reduceBEq, QXFFaC5]
end Go.Am.Room
set_option maxRecDepth 4000
namespace Go.Am.Room
def QXFFaC8 := And.intro @encFarm_eq (And.intro @farmCells_eq (And.intro @encPlot_eq (And.intro @encLook_eq (And.intro @encSpan_eq (And.intro @S_mapPlot (And.intro @S_mapLook (And.intro @S_mapSpan (And.intro @T_sapp (And.intro @T_sapp0 (And.intro @S_mapT (And.intro @truthsAV_eq (@encTruth_eq))))))))))))
theorem rgreen_ok (v : Farm) (hv : Vd v) (l : List Truth) (hl : ∀ t ∈ l, TOk v t) (hll : l.length ≤ 2187) (hne : l ≠ []) (p d : Nat) (hp : p < v.plots.length) (hd : d ≤ v.rain.length) :
  Pure T 82 [encFarm v, truthsAV l, .int .i64 p, .int .i64 d] (.bool (greenB v l p d)) := by
 refine pure_fn (af := a82) rfl (by simp [a82]) dd ?_
 have hb := fullS_bd hv hl hne hp hd
 have hfu := rfull_ok v hv l hl hll hne p d hp hd
 have hwy := hv.way
 rw [greenB]
 obtain ⟨s, hs⟩ : ∃ s, fullS l p d = s := ⟨_, rfl⟩
 rw [hs] at hb hfu
 rw [hs]
 have hw : IntKind.i64.wrap (s.hi + v.way.hi) = s.hi + v.way.hi := wrap64 ⟨by omega, by omega⟩
 (repeat (first | simp only [↓QA, QB, Nat.reduceLT, reduceIte, Nat.reduceEqDiff, Nat.reduceAdd, Nat.reduceLeDiff, Nat.reduceMul, Nat.reduceBEq, QXFFaC8, a82] | refine rd0 rfl ?_))
 ((first | refine callK_d (hfu) rfl dd ?_ | refine callD_d (hfu) rfl dd ?_); (repeat (first | simp only [↓QA, QB, Nat.reduceLT, reduceIte, Nat.reduceEqDiff, Nat.reduceAdd, Nat.reduceLeDiff, Nat.reduceMul, Nat.reduceBEq, QXFFaC8, hw] | refine rd0 rfl ?_)))
theorem rwhole_ok (v : Farm) (hv : Vd v) (l : List Truth) (hl : ∀ t ∈ l, TOk v t) (hll : l.length ≤ 2187) (hne : l ≠ []) (p d : Nat) (hp : p < v.plots.length) (hd : d ≤ v.rain.length) :
  Pure T 89 [encFarm v, truthsAV l, .int .i64 p, .int .i64 d] (.bool (wholeB v l p d)) := by
 refine pure_fn (af := a89) rfl (by simp [a89]) dd ?_
 have hfu := rfull_ok v hv l hl hll hne p d hp hd
 rw [wholeB]
 obtain ⟨s, hs⟩ : ∃ s, fullS l p d = s := ⟨_, rfl⟩
 rw [hs] at hfu
 rw [hs]
 (repeat (first | simp only [↓QA, QB, Nat.reduceLT, reduceIte, Nat.reduceEqDiff, Nat.reduceAdd, Nat.reduceLeDiff, Nat.reduceMul, Nat.reduceBEq, QXFFaC8, a89] | refine rd0 rfl ?_))
 ((first | refine callK_d (hfu) rfl dd ?_ | refine callD_d (hfu) rfl dd ?_); (repeat (first | simp only [↓QA, QB, Nat.reduceLT, reduceIte, Nat.reduceEqDiff, Nat.reduceAdd, Nat.reduceLeDiff, Nat.reduceMul, Nat.reduceBEq, QXFFaC8] | refine rd0 rfl ?_)))
theorem rhands_ok (v : Farm) (hv : Vd v) (ps : List Int) (hps : ∀ p ∈ ps, 0 ≤ p ∧ p < v.plots.length) (hpl : ps.length ≤ 100) : Pure T 47 [encFarm v, ints ps] (.int .i64 (handsOf v ps)) := by
 refine pure_fn (af := a47) rfl (by simp [a47]) dd ?_
 obtain ⟨R, hR⟩ : ∃ R, handsOf v ps = R := ⟨_, rfl⟩
 rw [hR]
 (repeat (first | simp only [↓QA, QB, Nat.reduceLT, reduceIte, Nat.reduceEqDiff, Nat.reduceAdd, Nat.reduceLeDiff, Nat.reduceMul, Nat.reduceBEq, QXFFaC8, a47] | refine rd0 rfl ?_))
 refine loopE (S := Nat × Int) (0, 0) (fun a => a.1 ≤ ps.length ∧ a.2 + handsOf v (ps.drop a.1) = R ∧ 0 ≤ a.2 ∧ a.2 ≤ 99 * a.1) (fun a => ps.length - a.1)
  (fun a => [(1, ints ps), (2, .ptr 0 0), (5, .int .i64 a.2), (6, .int .i64 a.1)]) (fun _ => [.cells (farmCells v)]) ⟨Nat.zero_le _, by simpa using hR, Int.le_refl _, by simp⟩ (by simp [farmCells, ints]) ?_ fun a ha => ?_
 ·try simp only [TrimX, QE, Nat.reduceLT, reduceIte, Nat.reduceEqDiff, Nat.reduceAdd, Nat.reduceLeDiff, Nat.reduceMul, Nat.reduceBEq, QXFFaC8]
  try simp
 ·obtain ⟨k, n⟩ := a
  obtain ⟨hk, hq, hn0, hn1⟩ := ha
  simp only at hk hq hn0 hn1
  (repeat (first | simp only [↓QA, QB, Nat.reduceLT, reduceIte, Nat.reduceEqDiff, Nat.reduceAdd, Nat.reduceLeDiff, Nat.reduceMul, Nat.reduceBEq, QXFFaC8, L47_0] | refine rd0 rfl ?_))
  refine iteP_intro (fun h => ?_) fun h => ?_
  ·have hk1 : k < ps.length := by simpa using h
   have hw := wrapN hk1 (by omega)
   have hp := hps _ (List.getElem_mem hk1)
   obtain ⟨p, hpe⟩ : ∃ p : Nat, ps[k] = (p : Int) := ⟨ps[k].toNat, by omega⟩
   have hpp : p < v.plots.length := by omega
   have hh := (pl_ok hv hpp).2
   rw [List.drop_eq_getElem_cons hk1, handsOf, hpe, hands_at hpp] at hq
   obtain ⟨y, hy⟩ : ∃ y, v.plots[p] = y := ⟨_, rfl⟩
   rw [hy] at hh hq
   have hwn : IntKind.i64.wrap (n + y.hands) = n + y.hands := wrap64 ⟨by omega, by omega⟩
   (repeat (first | simp only [↓QA, QB, Nat.reduceLT, reduceIte, Nat.reduceEqDiff, Nat.reduceAdd, Nat.reduceLeDiff, Nat.reduceMul, Nat.reduceBEq, QXFFaC8, hk1, hpe, hpp, hy, hwn, hw] | refine rd0 rfl ?_))
   refine ⟨(k + 1, n + y.hands), ⟨by simp only; omega, by simp only; omega, by simp only; omega, by simp only; omega⟩, by simp only; omega, ?_⟩
   try simp only [TrimX, QE, Nat.reduceLT, reduceIte, Nat.reduceEqDiff, Nat.reduceAdd, Nat.reduceLeDiff, Nat.reduceMul, Nat.reduceBEq, QXFFaC8, hw, hwn]
   try simp [okBlk]
  ·have hk1 : k = ps.length := by simp at h; omega
   rw [hk1, List.drop_length] at hq
   simp only [handsOf, Int.add_zero] at hq
   subst hq
   (repeat (first | simp only [↓QA, QB, Nat.reduceLT, reduceIte, Nat.reduceEqDiff, Nat.reduceAdd, Nat.reduceLeDiff, Nat.reduceMul, Nat.reduceBEq, QXFFaC8] | refine rd0 rfl ?_))
theorem rshrinks_ok (v : Farm) (hv : Vd v) (l : List Truth) (hl : ∀ t ∈ l, TOk v t) (hll : l.length ≤ 2187) (hne : l ≠ []) (ps : List Int) (hps : ∀ p ∈ ps, 0 ≤ p ∧ p < v.plots.length) (hpl : ps.length ≤ 90) (d : Nat) (hd : d ≤ v.rain.length) :
  Pure T 52 [encFarm v, truthsAV l, ints ps, .int .i64 d] (ints (shrinksOf v l ps d)) := by
 refine pure_fn (af := a52) rfl (by simp [a52]) dd ?_
 obtain ⟨q, hq⟩ : ∃ q : Int → Bool, (fun p => !wholeB v l p.toNat d) = q := ⟨_, rfl⟩
 have hre : shrinksOf v l ps d = ps.filter q := by rw [← hq]; rfl
 rw [hre]
 obtain ⟨R, hR⟩ : ∃ R, ps.filter q = R := ⟨_, rfl⟩
 have hRl : R.length ≤ 90 := by rw [← hR]; exact Nat.le_trans (List.length_filter_le _ _) hpl
 rw [hR]
 (repeat (first | simp only [↓QA, QB, Nat.reduceLT, reduceIte, Nat.reduceEqDiff, Nat.reduceAdd, Nat.reduceLeDiff, Nat.reduceMul, Nat.reduceBEq, QXFFaC8, a52] | refine rd0 rfl ?_))
 refine ghostK 9 1 [] rfl ?_
 refine loopE (S := Nat × List Int × Bool) (0, [], false) (fun a => a.1 ≤ ps.length ∧ a.2.1 ++ (ps.drop a.1).filter q = R) (fun a => ps.length - a.1)
  (fun a => [(1, truthsAV l), (2, ints ps), (3, .int .i64 d), (4, .ptr 0 0), (9, .lit (a.2.1.map (.int .i64)) false (some 1)), (10, .int .i64 a.1)])
  (fun a => [.cells (farmCells v), .tok 1 a.2.1.length a.2.2]) ⟨Nat.zero_le _, by simpa using hR⟩ (by simp [farmCells, ints]) ?_ fun a ha => ?_
 ·try simp only [TrimX, QE, Nat.reduceLT, reduceIte, Nat.reduceEqDiff, Nat.reduceAdd, Nat.reduceLeDiff, Nat.reduceMul, Nat.reduceBEq, QXFFaC8]
  try simp
 ·obtain ⟨k, acc, ex⟩ := a
  obtain ⟨hk, hacc⟩ := ha
  simp only at hk hacc
  (repeat (first | simp only [↓QA, QB, Nat.reduceLT, reduceIte, Nat.reduceEqDiff, Nat.reduceAdd, Nat.reduceLeDiff, Nat.reduceMul, Nat.reduceBEq, QXFFaC8, L52_0] | refine rd0 rfl ?_))
  refine iteP_intro (fun h => ?_) fun h => ?_
  ·have hk1 : k < ps.length := by simpa using h
   have hw := wrapN hk1 (by omega)
   have hp := hps _ (List.getElem_mem hk1)
   obtain ⟨p, hpe⟩ : ∃ p : Nat, ps[k] = (p : Int) := ⟨ps[k].toNat, by omega⟩
   rw [List.drop_eq_getElem_cons hk1, hpe, List.filter_cons] at hacc
   have hal : acc.length ≤ 90 := by
    have := congrArg List.length hacc
    simp only [List.length_append] at this
    omega
   have hwo := rwhole_ok v hv l hl hll hne p d (by omega) hd
   have hqe : q (p : Int) = !wholeB v l p d := by rw [← hq]; simp only [Int.toNat_natCast]
   obtain ⟨b, hb⟩ : ∃ b, wholeB v l p d = b := ⟨_, rfl⟩
   rw [hb] at hwo hqe
   rw [hqe] at hacc
   have hap := fun (b0 : ABlk) (τ : St) => append_intT (σ := b0 :: .tok 1 acc.length ex :: τ) (l := acc) (a := (p : Int)) (ex := ex) (t := 1) (by omega) rfl
   (repeat (first | simp only [↓QA, QB, Nat.reduceLT, reduceIte, Nat.reduceEqDiff, Nat.reduceAdd, Nat.reduceLeDiff, Nat.reduceMul, Nat.reduceBEq, QXFFaC8, hk1, hpe] | refine rd0 rfl ?_))
   ((first | refine callK_d (hwo) rfl dd ?_ | refine callD_d (hwo) rfl dd ?_); (repeat (first | simp only [↓QA, QB, Nat.reduceLT, reduceIte, Nat.reduceEqDiff, Nat.reduceAdd, Nat.reduceLeDiff, Nat.reduceMul, Nat.reduceBEq, QXFFaC8, hk1, hpe] | refine rd0 rfl ?_)))
   cases b
   ·simp only [Bool.not_false, if_true] at hacc
    (repeat (first | simp only [↓QA, QB, Nat.reduceLT, reduceIte, Nat.reduceEqDiff, Nat.reduceAdd, Nat.reduceLeDiff, Nat.reduceMul, Nat.reduceBEq, QXFFaC8, hk1, hpe, hap, hw] | refine rd0 rfl ?_))
    refine ⟨(k + 1, acc ++ [(p : Int)], true), ⟨by simp only; omega, by rw [← hacc]; simp⟩, by simp only; omega, ?_⟩
    try simp only [TrimX, QE, Nat.reduceLT, reduceIte, Nat.reduceEqDiff, Nat.reduceAdd, Nat.reduceLeDiff, Nat.reduceMul, Nat.reduceBEq, QXFFaC8, hw, S_mapI, List.map_append, List.map_cons, List.map_nil]
    try simp [okBlk]
   ·simp only [Bool.not_true, Bool.false_eq_true, if_false] at hacc
    (repeat (first | simp only [↓QA, QB, Nat.reduceLT, reduceIte, Nat.reduceEqDiff, Nat.reduceAdd, Nat.reduceLeDiff, Nat.reduceMul, Nat.reduceBEq, QXFFaC8, hw] | refine rd0 rfl ?_))
    refine ⟨(k + 1, acc, ex), ⟨by simp only; omega, hacc⟩, by simp only; omega, ?_⟩
    try simp only [TrimX, QE, Nat.reduceLT, reduceIte, Nat.reduceEqDiff, Nat.reduceAdd, Nat.reduceLeDiff, Nat.reduceMul, Nat.reduceBEq, QXFFaC8, hw]
    try simp [okBlk]
  ·have hk1 : k = ps.length := by simp at h; omega
   rw [hk1, List.drop_length] at hacc
   simp only [List.filter_nil, List.append_nil] at hacc
   subst hacc
   (repeat (first | simp only [↓QA, QB, Nat.reduceLT, reduceIte, Nat.reduceEqDiff, Nat.reduceAdd, Nat.reduceLeDiff, Nat.reduceMul, Nat.reduceBEq, QXFFaC8, ints] | refine rd0 rfl ?_))
   try try simp only [QS, QC, Nat.reduceLT, reduceIte, Nat.reduceEqDiff, Nat.reduceAdd, Nat.reduceLeDiff, Nat.reduceMul, Nat.reduceBEq, QXFFaC8]
theorem rdoes_ok (v : Farm) (hv : Vd v) (l : List Truth) (hl : ∀ t ∈ l, TOk v t) (hll : l.length ≤ 2187) (hne : l ≠ []) (ps : List Int) (hps : ∀ p ∈ ps, 0 ≤ p ∧ p < v.plots.length) (hpl : ps.length ≤ 90) (d : Nat) (hd : d ≤ v.rain.length) (hands : Int) :
  Pure T 51 [encFarm v, truthsAV l, ints ps, .int .i64 d, .int .i64 hands] (.bool (doesB v l ps d hands)) := by
 refine pure_fn (af := a51) rfl (by simp [a51]) dd ?_
 obtain ⟨q, hq⟩ : ∃ q : Int → Bool, (fun p => greenB v l p.toNat d) = q := ⟨_, rfl⟩
 have hre : doesB v l ps d hands = (decide (hands ≤ handsOf v ps) && ps.all q) := by rw [← hq]; rfl
 rw [hre]
 obtain ⟨c, hc⟩ : ∃ c, decide (hands ≤ handsOf v ps) = c := ⟨_, rfl⟩
 obtain ⟨R, hR⟩ : ∃ R, (c && ps.all q) = R := ⟨_, rfl⟩
 rw [hc, hR]
 (repeat (first | simp only [↓QA, QB, Nat.reduceLT, reduceIte, Nat.reduceEqDiff, Nat.reduceAdd, Nat.reduceLeDiff, Nat.reduceMul, Nat.reduceBEq, QXFFaC8, a51] | refine rd0 rfl ?_))
 ((first | refine callK_d (rhands_ok v hv ps hps (by omega)) rfl dd ?_ | refine callD_d (rhands_ok v hv ps hps (by omega)) rfl dd ?_); (repeat (first | simp only [↓QA, QB, Nat.reduceLT, reduceIte, Nat.reduceEqDiff, Nat.reduceAdd, Nat.reduceLeDiff, Nat.reduceMul, Nat.reduceBEq, QXFFaC8, hc] | refine rd0 rfl ?_)))
 refine loopE (S := Nat × Bool) (0, c) (fun a => a.1 ≤ ps.length ∧ (a.2 && (ps.drop a.1).all q) = R) (fun a => ps.length - a.1)
  (fun a => [(1, truthsAV l), (2, ints ps), (3, .int .i64 d), (5, .ptr 0 0), (11, .bool a.2), (12, .int .i64 a.1)]) (fun _ => [.cells (farmCells v)]) ⟨Nat.zero_le _, by simpa using hR⟩ (by simp [farmCells, ints]) ?_ fun a ha => ?_
 ·try simp only [TrimX, QE, Nat.reduceLT, reduceIte, Nat.reduceEqDiff, Nat.reduceAdd, Nat.reduceLeDiff, Nat.reduceMul, Nat.reduceBEq, QXFFaC8]
  try simp
 ·obtain ⟨k, b⟩ := a
  obtain ⟨hk, hy⟩ := ha
  simp only at hk hy
  (repeat (first | simp only [↓QA, QB, Nat.reduceLT, reduceIte, Nat.reduceEqDiff, Nat.reduceAdd, Nat.reduceLeDiff, Nat.reduceMul, Nat.reduceBEq, QXFFaC8, L51_0] | refine rd0 rfl ?_))
  refine iteP_intro (fun h => ?_) fun h => ?_
  ·have hk1 : k < ps.length := by simpa using h
   have hw := wrapN hk1 (by omega)
   have hp := hps _ (List.getElem_mem hk1)
   obtain ⟨p, hpe⟩ : ∃ p : Nat, ps[k] = (p : Int) := ⟨ps[k].toNat, by omega⟩
   rw [List.drop_eq_getElem_cons hk1, hpe, List.all_cons, ← Bool.and_assoc] at hy
   have hgr := rgreen_ok v hv l hl hll hne p d (by omega) hd
   have hqe : q (p : Int) = greenB v l p d := by rw [← hq]; simp only [Int.toNat_natCast]
   obtain ⟨g, hg⟩ : ∃ g, greenB v l p d = g := ⟨_, rfl⟩
   rw [hg] at hgr hqe
   rw [hqe] at hy
   cases b
   ·rw [Bool.false_and] at hy
    (repeat (first | simp only [↓QA, QB, Nat.reduceLT, reduceIte, Nat.reduceEqDiff, Nat.reduceAdd, Nat.reduceLeDiff, Nat.reduceMul, Nat.reduceBEq, QXFFaC8, hw] | refine rd0 rfl ?_))
    refine ⟨(k + 1, false), ⟨by simp only; omega, hy⟩, by simp only; omega, ?_⟩
    try simp only [TrimX, QE, Nat.reduceLT, reduceIte, Nat.reduceEqDiff, Nat.reduceAdd, Nat.reduceLeDiff, Nat.reduceMul, Nat.reduceBEq, QXFFaC8, hw]
    try simp [okBlk]
   ·rw [Bool.true_and] at hy
    (repeat (first | simp only [↓QA, QB, Nat.reduceLT, reduceIte, Nat.reduceEqDiff, Nat.reduceAdd, Nat.reduceLeDiff, Nat.reduceMul, Nat.reduceBEq, QXFFaC8, hk1, hpe] | refine rd0 rfl ?_))
    ((first | refine callK_d (hgr) rfl dd ?_ | refine callD_d (hgr) rfl dd ?_); (repeat (first | simp only [↓QA, QB, Nat.reduceLT, reduceIte, Nat.reduceEqDiff, Nat.reduceAdd, Nat.reduceLeDiff, Nat.reduceMul, Nat.reduceBEq, QXFFaC8, hk1, hpe, hw] | refine rd0 rfl ?_)))
    refine ⟨(k + 1, g), ⟨by simp only; omega, hy⟩, by simp only; omega, ?_⟩
    try simp only [TrimX, QE, Nat.reduceLT, reduceIte, Nat.reduceEqDiff, Nat.reduceAdd, Nat.reduceLeDiff, Nat.reduceMul, Nat.reduceBEq, QXFFaC8, hw]
    try simp [okBlk]
  ·have hk1 : k = ps.length := by simp at h; omega
   rw [hk1, List.drop_length] at hy
   simp only [List.all_nil, Bool.and_true] at hy
   subst hy
   (repeat (first | simp only [↓QA, QB, Nat.reduceLT, reduceIte, Nat.reduceEqDiff, Nat.reduceAdd, Nat.reduceLeDiff, Nat.reduceMul, Nat.reduceBEq, QXFFaC8] | refine rd0 rfl ?_))
end Go.Am.Room
set_option maxRecDepth 8000
namespace Go.Am.Room
def someV (v : Farm) : Bool := decide ((check v).2.2 = 0) && someB v []
theorem some2_ok (v : Farm) (hf : Fits v) : Pure T 45 [encFarm v] (.bool (someV v)) := by
 refine pure_fn (af := a45) rfl (by simp [a45]) dd ?_
 (repeat (first | simp only [↓QA, QB, Nat.reduceLT, reduceIte, Nat.reduceEqDiff, Nat.reduceAdd, Nat.reduceLeDiff, Nat.reduceMul, Nat.reduceBEq, QXFFaQ1, a45] | refine rd0 rfl ?_))
 ((first | refine callK_d (valid_ok v hf) rfl dd ?_ | refine callD_d (valid_ok v hf) rfl dd ?_); (repeat (first | simp only [↓QA, QB, Nat.reduceLT, reduceIte, Nat.reduceEqDiff, Nat.reduceAdd, Nat.reduceLeDiff, Nat.reduceMul, Nat.reduceBEq, QXFFaQ1] | refine rd0 rfl ?_)))
 cases h0 : decide ((check v).2.2 = 0)
 ·(repeat (first | simp only [↓QA, QB, Nat.reduceLT, reduceIte, Nat.reduceEqDiff, Nat.reduceAdd, Nat.reduceLeDiff, Nat.reduceMul, Nat.reduceBEq, QXFFaQ1, someV, h0, Bool.false_and] | refine rd0 rfl ?_))
 ·have hv := vd_of_check (by simpa using h0)
  have hs := rtruths_ok v hv [] (by simp)
  (repeat (first | simp only [↓QA, QB, Nat.reduceLT, reduceIte, Nat.reduceEqDiff, Nat.reduceAdd, Nat.reduceLeDiff, Nat.reduceMul, Nat.reduceBEq, QXFFaQ1] | refine rd0 rfl ?_))
  refine callK_v hs (farm_nil v) (farm_nil_ok v) ?_
  (repeat (first | simp only [↓QA, QB, Nat.reduceLT, reduceIte, Nat.reduceEqDiff, Nat.reduceAdd, Nat.reduceLeDiff, Nat.reduceMul, Nat.reduceBEq, QXFFaQ1, someV, h0, Bool.true_and, truthsAV] | refine rd0 rfl ?_))
  have e : decide ((0 : Int) < (truths v []).length) = someB v [] := by
   simp only [someB]
   cases truths v [] <;> simp
  rw [e]
end Go.Am.Room
set_option maxRecDepth 8000
namespace Go.Am.Room
theorem early_best (v : Farm) (l : List Truth) (d : Nat) (hands : Int) (hn : v.plots.length ≤ 6) : BestIs (fun c => doesB v l c d hands) (fun c => (shrinksOf v l c d).length) (allChoices v.plots.length) (earlyIn v l d hands) := by
 have h1 := stepR_is (fun c => doesB v l c d hands) (fun c => (shrinksOf v l c d).length) (allChoices v.plots.length) [] none (by rw [List.nil_append]; exact chFrom_sorted hn (v.plots.length + 1) 0 (by omega)) (fun c hc => by cases hc)
 rw [List.nil_append, ← early_step] at h1
 exact h1
theorem all_len {n : Nat} {c : List Int} (h : c ∈ allChoices n) : c.length ≤ n ∧ ∀ x ∈ c, 0 ≤ x ∧ x < n := by
 obtain ⟨i, _, hi, hc⟩ := chFrom_mem.1 h
 have := choices_spec n i c hc
 exact ⟨by omega, this.2⟩
end Go.Am.Room
namespace Go.Am
variable {T : FuncId → Option AFunc}
theorem seq_tail {a x y : ACode} {e : Env} {σ : St} {Q : Out → Prop} {K : KJ} (h : wp T (.seq a x) e σ K) (hK : ∀ j e' σ', K j e' σ' → j = none) (h2 : ∀ e' σ', wp T x e' σ' K → Run T (.code y e' σ') Q) : Run T (.code (.seq a y) e σ) Q := by
 refine .seq (run_wp (show wp T a e σ _ from by simpa only [wp] using h) fun o ho => ho) (fun o ho hj => ?_) fun o ho hj => ?_
 ·rw [hj] at ho
  simp only [thenK] at ho
  exact h2 _ _ ho
 ·cases hq : o.j with
  | none => exact absurd hq hj
  | some q => rw [hq] at ho; simp only [thenK] at ho; exact absurd (hK _ _ _ ho) (by simp)
theorem end_none {R : Env → St → Prop} : ∀ j e' σ', (fun j e' σ' => j = none ∧ R e' σ' : KJ) j e' σ' → j = none := fun _ _ _ h => h.1
theorem seq2_run {a b d : ACode} {e : Env} {σ : St} {Q : Out → Prop} (R : Env → St → Prop) (h : wp T (.seq a b) e σ fun j e' σ' => j = none ∧ R e' σ') (h2 : ∀ e' σ', R e' σ' → Run T (.code d e' σ') Q) : Run T (.code (.seq a (.seq b d)) e σ) Q :=
 seq_tail h end_none fun _ _ k => seq_run R k h2
theorem seq3_run {a b c d : ACode} {e : Env} {σ : St} {Q : Out → Prop} (R : Env → St → Prop) (h : wp T (.seq a (.seq b c)) e σ fun j e' σ' => j = none ∧ R e' σ') (h2 : ∀ e' σ', R e' σ' → Run T (.code d e' σ') Q) : Run T (.code (.seq a (.seq b (.seq c d))) e σ) Q :=
 seq_tail h end_none fun _ _ k => seq2_run R k h2
theorem seq4_run {a b c c1 d : ACode} {e : Env} {σ : St} {Q : Out → Prop} (R : Env → St → Prop) (h : wp T (.seq a (.seq b (.seq c c1))) e σ fun j e' σ' => j = none ∧ R e' σ') (h2 : ∀ e' σ', R e' σ' → Run T (.code d e' σ') Q) : Run T (.code (.seq a (.seq b (.seq c (.seq c1 d)))) e σ) Q :=
 seq_tail h end_none fun _ _ k => seq3_run R k h2
theorem seq5_run {a b c c1 c2 d : ACode} {e : Env} {σ : St} {Q : Out → Prop} (R : Env → St → Prop) (h : wp T (.seq a (.seq b (.seq c (.seq c1 c2)))) e σ fun j e' σ' => j = none ∧ R e' σ') (h2 : ∀ e' σ', R e' σ' → Run T (.code d e' σ') Q) : Run T (.code (.seq a (.seq b (.seq c (.seq c1 (.seq c2 d))))) e σ) Q :=
 seq_tail h end_none fun _ _ k => seq4_run R k h2
end Go.Am
namespace Go.Am
variable {T : FuncId → Option AFunc}
end Go.Am
set_option maxRecDepth 8000
namespace Go.Am.Room
theorem bitN_eq : ∀ (k n : Nat), bitN n k = decide (n / 2 ^ k % 2 = 1)
 | 0, n => by
  have : n % 2 = 0 ∨ n % 2 = 1 := by omega
  rcases this with h | h <;> simp [bitN, h]
 | k + 1, n => by
  rw [bitN, bitN_eq k (n / 2), Nat.div_div_eq_div_mul, show 2 * 2 ^ k = 2 ^ (k + 1) by rw [Nat.pow_succ, Nat.mul_comm]]
theorem lst_in2 : ∀ n : Fin 6, ∀ s : Fin 256, lst n s ∈ choices n (lst n s).length := by decide +kernel
theorem choices_rise : ∀ n m : Fin 6, ∀ c ∈ choices n m, rising n (-1) c = true := by decide +kernel
theorem someB_iff {v : Farm} {but : List Int} : someB v but = true ↔ truths v but ≠ [] := by
 rw [someB]
 cases truths v but <;> simp
theorem some_iff {v : Farm} : someV v = true ↔ (check v).2.2 = 0 ∧ truths v [] ≠ [] := by
 rw [someV, Bool.and_eq_true, decide_eq_true_eq, someB_iff]
theorem known0 {v : Farm} (h : truths v [] ≠ []) : errKnown v 0 = 0 := by
 simp [errKnown, h]
theorem within0 {n m : Int} (h : 0 ≤ n ∧ n ≤ m) : within n m 0 = 0 := by
 rw [within, if_pos rfl, if_pos (inR_iff.2 h)]
theorem early_tr {v : Farm} (hs : someV v = true) {d : Nat} {h : Int} (hd : d ≤ v.rain.length) (hh : 0 ≤ h ∧ h ≤ 400) : earlyOf v (d : Int) h = earlyR v (truths v []) d (earlyIn v (truths v []) d h) := by
 obtain ⟨hc, hne⟩ := some_iff.1 hs
 have : earlyErr v (d : Int) h = 0 := by rw [earlyErr, hc, within0 (by simp only [endOf]; omega), within0 hh, known0 hne]
 rw [earlyOf, if_pos this, Int.toNat_natCast]
theorem early_bad {v : Farm} (hs : someV v = false) : earlyErr v 0 0 ≠ 0 := by
 intro h
 obtain ⟨h1, h2⟩ := errKnown_ok h
 have := (within_ok (within_ok h1).1).1
 rw [some_iff.2 ⟨this, h2⟩] at hs
 cases hs
theorem earlyOf_bad {v : Farm} (hs : someV v = false) : earlyOf v 0 0 = ([], [], earlyErr v 0 0) := by
 rw [earlyOf, if_neg (early_bad hs)]
theorem full_mem {l : List Truth} {p d : Nat} {n : Int} : n ∈ fullIn l p d ↔ ∃ t ∈ l, ∃ h ∈ flAt t p, n = ptsT t d h := by
 simp only [fullIn, List.mem_flatMap, List.mem_map]
 constructor
 ·rintro ⟨t, ht, h, hh, rfl⟩; exact ⟨t, ht, h, hh, rfl⟩
 ·rintro ⟨t, ht, h, hh, rfl⟩; exact ⟨t, ht, h, hh, rfl⟩
theorem pts_up {v : Farm} (hv : Vd v) {t : Truth} (ht : TOk v t) (d : Nat) (h : Int) : ptsT t d h ≤ ptsT t (d + 1) h ∧ ptsT t (d + 1) h ≤ ptsT t d h + 3 ∧ (h.toNat ≤ d → ptsT t d h + 1 ≤ ptsT t (d + 1) h) := by
 have hr := rain_bd hv ht.rain d
 have hb := pts_bd (rain_bd hv ht.rain) h.toNat d
 simp only [ptsT, ptsL, Int.toNat_natCast]
 by_cases hh : h.toNat ≤ d
 ·rw [pts_step _ hh]
  omega
 ·rw [pts_lt _ (show d + 1 ≤ h.toNat by omega), pts_lt _ (show d ≤ h.toNat by omega)]
  omega
theorem grows {v : Farm} (hv : Vd v) {ts : List Truth} (hts : ∀ t ∈ ts, TOk v t) (hne : ts ≠ []) {p d : Nat} (hp : p < v.plots.length) :
  (fullS ts p d).lo ≤ (fullS ts p (d + 1)).lo ∧ (fullS ts p d).hi ≤ (fullS ts p (d + 1)).hi ∧ (fullS ts p (d + 1)).lo ≤ (fullS ts p d).lo + 3 ∧ (fullS ts p (d + 1)).hi ≤ (fullS ts p d).hi + 3 ∧
   ((∀ t ∈ ts, ∀ h ∈ flAt t p, h.toNat ≤ d) → (fullS ts p d).lo < (fullS ts p (d + 1)).lo ∧ (fullS ts p d).hi < (fullS ts p (d + 1)).hi) := by
 obtain ⟨a1, a2, a3⟩ := spanL_spec (fullIn_ne hts hne hp d)
 obtain ⟨b1, b2, b3⟩ := spanL_spec (fullIn_ne hts hne hp (d + 1))
 have up : ∀ m ∈ fullIn ts p d, ∃ n ∈ fullIn ts p (d + 1), m ≤ n ∧ n ≤ m + 3 ∧ ((∀ t ∈ ts, ∀ h ∈ flAt t p, h.toNat ≤ d) → m + 1 ≤ n) := fun m hm => by
  obtain ⟨t, ht, h, hh, rfl⟩ := full_mem.1 hm
  have := pts_up hv (hts t ht) d h
  exact ⟨_, full_mem.2 ⟨t, ht, h, hh, rfl⟩, this.1, this.2.1, fun q => this.2.2 (q t ht h hh)⟩
 have dn : ∀ n ∈ fullIn ts p (d + 1), ∃ m ∈ fullIn ts p d, m ≤ n ∧ n ≤ m + 3 ∧ ((∀ t ∈ ts, ∀ h ∈ flAt t p, h.toNat ≤ d) → m + 1 ≤ n) := fun n hn => by
  obtain ⟨t, ht, h, hh, rfl⟩ := full_mem.1 hn
  have := pts_up hv (hts t ht) d h
  exact ⟨_, full_mem.2 ⟨t, ht, h, hh, rfl⟩, this.1, this.2.1, fun q => this.2.2 (q t ht h hh)⟩
 obtain ⟨n1, c1, c2, c3, c4⟩ := up _ a1
 obtain ⟨n2, d1, d2, d3, d4⟩ := up _ a2
 obtain ⟨m1, e1, e2, e3, e4⟩ := dn _ b1
 obtain ⟨m2, f1, f2, f3, f4⟩ := dn _ b2
 have g1 := b3 _ c1
 have g2 := b3 _ d1
 have g3 := a3 _ e1
 have g4 := a3 _ f1
 simp only [fullS]
 refine ⟨by omega, by omega, by omega, by omega, fun q => ?_⟩
 have := e4 q
 have := d4 q
 omega
end Go.Am.Room
set_option maxRecDepth 8000
namespace Go.Am.Room
theorem nat_rem {a : Int} (ha : 0 ≤ a) {n : Nat} (hn : 0 < n) : ∃ j : Nat, a.tmod (n : Int) = (j : Int) ∧ j < n := by
 obtain ⟨k, rfl⟩ : ∃ k : Nat, a = k := ⟨a.toNat, by omega⟩
 refine ⟨k % n, ?_, Nat.mod_lt _ hn⟩
 rw [Int.tmod_eq_emod_of_nonneg (by omega)]
 norm_cast
end Go.Am.Room
set_option maxRecDepth 8000
namespace Go.Am.Room
def QXFFaQ6 := And.intro @encFarm_eq (And.intro @farmCells_eq (And.intro @encPlot_eq (And.intro @encLook_eq (And.intro @encSpan_eq (And.intro @S_mapPlot (And.intro @S_mapLook (And.intro @S_mapSpan (And.intro @T_sapp (And.intro @List.length_append.{0} (And.intro @Int.toNat_natCast (And.intro @S_mapT (@truthsAV_eq))))))))))))
theorem early_law {v : Farm} (hn : v.plots.length ≤ 6) (ts : List Truth) (d : Nat) (h : Int) {O : List Int} (hO : O ∈ allChoices v.plots.length) :
  (earlyIn v ts d h = none ∧ doesB v ts O d h = false) ∨ ∃ b, earlyIn v ts d h = some b ∧ b ∈ allChoices v.plots.length ∧ doesB v ts b d h = true ∧
   (doesB v ts O d h = true → (shrinksOf v ts b d).length < (shrinksOf v ts O d).length ∨ ((shrinksOf v ts b d).length = (shrinksOf v ts O d).length ∧ fewer O b = false)) := by
 have hb := early_best v ts d h hn
 cases hE : earlyIn v ts d h with
 | none => rw [hE] at hb; exact .inl ⟨rfl, hb O hO⟩
 | some b =>
  rw [hE] at hb
  refine .inr ⟨b, rfl, hb.1, hb.2.1, fun hq => ?_⟩
  rcases hb.2.2 O hO hq with h1 | ⟨h1, h2⟩
  ·exact .inl h1
  ·refine .inr ⟨h1, ?_⟩
   rcases h2 with h2 | h2
   ·rw [h2]; exact fewer_irr _
   ·cases hf : fewer O b
    ·rfl
    ·have := fewer_trans h2 hf
     rw [fewer_irr] at this
     cases this
theorem all_rise {n : Nat} (hn : n < 6) {c : List Int} (h : c ∈ allChoices n) : rising n (-1) c = true := by
 obtain ⟨i, _, hi, hc⟩ := chFrom_mem.1 h
 exact choices_rise ⟨n, by omega⟩ ⟨i, by omega⟩ c hc
theorem shrinks_len (v : Farm) (ts : List Truth) (c : List Int) (d : Nat) : (shrinksOf v ts c d).length ≤ c.length := List.length_filter_le _ _
set_option maxHeartbeats 2000000 in
theorem farmfewest_ok (s : Farm) (a c b : Nat) (hf : Fits s) (ha : a < 256) (hc' : c < 65536) (hb : b < 256) : Pure T 9 [encFarm s, .agg [.int .u8 a, .int .u16 c], .int .u8 b] (.bool true) := by
 cases hs : someV s
 ·refine pure_fn (af := a9) rfl (by simp [a9]) dd ?_
  have e1 := earlyOf_bad hs
  have g : (earlyErr s 0 0 == 0) = false := by simpa using early_bad hs
  (repeat (first | simp only [↓QA, QB, Nat.reduceLT, reduceIte, Nat.reduceEqDiff, Nat.reduceAdd, Nat.reduceLeDiff, Nat.reduceMul, Nat.reduceBEq, QXFFaQ6, a9] | refine rd0 rfl ?_))
  ((first | refine callK_d (some2_ok s hf) rfl dd ?_ | refine callD_d (some2_ok s hf) rfl dd ?_); (repeat (first | simp only [↓QA, QB, Nat.reduceLT, reduceIte, Nat.reduceEqDiff, Nat.reduceAdd, Nat.reduceLeDiff, Nat.reduceMul, Nat.reduceBEq, QXFFaQ6, hs] | refine rd0 rfl ?_)))
  ((first | refine callK_d (pearly_ok s 0 0 hf) rfl dd ?_ | refine callD_d (pearly_ok s 0 0 hf) rfl dd ?_); (repeat (first | simp only [↓QA, QB, Nat.reduceLT, reduceIte, Nat.reduceEqDiff, Nat.reduceAdd, Nat.reduceLeDiff, Nat.reduceMul, Nat.reduceBEq, QXFFaQ6, e1, encLLE, g] | refine rd0 rfl ?_)))
  refine callK_d awake_ok rfl datas_nil ?_
  (repeat (first | simp only [↓QA, QB, Nat.reduceLT, reduceIte, Nat.reduceEqDiff, Nat.reduceAdd, Nat.reduceLeDiff, Nat.reduceMul, Nat.reduceBEq, QXFFaQ6] | refine rd0 rfl ?_))
 ·obtain ⟨hc, hne⟩ := some_iff.1 hs
  have hv := vd_of_check hc
  have hnr := hv.nra
  have hnp := hv.npl
  obtain ⟨N, hN⟩ : ∃ N, s.plots.length = N := ⟨_, rfl⟩
  rw [hN] at hnp
  have hwa : IntKind.i64.wrap (a : Int) = a := wrap64 ⟨by omega, by omega⟩
  have hwb : IntKind.i64.wrap (b : Int) = b := wrap64 ⟨by omega, by omega⟩
  have hwc : IntKind.i64.wrap (c : Int) = c := wrap64 ⟨by omega, by omega⟩
  have hwr : IntKind.i64.wrap ((s.rain.length : Int) + 1) = ((s.rain.length + 1 : Nat) : Int) := wrapN (show s.rain.length < s.rain.length + 1 by omega) (by omega)
  have hrz : ((s.rain.length + 1 : Nat) : Int) ≠ 0 := by omega
  have hhz : ((401 : Nat) : Int) ≠ 0 := by omega
  obtain ⟨d, hdj, hdl⟩ := nat_rem (a := (a : Int)) (by omega) (show 0 < s.rain.length + 1 by omega)
  obtain ⟨w, hwj, hwl⟩ := nat_rem (a := (c : Int)) (by omega) (show 0 < 401 by omega)
  have hvr := V_rem .i64 (c : Int) 401 (by omega)
  have hwj' : (c : Int).tmod 401 = (w : Int) := hwj
  obtain ⟨ts, htse⟩ : ∃ ts, truths s [] = ts := ⟨_, rfl⟩
  have hts : ∀ t ∈ ts, TOk s t := fun t ht => tok_of hv (htse ▸ ht)
  have htl : ts.length ≤ 2187 := by rw [← htse]; exact truths_len hv []
  have e1 := early_tr (h := (w : Int)) hs (show d ≤ s.rain.length by omega) (by omega)
  rw [htse] at hne e1
  have htr := rtruths_ok s hv [] (by simp)
  rw [htse] at htr
  obtain ⟨O, hO⟩ : ∃ O, lst N b = O := ⟨_, rfl⟩
  have hOl : O.length ≤ N := by rw [← hO]; exact lst_len N b
  have hOin : O ∈ choices N O.length := by rw [← hO]; exact lst_in2 ⟨N, by omega⟩ ⟨b, hb⟩
  have hOa : O ∈ allChoices s.plots.length := by rw [hN]; exact chFrom_mem.2 ⟨O.length, by omega, by omega, hOin⟩
  have hOb := (all_len hOa).2
  have hO' : [] ++ (numbers ((0 : Nat) : Int) (N - 0)).filter (fun i => decide (b / 2 ^ i.toNat % 2 = 1)) = O := hO
  have okz : ((0 : Int) == 0) = true := rfl
  obtain ⟨E, hE⟩ : ∃ E, earlyR s ts d (earlyIn s ts d w) = E := ⟨_, rfl⟩
  rw [hE] at e1
  refine pure_run (af := a9) rfl (by simp [a9]) dd ?_
  simp only [a9]
  refine seq5_run (fun e σ => Env.get e 2 = .int .u8 b ∧ Env.get e 3 = .ptr 0 0 ∧ Env.get e 10 = .int .i64 d ∧ Env.get e 11 = .int .i64 w ∧ Env.get e 12 = ints E.1 ∧ Env.get e 13 = ints E.2.1 ∧ Env.get e 14 = .int .i64 E.2.2 ∧ Env.get e 15 = truthsAV ts ∧ σ = [.cells (farmCells s), .cells [.int .u8 a, .int .u16 c]]) ?_ fun e σ ⟨q2, q3, q10, q11, q12, q13, q14, q15, hσ⟩ => ?_
  ·(repeat (first | simp only [↓QA, QB, Nat.reduceLT, reduceIte, Nat.reduceEqDiff, Nat.reduceAdd, Nat.reduceLeDiff, Nat.reduceMul, Nat.reduceBEq, QXFFaQ6] | refine rd0 rfl ?_))
   ((first | refine callK_d (some2_ok s hf) rfl dd ?_ | refine callD_d (some2_ok s hf) rfl dd ?_); (repeat (first | simp only [↓QA, QB, Nat.reduceLT, reduceIte, Nat.reduceEqDiff, Nat.reduceAdd, Nat.reduceLeDiff, Nat.reduceMul, Nat.reduceBEq, QXFFaQ6, hs] | refine rd0 rfl ?_)))
   (repeat (first | simp only [↓QA, QB, Nat.reduceLT, reduceIte, Nat.reduceEqDiff, Nat.reduceAdd, Nat.reduceLeDiff, Nat.reduceMul, Nat.reduceBEq, QXFFaQ6, hwa, hwc, hwr, V_rem _ _ _ hrz, hvr, hdj, hwj'] | refine rd0 rfl ?_))
   ((first | refine callK_d (pearly_ok s d w hf) rfl dd ?_ | refine callD_d (pearly_ok s d w hf) rfl dd ?_); (repeat (first | simp only [↓QA, QB, Nat.reduceLT, reduceIte, Nat.reduceEqDiff, Nat.reduceAdd, Nat.reduceLeDiff, Nat.reduceMul, Nat.reduceBEq, QXFFaQ6, encLLE, e1] | refine rd0 rfl ?_)))
   refine callK_v htr (farm_nil s) (farm_nil_ok s) ?_
   (repeat (first | simp only [↓QA, QB, Nat.reduceLT, reduceIte, Nat.reduceEqDiff, Nat.reduceAdd, Nat.reduceLeDiff, Nat.reduceMul, Nat.reduceBEq, QXFFaQ6] | refine rd0 rfl ?_))
  subst hσ
  refine chain2 (fun e σ => ∃ ex, Env.get e 3 = .ptr 0 0 ∧ Env.get e 10 = .int .i64 d ∧ Env.get e 11 = .int .i64 w ∧ Env.get e 12 = ints E.1 ∧ Env.get e 13 = ints E.2.1 ∧ Env.get e 14 = .int .i64 E.2.2 ∧ Env.get e 15 = truthsAV ts ∧ Env.get e 16 = .lit (O.map (.int .i64)) false (some 2) ∧ σ = [.cells (farmCells s), .cells [.int .u8 a, .int .u16 c], .tok 1 O.length ex])
   (fun e σ => Env.get e 3 = .ptr 0 0 ∧ Env.get e 10 = .int .i64 d ∧ Env.get e 11 = .int .i64 w ∧ Env.get e 12 = ints E.1 ∧ Env.get e 13 = ints E.2.1 ∧ Env.get e 14 = .int .i64 E.2.2 ∧ Env.get e 15 = truthsAV ts ∧ Env.get e 16 = ints O ∧ σ = [.cells (farmCells s), .cells [.int .u8 a, .int .u16 c]]) ?_ ?_ ?_
  ·(repeat (first | simp only [↓QA, QB, Nat.reduceLT, reduceIte, Nat.reduceEqDiff, Nat.reduceAdd, Nat.reduceLeDiff, Nat.reduceMul, Nat.reduceBEq, QXFFaQ6, q2, q3, q10, q11, q12, q13, q14, q15] | refine rd0 rfl ?_))
   refine ghostK 16 1 [] rfl ?_
   refine loopE (S := Nat × List Int × Bool) (0, [], false) (fun s => s.1 ≤ N ∧ s.2.1.length ≤ s.1 ∧ s.2.1 ++ (numbers (s.1 : Int) (N - s.1)).filter (fun i => decide (b / 2 ^ i.toNat % 2 = 1)) = O) (fun s => N - s.1)
    (fun x => [(2, .int .u8 b), (3, .ptr 0 0), (10, .int .i64 d), (11, .int .i64 w), (12, ints E.1), (13, ints E.2.1), (14, .int .i64 E.2.2), (15, truthsAV ts), (16, .lit (x.2.1.map (.int .i64)) false (some 2)), (17, .int .i64 x.1)]) (fun x => [.cells (farmCells s), .cells [.int .u8 a, .int .u16 c], .tok 1 x.2.1.length x.2.2]) ⟨by simp, by simp, hO'⟩ (by simp [farmCells, ints]) ?_ fun x hs => ?_
   ·try simp only [TrimX, QE, Nat.reduceLT, reduceIte, Nat.reduceEqDiff, Nat.reduceAdd, Nat.reduceLeDiff, Nat.reduceMul, Nat.reduceBEq, QXFFaQ6, q2, q3, q10, q11, q12, q13, q14, q15]
    try simp
   ·obtain ⟨k, acc, ex⟩ := x
    obtain ⟨hk, hal, hacc⟩ := hs
    simp only at hk hal hacc
    (repeat (first | simp only [↓QA, QB, Nat.reduceLT, reduceIte, Nat.reduceEqDiff, Nat.reduceAdd, Nat.reduceLeDiff, Nat.reduceMul, Nat.reduceBEq, QXFFaQ6, L9_0, hN] | refine rd0 rfl ?_))
    refine iteP_intro (fun h => ?_) fun h => ?_
    ·have hk1 : k < N := by simpa using h
     have hw := wrapN hk1 (by omega)
     rw [show N - k = (N - (k + 1)) + 1 by omega] at hacc
     simp only [numbers, List.filter_cons, Int.toNat_natCast] at hacc
     rw [show ((k : Int) + 1) = ((k + 1 : Nat) : Int) by omega] at hacc
     (repeat (first | simp only [↓QA, QB, Nat.reduceLT, reduceIte, Nat.reduceEqDiff, Nat.reduceAdd, Nat.reduceLeDiff, Nat.reduceMul, Nat.reduceBEq, QXFFaQ6, hwb] | refine rd0 rfl ?_))
     ((first | refine callK_d (bit_ok b k (by omega) (by omega)) rfl dd ?_ | refine callD_d (bit_ok b k (by omega) (by omega)) rfl dd ?_); (repeat (first | simp only [↓QA, QB, Nat.reduceLT, reduceIte, Nat.reduceEqDiff, Nat.reduceAdd, Nat.reduceLeDiff, Nat.reduceMul, Nat.reduceBEq, QXFFaQ6, bitN_eq] | refine rd0 rfl ?_)))
     cases hbt : decide (b / 2 ^ k % 2 = 1)
     ·simp only [hbt, Bool.false_eq_true, if_false] at hacc
      (repeat (first | simp only [↓QA, QB, Nat.reduceLT, reduceIte, Nat.reduceEqDiff, Nat.reduceAdd, Nat.reduceLeDiff, Nat.reduceMul, Nat.reduceBEq, QXFFaQ6, hw] | refine rd0 rfl ?_))
      refine ⟨(k + 1, acc, ex), ⟨by simp only; omega, by simp only; omega, by simpa using hacc⟩, by simp only; omega, ?_⟩
      try simp only [TrimX, QE, Nat.reduceLT, reduceIte, Nat.reduceEqDiff, Nat.reduceAdd, Nat.reduceLeDiff, Nat.reduceMul, Nat.reduceBEq, QXFFaQ6, hw, S_mapI]
      try simp [okBlk]
     ·simp only [hbt, if_true] at hacc
      have hap := fun (b0 b1 : ABlk) (τ : St) => append_intT (σ := b0 :: b1 :: .tok 1 acc.length ex :: τ) (l := acc) (a := (k : Int)) (ex := ex) (t := 2) (by omega) rfl
      (repeat (first | simp only [↓QA, QB, Nat.reduceLT, reduceIte, Nat.reduceEqDiff, Nat.reduceAdd, Nat.reduceLeDiff, Nat.reduceMul, Nat.reduceBEq, QXFFaQ6, hw, hap] | refine rd0 rfl ?_))
      refine ⟨(k + 1, acc ++ [(k : Int)], true), ⟨by simp only; omega, by simp only [List.length_append, List.length_cons, List.length_nil]; omega, by rw [← hacc]; simp⟩, by simp only; omega, ?_⟩
      try simp only [TrimX, QE, Nat.reduceLT, reduceIte, Nat.reduceEqDiff, Nat.reduceAdd, Nat.reduceLeDiff, Nat.reduceMul, Nat.reduceBEq, QXFFaQ6, hw, S_mapI, List.map_append, List.map_cons, List.map_nil]
      try simp [okBlk]
    ·have hk1 : k = N := by simp at h; omega
     rw [hk1] at hacc
     simp only [Nat.sub_self, numbers, List.filter_nil, List.append_nil] at hacc
     subst hacc
     (repeat (first | simp only [↓QA, QB, Nat.reduceLT, reduceIte, Nat.reduceEqDiff, Nat.reduceAdd, Nat.reduceLeDiff, Nat.reduceMul, Nat.reduceBEq, QXFFaQ6] | refine rd0 rfl ?_))
     refine ⟨ex, ?_⟩
     try simp only [TrimX, QE, Nat.reduceLT, reduceIte, Nat.reduceEqDiff, Nat.reduceAdd, Nat.reduceLeDiff, Nat.reduceMul, Nat.reduceBEq, QXFFaQ6]
  ·rintro e σ ⟨ex, q3, q10, q11, q12, q13, q14, q15, q16, rfl⟩
   refine ⟨[(3, .ptr 0 0), (10, .int .i64 d), (11, .int .i64 w), (12, ints E.1), (13, ints E.2.1), (14, .int .i64 E.2.2), (15, truthsAV ts), (16, ints O)], [.cells (farmCells s), .cells [.int .u8 a, .int .u16 c]], _, _, ⟨by simp, by simp, ⟨.inl ⟨q3.symm, by rw [q3]; simp [okV]⟩, .inl ⟨q10.symm, by rw [q10]; trivial⟩, .inl ⟨q11.symm, by rw [q11]; trivial⟩, .inl ⟨q12.symm, by rw [q12]; exact okV_up _ (data_ints _).1⟩, .inl ⟨q13.symm, by rw [q13]; exact okV_up _ (data_ints _).1⟩, .inl ⟨q14.symm, by rw [q14]; trivial⟩, .inl ⟨q15.symm, by rw [q15]; exact okV_up _ (data_list data_truth ts).1⟩, .inr ⟨20, ints O, ?_, .inl rfl⟩, trivial⟩, fun i hi => ?_⟩, .inl ⟨rfl, rfl⟩, rfl, rfl, rfl, rfl, rfl, rfl, rfl, rfl, rfl⟩
   ·rw [q16]
    simp only [snap, snaps_ok0 _ _ 20 _ (datas_map (data_int .i64) O).1]
    simp [Option.filter, ints]
   ·match i, hi with
    | 0, _ => exact ⟨_, rfl, .inl ⟨by simp, .inl rfl, rfl⟩⟩
    | 1, _ => exact ⟨_, rfl, .inl ⟨by simp, .inl rfl, rfl⟩⟩
  ·rintro e σ ⟨q3, q10, q11, q12, q13, q14, q15, q16, rfl⟩
   refine code_run ?_
   rcases early_law (by omega) ts d w hOa with ⟨h1, h2⟩ | ⟨L, h1, h2, h3, h4⟩
   ·rw [h1] at hE
    simp only [earlyR] at hE
    subst hE
    (repeat (first | simp only [↓QA, QB, Nat.reduceLT, reduceIte, Nat.reduceEqDiff, Nat.reduceAdd, Nat.reduceLeDiff, Nat.reduceMul, Nat.reduceBEq, QXFFaQ6, q3, q10, q11, q12, q13, q14, q15, q16] | refine rd0 rfl ?_))
    ((first | refine callK_d (rdoes_ok s hv ts hts htl hne O hOb (by omega) d (by omega) w) rfl dd ?_ | refine callD_d (rdoes_ok s hv ts hts htl hne O hOb (by omega) d (by omega) w) rfl dd ?_); (repeat (first | simp only [↓QA, QB, Nat.reduceLT, reduceIte, Nat.reduceEqDiff, Nat.reduceAdd, Nat.reduceLeDiff, Nat.reduceMul, Nat.reduceBEq, QXFFaQ6, h2, show ((9 : Int) == 0) = false from rfl, show ((9 : Int) == 9) = true from rfl, q3, q10, q11, q12, q13, q14, q15, q16] | refine rd0 rfl ?_)))
    refine callK_d awake_ok rfl datas_nil ?_
    (repeat (first | simp only [↓QA, QB, Nat.reduceLT, reduceIte, Nat.reduceEqDiff, Nat.reduceAdd, Nat.reduceLeDiff, Nat.reduceMul, Nat.reduceBEq, QXFFaQ6] | refine rd0 rfl ?_))
   ·rw [h1] at hE
    simp only [earlyR] at hE
    subst hE
    simp only at q12 q13 q14
    have hLb := all_len h2
    have hri : rising N (-1) L = true := all_rise (by omega) (hN ▸ h2)
    have hsl := shrinks_len s ts L d
    obtain ⟨D, hD⟩ : ∃ D, doesB s ts O d w = D := ⟨_, rfl⟩
    rw [hD] at h4
    have hd := rdoes_ok s hv ts hts htl hne O hOb (by omega) d (by omega) w
    rw [hD] at hd
    obtain ⟨S1, hS1⟩ : ∃ S1, shrinksOf s ts L d = S1 := ⟨_, rfl⟩
    obtain ⟨S2, hS2⟩ : ∃ S2, shrinksOf s ts O d = S2 := ⟨_, rfl⟩
    have hsh1 := rshrinks_ok s hv ts hts htl hne L hLb.2 (by omega) d (by omega)
    have hsh2 := rshrinks_ok s hv ts hts htl hne O hOb (by omega) d (by omega)
    rw [hS1] at hsh1 h4 hsl q13
    rw [hS2] at hsh2 h4
    have hr := rising_ok L N (by omega)
    rw [hri] at hr
    (repeat (first | simp only [↓QA, QB, Nat.reduceLT, reduceIte, Nat.reduceEqDiff, Nat.reduceAdd, Nat.reduceLeDiff, Nat.reduceMul, Nat.reduceBEq, QXFFaQ6, q3, q10, q11, q12, q13, q14, q15, q16] | refine rd0 rfl ?_))
    ((first | refine callK_d (hd) rfl dd ?_ | refine callD_d (hd) rfl dd ?_); (repeat (first | simp only [↓QA, QB, Nat.reduceLT, reduceIte, Nat.reduceEqDiff, Nat.reduceAdd, Nat.reduceLeDiff, Nat.reduceMul, Nat.reduceBEq, QXFFaQ6, okz, q3, q10, q11, q12, q13, q14, q15, q16, hN] | refine rd0 rfl ?_)))
    ((first | refine callK_d (hr) rfl dd ?_ | refine callD_d (hr) rfl dd ?_); (repeat (first | simp only [↓QA, QB, Nat.reduceLT, reduceIte, Nat.reduceEqDiff, Nat.reduceAdd, Nat.reduceLeDiff, Nat.reduceMul, Nat.reduceBEq, QXFFaQ6, q3, q10, q11, q12, q13, q14, q15, q16] | refine rd0 rfl ?_)))
    ((first | refine callK_d (rdoes_ok s hv ts hts htl hne L hLb.2 (by omega) d (by omega) w) rfl dd ?_ | refine callD_d (rdoes_ok s hv ts hts htl hne L hLb.2 (by omega) d (by omega) w) rfl dd ?_); (repeat (first | simp only [↓QA, QB, Nat.reduceLT, reduceIte, Nat.reduceEqDiff, Nat.reduceAdd, Nat.reduceLeDiff, Nat.reduceMul, Nat.reduceBEq, QXFFaQ6, h3, q3, q10, q11, q12, q13, q14, q15, q16] | refine rd0 rfl ?_)))
    ((first | refine callK_d (hsh1) rfl dd ?_ | refine callD_d (hsh1) rfl dd ?_); (repeat (first | simp only [↓QA, QB, Nat.reduceLT, reduceIte, Nat.reduceEqDiff, Nat.reduceAdd, Nat.reduceLeDiff, Nat.reduceMul, Nat.reduceBEq, QXFFaQ6, q3, q10, q11, q12, q13, q14, q15, q16] | refine rd0 rfl ?_)))
    ((first | refine callK_d (ints_ok S1 S1 (by omega) (by omega)) rfl dd ?_ | refine callD_d (ints_ok S1 S1 (by omega) (by omega)) rfl dd ?_); (repeat (first | simp only [↓QA, QB, Nat.reduceLT, reduceIte, Nat.reduceEqDiff, Nat.reduceAdd, Nat.reduceLeDiff, Nat.reduceMul, Nat.reduceBEq, QXFFaQ6, eq_self, q3, q10, q11, q12, q13, q14, q15, q16] | refine rd0 rfl ?_)))
    ((first | refine callK_d (hsh2) rfl dd ?_ | refine callD_d (hsh2) rfl dd ?_); (repeat (first | simp only [↓QA, QB, Nat.reduceLT, reduceIte, Nat.reduceEqDiff, Nat.reduceAdd, Nat.reduceLeDiff, Nat.reduceMul, Nat.reduceBEq, QXFFaQ6, q3, q10, q11, q12, q13, q14, q15, q16] | refine rd0 rfl ?_)))
    cases D
    ·(repeat (first | simp only [↓QA, QB, Nat.reduceLT, reduceIte, Nat.reduceEqDiff, Nat.reduceAdd, Nat.reduceLeDiff, Nat.reduceMul, Nat.reduceBEq, QXFFaQ6, q3, q10, q11, q12, q13, q14, q15, q16] | refine rd0 rfl ?_))
     refine callK_d awake_ok rfl datas_nil ?_
     (repeat (first | simp only [↓QA, QB, Nat.reduceLT, reduceIte, Nat.reduceEqDiff, Nat.reduceAdd, Nat.reduceLeDiff, Nat.reduceMul, Nat.reduceBEq, QXFFaQ6] | refine rd0 rfl ?_))
    ·rcases h4 rfl with h5 | ⟨h5, h6⟩
     ·have g1 : decide ((S1.length : Int) < (S2.length : Int)) = true := by simp; omega
      (repeat (first | simp only [↓QA, QB, Nat.reduceLT, reduceIte, Nat.reduceEqDiff, Nat.reduceAdd, Nat.reduceLeDiff, Nat.reduceMul, Nat.reduceBEq, QXFFaQ6, g1, q3, q10, q11, q12, q13, q14, q15, q16] | refine rd0 rfl ?_))
      refine callK_d awake_ok rfl datas_nil ?_
      (repeat (first | simp only [↓QA, QB, Nat.reduceLT, reduceIte, Nat.reduceEqDiff, Nat.reduceAdd, Nat.reduceLeDiff, Nat.reduceMul, Nat.reduceBEq, QXFFaQ6] | refine rd0 rfl ?_))
     ·have g1 : decide ((S1.length : Int) < (S2.length : Int)) = false := by simp; omega
      have g2 : ((S2.length : Int) == (S1.length : Int)) = true := by simp; omega
      (repeat (first | simp only [↓QA, QB, Nat.reduceLT, reduceIte, Nat.reduceEqDiff, Nat.reduceAdd, Nat.reduceLeDiff, Nat.reduceMul, Nat.reduceBEq, QXFFaQ6, g1, g2, q3, q10, q11, q12, q13, q14, q15, q16] | refine rd0 rfl ?_))
      ((first | refine callK_d (fewer_ok O L (by omega) (by omega)) rfl dd ?_ | refine callD_d (fewer_ok O L (by omega) (by omega)) rfl dd ?_); (repeat (first | simp only [↓QA, QB, Nat.reduceLT, reduceIte, Nat.reduceEqDiff, Nat.reduceAdd, Nat.reduceLeDiff, Nat.reduceMul, Nat.reduceBEq, QXFFaQ6, h6] | refine rd0 rfl ?_)))
      refine callK_d awake_ok rfl datas_nil ?_
      (repeat (first | simp only [↓QA, QB, Nat.reduceLT, reduceIte, Nat.reduceEqDiff, Nat.reduceAdd, Nat.reduceLeDiff, Nat.reduceMul, Nat.reduceBEq, QXFFaQ6] | refine rd0 rfl ?_))
end Go.Am.Room
