/- A part of the proofs: an abstract machine, or what functions come to on it. -/
import Derived.Test.YtefifnlhfmfnlaaAllQ4
set_option linter.unusedVariables false
set_option linter.unusedSimpArgs false
set_option linter.defProp false
namespace Go.Am.Room
def updF (f : Nat → Int) (i : Nat) (v : Int) : Nat → Int := fun j => if j = i then v else f j
def arrA (n : Nat) (f : Nat → Int) : List AV := (List.range n).map fun i => .int .i64 (f i)
theorem arrA_len (n : Nat) (f : Nat → Int) : (arrA n f).length = n := by simp [arrA]
theorem arrA_get (n : Nat) (f : Nat → Int) {i : Nat} (h : i < n) : (arrA n f)[i]? = some (.int .i64 (f i)) := by simp [arrA, h]
theorem arrA_congr {n : Nat} {f g : Nat → Int} (h : ∀ i, i < n → f i = g i) : arrA n f = arrA n g := by
 refine List.map_congr_left fun i hi => ?_
 rw [h i (by simpa using hi)]
theorem arrA_set (n : Nat) (f : Nat → Int) (v : Int) {i : Nat} (h : i < n) : (arrA n f).take i ++ [AV.int .i64 v] ++ (arrA n f).drop (i + 1) = arrA n (updF f i v) := by
 have h1 : (arrA n f).take i ++ [AV.int .i64 v] ++ (arrA n f).drop (i + 1) = (arrA n f).set i (.int .i64 v) := by
  rw [List.set_eq_take_append_cons_drop, if_pos (by rw [arrA_len]; exact h)]; simp
 rw [h1]
 refine List.ext_getElem? fun j => ?_
 by_cases hj : j < n
 ·rw [arrA_get n _ hj, List.getElem?_set]
  by_cases e : i = j
  ·subst e; simp [arrA_len, hj, updF]
  ·rw [if_neg e, arrA_get n _ hj]; simp [updF, show ¬ j = i from fun q => e q.symm]
 ·rw [List.getElem?_eq_none (by rw [List.length_set, arrA_len]; omega), List.getElem?_eq_none (by rw [arrA_len]; omega)]
theorem datas_arrA (n : Nat) (f : Nat → Int) : Datas (arrA n f) := datas_map (enc := fun i : Nat => AV.int .i64 (f i)) (fun i => data_int _ _) (List.range n)
instance (n : Nat) (f : Nat → Int) : Dats (arrA n f) := ⟨datas_arrA n f⟩
theorem arrA_ok (n : Nat) (f : Nat → Int) (m : Nat) : okVs m (arrA n f) := ok_datas (datas_arrA n f) m
theorem S_arrA (n : Nat) (f : Nat → Int) (σ : St) (m d : Nat) : snapMs σ m d (arrA n f) = some (arrA n f) := S_datas (datas_arrA n f) σ m d
theorem arrA_cell (n : Nat) (f : Nat → Int) : allCell (arrA n f) = true := C_mapc _ _ fun i => by simp [AV.cell]
theorem arrA_take (n : Nat) (f : Nat → Int) : (arrA n f).take n = arrA n f := List.take_of_length_le (by rw [arrA_len]; exact Nat.le_refl n)
theorem arrA_drop (n : Nat) (f : Nat → Int) : (arrA n f).drop n = [] := List.drop_eq_nil_of_le (by rw [arrA_len]; exact Nat.le_refl n)
theorem arrA_zero (n : Nat) : arrA n (fun _ => 0) = List.replicate n (.int .i64 0) := by simp [arrA, List.map_const']
theorem arrA_eqC (f g : Nat → Int) : ∀ l : List Nat, eqCells (List.replicate l.length .i) (l.map fun i => .int .i64 (f i)) (l.map fun i => .int .i64 (g i)) = some (l.all fun i => f i == g i)
 | [] => rfl
 | x :: l => by
  simp only [List.length_cons, List.replicate_succ, List.map_cons, V_eqC1, V_eqI, arrA_eqC f g l, V_oand, List.all_cons]
theorem arrA_eq (n : Nat) (f g : Nat → Int) : eqCells (List.replicate n .i) (arrA n f) (arrA n g) = some ((List.range n).all fun i => f i == g i) := by
 have := arrA_eqC f g (List.range n)
 rwa [List.length_range] at this
theorem V_ixA (n sz : Nat) (sh : Option Nat) (cs : List AV) (k : IntKind) (j : Int) : vIndex n sz sh (.agg cs) (.int k j) = if 0 ≤ j ∧ j < n then shaped sh cs (j.toNat * sz) else none := by simp only [vIndex, intOf]
section
variable {K : Type} [DecidableEq K]
def memoStep (M : List K) (w : K) : List K := if w ∈ M then M else M ++ [w]
structure KeyIs (sh : EqTy) (enc val : K → AV) : Prop where
 eq : ∀ w x, eqSh sh (enc w) (enc x) = some (decide (w = x))
 dk : ∀ w, Data (enc w)
 dv : ∀ w, Data (val w)
variable {sh : EqTy} {enc val : K → AV}
def keyEs (enc val : K → AV) (M : List K) : List (AV × AV) := M.map fun w => (enc w, val w)
theorem keyFind (h : KeyIs sh enc val) (w : K) : ∀ M : List K, findKey sh (enc w) (keyEs enc val M) = some (if w ∈ M then some (val w) else none)
 | [] => by simp [keyEs, findKey]
 | x :: M => by
  have ih := keyFind h w M
  simp only [keyEs, List.map_cons, findKey, h.eq] at ih ⊢
  by_cases e : w = x
  ·subst e; simp
  ·simp only [e, decide_false, ih, List.mem_cons, false_or]
theorem keySet (h : KeyIs sh enc val) (w : K) : ∀ M : List K, w ∉ M → setKey sh (enc w) (val w) (keyEs enc val M) = some (keyEs enc val (M ++ [w]))
 | [], _ => by simp [keyEs, setKey]
 | x :: M, hn => by
  have ih := keySet h w M (fun q => hn (List.mem_cons_of_mem _ q))
  have hx : w ≠ x := fun e => hn (by rw [e]; simp)
  simp only [keyEs, List.map_cons, setKey, h.eq, List.cons_append] at ih ⊢
  simp only [hx, decide_false, ih, Option.map_some]
theorem key_ok (h : KeyIs sh enc val) (M : List K) (k : Nat) : okBlk k (.map (keyEs enc val M)) := by
 simp only [okBlk, keyEs]
 intro q hq
 obtain ⟨w, hw, rfl⟩ := List.mem_map.1 hq
 exact ⟨ok_data (h.dk w) k, ok_data (h.dv w) k⟩
variable {S : List K → St} {obj : List AV} {p m N : Nat}
theorem keyLook (hk : KeyIs sh enc val) (h : MemAt S obj (keyEs enc val) p m N) (M : List K) (τ : St) (w : K) : lookAV sh (S M ++ τ) (.map m) (enc w) = some (if w ∈ M then some (val w) else none) := by
 simp only [lookAV, h.map1, keyFind hk, hk.eq]
 simp
theorem keyPut (hk : KeyIs sh enc val) (h : MemAt S obj (keyEs enc val) p m N) (M : List K) (τ : St) (w : K) (hw : w ∉ M) : vMapset sh (S M ++ τ) (.map m) (enc w) (val w) = some (S (M ++ [w]) ++ τ) := by
 simp only [vMapset, hk.eq, h.map1, keySet hk w M hw, Option.map_some, h.mset1]
 simp
end
end Go.Am.Room
namespace Go.Am.Room
def natA (f : Nat → Nat) : List AV := arrA 26 fun i => ((f i : Nat) : Int)
theorem z26 : natA (fun _ => 0) = [.int .i64 0, .int .i64 0, .int .i64 0, .int .i64 0, .int .i64 0, .int .i64 0, .int .i64 0, .int .i64 0, .int .i64 0, .int .i64 0, .int .i64 0, .int .i64 0, .int .i64 0, .int .i64 0, .int .i64 0, .int .i64 0, .int .i64 0, .int .i64 0, .int .i64 0, .int .i64 0, .int .i64 0, .int .i64 0, .int .i64 0, .int .i64 0, .int .i64 0, .int .i64 0] := by simp [natA, arrA_zero]
def updN (f : Nat → Nat) (i v : Nat) : Nat → Nat := fun j => if j = i then v else f j
theorem natA_len (f : Nat → Nat) : (natA f).length = 26 := arrA_len _ _
theorem natA_get (f : Nat → Nat) {i : Nat} (h : i < 26) : (natA f)[i]? = some (.int .i64 ((f i : Nat) : Int)) := arrA_get 26 _ h
theorem natA_congr {f g : Nat → Nat} (h : ∀ i, i < 26 → f i = g i) : natA f = natA g := arrA_congr fun i hi => by rw [h i hi]
theorem natA_set (f : Nat → Nat) (v : Nat) {i : Nat} (h : i < 26) : (natA f).take i ++ [AV.int .i64 (v : Int)] ++ (natA f).drop (i + 1) = natA (updN f i v) := by
 rw [natA, arrA_set 26 _ _ h]
 refine arrA_congr fun j _ => ?_
 simp only [updF, updN]; split <;> rfl
theorem natA_set25 (f : Nat → Nat) (v : Nat) : (natA f).take 25 ++ [AV.int .i64 (v : Int)] = natA (updN f 25 v) := by
 have := natA_set f v (i := 25) (by omega)
 rwa [show (natA f).drop (25 + 1) = [] from arrA_drop 26 _, List.append_nil] at this
theorem natA_cell (f : Nat → Nat) : allCell (natA f) = true := arrA_cell _ _
theorem natA_take (f : Nat → Nat) : (natA f).take 26 = natA f := arrA_take 26 _
theorem natA_drop (f : Nat → Nat) : (natA f).drop 26 = [] := arrA_drop 26 _
theorem natA_ok (f : Nat → Nat) (m : Nat) : okVs m (natA f) := arrA_ok _ _ _
theorem S_natA (f : Nat → Nat) (σ : St) (m d : Nat) : snapMs σ m d (natA f) = some (natA f) := S_arrA _ _ _ _ _
instance (f : Nat → Nat) : Dats (natA f) := ⟨datas_arrA _ _⟩
theorem natA_zero (f : Nat → Nat) : eqCells [.i, .i, .i, .i, .i, .i, .i, .i, .i, .i, .i, .i, .i, .i, .i, .i, .i, .i, .i, .i, .i, .i, .i, .i, .i, .i] (natA f) (natA fun _ => 0) = some (zeroF f) := by
 have := arrA_eq 26 (fun i => ((f i : Nat) : Int)) (fun i => ((0 : Nat) : Int))
 have e : (List.range 26).all (fun i => ((f i : Nat) : Int) == ((0 : Nat) : Int)) = zeroF f := by
  unfold zeroF
  congr 1
  funext i
  exact nat_eq0 _
 rw [e] at this
 exact this
abbrev Ask := Nat × Nat
def encAsk (w : Ask) : AV := .agg [.int .i64 (w.1 : Int), .int .i64 (w.2 : Int)]
theorem encAsk_eq (w : Ask) : encAsk w = .agg [.int .i64 (w.1 : Int), .int .i64 (w.2 : Int)] := by simp only [encAsk]
def turnsAV (v : Voy) (bl : List Int) (w : Ask) : AV := .agg (natA (tF v bl w.1 w.2))
theorem turnsAV_eq (v : Voy) (bl : List Int) (w : Ask) : turnsAV v bl w = .agg (natA (tF v bl w.1 w.2)) := by simp only [turnsAV]
theorem data_turns (v : Voy) (bl : List Int) (w : Ask) : Data (turnsAV v bl w) := data_agg (datas_arrA _ _)
theorem ask_key (v : Voy) (bl : List Int) : KeyIs (.agg [.i, .i]) encAsk (turnsAV v bl) where
 eq := fun ⟨a, b⟩ ⟨c, d⟩ => by
  simp only [eqSh, encAsk, V_eqC1, V_eqC0, V_eqI, V_oand]
  congr 1
  rw [Bool.eq_iff_iff]
  simp [Prod.mk.injEq]
  omega
 dk := fun w => data_agg (datas_cons (data_int _ _) (datas_cons (data_int _ _) datas_nil))
 dv := data_turns v bl
abbrev tEs (v : Voy) (bl : List Int) : List Ask → List (AV × AV) := keyEs encAsk (turnsAV v bl)
def rawTo (v : Voy) (op k : Nat) (x : Int) (i : Nat) : Nat := rawN v op k i ||| (if (op.testBit k && inR ((i : Int) - doorHour v k) v.delay.lo (x - 1) && decide ((i : Int) ≤ v.hours)) = true then 2 ^ k else 0)
theorem rawTo_lo (v : Voy) (op k : Nat) : rawTo v op k v.delay.lo = rawN v op k := by
 funext i
 have : inR ((i : Int) - doorHour v k) v.delay.lo (v.delay.lo - 1) = false := by simp [inR]; omega
 simp [rawTo, this]
theorem rawTo_hi {v : Voy} {op k : Nat} {x : Int} (h1 : x ≤ v.delay.hi + 1) (h : v.delay.hi < x ∨ v.hours < doorHour v k + x) : rawTo v op k x = rawN v op (k + 1) := by
 funext i
 simp only [rawTo, rawN, opensAt]
 congr 2
 by_cases h2 : (i : Int) ≤ v.hours
 ·have : inR ((i : Int) - doorHour v k) v.delay.lo (x - 1) = inR ((i : Int) - doorHour v k) v.delay.lo v.delay.hi := by
   rw [Bool.eq_iff_iff, inR_iff, inR_iff]; omega
  rw [this]
 ·simp [h2]
theorem and_pow (a k : Nat) : a &&& 2 ^ k = if a.testBit k = true then 2 ^ k else 0 := by
 refine Nat.eq_of_testBit_eq fun i => ?_
 rw [Nat.testBit_and, Nat.testBit_two_pow]
 by_cases e : k = i
 ·subst e
  cases h : a.testBit k
  ·simp
  ·simp [Nat.testBit_two_pow_self]
 ·split
  ·rw [Nat.testBit_two_pow_of_ne e]; simp [e]
  ·simp [e]
theorem rawTo_step {v : Voy} {op k : Nat} {x : Int} {j : Nat} (hj : (j : Int) = doorHour v k + x) (h1 : v.delay.lo ≤ x) (h2 : (j : Int) ≤ v.hours) : updN (rawTo v op k x) j (rawTo v op k x j ||| (op &&& 2 ^ k)) = rawTo v op k (x + 1) := by
 funext i
 by_cases e : i = j
 ·subst e
  have a : inR ((i : Int) - doorHour v k) v.delay.lo (x - 1) = false := by simp [inR]; omega
  have b : inR ((i : Int) - doorHour v k) v.delay.lo (x + 1 - 1) = true := by rw [inR_iff]; omega
  have c : decide ((i : Int) ≤ v.hours) = true := by simpa using h2
  simp only [updN, rawTo, if_true, a, b, c, and_pow, Bool.and_false, Bool.and_true, Bool.false_and, Bool.false_eq_true, if_false, Nat.or_zero]
 ·have a : inR ((i : Int) - doorHour v k) v.delay.lo (x + 1 - 1) = inR ((i : Int) - doorHour v k) v.delay.lo (x - 1) := by
   rw [Bool.eq_iff_iff, inR_iff, inR_iff]; omega
  simp only [updN, rawTo, e, if_false, a]
theorem rawTo_lt {v : Voy} {op k : Nat} {x : Int} {i : Nat} (hk : k < 4) : rawTo v op k x i < 32 := by
 refine Nat.or_lt_two_pow (n := 5) (rawN_lt v op i k (by omega)) ?_
 split
 ·have : 2 ^ k ≤ 2 ^ 3 := Nat.pow_le_pow_right (by omega) (by omega)
  omega
 ·omega
theorem raw_zero (v : Voy) (op : Nat) : natA (updN (fun _ => 0) 25 16) = natA (rawN v op 0) := natA_congr fun i _ => by simp [updN, rawN]
def okTo (v : Voy) (n : Nat) (bl : List Int) (i k : Nat) : Bool := (List.range k).all fun j => match v.looks[j]? with | some x => lookOk (n : Int) bl ⟨hAt i, 0⟩ j x | none => true
theorem okTo_all (v : Voy) (n : Nat) (bl : List Int) (i : Nat) : okTo v n bl i v.looks.length = okL v bl n i := rfl
theorem okTo_succ {v : Voy} {k : Nat} (hk : k < v.looks.length) (n : Nat) (bl : List Int) (i : Nat) : okTo v n bl i (k + 1) = (okTo v n bl i k && lookOk (n : Int) bl ⟨hAt i, 0⟩ k v.looks[k]) := by
 simp [okTo, List.range_succ, List.all_append, hk]
theorem okTo_le {v : Voy} {n i : Nat} {bl : List Int} {k j : Nat} (hkj : k ≤ j) (hf : okTo v n bl i k = false) : okTo v n bl i j = false := by
 simp only [okTo, List.all_eq_false, List.mem_range] at hf ⊢
 obtain ⟨a, ha, h1⟩ := hf
 exact ⟨a, by omega, h1⟩
theorem so_at {x : Look} {i : Nat} (hx : x.hour ≤ 24) : soAt x (hAt i) = (x.turned == decide ((i : Int) ≤ x.hour)) := by
 unfold soAt hAt
 by_cases h : i = 25
 ·subst h
  have : decide (((25 : Nat) : Int) ≤ x.hour) = false := by simp; omega
  rw [this]
  simp
 ·rw [if_neg h]
  have : decide ((i : Int) ≠ -1) = true := decide_eq_true (by omega)
  rw [this, Bool.true_and]
def doneTo (v : Voy) (bl : List Int) (n op h : Nat) (i : Nat) : Nat := if i < h then tF v bl n op i else rawN v op v.doors.length i
theorem done_0 (v : Voy) (bl : List Int) (n op : Nat) : doneTo v bl n op 0 = rawN v op v.doors.length := by funext i; simp [doneTo]
theorem done_all (v : Voy) (bl : List Int) (n op : Nat) : natA (doneTo v bl n op 26) = natA (tF v bl n op) := natA_congr fun i hi => by simp [doneTo, hi]
theorem done_keep {v : Voy} {bl : List Int} {n op h : Nat} (hk : tF v bl n op h = rawN v op v.doors.length h) : doneTo v bl n op h = doneTo v bl n op (h + 1) := by
 funext i
 simp only [doneTo]
 by_cases h1 : i = h
 ·subst h1; simp [hk]
 ·by_cases h2 : i < h
  ·simp [h2, show i < h + 1 by omega]
  ·simp [h2, show ¬ i < h + 1 by omega]
theorem done_out {v : Voy} {bl : List Int} {n op h : Nat} (hk : tF v bl n op h = 0) : updN (doneTo v bl n op h) h 0 = doneTo v bl n op (h + 1) := by
 funext i
 simp only [doneTo, updN]
 by_cases h1 : i = h
 ·subst h1; simp [hk]
 ·by_cases h2 : i < h
  ·simp [h1, h2, show i < h + 1 by omega]
  ·simp [h1, h2, show ¬ i < h + 1 by omega]
theorem done_at (v : Voy) (bl : List Int) (n op h : Nat) : doneTo v bl n op h h = rawN v op v.doors.length h := by simp [doneTo]
end Go.Am.Room
set_option maxRecDepth 4000
namespace Go.Am.Room
def QXDDrP4 := And.intro @encDoor_eq (And.intro @encLook_eq (And.intro @S_mapDoor (And.intro @S_mapLook (And.intro @List.length_append.{0} (And.intro @db_0 (And.intro @db_1 (And.intro @db_2 (And.intro @db_3 (And.intro @db_4 (And.intro @db_5 (And.intro @db_6 (And.intro @db_7 (And.intro @db_8 (And.intro @T_sapp (And.intro @Nat.add_lt_add_iff_left (And.intro @Nat.lt_add_right_iff_pos (And.intro @Nat.mul_one (And.intro @Int.toNat_natCast (And.intro @natA_len (And.intro @natA_take (And.intro @natA_drop (And.intro @natA_cell (@S_natA)))))))))))))))))))))))
theorem turns_does {S : List Ask → St} {v : Voy} {b p m N : Nat} {bl : List Int} (hR : MemAt S (db v b m) (tEs v bl) p m N) (hv : Vd v) (hb : ButIs b bl) (M : List Ask) (n op : Nat) (hn : n < 100) (hop : op < 16) :
  Does T (.func 97 [] []) [.ptr p 0, encAsk (n, op)] (S M) (turnsAV v bl (n, op)) (S (memoStep M (n, op))) := by
 have hdr := hv.ndr
 have hhr := hv.hours
 have hdl := hv.delay
 have hnl := hv.nlk
 have hpl := hR.pl
 have hl1 := fun τ => keyLook (ask_key v bl) hR M τ (n, op)
 refine does_memo hR (af := a97) rfl (by simp [a97]) ?_
 simp only [encAsk_eq, turnsAV_eq] at hl1 ⊢
 (repeat (first | simp only [↓QA, QB, Nat.reduceLT, reduceIte, Nat.reduceEqDiff, Nat.reduceAdd, Nat.reduceLeDiff, Nat.reduceMul, Nat.reduceBEq, QXDDrP4, hR.len, hR.base, hR.base0, hR.bset, hR.bset0, hR.at1, hR.at0, a97] | refine rd0 rfl ?_))
 refine rK_dreg1 [.cells (natA fun _ => 0)] rfl ?_
 by_cases hm : (n, op) ∈ M
 ·have hst : memoStep M (n, op) = M := by simp [memoStep, hm]
  rw [hst]
  simp only [hm, if_true] at hl1
  (repeat (first | simp only [↓QA, QB, Nat.reduceLT, reduceIte, Nat.reduceEqDiff, Nat.reduceAdd, Nat.reduceLeDiff, Nat.reduceMul, Nat.reduceBEq, QXDDrP4, hR.len, hR.base, hR.base0, hR.bset, hR.bset0, hR.at1, hR.at0, hl1, V_lookS, V_lookN, ← z26] | refine rd0 rfl ?_))
  refine ⟨_, _, rfl, rfl, ?_⟩
  try simp only [QS, QC, Nat.reduceLT, reduceIte, Nat.reduceEqDiff, Nat.reduceAdd, Nat.reduceLeDiff, Nat.reduceMul, Nat.reduceBEq, QXDDrP4, hR.len, hR.base, hR.base0, hR.bset, hR.bset0, hR.at1, hR.at0, S_natA]
 ·have hst : memoStep M (n, op) = M ++ [(n, op)] := by simp [memoStep, hm]
  have hput := fun τ => keyPut (ask_key v bl) hR M τ (n, op) hm
  simp only [encAsk_eq, turnsAV_eq] at hput
  rw [hst]
  simp only [hm, if_false] at hl1
  have h25 : (natA fun _ => 0).take 25 ++ [AV.int .i64 16] = natA (rawN v op 0) := by rw [← raw_zero v op]; exact natA_set25 (fun _ => 0) 16
  have i25 : (0 : Int) ≤ 25 ∧ (25 : Int) < ((26 : Nat) : Int) := ⟨by omega, by omega⟩
  have t25 : Int.toNat 25 = 25 := rfl
  (repeat (first | simp only [↓QA, QB, Nat.reduceLT, reduceIte, Nat.reduceEqDiff, Nat.reduceAdd, Nat.reduceLeDiff, Nat.reduceMul, Nat.reduceBEq, QXDDrP4, hR.len, hR.base, hR.base0, hR.bset, hR.bset0, hR.at1, hR.at0, hl1, V_lookS, V_lookN, ← z26, i25, t25, h25] | refine rd0 rfl ?_))
  refine loopE (S := Nat) 0 (fun k => k ≤ v.doors.length) (fun k => v.doors.length - k)
   (fun k => [(0, .ptr p 0), (3, .ptr N 0), (4, .ptr (N + 1) 0), (7, .ptr (N + 3) 0), (32, .lit (v.doors.map encDoor) false none), (33, .int .i64 v.doors.length), (34, .int .i64 k)])
   (fun k => S M ++ [.cells [.int .i64 n, .int .i64 op], .cells (natA fun _ => 0), .cells (natA fun _ => 0), .cells (natA (rawN v op k))]) (Nat.zero_le _) rfl ?_ fun k hk => ?_
  ·try simp only [TrimX, QE, Nat.reduceLT, reduceIte, Nat.reduceEqDiff, Nat.reduceAdd, Nat.reduceLeDiff, Nat.reduceMul, Nat.reduceBEq, QXDDrP4, hR.len, hR.base, hR.base0, hR.bset, hR.bset0, hR.at1, hR.at0]
   try simp
  ·(repeat (first | simp only [↓QA, QB, Nat.reduceLT, reduceIte, Nat.reduceEqDiff, Nat.reduceAdd, Nat.reduceLeDiff, Nat.reduceMul, Nat.reduceBEq, QXDDrP4, hR.len, hR.base, hR.base0, hR.bset, hR.bset0, hR.at1, hR.at0, L97_0] | refine rd0 rfl ?_))
   refine iteP_intro (fun hd => ?_) fun hd => ?_
   ·have hk1 : k < v.doors.length := by simpa using hd
    have hwk := wrapN hk1 (by omega)
    have hdo := hv.dr _ (List.getElem_mem hk1)
    obtain ⟨x, hx⟩ : ∃ x, v.doors[k] = x := ⟨_, rfl⟩
    rw [hx] at hdo
    have hdh : doorHour v k = x.hour := by simp [doorHour, hk1, hx]
    obtain ⟨X, hX⟩ : ∃ X, (v.delay.hi + 1 - v.delay.lo).toNat = X := ⟨_, rfl⟩
    have hsh := V_shl1 k (by omega)
    have hp2 : 2 ^ k ≤ 2 ^ 3 := Nat.pow_le_pow_right (by omega) (by omega)
    have hand := V_and op (2 ^ k) (by omega) (by omega)
    have hal : op &&& 2 ^ k ≤ op := Nat.and_le_left
    (repeat (first | simp only [↓QA, QB, Nat.reduceLT, reduceIte, Nat.reduceEqDiff, Nat.reduceAdd, Nat.reduceLeDiff, Nat.reduceMul, Nat.reduceBEq, QXDDrP4, hR.len, hR.base, hR.base0, hR.bset, hR.bset0, hR.at1, hR.at0, hk1, hx] | refine rd0 rfl ?_))
    refine loopE (S := Nat) 0 (fun j => j ≤ X) (fun j => X - j)
     (fun j => [(0, .ptr p 0), (3, .ptr N 0), (4, .ptr (N + 1) 0), (7, .ptr (N + 3) 0), (9, .int .i64 k), (10, .ptr (N + 4) 0), (11, .int .i64 (v.delay.lo + (j : Int))), (32, .lit (v.doors.map encDoor) false none), (33, .int .i64 v.doors.length), (34, .int .i64 k)])
     (fun j => S M ++ [.cells [.int .i64 n, .int .i64 op], .cells (natA fun _ => 0), .cells (natA fun _ => 0), .cells (natA (rawTo v op k (v.delay.lo + (j : Int)))), .cells [.int .i64 x.hour, .bool x.sure]]) (Nat.zero_le _) (by simp [rawTo_lo]) ?_ fun j hj => ?_
    ·try simp only [TrimX, QE, Nat.reduceLT, reduceIte, Nat.reduceEqDiff, Nat.reduceAdd, Nat.reduceLeDiff, Nat.reduceMul, Nat.reduceBEq, QXDDrP4, hR.len, hR.base, hR.base0, hR.bset, hR.bset0, hR.at1, hR.at0]
     try simp
    ·obtain ⟨y, hy⟩ : ∃ y, v.delay.lo + (j : Int) = y := ⟨_, rfl⟩
     have hy1 : v.delay.lo + ((j + 1 : Nat) : Int) = y + 1 := by omega
     simp only [hy]
     obtain ⟨q, hq⟩ : ∃ q : Nat, x.hour + y = (q : Int) := ⟨(x.hour + y).toNat, by omega⟩
     have hw1 : IntKind.i64.wrap (x.hour + y) = (q : Int) := by rw [hq]; exact wrap64 ⟨by omega, by omega⟩
     have hw2 : IntKind.i64.wrap (y + 1) = y + 1 := wrap64 ⟨by omega, by omega⟩
     (repeat (first | simp only [↓QA, QB, Nat.reduceLT, reduceIte, Nat.reduceEqDiff, Nat.reduceAdd, Nat.reduceLeDiff, Nat.reduceMul, Nat.reduceBEq, QXDDrP4, hR.len, hR.base, hR.base0, hR.bset, hR.bset0, hR.at1, hR.at0, L97_2] | refine rd0 rfl ?_))
     cases h1 : decide (y ≤ v.delay.hi)
     ·have h1' : ¬ y ≤ v.delay.hi := by simpa using h1
      (repeat (first | simp only [↓QA, QB, Nat.reduceLT, reduceIte, Nat.reduceEqDiff, Nat.reduceAdd, Nat.reduceLeDiff, Nat.reduceMul, Nat.reduceBEq, QXDDrP4, hR.len, hR.base, hR.base0, hR.bset, hR.bset0, hR.at1, hR.at0, h1] | refine rd0 rfl ?_))
      rw [rawTo_hi (v := v) (by omega) (.inl (by omega))]
      refine ⟨k + 1, by omega, by omega, ?_⟩
      try simp only [TrimX, QE, Nat.reduceLT, reduceIte, Nat.reduceEqDiff, Nat.reduceAdd, Nat.reduceLeDiff, Nat.reduceMul, Nat.reduceBEq, QXDDrP4, hR.len, hR.base, hR.base0, hR.bset, hR.bset0, hR.at1, hR.at0, hwk]
      try simp [okBlk, okVs, okV, natA_ok]
      try omega
     ·have h1' : y ≤ v.delay.hi := by simpa using h1
      cases h2 : decide ((q : Int) ≤ v.hours)
      ·have h2' : ¬ (q : Int) ≤ v.hours := by simpa using h2
       (repeat (first | simp only [↓QA, QB, Nat.reduceLT, reduceIte, Nat.reduceEqDiff, Nat.reduceAdd, Nat.reduceLeDiff, Nat.reduceMul, Nat.reduceBEq, QXDDrP4, hR.len, hR.base, hR.base0, hR.bset, hR.bset0, hR.at1, hR.at0, h1, hw1, h2] | refine rd0 rfl ?_))
       rw [rawTo_hi (v := v) (by omega) (.inr (by omega))]
       refine ⟨k + 1, by omega, by omega, ?_⟩
       try simp only [TrimX, QE, Nat.reduceLT, reduceIte, Nat.reduceEqDiff, Nat.reduceAdd, Nat.reduceLeDiff, Nat.reduceMul, Nat.reduceBEq, QXDDrP4, hR.len, hR.base, hR.base0, hR.bset, hR.bset0, hR.at1, hR.at0, hwk]
       try simp [okBlk, okVs, okV, natA_ok]
       try omega
      ·have h2' : (q : Int) ≤ v.hours := by simpa using h2
       have iq : (0 : Int) ≤ (q : Int) ∧ (q : Int) < ((26 : Nat) : Int) := ⟨by omega, by omega⟩
       have c25 : q ≤ 25 := by omega
       have hrl := rawTo_lt (v := v) (op := op) (k := k) (x := y) (i := q) (by omega)
       have hg := natA_get (rawTo v op k y) (i := q) (by omega)
       have hor := V_or (rawTo v op k y q) (op &&& 2 ^ k) (by omega) (by omega)
       have hs := natA_set (rawTo v op k y) (rawTo v op k y q ||| (op &&& 2 ^ k)) (i := q) (by omega)
       rw [rawTo_step (v := v) (by omega) (by omega) h2'] at hs
       (repeat (first | simp only [↓QA, QB, Nat.reduceLT, reduceIte, Nat.reduceEqDiff, Nat.reduceAdd, Nat.reduceLeDiff, Nat.reduceMul, Nat.reduceBEq, QXDDrP4, hR.len, hR.base, hR.base0, hR.bset, hR.bset0, hR.at1, hR.at0, h1, hw1, h2, iq, c25, hg, hsh, hand, hor, hs] | refine rd0 rfl ?_))
       refine ⟨j + 1, by omega, by omega, ?_⟩
       try simp only [TrimX, QE, Nat.reduceLT, reduceIte, Nat.reduceEqDiff, Nat.reduceAdd, Nat.reduceLeDiff, Nat.reduceMul, Nat.reduceBEq, QXDDrP4, hR.len, hR.base, hR.base0, hR.bset, hR.bset0, hR.at1, hR.at0, hw2, hy1]
       try simp [okBlk, okVs, okV, natA_ok]
       try omega
   ·have hk1 : k = v.doors.length := by simp at hd; omega
    rw [hk1, ← done_0 v bl n op]
    (repeat (first | simp only [↓QA, QB, Nat.reduceLT, reduceIte, Nat.reduceEqDiff, Nat.reduceAdd, Nat.reduceLeDiff, Nat.reduceMul, Nat.reduceBEq, QXDDrP4, hR.len, hR.base, hR.base0, hR.bset, hR.bset0, hR.at1, hR.at0] | refine rd0 rfl ?_))
    refine loopE (S := Nat) 0 (fun h => h ≤ 26) (fun h => 26 - h)
     (fun h => [(0, .ptr p 0), (3, .ptr N 0), (4, .ptr (N + 1) 0), (7, .ptr (N + 3) 0), (81, .int .i64 h)])
     (fun h => S M ++ [.cells [.int .i64 n, .int .i64 op], .cells (natA fun _ => 0), .cells (natA fun _ => 0), .cells (natA (doneTo v bl n op h))]) (Nat.zero_le _) rfl ?_ fun h hh => ?_
    ·try simp only [TrimX, QE, Nat.reduceLT, reduceIte, Nat.reduceEqDiff, Nat.reduceAdd, Nat.reduceLeDiff, Nat.reduceMul, Nat.reduceBEq, QXDDrP4, hR.len, hR.base, hR.base0, hR.bset, hR.bset0, hR.at1, hR.at0]
     try simp
    ·(repeat (first | simp only [↓QA, QB, Nat.reduceLT, reduceIte, Nat.reduceEqDiff, Nat.reduceAdd, Nat.reduceLeDiff, Nat.reduceMul, Nat.reduceBEq, QXDDrP4, hR.len, hR.base, hR.base0, hR.bset, hR.bset0, hR.at1, hR.at0, L97_4] | refine rd0 rfl ?_))
     refine iteP_intro (fun hd2 => ?_) fun hd2 => ?_
     ·have hh1 : h < 26 := by simp at hd2; omega
      have hwh := wrapN hh1 (by omega)
      have ih : (0 : Int) ≤ (h : Int) ∧ (h : Int) < ((26 : Nat) : Int) := ⟨by omega, by omega⟩
      have c25 : h ≤ 25 := by omega
      have hg := natA_get (doneTo v bl n op h) hh1
      rw [done_at] at hg
      have htF : tF v bl n op h = if okL v bl n h = true then rawN v op v.doors.length h else 0 := rfl
      obtain ⟨R, hRw⟩ : ∃ R, rawN v op v.doors.length h = R := ⟨_, rfl⟩
      rw [hRw] at hg htF
      cases h0 : ((R : Int) == 0)
      ·(repeat (first | simp only [↓QA, QB, Nat.reduceLT, reduceIte, Nat.reduceEqDiff, Nat.reduceAdd, Nat.reduceLeDiff, Nat.reduceMul, Nat.reduceBEq, QXDDrP4, hR.len, hR.base, hR.base0, hR.bset, hR.bset0, hR.at1, hR.at0, ih, hg, h0] | refine rd0 rfl ?_))
       refine loopE (S := Nat) 0 (fun i => i ≤ v.looks.length ∧ okTo v n bl h i = true) (fun i => v.looks.length - i)
        (fun i => [(0, .ptr p 0), (3, .ptr N 0), (4, .ptr (N + 1) 0), (7, .ptr (N + 3) 0), (12, .int .i64 h), (81, .int .i64 h), (92, .lit (v.looks.map encLook) false none), (93, .int .i64 v.looks.length), (94, .int .i64 i)])
        (fun i => S M ++ [.cells [.int .i64 n, .int .i64 op], .cells (natA fun _ => 0), .cells (natA fun _ => 0), .cells (natA (doneTo v bl n op h))]) ⟨Nat.zero_le _, rfl⟩ rfl ?_ fun i hi => ?_
       ·try simp only [TrimX, QE, Nat.reduceLT, reduceIte, Nat.reduceEqDiff, Nat.reduceAdd, Nat.reduceLeDiff, Nat.reduceMul, Nat.reduceBEq, QXDDrP4, hR.len, hR.base, hR.base0, hR.bset, hR.bset0, hR.at1, hR.at0]
        try simp
       ·obtain ⟨hi, hok⟩ := hi
        (repeat (first | simp only [↓QA, QB, Nat.reduceLT, reduceIte, Nat.reduceEqDiff, Nat.reduceAdd, Nat.reduceLeDiff, Nat.reduceMul, Nat.reduceBEq, QXDDrP4, hR.len, hR.base, hR.base0, hR.bset, hR.bset0, hR.at1, hR.at0, L97_6] | refine rd0 rfl ?_))
        refine iteP_intro (fun hd3 => ?_) fun hd3 => ?_
        ·have hi1 : i < v.looks.length := by simpa using hd3
         have hwi := wrapN hi1 (by omega)
         have hlk := hv.lk _ (List.getElem_mem hi1)
         obtain ⟨y, hy⟩ : ∃ y, v.looks[i] = y := ⟨_, rfl⟩
         have hsucc := okTo_succ hi1 n bl h
         rw [hy] at hlk hsucc
         rw [hok, Bool.true_and] at hsucc
         have hso := so_at (x := y) (i := h) (by omega)
         have hlo : lookOk (n : Int) bl ⟨hAt h, 0⟩ i y = (!decide (y.lot = (n : Int)) || bl.contains (i : Int) || soAt y (hAt h)) := rfl
         rw [hso] at hlo
         have hdiv : b / 2 ^ i < 9223372036854775808 := Nat.lt_of_le_of_lt (Nat.div_le_self _ _) hb.lt
         have hbit := hb.bit i (by omega)
         have vs := V_shr b i (by omega)
         have va := V_and1 (b / 2 ^ i) hdiv
         have go : okTo v n bl h (i + 1) = true → (i + 1 ≤ v.looks.length ∧ okTo v n bl h (i + 1) = true) := fun q => ⟨by omega, q⟩
         cases h1 : (y.lot == (n : Int))
         ·have h1' : ¬ y.lot = (n : Int) := by simpa using h1
          have hl : lookOk (n : Int) bl ⟨hAt h, 0⟩ i y = true := by rw [hlo]; simp [h1']
          rw [hl] at hsucc
          (repeat (first | simp only [↓QA, QB, Nat.reduceLT, reduceIte, Nat.reduceEqDiff, Nat.reduceAdd, Nat.reduceLeDiff, Nat.reduceMul, Nat.reduceBEq, QXDDrP4, hR.len, hR.base, hR.base0, hR.bset, hR.bset0, hR.at1, hR.at0, hi1, hy, h1] | refine rd0 rfl ?_))
          refine ⟨i + 1, go hsucc, by omega, ?_⟩
          try simp only [TrimX, QE, Nat.reduceLT, reduceIte, Nat.reduceEqDiff, Nat.reduceAdd, Nat.reduceLeDiff, Nat.reduceMul, Nat.reduceBEq, QXDDrP4, hR.len, hR.base, hR.base0, hR.bset, hR.bset0, hR.at1, hR.at0, hwi]
          try simp [okBlk, okVs, okV, natA_ok]
          try omega
         ·have h1' : y.lot = (n : Int) := by simpa using h1
          cases h2 : bl.contains (i : Int)
          ·rw [h2] at hbit
           cases h3 : (y.turned == decide ((h : Int) ≤ y.hour))
           ·have hl : lookOk (n : Int) bl ⟨hAt h, 0⟩ i y = false := by rw [hlo, h2, h3]; simp [h1']
            rw [hl] at hsucc
            have hqf : okL v bl n h = false := by rw [← okTo_all]; exact okTo_le (show i + 1 ≤ v.looks.length by omega) hsucc
            rw [hqf] at htF
            have hs := natA_set (doneTo v bl n op h) 0 hh1
            rw [done_out (by simpa using htF)] at hs
            have hs' : (natA (doneTo v bl n op h)).take h ++ [AV.int .i64 0] ++ (natA (doneTo v bl n op h)).drop (h + 1) = natA (doneTo v bl n op (h + 1)) := hs
            (repeat (first | simp only [↓QA, QB, Nat.reduceLT, reduceIte, Nat.reduceEqDiff, Nat.reduceAdd, Nat.reduceLeDiff, Nat.reduceMul, Nat.reduceBEq, QXDDrP4, hR.len, hR.base, hR.base0, hR.bset, hR.bset0, hR.at1, hR.at0, hi1, hy, h1, vs, va, hbit, h3, ih, c25, hs'] | refine rd0 rfl ?_))
            refine ⟨h + 1, by omega, by omega, ?_⟩
            try simp only [TrimX, QE, Nat.reduceLT, reduceIte, Nat.reduceEqDiff, Nat.reduceAdd, Nat.reduceLeDiff, Nat.reduceMul, Nat.reduceBEq, QXDDrP4, hR.len, hR.base, hR.base0, hR.bset, hR.bset0, hR.at1, hR.at0, hwh]
            try simp [okBlk, okVs, okV, natA_ok]
            try omega
           ·have hl : lookOk (n : Int) bl ⟨hAt h, 0⟩ i y = true := by rw [hlo, h3]; simp
            rw [hl] at hsucc
            (repeat (first | simp only [↓QA, QB, Nat.reduceLT, reduceIte, Nat.reduceEqDiff, Nat.reduceAdd, Nat.reduceLeDiff, Nat.reduceMul, Nat.reduceBEq, QXDDrP4, hR.len, hR.base, hR.base0, hR.bset, hR.bset0, hR.at1, hR.at0, hi1, hy, h1, vs, va, hbit, h3] | refine rd0 rfl ?_))
            refine ⟨i + 1, go hsucc, by omega, ?_⟩
            try simp only [TrimX, QE, Nat.reduceLT, reduceIte, Nat.reduceEqDiff, Nat.reduceAdd, Nat.reduceLeDiff, Nat.reduceMul, Nat.reduceBEq, QXDDrP4, hR.len, hR.base, hR.base0, hR.bset, hR.bset0, hR.at1, hR.at0, hwi]
            try simp [okBlk, okVs, okV, natA_ok]
            try omega
          ·rw [h2] at hbit
           have hl : lookOk (n : Int) bl ⟨hAt h, 0⟩ i y = true := by rw [hlo, h2]; simp
           rw [hl] at hsucc
           (repeat (first | simp only [↓QA, QB, Nat.reduceLT, reduceIte, Nat.reduceEqDiff, Nat.reduceAdd, Nat.reduceLeDiff, Nat.reduceMul, Nat.reduceBEq, QXDDrP4, hR.len, hR.base, hR.base0, hR.bset, hR.bset0, hR.at1, hR.at0, hi1, hy, h1, vs, va, hbit] | refine rd0 rfl ?_))
           refine ⟨i + 1, go hsucc, by omega, ?_⟩
           try simp only [TrimX, QE, Nat.reduceLT, reduceIte, Nat.reduceEqDiff, Nat.reduceAdd, Nat.reduceLeDiff, Nat.reduceMul, Nat.reduceBEq, QXDDrP4, hR.len, hR.base, hR.base0, hR.bset, hR.bset0, hR.at1, hR.at0, hwi]
           try simp [okBlk, okVs, okV, natA_ok]
           try omega
        ·have hi1 : i = v.looks.length := by simp at hd3; omega
         rw [hi1, okTo_all] at hok
         rw [hok] at htF
         rw [done_keep (by rw [htF, hRw]; rfl)]
         (repeat (first | simp only [↓QA, QB, Nat.reduceLT, reduceIte, Nat.reduceEqDiff, Nat.reduceAdd, Nat.reduceLeDiff, Nat.reduceMul, Nat.reduceBEq, QXDDrP4, hR.len, hR.base, hR.base0, hR.bset, hR.bset0, hR.at1, hR.at0] | refine rd0 rfl ?_))
         refine ⟨h + 1, by omega, by omega, ?_⟩
         try simp only [TrimX, QE, Nat.reduceLT, reduceIte, Nat.reduceEqDiff, Nat.reduceAdd, Nat.reduceLeDiff, Nat.reduceMul, Nat.reduceBEq, QXDDrP4, hR.len, hR.base, hR.base0, hR.bset, hR.bset0, hR.at1, hR.at0, hwh]
         try simp [okBlk, okVs, okV, natA_ok]
         try omega
      ·have h0' : R = 0 := by simp at h0; omega
       have hte : tF v bl n op h = rawN v op v.doors.length h := by rw [htF, hRw, h0']; simp
       (repeat (first | simp only [↓QA, QB, Nat.reduceLT, reduceIte, Nat.reduceEqDiff, Nat.reduceAdd, Nat.reduceLeDiff, Nat.reduceMul, Nat.reduceBEq, QXDDrP4, hR.len, hR.base, hR.base0, hR.bset, hR.bset0, hR.at1, hR.at0, ih, hg, h0] | refine rd0 rfl ?_))
       rw [done_keep hte]
       refine ⟨h + 1, by omega, by omega, ?_⟩
       try simp only [TrimX, QE, Nat.reduceLT, reduceIte, Nat.reduceEqDiff, Nat.reduceAdd, Nat.reduceLeDiff, Nat.reduceMul, Nat.reduceBEq, QXDDrP4, hR.len, hR.base, hR.base0, hR.bset, hR.bset0, hR.at1, hR.at0, hwh]
       try simp [okBlk, okVs, okV, natA_ok]
       try omega
     ·have hh1 : h = 26 := by simp at hd2; omega
      subst hh1
      rw [done_all]
      (repeat (first | simp only [↓QA, QB, Nat.reduceLT, reduceIte, Nat.reduceEqDiff, Nat.reduceAdd, Nat.reduceLeDiff, Nat.reduceMul, Nat.reduceBEq, QXDDrP4, hR.len, hR.base, hR.base0, hR.bset, hR.bset0, hR.at1, hR.at0, hput] | refine rd0 rfl ?_))
      refine ⟨_, _, rfl, rfl, ?_⟩
      try simp only [QS, QC, Nat.reduceLT, reduceIte, Nat.reduceEqDiff, Nat.reduceAdd, Nat.reduceLeDiff, Nat.reduceMul, Nat.reduceBEq, QXDDrP4, hR.len, hR.base, hR.base0, hR.bset, hR.bset0, hR.at1, hR.at0, S_natA]
end Go.Am.Room
set_option maxRecDepth 4000
namespace Go.Am.Room
def QXDDrP5 := And.intro @encDoor_eq (And.intro @encLook_eq (And.intro @S_mapDoor (And.intro @S_mapLook (And.intro @List.length_append.{0} (And.intro @db_0 (And.intro @db_1 (And.intro @db_2 (And.intro @db_3 (And.intro @db_4 (And.intro @db_5 (And.intro @db_6 (And.intro @db_7 (And.intro @db_8 (And.intro @T_sapp (And.intro @Nat.add_lt_add_iff_left (And.intro @Nat.lt_add_right_iff_pos (And.intro @Nat.mul_one (And.intro @Int.toNat_natCast (And.intro @natA_len (And.intro @natA_take (And.intro @natA_drop (And.intro @natA_cell (@S_natA)))))))))))))))))))))))
def rowsAV (v : Voy) (bl : List Int) (set k : Nat) : List AV := (List.range k).map fun n => turnsAV v bl (n, set)
theorem rows_succ (v : Voy) (bl : List Int) (set k : Nat) : rowsAV v bl set (k + 1) = rowsAV v bl set k ++ [turnsAV v bl (k, set)] := by simp [rowsAV, List.range_succ]
theorem rows_len (v : Voy) (bl : List Int) (set k : Nat) : (rowsAV v bl set k).length = k := by simp [rowsAV]
theorem cells_turns (v : Voy) (bl : List Int) (w : Ask) : cellsOk 26 (turnsAV v bl w) = true := by rw [turnsAV, C_agg, natA_len, natA_cell]; rfl
theorem rows_cells (v : Voy) (bl : List Int) (set k : Nat) : allCells 26 (rowsAV v bl set k) = true := L_allM 26 (fun n => turnsAV v bl (n, set)) (List.range k) fun n => cells_turns v bl _
theorem datas_rows (v : Voy) (bl : List Int) (set k : Nat) : Datas (rowsAV v bl set k) := datas_map (enc := fun n => turnsAV v bl (n, set)) (fun n => data_turns v bl _) (List.range k)
theorem S_rows (v : Voy) (bl : List Int) (set k : Nat) (σ : St) (m d : Nat) : snapMs σ m d (rowsAV v bl set k) = some (rowsAV v bl set k) := S_datas (datas_rows v bl set k) σ m d
theorem rows_get (v : Voy) (bl : List Int) (set : Nat) {k n : Nat} (h : n < k) : (rowsAV v bl set k)[n]? = some (turnsAV v bl (n, set)) := by simp [rowsAV, h]
def lotsMemo (v : Voy) (bl : List Int) (set : Nat) : Nat → Nat → List Ask → Bool × List Ask
 | 0, _, A => (true, A)
 | k + 1, n, A => if zeroF (tF v bl n set) = true then (false, memoStep A (n, set)) else lotsMemo v bl set k (n + 1) (memoStep A (n, set))
theorem lots_fst (v : Voy) (bl : List Int) (set : Nat) : ∀ (k n : Nat) (A : List Ask), (lotsMemo v bl set k n A).1 = (List.range k).all fun j => !zeroF (tF v bl (n + j) set)
 | 0, n, A => rfl
 | k + 1, n, A => by
  rw [List.range_succ_eq_map, List.all_cons, List.all_map]
  simp only [lotsMemo]
  split
  ·rename_i h; simp [h]
  ·rename_i h
   rw [lots_fst v bl set k (n + 1)]
   simp only [Nat.add_zero, h, Function.comp_def]
   simp only [Bool.not_false, Bool.true_and]
   congr 1
   funext j
   rw [show n + 1 + j = n + Nat.succ j by omega]
theorem lots_leaf (v : Voy) (bl : List Int) (set : Nat) (A : List Ask) : (lotsMemo v bl set v.lots.toNat 0 A).1 = leafOk v bl set := by
 rw [lots_fst]; simp [leafOk]
theorem lots_in {S : List Ask → St} {v : Voy} {b p m N : Nat} {bl : List Int} (hR : MemAt S (db v b m) (tEs v bl) p m N) (hv : Vd v) (hb : ButIs b bl) (set : Nat) (hset : set < 16) (q yc : Nat) (hq : ∀ A τ, cellsAt (S A ++ τ) q = some [.ptr p 0]) (hql : q < N) (hyl : yc < N) (L : Nat) (hL : v.lots = (L : Int)) (A : List Ask) (e : Env) (K : KJ)
  (e1 : Env.get e 1 = .int .i64 set) (e2 : Env.get e 2 = .ptr q 0) (e4 : Env.get e 4 = .ptr yc 0) (e8 : Env.get e 8 = .lit [] false (some N)) (e49 : Env.get e 49 = .int .i64 (L : Int)) (e50 : Env.get e 50 = .int .i64 0)
  (hKt : ∀ A' e' ex, lotsMemo v bl set L 0 A = (true, A') → Env.get e' 1 = .int .i64 set → Env.get e' 4 = .ptr yc 0 → Env.get e' 8 = .lit (rowsAV v bl set L) false (some N) → K (some (.exit 0)) e' (S A' ++ [.tok 26 L ex]))
  (hKf : ∀ A' e' τ', lotsMemo v bl set L 0 A = (false, A') → Env.get e' 7 = .bool true → K (some .ret) e' (S A' ++ τ')) :
  rK (K := ⟨K⟩) T (.loop L96_0) e (S A ++ [.tok 26 0 false]) := by
 have hlo := hv.lots
 have hpl := hR.pl
 obtain ⟨R, hRR⟩ : ∃ R, lotsMemo v bl set L 0 A = R := ⟨_, rfl⟩
 rw [hRR] at hKt hKf
 refine loopE (S := Nat × Bool × List Ask) (0, false, A) (fun a => a.1 ≤ L ∧ lotsMemo v bl set (L - a.1) a.1 a.2.2 = R) (fun a => L - a.1)
  (fun a => [(1, .int .i64 set), (2, .ptr q 0), (4, .ptr yc 0), (8, .lit (rowsAV v bl set a.1) false (some N)), (49, .int .i64 (L : Int)), (50, .int .i64 a.1)])
  (fun a => S a.2.2 ++ [.tok 26 a.1 a.2.1]) ⟨Nat.zero_le _, by simpa using hRR⟩ rfl ?_ fun a ha => ?_
 ·try simp only [TrimX, QE, Nat.reduceLT, reduceIte, Nat.reduceEqDiff, Nat.reduceAdd, Nat.reduceLeDiff, Nat.reduceMul, Nat.reduceBEq, QXDDrP5, hR.len, hR.base, hR.base0, hR.bset, hR.bset0, hR.at1, hR.at0, e1, e2, e4, e8, e49, e50, rowsAV, List.range_zero, List.map_nil]
  try simp
 ·obtain ⟨k, ex, A1⟩ := a
  obtain ⟨hk, hacc⟩ := ha
  simp only at hk hacc
  (repeat (first | simp only [↓QA, QB, Nat.reduceLT, reduceIte, Nat.reduceEqDiff, Nat.reduceAdd, Nat.reduceLeDiff, Nat.reduceMul, Nat.reduceBEq, QXDDrP5, hR.len, hR.base, hR.base0, hR.bset, hR.bset0, hR.at1, hR.at0, L96_0] | refine rd0 rfl ?_))
  refine iteP_intro (fun hd => ?_) fun hd => ?_
  ·have hk1 : k < L := by simpa using hd
   have hw := wrapN hk1 (by omega)
   rw [show L - k = (L - (k + 1)) + 1 by omega] at hacc
   simp only [lotsMemo] at hacc
   obtain ⟨A2, hA2⟩ : ∃ A2, memoStep A1 (k, set) = A2 := ⟨_, rfl⟩
   have htu := turns_does (hR.app [.tok 26 k ex]) hv hb A1 k set (by omega) hset
   rw [hA2] at hacc htu
   have hz := natA_zero (tF v bl k set)
   have hrs := rows_succ v bl set k
   have hap := fun (τ : St) => append_at (σ := S A2 ++ (.tok 26 k ex :: τ)) (t := N) (ex := ex) (sz := 26) (b := 208) (xs := rowsAV v bl set k) (ys := [turnsAV v bl (k, set)]) (f := true) (tk := none) ⟨rows_cells v bl set k, by rw [L_all1, cells_turns]; rfl, by rw [rows_len]; simp [room]; omega, by rw [rows_len]; simp [room]; omega⟩ (by simp) k (rows_len v bl set k).symm (by rw [← hR.len A2]; simp)
   simp only [turnsAV_eq, encAsk_eq] at htu hap hrs
   try simp only [↓QA, QB, Nat.reduceLT, reduceIte, Nat.reduceEqDiff, Nat.reduceAdd, Nat.reduceLeDiff, Nat.reduceMul, Nat.reduceBEq, QXDDrP5, hR.len, hR.base, hR.base0, hR.bset, hR.bset0, hR.at1, hR.at0] at htu hap
   (repeat (first | simp only [↓QA, QB, Nat.reduceLT, reduceIte, Nat.reduceEqDiff, Nat.reduceAdd, Nat.reduceLeDiff, Nat.reduceMul, Nat.reduceBEq, QXDDrP5, hR.len, hR.base, hR.base0, hR.bset, hR.bset0, hR.at1, hR.at0, hq] | refine rd0 rfl ?_))
   refine callK_do htu ?_
   (repeat (first | simp only [↓QA, QB, Nat.reduceLT, reduceIte, Nat.reduceEqDiff, Nat.reduceAdd, Nat.reduceLeDiff, Nat.reduceMul, Nat.reduceBEq, QXDDrP5, hR.len, hR.base, hR.base0, hR.bset, hR.bset0, hR.at1, hR.at0, hq, ← z26, hz] | refine rd0 rfl ?_))
   cases h0 : zeroF (tF v bl k set)
   ·rw [h0] at hacc
    simp only [Bool.false_eq_true, if_false] at hacc
    (repeat (first | simp only [↓QA, QB, Nat.reduceLT, reduceIte, Nat.reduceEqDiff, Nat.reduceAdd, Nat.reduceLeDiff, Nat.reduceMul, Nat.reduceBEq, QXDDrP5, hR.len, hR.base, hR.base0, hR.bset, hR.bset0, hR.at1, hR.at0, hq, h0, hap] | refine rd0 rfl ?_))
    refine ⟨(k + 1, true, A2), ⟨by simp only; omega, hacc⟩, by simp only; omega, ?_⟩
    simp only [← hrs]
    try simp only [TrimX, QE, Nat.reduceLT, reduceIte, Nat.reduceEqDiff, Nat.reduceAdd, Nat.reduceLeDiff, Nat.reduceMul, Nat.reduceBEq, QXDDrP5, hR.len, hR.base, hR.base0, hR.bset, hR.bset0, hR.at1, hR.at0, hw, hR.eqS, T_sr, T_sr0, S_rows]
    try simp [okBlk, okVs, okV]
    try omega
   ·rw [h0] at hacc
    simp only [if_true] at hacc
    (repeat (first | simp only [↓QA, QB, Nat.reduceLT, reduceIte, Nat.reduceEqDiff, Nat.reduceAdd, Nat.reduceLeDiff, Nat.reduceMul, Nat.reduceBEq, QXDDrP5, hR.len, hR.base, hR.base0, hR.bset, hR.bset0, hR.at1, hR.at0, hq, h0] | refine rd0 rfl ?_))
    exact hKf A2 _ _ hacc.symm (by try simp only [TrimX, QE, Nat.reduceLT, reduceIte, Nat.reduceEqDiff, Nat.reduceAdd, Nat.reduceLeDiff, Nat.reduceMul, Nat.reduceBEq, QXDDrP5, hR.len, hR.base, hR.base0, hR.bset, hR.bset0, hR.at1, hR.at0])
  ·have hk1 : k = L := by simp at hd; omega
   subst hk1
   rw [Nat.sub_self] at hacc
   simp only [lotsMemo] at hacc
   (repeat (first | simp only [↓QA, QB, Nat.reduceLT, reduceIte, Nat.reduceEqDiff, Nat.reduceAdd, Nat.reduceLeDiff, Nat.reduceMul, Nat.reduceBEq, QXDDrP5, hR.len, hR.base, hR.base0, hR.bset, hR.bset0, hR.at1, hR.at0] | refine rd0 rfl ?_))
   refine hKt A1 _ ex hacc.symm ?_ ?_ ?_
   all_goals try simp only [TrimX, QE, Nat.reduceLT, reduceIte, Nat.reduceEqDiff, Nat.reduceAdd, Nat.reduceLeDiff, Nat.reduceMul, Nat.reduceBEq, QXDDrP5, hR.len, hR.base, hR.base0, hR.bset, hR.bset0, hR.at1, hR.at0]
theorem leaf_ok {S : List Ask → St} {v : Voy} {b p m N : Nat} {bl : List Int} (hR : MemAt S (db v b m) (tEs v bl) p m N) (hv : Vd v) (hb : ButIs b bl) (set : Nat) (hset : set < 16) (q y3 yc id : Nat) (hq : ∀ A τ, cellsAt (S A ++ τ) q = some [.ptr p 0]) (hyc : ∀ A τ, cellsAt (S A ++ τ) yc = some [.yield id]) (hql : q < N) (hyl : yc < N) (A : List Ask) (V : Bool) (W : List Ask → St)
  (hcall : ∀ A' fl tk τ, leafOk v bl set = true → Run T (.callv (.yield id) [.int .i64 set, .lit (rowsAV v bl set v.lots.toNat) fl tk] (S A' ++ τ)) fun o => o.v = .bool V ∧ ∃ τ', o.σ = W A' ++ τ') :
  wp T a96.body (argsEnv 0 [.int .i64 v.doors.length, .int .i64 set, .ptr q 0, .ptr y3 0, .ptr yc 0]) (S A) (fun j e σ' => (j = none ∨ j = some .ret) ∧ Env.get e 7 = .bool (if leafOk v bl set = true then V else true) ∧ ∃ τ', σ' = (if leafOk v bl set = true then W (lotsMemo v bl set v.lots.toNat 0 A).2 else S (lotsMemo v bl set v.lots.toNat 0 A).2) ++ τ') := by
 have hlo := hv.lots
 have hlf := lots_leaf v bl set A
 obtain ⟨L, hL⟩ : ∃ L : Nat, v.lots = (L : Int) := ⟨v.lots.toNat, by omega⟩
 have hLn : v.lots.toNat = L := by omega
 rw [hLn] at hlf hcall ⊢
 have hq0 := fun A => by simpa using hq A []
 have g : decide ((v.doors.length : Int) < (v.doors.length : Int)) = false := by simp
 have hl0 : Int.ofNat L = (L : Int) := rfl
 (repeat (first | simp only [↓QA, QB, Nat.reduceLT, reduceIte, Nat.reduceEqDiff, Nat.reduceAdd, Nat.reduceLeDiff, Nat.reduceMul, Nat.reduceBEq, QXDDrP5, hR.len, hR.base, hR.base0, hR.bset, hR.bset0, hR.at1, hR.at0, a96, hq, hq0, g] | refine rd0 rfl ?_))
 refine ghostK 8 26 [] rfl ?_
 (repeat (first | simp only [↓QA, QB, Nat.reduceLT, reduceIte, Nat.reduceEqDiff, Nat.reduceAdd, Nat.reduceLeDiff, Nat.reduceMul, Nat.reduceBEq, QXDDrP5, hR.len, hR.base, hR.base0, hR.bset, hR.bset0, hR.at1, hR.at0, hq, hq0, hL] | refine rd0 rfl ?_))
 refine lots_in hR hv hb set hset q yc hq hql hyl L hL A _ _ ?_ ?_ ?_ ?_ ?_ ?_ ?_ ?_
 ·try simp only [TrimX, QE, Nat.reduceLT, reduceIte, Nat.reduceEqDiff, Nat.reduceAdd, Nat.reduceLeDiff, Nat.reduceMul, Nat.reduceBEq, QXDDrP5, hR.len, hR.base, hR.base0, hR.bset, hR.bset0, hR.at1, hR.at0]
 ·try simp only [TrimX, QE, Nat.reduceLT, reduceIte, Nat.reduceEqDiff, Nat.reduceAdd, Nat.reduceLeDiff, Nat.reduceMul, Nat.reduceBEq, QXDDrP5, hR.len, hR.base, hR.base0, hR.bset, hR.bset0, hR.at1, hR.at0]
 ·try simp only [TrimX, QE, Nat.reduceLT, reduceIte, Nat.reduceEqDiff, Nat.reduceAdd, Nat.reduceLeDiff, Nat.reduceMul, Nat.reduceBEq, QXDDrP5, hR.len, hR.base, hR.base0, hR.bset, hR.bset0, hR.at1, hR.at0]
 ·try simp only [TrimX, QE, Nat.reduceLT, reduceIte, Nat.reduceEqDiff, Nat.reduceAdd, Nat.reduceLeDiff, Nat.reduceMul, Nat.reduceBEq, QXDDrP5, hR.len, hR.base, hR.base0, hR.bset, hR.bset0, hR.at1, hR.at0]
 ·try simp only [TrimX, QE, Nat.reduceLT, reduceIte, Nat.reduceEqDiff, Nat.reduceAdd, Nat.reduceLeDiff, Nat.reduceMul, Nat.reduceBEq, QXDDrP5, hR.len, hR.base, hR.base0, hR.bset, hR.bset0, hR.at1, hR.at0]
 ·try simp only [TrimX, QE, Nat.reduceLT, reduceIte, Nat.reduceEqDiff, Nat.reduceAdd, Nat.reduceLeDiff, Nat.reduceMul, Nat.reduceBEq, QXDDrP5, hR.len, hR.base, hR.base0, hR.bset, hR.bset0, hR.at1, hR.at0]
 ·intro A' e' ex hls q1 q4 q8
  rw [hls] at hlf ⊢
  have hlf' : leafOk v bl set = true := hlf.symm
  have hc := hcall A' false (some N) [.tok 26 L ex] hlf'
  rw [hlf']
  (repeat (first | simp only [↓QA, QB, Nat.reduceLT, reduceIte, Nat.reduceEqDiff, Nat.reduceAdd, Nat.reduceLeDiff, Nat.reduceMul, Nat.reduceBEq, QXDDrP5, hR.len, hR.base, hR.base0, hR.bset, hR.bset0, hR.at1, hR.at0, q1, q4, q8, hyc] | refine rd0 rfl ?_))
  refine .mono hc fun o ho => ?_
  obtain ⟨hv1, τ', hσ⟩ := ho
  rw [hv1, hσ]
  (repeat (first | simp only [↓QA, QB, Nat.reduceLT, reduceIte, Nat.reduceEqDiff, Nat.reduceAdd, Nat.reduceLeDiff, Nat.reduceMul, Nat.reduceBEq, QXDDrP5, hR.len, hR.base, hR.base0, hR.bset, hR.bset0, hR.at1, hR.at0, q1, q4, q8] | refine rd0 rfl ?_))
  exact ⟨_, rfl⟩
 ·intro A' e' τ' hls q7
  rw [hls] at hlf ⊢
  have hlf' : leafOk v bl set = false := hlf.symm
  rw [hlf']
  (repeat (first | simp only [↓QA, QB, Nat.reduceLT, reduceIte, Nat.reduceEqDiff, Nat.reduceAdd, Nat.reduceLeDiff, Nat.reduceMul, Nat.reduceBEq, QXDDrP5, hR.len, hR.base, hR.base0, hR.bset, hR.bset0, hR.at1, hR.at0, q7] | refine rd0 rfl ?_))
  exact ⟨by simp, τ', by simp⟩
end Go.Am.Room
set_option maxRecDepth 4000
namespace Go.Am.Room
def QXDDrP6 := And.intro @encDoor_eq (And.intro @encLook_eq (And.intro @S_mapDoor (And.intro @S_mapLook (And.intro @List.length_append.{0} (And.intro @db_0 (And.intro @db_1 (And.intro @db_2 (And.intro @db_3 (And.intro @db_4 (And.intro @db_5 (And.intro @db_6 (And.intro @db_7 (And.intro @db_8 (And.intro @T_sapp (And.intro @Nat.add_lt_add_iff_left (And.intro @Nat.lt_add_right_iff_pos (And.intro @Nat.mul_one (And.intro @Int.toNat_natCast (And.intro @C_yield (@K_yield))))))))))))))))))))
def NEXT (N q : Nat) : AV := .func 96 [] [.ptr q 0, .ptr (N + 1) 0, .ptr N 0]
def setsB (id N q : Nat) : St := [.cells [.yield id], .cells [NEXT N q]]
def perSet {X : Type} (v : Voy) (bl : List Int) (f : Nat → X → X × Bool) (set : Nat) (x : X × List Ask) : (X × List Ask) × Bool :=
 if leafOk v bl set = true then (((f set x.1).1, (lotsMemo v bl set v.lots.toNat 0 x.2).2), (f set x.1).2) else ((x.1, (lotsMemo v bl set v.lots.toNat 0 x.2).2), true)
def tArgs (v : Voy) (bl : List Int) (t : Nat) (fl : Bool) (tk : Option Nat) : List AV := [.int .i64 t, .lit (rowsAV v bl t v.lots.toNat) fl tk]
def YieldsP {X : Type} (Zp ZDp : X × List Ask → St) (id : Nat) (v : Voy) (bl : List Int) (P : Nat → Prop) (f : Nat → X → X × Bool) : Prop :=
 ∀ t, P t → ∀ (fl : Bool) (tk : Option Nat) (x : X × List Ask) τ, Run T (.callv (.yield id) (tArgs v bl t fl tk) (Zp x ++ τ)) fun o => o.v = .bool (f t x.1).2 ∧ ∃ τ', o.σ = Fam.out Zp ZDp (((f t x.1).1, x.2), (f t x.1).2) ++ (τ ++ τ')
theorem next_ok {X : Type} {Zp ZDp : X × List Ask → St} {v : Voy} {b p m q N : Nat} {bl : List Int} (hR : Fam Zp ZDp (db v b m) p q N) (hS : ∀ x, MemAt (fun A => Zp (x, A)) (db v b m) (tEs v bl) p m N) (hv : Vd v) (hb : ButIs b bl) {id : Nat} {P : Nat → Prop} {f : Nat → X → X × Bool} (hy : YieldsP Zp ZDp id v bl P f) :
  ∀ (k h set : Nat) (x : X × List Ask) (τ : St), h + k = v.doors.length → set < 2 ^ h → (∀ a ∈ nextL (v.doors.drop h) h set, leafOk v bl a = true → P a) →
   Does T (NEXT N q) [.int .i64 h, .int .i64 set] (Zp x ++ (setsB id N q ++ τ)) (.bool (iterF (perSet v bl f) (nextL (v.doors.drop h) h set) x).2) (Fam.out Zp ZDp (iterF (perSet v bl f) (nextL (v.doors.drop h) h set) x) ++ (setsB id N q ++ τ))
 | 0, h, set, (x, A), τ, hk, hset, hP => by
  have hdr := hv.ndr
  have hh : h = v.doors.length := by omega
  have hd : v.doors.drop h = [] := by rw [hh, List.drop_length]
  have hPs := hP set (by rw [hd]; simp [nextL])
  have h16 : set < 16 := Nat.lt_of_lt_of_le hset (show 2 ^ h ≤ 2 ^ 4 from Nat.pow_le_pow_right (by omega) (by omega))
  rw [hd]
  simp only [nextL, iterF_one]
  obtain ⟨r, hr⟩ : ∃ r, perSet v bl f set (x, A) = r := ⟨_, rfl⟩
  rw [hr]
  subst hh
  have hlf := leaf_ok (S := fun A => Zp (x, A) ++ (setsB id N q ++ τ)) ((hS x).app (setsB id N q ++ τ)) hv hb set h16 q (N + 1) N id (fun A τ' => by rw [List.append_assoc]; exact hR.atq1 _ _) (fun A τ' => by rw [List.append_assoc, hR.base0]; rfl) (by have := hR.ql; omega) (by simp [setsB]) A (f set x).2 (fun A' => Fam.out Zp ZDp (((f set x).1, A'), (f set x).2) ++ (setsB id N q ++ τ)) (fun A' fl tk τ' hl => by
   rw [List.append_assoc]
   refine .mono (hy set (hPs hl) fl tk (x, A') ((setsB id N q ++ τ) ++ τ')) fun o ho => ?_
   obtain ⟨h1, τ'', h2⟩ := ho
   exact ⟨h1, τ' ++ τ'', by rw [h2]; simp⟩)
  refine .callf (.call (af := a96) rfl (by simp [a96]) (run_wp hlf fun o ho => ho) fun o ho => ?_)
  obtain ⟨hj, h7, τ', hσ⟩ := ho
  have hr' : perSet v bl f set (x, A) = r := hr
  simp only [perSet] at hr'
  cases hl : leafOk v bl set
  ·rw [hl] at h7 hσ hr'
   simp only [Bool.false_eq_true, if_false] at h7 hσ hr'
   refine ⟨hj, .bool r.2, ?_, hR.leave (r := r) (υ := setsB id N q ++ τ) (τ' := τ') ?_ ⟨rfl, rfl⟩⟩
   ·simp only [a96, resOf, resAV]
    rw [h7, ← hr']
    rfl
   ·rw [hσ, ← hr']; simp [Fam.out]
  ·rw [hl] at h7 hσ hr'
   simp only [if_true] at h7 hσ hr'
   refine ⟨hj, .bool r.2, ?_, hR.leave (r := r) (υ := setsB id N q ++ τ) (τ' := τ') ?_ ⟨rfl, rfl⟩⟩
   ·simp only [a96, resOf, resAV]
    rw [h7, ← hr']
    rfl
   ·rw [hσ, ← hr']; simp
 | k + 1, h, set, x, τ, hk, hset, hP => by
  have hdr := hv.ndr
  have hh : h < v.doors.length := by omega
  obtain ⟨y, hye⟩ : ∃ y, v.doors[h] = y := ⟨_, rfl⟩
  have hd : v.doors.drop h = y :: v.doors.drop (h + 1) := by rw [← hye]; exact List.drop_eq_getElem_cons hh
  rw [hd] at hP ⊢
  simp only [nextL] at hP ⊢
  have g : decide ((h : Int) < (v.doors.length : Int)) = true := by simp; omega
  have hw : IntKind.i64.wrap ((h : Int) + 1) = ((h + 1 : Nat) : Int) := wrapN hh (by omega)
  have hp2 := pow_small (show h ≤ 60 by omega)
  have hset1 : set < 2 ^ (h + 1) := by rw [Nat.pow_succ]; omega
  have hset2 : set ||| 2 ^ h < 2 ^ (h + 1) := Nat.or_lt_two_pow hset1 (by rw [Nat.pow_succ]; have := Nat.two_pow_pos h; omega)
  have hsh := V_shl1 h (by omega)
  have hor := V_or set (2 ^ h) (by omega) (by omega)
  obtain ⟨L1, hL1⟩ : ∃ L, nextL (v.doors.drop (h + 1)) (h + 1) set = L := ⟨_, rfl⟩
  obtain ⟨L2, hL2⟩ : ∃ L, nextL (v.doors.drop (h + 1)) (h + 1) (set ||| 2 ^ h) = L := ⟨_, rfl⟩
  have ih1 := fun x (h1 : ∀ a ∈ L1, leafOk v bl a = true → P a) => next_ok hR hS hv hb hy k (h + 1) set x τ (by omega) hset1 (by rw [hL1]; exact h1)
  have ih2 := fun x (h1 : ∀ a ∈ L2, leafOk v bl a = true → P a) => next_ok hR hS hv hb hy k (h + 1) (set ||| 2 ^ h) x τ (by omega) hset2 (by rw [hL2]; exact h1)
  rw [hL1] at ih1 hP ⊢
  rw [hL2] at ih2 hP ⊢
  obtain ⟨F, hF⟩ : ∃ F, perSet v bl f = F := ⟨_, rfl⟩
  rw [hF] at ih1 ih2 ⊢
  obtain ⟨r, hr⟩ : ∃ r, iterF F ((if y.sure = true then [] else L1) ++ L2) x = r := ⟨_, rfl⟩
  rw [hr]
  have fin : Fam.out Zp ZDp r ++ (ABlk.cells [.yield id] :: .cells [NEXT N q] :: τ) = Fam.out Zp ZDp r ++ ((setsB id N q ++ τ) ++ []) := by simp [setsB]
  refine .callf (.call (af := a96) rfl (by simp [a96]) (run_wp (K := fun j e σ1 => (j = none ∨ j = some .ret) ∧ Env.get e 7 = .bool r.2 ∧ ∃ τ', σ1 = Fam.out Zp ZDp r ++ ((setsB id N q ++ τ) ++ τ')) ?_ fun o ho => ho) fun o ho => ?_)
  ·simp only [setsB, NEXT] at ih1 ih2 fin ⊢
   try simp only [↓QA, QB, Nat.reduceLT, reduceIte, Nat.reduceEqDiff, Nat.reduceAdd, Nat.reduceLeDiff, Nat.reduceMul, Nat.reduceBEq, QXDDrP6, hR.len, hR.base, hR.base0, hR.bset, hR.bset0, hR.at1, hR.atq1] at ih1 ih2
   cases hys : y.sure
   ·rw [hys] at hr hP
    simp only [Bool.false_eq_true, if_false] at hr hP
    have hih := ih1 x (fun a ha => hP a (List.mem_append_left _ ha))
    have hih2 := fun x => ih2 x (fun a ha => hP a (List.mem_append_right _ ha))
    rw [iterF_app] at hr
    obtain ⟨r1, hr1⟩ : ∃ r1, iterF F L1 x = r1 := ⟨_, rfl⟩
    rw [hr1] at hr hih
    (repeat (first | simp only [↓QA, QB, Nat.reduceLT, reduceIte, Nat.reduceEqDiff, Nat.reduceAdd, Nat.reduceLeDiff, Nat.reduceMul, Nat.reduceBEq, QXDDrP6, hR.len, hR.base, hR.base0, hR.bset, hR.bset0, hR.at1, hR.atq1, a96, g, hh, hye, hys, hw] | refine rd0 rfl ?_))
    refine callK_do hih ?_
    cases hr2 : r1.2
    ·rw [hr2] at hr
     simp only [Bool.false_eq_true, if_false] at hr
     have ho : Fam.out Zp ZDp r1 = Fam.out Zp ZDp r := by rw [← hr, Fam.out, Fam.out, hr2]
     rw [ho]
     (repeat (first | simp only [↓QA, QB, Nat.reduceLT, reduceIte, Nat.reduceEqDiff, Nat.reduceAdd, Nat.reduceLeDiff, Nat.reduceMul, Nat.reduceBEq, QXDDrP6, hR.len, hR.base, hR.base0, hR.bset, hR.bset0, hR.at1, hR.atq1] | refine rd0 rfl ?_))
     exact ⟨by rw [← hr], _, fin⟩
    ·rw [hr2] at hr
     simp only [if_true] at hr
     have ho : Fam.out Zp ZDp r1 = Zp r1.1 := if_pos hr2
     have hih3 := hih2 r1.1
     rw [hr] at hih3
     rw [ho]
     (repeat (first | simp only [↓QA, QB, Nat.reduceLT, reduceIte, Nat.reduceEqDiff, Nat.reduceAdd, Nat.reduceLeDiff, Nat.reduceMul, Nat.reduceBEq, QXDDrP6, hR.len, hR.base, hR.base0, hR.bset, hR.bset0, hR.at1, hR.atq1, hw, hsh, hor] | refine rd0 rfl ?_))
     refine callD_do hih3 ?_
     (repeat (first | simp only [↓QA, QB, Nat.reduceLT, reduceIte, Nat.reduceEqDiff, Nat.reduceAdd, Nat.reduceLeDiff, Nat.reduceMul, Nat.reduceBEq, QXDDrP6, hR.len, hR.base, hR.base0, hR.bset, hR.bset0, hR.at1, hR.atq1] | refine rd0 rfl ?_))
     exact ⟨_, fin⟩
   ·rw [hys] at hr hP
    simp only [if_true, List.nil_append] at hr hP
    have hih := ih2 x hP
    rw [hr] at hih
    (repeat (first | simp only [↓QA, QB, Nat.reduceLT, reduceIte, Nat.reduceEqDiff, Nat.reduceAdd, Nat.reduceLeDiff, Nat.reduceMul, Nat.reduceBEq, QXDDrP6, hR.len, hR.base, hR.base0, hR.bset, hR.bset0, hR.at1, hR.atq1, a96, g, hh, hye, hys, hw, hsh, hor] | refine rd0 rfl ?_))
    refine callD_do hih ?_
    (repeat (first | simp only [↓QA, QB, Nat.reduceLT, reduceIte, Nat.reduceEqDiff, Nat.reduceAdd, Nat.reduceLeDiff, Nat.reduceMul, Nat.reduceBEq, QXDDrP6, hR.len, hR.base, hR.base0, hR.bset, hR.bset0, hR.at1, hR.atq1] | refine rd0 rfl ?_))
    exact ⟨_, fin⟩
  ·obtain ⟨hj, h7, τ', hσ⟩ := ho
   refine ⟨hj, .bool r.2, ?_, hR.leave hσ ⟨rfl, rfl⟩⟩
   simp only [a96, resOf, resAV]
   rw [h7]
   rfl
def allSets {X : Type} (v : Voy) (bl : List Int) (f : Nat → X → X × Bool) (x : X) (A : List Ask) : (X × List Ask) × Bool := iterF (perSet v bl f) (nextL v.doors 0 0) (x, A)
theorem next_run {X : Type} {Zp ZDp : X × List Ask → St} {v : Voy} {b p m q N : Nat} {bl : List Int} (hR : Fam Zp ZDp (db v b m) p q N) (hS : ∀ x, MemAt (fun A => Zp (x, A)) (db v b m) (tEs v bl) p m N) (hv : Vd v) (hb : ButIs b bl) {id : Nat} {P : Nat → Prop} {f : Nat → X → X × Bool} (hy : YieldsP Zp ZDp id v bl P f) (hP : ∀ a ∈ nextL v.doors 0 0, leafOk v bl a = true → P a) (x : X × List Ask) :
  Run T (.call 95 [.yield id, .ptr q 0] (Zp x)) fun o => ∃ τ', o.σ = Fam.out Zp ZDp (iterF (perSet v bl f) (nextL v.doors 0 0) x) ++ τ' := by
 have hn := next_ok hR hS hv hb hy v.doors.length 0 0 x [] (by omega) (by simp) hP
 rw [List.drop_zero] at hn
 obtain ⟨r, hr⟩ : ∃ r, iterF (perSet v bl f) (nextL v.doors 0 0) x = r := ⟨_, rfl⟩
 rw [hr] at hn ⊢
 refine .call (af := a95) rfl (by simp [a95]) (run_wp (K := fun j e σ' => (j = none ∨ j = some .ret) ∧ ∃ τ', σ' = Fam.out Zp ZDp r ++ τ') ?_ fun o ho => ho) fun o ho => ⟨ho.1, .tuple [], rfl, .inl ho.2⟩
 have h00 : ((0 : Nat) : Int) = 0 := rfl
 simp only [setsB, NEXT, List.append_nil, h00] at hn
 (repeat (first | simp only [↓QA, QB, Nat.reduceLT, reduceIte, Nat.reduceEqDiff, Nat.reduceAdd, Nat.reduceLeDiff, Nat.reduceMul, Nat.reduceBEq, QXDDrP6, hR.len, hR.base, hR.base0, hR.bset, hR.bset0, hR.at1, hR.atq1, a95] | refine rd0 rfl ?_))
 refine callK_do hn ?_
 (repeat (first | simp only [↓QA, QB, Nat.reduceLT, reduceIte, Nat.reduceEqDiff, Nat.reduceAdd, Nat.reduceLeDiff, Nat.reduceMul, Nat.reduceBEq, QXDDrP6, hR.len, hR.base, hR.base0, hR.bset, hR.bset0, hR.at1, hR.atq1] | refine rd0 rfl ?_))
 exact ⟨_, rfl⟩
end Go.Am.Room
set_option maxRecDepth 4000
namespace Go.Am.Room
def QXDDrP7 := And.intro @encDoor_eq (And.intro @encLook_eq (And.intro @S_mapDoor (And.intro @S_mapLook (And.intro @List.length_append.{0} (And.intro @db_0 (And.intro @db_1 (And.intro @db_2 (And.intro @db_3 (And.intro @db_4 (And.intro @db_5 (And.intro @db_6 (And.intro @db_7 (And.intro @db_8 (And.intro @T_sapp (And.intro @Nat.add_lt_add_iff_left (And.intro @Nat.lt_add_right_iff_pos (And.intro @Nat.mul_one (And.intro @Int.toNat_natCast (And.intro @C_yield (@K_yield))))))))))))))))))))
theorem fam_of {X M : Type} {Z ZD : X → M → St} {obj : List AV} {es : M → List (AV × AV)} {p m q N : Nat} (h : Fam1 Z ZD obj es p m q N) : Fam (fun y : X × M => Z y.1 y.2) (fun y => ZD y.1 y.2) obj p q N :=
 ⟨fun y => (h.ship y.1).len y.2, fun y => h.lenD y.1 y.2, fun y => (h.ship y.1).at0 y.2, fun y => h.atq0 y.1 y.2, fun x y k i hk hi => h.keep _ _ _ _ k i hk hi, fun x y k i hk hi => h.keepD _ _ _ _ k i hk hi, h.pl, h.ql⟩
theorem truths1_run {X : Type} {Z ZD : X → List Ask → St} {v : Voy} {b p m q N : Nat} {bl : List Int} (hF : Fam1 Z ZD (db v b m) (tEs v bl) p m q N) (hv : Vd v) (hb : ButIs b bl) {id : Nat} {P : Nat → Prop} {f : Nat → X → X × Bool} (hy : YieldsT Z ZD id (tArgs v bl) P f) (hP : ∀ a ∈ nextL v.doors 0 0, leafOk v bl a = true → P a) (x : X) (A : List Ask) :
  Run T (.call 95 [.yield id, .ptr q 0] (Z x A)) fun o => ∃ τ', o.σ = Fam1.out Z ZD ((allSets v bl f x A).1.1, (allSets v bl f x A).2) (allSets v bl f x A).1.2 ++ τ' :=
 next_run (fam_of hF) (fun x => hF.ship x) hv hb (f := f) (fun t ht fl tk x τ => hy t ht fl tk x.1 x.2 τ) hP (x, A)
theorem allSets_fst {X : Type} (v : Voy) (bl : List Int) (f : Nat → X → X × Bool) (x : X) (A : List Ask) : ((allSets v bl f x A).1.1, (allSets v bl f x A).2) = iterF f (TL v bl) x := by
 have key : ∀ (l : List Nat) (x : X) (A : List Ask), ((iterF (perSet v bl f) l (x, A)).1.1, (iterF (perSet v bl f) l (x, A)).2) = iterF f (l.filter (leafOk v bl)) x := by
  intro l
  induction l with
  | nil => intro x A; rfl
  | cons set l ih =>
   intro x A
   simp only [iterF, List.filter_cons]
   cases h : leafOk v bl set
   ·have hp : perSet v bl f set (x, A) = ((x, (lotsMemo v bl set v.lots.toNat 0 A).2), true) := by simp only [perSet, h, Bool.false_eq_true, if_false]
    rw [hp]
    simp only [if_true, Bool.false_eq_true, if_false]
    exact ih x _
   ·have hp : perSet v bl f set (x, A) = (((f set x).1, (lotsMemo v bl set v.lots.toNat 0 A).2), (f set x).2) := by simp only [perSet, h, if_true]
    rw [hp]
    simp only [if_true, iterF]
    split
    ·exact ih _ _
    ·rfl
 exact key _ x A
theorem truths_range {X : Type} {S : List Ask → St} {v : Voy} {b p m N : Nat} {bl : List Int} (hS : MemAt S (db v b m) (tEs v bl) p m N) (hv : Vd v) (hb : ButIs b bl) (U UD : X → St) (n : Nat) (hU : ∀ x, (U x).length = n) (hUD : ∀ x, (UD x).length = n) (ok : ∀ x y, y ∈ U x → ∀ k, N ≤ k → okBlk k y) (okD : ∀ x y, y ∈ UD x → ∀ k, N ≤ k → okBlk k y)
  (J : AJump) {P : Nat → Prop} {f : Nat → X → X × Bool} (e : Env) (k : Nat) (ps : List Nat) (a bb : ACode) (ek : Env.get e k = .func 95 [] [.ptr (N + n) 0])
  (hy : YieldsT (fun x B => S B ++ (U x ++ [.cells [.ptr p 0], .loop .ready none e ps a bb])) (fun x B => S B ++ (UD x ++ [.cells [.ptr p 0], .loop .done (some J) e ps a bb])) (N + n + 1) (tArgs v bl) P f)
  (hP : ∀ t ∈ TL v bl, P t) (x : X) (A : List Ask) (K : KJ)
  (hT : ∀ τ, (iterF f (TL v bl) x).2 = true → K none e (S (allSets v bl f x A).1.2 ++ (U (iterF f (TL v bl) x).1 ++ (.cells [.ptr p 0] :: .dead :: τ))))
  (hD : ∀ τ, (iterF f (TL v bl) x).2 = false → K (some J) e (S (allSets v bl f x A).1.2 ++ (UD (iterF f (TL v bl) x).1 ++ (.cells [.ptr p 0] :: .dead :: τ)))) :
  rK (K := ⟨K⟩) T (.rangeFunc (.t k) ps a bb) e (S A ++ (U x ++ [.cells [.ptr p 0]])) := by
 have hrun := truths1_run (fam1_of hS U UD n hU hUD ok okD e ps a bb .ready .done none (some J)) hv hb hy (fun a ha hl => hP a (List.mem_filter.2 ⟨ha, hl⟩)) x A
 rw [allSets_fst] at hrun
 exact range_of (A := Nat) hS U UD n hU hUD J e k ps a bb 95 ek (iterF f (TL v bl) x) (allSets v bl f x A).1.2 x A hrun K hT hD
def stopF (_ : Nat) (x : Unit) : Unit × Bool := (x, false)
theorem stop_iter (l : List Nat) : (iterF stopF l ()).2 = l.isEmpty := by
 cases l <;> simp [iterF, stopF]
def someMemo (v : Voy) (bl : List Int) (A : List Ask) : List Ask := (allSets v bl stopF () A).1.2
theorem some_does {S : List Ask → St} {v : Voy} {b p m N : Nat} {bl : List Int} (hR : MemAt S (db v b m) (tEs v bl) p m N) (hv : Vd v) (hb : ButIs b bl) (A : List Ask) :
  Does T (.func 73 [] []) [.ptr p 0] (S A) (.bool !(truths v bl).isEmpty) (S (someMemo v bl A)) := by
 have hit := stop_iter (TL v bl)
 rw [TL_some hv] at hit
 refine does_memo hR (af := a73) rfl (by simp [a73]) ?_
 (repeat (first | simp only [↓QA, QB, Nat.reduceLT, reduceIte, Nat.reduceEqDiff, Nat.reduceAdd, Nat.reduceLeDiff, Nat.reduceMul, Nat.reduceBEq, QXDDrP7, hR.len, hR.base, hR.base0, hR.bset, hR.bset0, hR.at1, hR.at0, a73] | refine rd0 rfl ?_))
 refine callK_in rfl (by simp [a70]) ?_
 (repeat (first | simp only [↓QA, QB, Nat.reduceLT, reduceIte, Nat.reduceEqDiff, Nat.reduceAdd, Nat.reduceLeDiff, Nat.reduceMul, Nat.reduceBEq, QXDDrP7, hR.len, hR.base, hR.base0, hR.bset, hR.bset0, hR.at1, hR.at0, a70] | refine rd0 rfl ?_))
 refine truths_range hR hv hb (fun _ : Unit => [.cells [.bool false]]) (fun _ => [.cells [.bool true]]) 1 (fun _ => rfl) (fun _ => rfl) (fun _ y hy k _ => by simp at hy; subst hy; simp [okBlk, okVs, okV]) (fun _ y hy k _ => by simp at hy; subst hy; simp [okBlk, okVs, okV]) .ret (P := fun _ => True) (f := stopF) _ 4 [5, 6] _ _ ?_ ?_ (fun _ _ => trivial) () A _ ?_ ?_
 ·try simp only [TrimX, QE, Nat.reduceLT, reduceIte, Nat.reduceEqDiff, Nat.reduceAdd, Nat.reduceLeDiff, Nat.reduceMul, Nat.reduceBEq, QXDDrP7, hR.len, hR.base, hR.base0, hR.bset, hR.bset0, hR.at1, hR.at0]
 ·refine yields_of hR _ _ 1 (fun _ => rfl) (fun _ => rfl) .ret _ _ (tArgs v bl) (fun _ _ _ => rfl) _ _ ?_
  intro t _ fl tk x A' τ
  simp only [bindPs, tArgs]
  (repeat (first | simp only [↓QA, QB, Nat.reduceLT, reduceIte, Nat.reduceEqDiff, Nat.reduceAdd, Nat.reduceLeDiff, Nat.reduceMul, Nat.reduceBEq, QXDDrP7, hR.len, hR.base, hR.base0, hR.bset, hR.bset0, hR.at1, hR.at0, F73_0, stopF] | refine rd0 rfl ?_))
  exact .inr ⟨[], by simp⟩
 ·intro τ h2
  rw [hit] at h2
  (repeat (first | simp only [↓QA, QB, Nat.reduceLT, reduceIte, Nat.reduceEqDiff, Nat.reduceAdd, Nat.reduceLeDiff, Nat.reduceMul, Nat.reduceBEq, QXDDrP7, hR.len, hR.base, hR.base0, hR.bset, hR.bset0, hR.at1, hR.at0, h2] | refine rd0 rfl ?_))
  refine ⟨_, _, rfl, rfl, ?_⟩
  try simp only [QS, QC, Nat.reduceLT, reduceIte, Nat.reduceEqDiff, Nat.reduceAdd, Nat.reduceLeDiff, Nat.reduceMul, Nat.reduceBEq, QXDDrP7, hR.len, hR.base, hR.base0, hR.bset, hR.bset0, hR.at1, hR.at0]
 ·intro τ h2
  rw [hit] at h2
  (repeat (first | simp only [↓QA, QB, Nat.reduceLT, reduceIte, Nat.reduceEqDiff, Nat.reduceAdd, Nat.reduceLeDiff, Nat.reduceMul, Nat.reduceBEq, QXDDrP7, hR.len, hR.base, hR.base0, hR.bset, hR.bset0, hR.at1, hR.at0, h2] | refine rd0 rfl ?_))
  refine ⟨_, _, rfl, rfl, ?_⟩
  try simp only [QS, QC, Nat.reduceLT, reduceIte, Nat.reduceEqDiff, Nat.reduceAdd, Nat.reduceLeDiff, Nat.reduceMul, Nat.reduceBEq, QXDDrP7, hR.len, hR.base, hR.base0, hR.bset, hR.bset0, hR.at1, hR.at0]
end Go.Am.Room
set_option maxRecDepth 4000
namespace Go.Am.Room
def QXDDrP8 := And.intro @encVoy_eq (And.intro @encKp_eq (And.intro @encDoor_eq (And.intro @encLook_eq (And.intro @encSpan_eq (And.intro @S_mapKp (And.intro @S_mapDoor (And.intro @S_mapLook (And.intro @List.length_append.{0} (And.intro @db_0 (And.intro @db_1 (And.intro @db_2 (And.intro @db_3 (And.intro @db_4 (And.intro @db_5 (And.intro @db_6 (And.intro @db_7 (And.intro @db_8 (And.intro @T_sapp (And.intro @Nat.add_lt_add_iff_left (And.intro @Nat.lt_add_right_iff_pos (And.intro @Nat.mul_one (And.intro @Int.toNat_natCast (And.intro @C_yield (And.intro @K_yield (And.intro @natA_len (And.intro @natA_take (And.intro @natA_drop (And.intro @natA_cell (@S_natA)))))))))))))))))))))))))))))
theorem or_lt32 {a b : Nat} (h : a < 32) (k : b < 32) : a ||| b < 32 := Nat.or_lt_two_pow (n := 5) h k
abbrev F32 := { f : Nat → Nat // ∀ i, f i < 32 }
def allStep {v : Voy} (hv : Vd v) (n op : Nat) (f : F32) : F32 × Bool := (⟨orF f.1 (tF v [] n op), fun i => or_lt32 (f.2 i) (tF_lt hv [] n op i)⟩, true)
def f0 : F32 := ⟨fun _ => 0, fun _ => by simp⟩
theorem all_fold {v : Voy} (hv : Vd v) (n : Nat) : ∀ (l : List Nat) (f : F32), (l.foldl (fun x a => (allStep hv n a x).1) f).1 = l.foldl (fun f op => orF f (tF v [] n op)) f.1
 | [], f => rfl
 | a :: l, f => by rw [List.foldl_cons, List.foldl_cons, all_fold hv n l]; rfl
def allU (n : Nat) (f : F32) : St := [.cells [.int .i64 n], .cells (natA f.1)]
def orTo (f g : Nat → Nat) (h i : Nat) : Nat := if i < h then f i ||| g i else f i
theorem orTo_0 (f g : Nat → Nat) : orTo f g 0 = f := by funext i; simp [orTo]
theorem orTo_all (f g : Nat → Nat) : natA (orTo f g 26) = natA (orF f g) := natA_congr fun i hi => by simp [orTo, orF, hi]
theorem orTo_step (f g : Nat → Nat) (h : Nat) : updN (orTo f g h) h (f h ||| g h) = orTo f g (h + 1) := by
 funext i
 simp only [updN, orTo]
 by_cases e : i = h
 ·subst e; simp
 ·by_cases h2 : i < h
  ·simp [e, h2, show i < h + 1 by omega]
  ·simp [e, h2, show ¬ i < h + 1 by omega]
theorem orTo_at (f g : Nat → Nat) (h : Nat) : orTo f g h h = f h := by simp [orTo]
theorem all_body {S : List Ask → St} {v : Voy} {b p m N : Nat} (hR : MemAt S (db v b m) (tEs v []) p m N) (hv : Vd v) (n : Nat) (hn : n < v.lots.toNat) (t : Nat) (fl : Bool) (tk : Option Nat) (f : F32) (B : List Ask) (lp : ABlk) (τ : St) (e : Env) (G : Option AJump → St → Prop)
  (e3 : Env.get e 3 = .ptr N 0) (e4 : Env.get e 4 = .ptr (N + 1) 0) (e6 : Env.get e 6 = .lit (rowsAV v [] t v.lots.toNat) fl tk) (R : F32 × Bool) (hRr : allStep hv n t f = R) :
  wp T F61_1 e (S B ++ (allU n f ++ (.cells [.ptr p 0] :: lp :: τ))) (fun j e'' σ'' => (R.2 = true ∧ j = none ∧ ∃ τ', σ'' = S B ++ (allU n R.1 ++ (.cells [.ptr p 0] :: lp :: (τ ++ τ')))) ∨ G j σ'') := by
 have hlo := hv.lots
 subst hRr
 have hrg := rows_get v [] t hn
 have hix : vIdx 26 (rowsAV v [] t v.lots.toNat) (n : Int) tk = some (.lptr (rowsAV v [] t v.lots.toNat) n 0 tk) := by
  simp [vIdx, hrg, turnsAV, AV.cells, natA_len]
 obtain ⟨g, hg⟩ : ∃ g, tF v [] n t = g := ⟨_, rfl⟩
 have hgl : ∀ i, g i < 32 := fun i => by rw [← hg]; exact tF_lt hv [] n t i
 have hfin : natA (allStep hv n t f).1.1 = natA (orTo f.1 g 26) := by rw [orTo_all, ← hg]; rfl
 simp only [turnsAV_eq, hg] at hrg
 simp only [allU]
 rw [hfin]
 (repeat (first | simp only [↓QA, QB, Nat.reduceLT, reduceIte, Nat.reduceEqDiff, Nat.reduceAdd, Nat.reduceLeDiff, Nat.reduceMul, Nat.reduceBEq, QXDDrP8, hR.len, hR.base, hR.base0, hR.bset, hR.bset0, hR.at1, hR.at0, F61_1, e3, e4, e6, hix, hrg] | refine rd0 rfl ?_))
 refine loopE (S := Nat) 0 (fun h => h ≤ 26) (fun h => 26 - h)
  (fun h => [(4, .ptr (N + 1) 0), (16, .agg (natA g)), (17, .int .i64 h)])
  (fun h => S B ++ (.cells [.int .i64 n] :: .cells (natA (orTo f.1 g h)) :: .cells [.ptr p 0] :: lp :: τ)) (Nat.zero_le _) (by rw [orTo_0]) ?_ fun h hh => ?_
 ·try simp only [TrimX, QE, Nat.reduceLT, reduceIte, Nat.reduceEqDiff, Nat.reduceAdd, Nat.reduceLeDiff, Nat.reduceMul, Nat.reduceBEq, QXDDrP8, hR.len, hR.base, hR.base0, hR.bset, hR.bset0, hR.at1, hR.at0, e4]
  try simp
 ·(repeat (first | simp only [↓QA, QB, Nat.reduceLT, reduceIte, Nat.reduceEqDiff, Nat.reduceAdd, Nat.reduceLeDiff, Nat.reduceMul, Nat.reduceBEq, QXDDrP8, hR.len, hR.base, hR.base0, hR.bset, hR.bset0, hR.at1, hR.at0, L61_2] | refine rd0 rfl ?_))
  refine iteP_intro (fun hd => ?_) fun hd => ?_
  ·have hh1 : h < 26 := by simp at hd; omega
   have hw := wrapN hh1 (by omega)
   have ih : (0 : Int) ≤ (h : Int) ∧ (h : Int) < ((26 : Nat) : Int) := ⟨by omega, by omega⟩
   have c25 : h ≤ 25 := by omega
   have hg1 := natA_get (orTo f.1 g h) hh1
   rw [orTo_at] at hg1
   have hg2 := natA_get g hh1
   have h1 := f.2 h
   have h2 := hgl h
   have hor := V_or (f.1 h) (g h) (by omega) (by omega)
   have hs := natA_set (orTo f.1 g h) (f.1 h ||| g h) hh1
   rw [orTo_step] at hs
   (repeat (first | simp only [↓QA, QB, Nat.reduceLT, reduceIte, Nat.reduceEqDiff, Nat.reduceAdd, Nat.reduceLeDiff, Nat.reduceMul, Nat.reduceBEq, QXDDrP8, hR.len, hR.base, hR.base0, hR.bset, hR.bset0, hR.at1, hR.at0, ih, c25, hg1, hg2, hor, hs, V_ixA] | refine rd0 rfl ?_))
   refine ⟨h + 1, by omega, by omega, ?_⟩
   try simp only [TrimX, QE, Nat.reduceLT, reduceIte, Nat.reduceEqDiff, Nat.reduceAdd, Nat.reduceLeDiff, Nat.reduceMul, Nat.reduceBEq, QXDDrP8, hR.len, hR.base, hR.base0, hR.bset, hR.bset0, hR.at1, hR.at0, hw]
   try simp [okBlk, okVs, okV, natA_ok]
   try omega
  ·have hh1 : h = 26 := by simp at hd; omega
   subst hh1
   (repeat (first | simp only [↓QA, QB, Nat.reduceLT, reduceIte, Nat.reduceEqDiff, Nat.reduceAdd, Nat.reduceLeDiff, Nat.reduceMul, Nat.reduceBEq, QXDDrP8, hR.len, hR.base, hR.base0, hR.bset, hR.bset0, hR.at1, hR.at0] | refine rd0 rfl ?_))
   exact .inl ⟨rfl, [], by simp⟩
def allMemo {v : Voy} (hv : Vd v) (n : Nat) (A : List Ask) : List Ask := (allSets v [] (allStep hv n) f0 A).1.2
theorem all_does {S : List Ask → St} {v : Voy} {b p m N : Nat} (hR : MemAt S (db v b m) (tEs v []) p m N) (hv : Vd v) (hb : ButIs b []) (n : Nat) (hn : n < v.lots.toNat) (A : List Ask) :
  Does T (.func 61 [] []) [.ptr p 0, .int .i64 n] (S A) (.agg (natA (allF v n))) (S (allMemo hv n A)) := by
 have hgo := iterF_go (f := allStep hv n) (fun _ _ => rfl) (TL v []) f0
 obtain ⟨Y, hY⟩ : ∃ Y, (TL v []).foldl (fun x a => (allStep hv n a x).1) f0 = Y := ⟨_, rfl⟩
 have hYe : Y.1 = allF v n := by rw [← hY, all_fold hv]; rfl
 rw [hY] at hgo
 have hok : ∀ (x : F32) (y : ABlk), y ∈ allU n x → ∀ k, N ≤ k → okBlk k y := by
  intro x y hy k hk
  simp only [allU, List.mem_cons, List.not_mem_nil, or_false] at hy
  rcases hy with rfl | rfl
  ·simp [okBlk, okVs, okV]
  ·exact natA_ok _ _
 refine does_memo hR (af := a61) rfl (by simp [a61]) ?_
 (repeat (first | simp only [↓QA, QB, Nat.reduceLT, reduceIte, Nat.reduceEqDiff, Nat.reduceAdd, Nat.reduceLeDiff, Nat.reduceMul, Nat.reduceBEq, QXDDrP8, hR.len, hR.base, hR.base0, hR.bset, hR.bset0, hR.at1, hR.at0, a61, ← z26] | refine rd0 rfl ?_))
 refine callK_in rfl (by simp [a70]) ?_
 (repeat (first | simp only [↓QA, QB, Nat.reduceLT, reduceIte, Nat.reduceEqDiff, Nat.reduceAdd, Nat.reduceLeDiff, Nat.reduceMul, Nat.reduceBEq, QXDDrP8, hR.len, hR.base, hR.base0, hR.bset, hR.bset0, hR.at1, hR.at0, a70] | refine rd0 rfl ?_))
 refine truths_range hR hv hb (allU n) (allU n) 2 (fun _ => rfl) (fun _ => rfl) hok hok .ret (P := fun _ => True) (f := allStep hv n) _ 10 [11, 12] _ _ ?_ ?_ (fun _ _ => trivial) f0 A _ ?_ ?_
 ·try simp only [TrimX, QE, Nat.reduceLT, reduceIte, Nat.reduceEqDiff, Nat.reduceAdd, Nat.reduceLeDiff, Nat.reduceMul, Nat.reduceBEq, QXDDrP8, hR.len, hR.base, hR.base0, hR.bset, hR.bset0, hR.at1, hR.at0]
 ·refine yields_of hR (allU n) (allU n) 2 (fun _ => rfl) (fun _ => rfl) .ret _ _ (tArgs v []) (fun _ _ _ => rfl) _ _ ?_
  intro t _ fl tk x B τ
  simp only [bindPs, tArgs]
  (repeat (first | simp only [↓QA, QB, Nat.reduceLT, reduceIte, Nat.reduceEqDiff, Nat.reduceAdd, Nat.reduceLeDiff, Nat.reduceMul, Nat.reduceBEq, QXDDrP8, hR.len, hR.base, hR.base0, hR.bset, hR.bset0, hR.at1, hR.at0] | refine rd0 rfl ?_))
  obtain ⟨R, hRr⟩ : ∃ R, allStep hv n t x = R := ⟨_, rfl⟩
  rw [hRr]
  refine all_body hR hv n hn t fl tk x B _ τ _ _ ?_ ?_ ?_ R hRr
  all_goals try simp only [TrimX, QE, Nat.reduceLT, reduceIte, Nat.reduceEqDiff, Nat.reduceAdd, Nat.reduceLeDiff, Nat.reduceMul, Nat.reduceBEq, QXDDrP8, hR.len, hR.base, hR.base0, hR.bset, hR.bset0, hR.at1, hR.at0]
 ·intro τ h2
  rw [hgo]
  simp only [allU]
  (repeat (first | simp only [↓QA, QB, Nat.reduceLT, reduceIte, Nat.reduceEqDiff, Nat.reduceAdd, Nat.reduceLeDiff, Nat.reduceMul, Nat.reduceBEq, QXDDrP8, hR.len, hR.base, hR.base0, hR.bset, hR.bset0, hR.at1, hR.at0, hYe, ← z26] | refine rd0 rfl ?_))
  exact ⟨_, _, rfl, rfl, by try simp only [QS, QC, Nat.reduceLT, reduceIte, Nat.reduceEqDiff, Nat.reduceAdd, Nat.reduceLeDiff, Nat.reduceMul, Nat.reduceBEq, QXDDrP8, hR.len, hR.base, hR.base0, hR.bset, hR.bset0, hR.at1, hR.at0, S_natA]⟩
 ·intro τ h2
  rw [hgo] at h2
  cases h2
theorem tEs_ok (v : Voy) (bl : List Int) (A : List Ask) (k : Nat) : okBlk k (.map (tEs v bl A)) := key_ok (ask_key v bl) A k
def entS (σ : St) (v : Voy) (A : List Ask) : St := σ ++ [.cells (voyCells v), .cells (voyCells v), .map (tEs v [] A), .cells (db v 0 (σ.length + 2))]
theorem voy_at (σ : St) (v : Voy) : MemAt (entS σ v) (db v 0 (σ.length + 2)) (tEs v []) (σ.length + 3) (σ.length + 2) (σ.length + 4) :=
 ⟨fun M => by simp [entS], fun M => by simp [entS, M_base, M_atS, M_at0], fun M => by rw [entS, st_get]; rfl, fun M M' => by rw [entS, entS, st_set]; rfl, fun A k => tEs_ok v [] A k, by omega, by omega⟩
def enterV (v : Voy) (n : Int) (k : Nat) : AV := if lotErr v n = 0 then .tuple [.ptr (k + 3) 0, .int .i64 0] else .tuple [.nilPtr, .int .i64 (lotErr v n)]
def memo0 (v : Voy) : List Ask := someMemo v [] []
def enterSt (σ : St) (v : Voy) (n : Int) : St := if lotErr v n = 0 then entS σ v (memo0 v) else σ
end Go.Am.Room
set_option maxRecDepth 4000
namespace Go.Am.Room
def QXDDrP9 := And.intro @encVoy_eq (And.intro @voyCells_eq (And.intro @encKp_eq (And.intro @encDoor_eq (And.intro @encLook_eq (And.intro @encSpan_eq (And.intro @S_mapKp (And.intro @S_mapDoor (And.intro @S_mapLook (And.intro @List.length_append.{0} (And.intro @T_sapp (And.intro @Nat.add_lt_add_iff_left (And.intro @Nat.lt_add_right_iff_pos (And.intro @Nat.mul_one (@Int.toNat_natCast))))))))))))))
theorem enter_run (σ : St) (v : Voy) (n : Int) (hf : Fits v) : Does T (.func 60 [] []) [encVoy v, .int .i64 n] σ (enterV v n σ.length) (enterSt σ v n) := by
 refine .callf (.call (af := a60) rfl (by simp [a60]) (run_wp (K := fun j e σ1 => (j = none ∨ j = some .ret) ∧ (if lotErr v n = 0 then Env.get e 4 = .ptr (σ.length + 3) 0 ∧ Env.get e 5 = .int .i64 0 ∧ σ1 = entS σ v (memo0 v) else Env.get e 4 = .nilPtr ∧ Env.get e 5 = .int .i64 (lotErr v n) ∧ ∃ τ, σ1 = σ ++ τ)) ?_ fun o ho => ho) fun o ho => ?_)
 ·obtain ⟨E, hE⟩ : ∃ E, lotErr v n = E := ⟨_, rfl⟩
  have hE2 : errKnown v (errAsk v n) = E := hE
  rw [hE]
  (repeat (first | simp only [↓QA, QB, Nat.reduceLT, reduceIte, Nat.reduceEqDiff, Nat.reduceAdd, Nat.reduceLeDiff, Nat.reduceMul, Nat.reduceBEq, QXDDrP9, a60] | refine rd0 rfl ?_))
  ((first | refine callK_d (check_ok v hf) rfl dd ?_ | refine callD_d (check_ok v hf) rfl dd ?_); (repeat (first | simp only [↓QA, QB, Nat.reduceLT, reduceIte, Nat.reduceEqDiff, Nat.reduceAdd, Nat.reduceLeDiff, Nat.reduceMul, Nat.reduceBEq, QXDDrP9, enc3] | refine rd0 rfl ?_)))
  cases h0 : ((check v).2.2 == 0)
  ·have h0' : (check v).2.2 ≠ 0 := by simpa using h0
   have he : E = (check v).2.2 := by rw [← hE2]; simp [errAsk, h0', errKnown]
   (repeat (first | simp only [↓QA, QB, Nat.reduceLT, reduceIte, Nat.reduceEqDiff, Nat.reduceAdd, Nat.reduceLeDiff, Nat.reduceMul, Nat.reduceBEq, QXDDrP9, h0] | refine rd0 rfl ?_))
   rw [he, if_neg h0']
   simp
  ·have h0' : (check v).2.2 = 0 := by simpa using h0
   have hv := vd_of_check h0'
   have hlo := hv.lots
   have hws : IntKind.i64.wrap (v.lots - 1) = v.lots - 1 := wrap64 ⟨by omega, by omega⟩
   (repeat (first | simp only [↓QA, QB, Nat.reduceLT, reduceIte, Nat.reduceEqDiff, Nat.reduceAdd, Nat.reduceLeDiff, Nat.reduceMul, Nat.reduceBEq, QXDDrP9, h0, hws] | refine rd0 rfl ?_))
   ((first | refine callK_v (beyond_ok 0 (v.lots - 1) [n] (by simp)) (by simp [clr, clrs, ints]) (by simp [okV, okVs]) ?_ | refine callD_v (beyond_ok 0 (v.lots - 1) [n] (by simp)) (by simp [clr, clrs, ints]) (by simp [okV, okVs]) ?_); (repeat (first | simp only [↓QA, QB, Nat.reduceLT, reduceIte, Nat.reduceEqDiff, Nat.reduceAdd, Nat.reduceLeDiff, Nat.reduceMul, Nat.reduceBEq, QXDDrP9, beyond1] | refine rd0 rfl ?_)))
   cases h1 : inR n 0 (v.lots - 1)
   ·have he : E = 4 := by rw [← hE2]; simp [errAsk, h0', h1, errKnown]
    subst he
    (repeat (first | simp only [↓QA, QB, Nat.reduceLT, reduceIte, Nat.reduceEqDiff, Nat.reduceAdd, Nat.reduceLeDiff, Nat.reduceMul, Nat.reduceBEq, QXDDrP9] | refine rd0 rfl ?_))
    simp
   ·have hEk : E = errKnown v 0 := by rw [← hE2]; simp [errAsk, h0', h1]
    have hlk := look_run (σ ++ [.cells (voyCells v)]) v 0
    have hso := some_does (voy_at σ v) hv but0 []
    have e0 : tEs v [] [] = [] := rfl
    simp only [entS, lookSt, e0] at hso hlk
    try simp only [↓QA, QB, Nat.reduceLT, reduceIte, Nat.reduceEqDiff, Nat.reduceAdd, Nat.reduceLeDiff, Nat.reduceMul, Nat.reduceBEq, QXDDrP9, List.append_assoc] at hso hlk
    (repeat (first | simp only [↓QA, QB, Nat.reduceLT, reduceIte, Nat.reduceEqDiff, Nat.reduceAdd, Nat.reduceLeDiff, Nat.reduceMul, Nat.reduceBEq, QXDDrP9] | refine rd0 rfl ?_))
    refine callK_do hlk ?_
    (repeat (first | simp only [↓QA, QB, Nat.reduceLT, reduceIte, Nat.reduceEqDiff, Nat.reduceAdd, Nat.reduceLeDiff, Nat.reduceMul, Nat.reduceBEq, QXDDrP9] | refine rd0 rfl ?_))
    refine callK_do hso ?_
    cases hs : (truths v []).isEmpty
    ·have he : E = 0 := by rw [hEk]; simp [errKnown, hs]
     subst he
     (repeat (first | simp only [↓QA, QB, Nat.reduceLT, reduceIte, Nat.reduceEqDiff, Nat.reduceAdd, Nat.reduceLeDiff, Nat.reduceMul, Nat.reduceBEq, QXDDrP9] | refine rd0 rfl ?_))
     simp [entS, memo0, voyCells, ints]
    ·have he : E = 8 := by rw [hEk]; simp [errKnown, hs]
     subst he
     (repeat (first | simp only [↓QA, QB, Nat.reduceLT, reduceIte, Nat.reduceEqDiff, Nat.reduceAdd, Nat.reduceLeDiff, Nat.reduceMul, Nat.reduceBEq, QXDDrP9] | refine rd0 rfl ?_))
     simp
 ·obtain ⟨hj, ho⟩ := ho
  by_cases he : lotErr v n = 0
  ·rw [if_pos he] at ho
   refine ⟨hj, enterV v n σ.length, ?_, .inl ⟨rfl, ?_⟩⟩
   ·simp [resOf, resAV, a60, ho.1, ho.2.1, enterV, he]
   ·rw [ho.2.2, enterSt, if_pos he]
  ·rw [if_neg he] at ho
   obtain ⟨h4, h5, τ, hσ⟩ := ho
   refine ⟨hj, enterV v n σ.length, ?_, .inr ⟨20, enterV v n σ.length, enterV v n σ.length, ?_, .inl rfl, fun i hi => .inl (by rw [hσ]; exact List.getElem?_append_left hi), by rw [hσ]; simp, rfl, by rw [hσ]; simp [enterSt, he]⟩⟩
   ·simp [resOf, resAV, a60, h4, h5, enterV, he]
   ·simp [enterV, he, snap, snaps]
def spUp (f : Nat → Nat) : Nat → Int × Int
 | 0 => (-1, 0)
 | k + 1 => if f k = 0 then spUp f k else (if (spUp f k).1 < 0 then (k : Int) else (spUp f k).1, (k : Int))
theorem sp_spec (f : Nat → Nat) : ∀ k, (spUp f k = (-1, 0) ∧ ∀ i, i < k → f i = 0) ∨ (∃ a b : Nat, spUp f k = ((a : Int), (b : Int)) ∧ a < k ∧ b < k ∧ f a ≠ 0 ∧ f b ≠ 0 ∧ ∀ i, i < k → f i ≠ 0 → a ≤ i ∧ i ≤ b)
 | 0 => .inl ⟨rfl, fun i hi => by omega⟩
 | k + 1 => by
  have ih := sp_spec f k
  simp only [spUp]
  by_cases h : f k = 0
  ·rw [if_pos h]
   rcases ih with ⟨e, h0⟩ | ⟨a, b, e, ha, hb, fa, fb, hr⟩
   ·left
    refine ⟨e, fun i hi => ?_⟩
    by_cases hk : i = k
    ·subst hk; exact h
    ·exact h0 i (by omega)
   ·right
    refine ⟨a, b, e, by omega, by omega, fa, fb, fun i hi hf => ?_⟩
    by_cases hk : i = k
    ·subst hk; exact absurd h hf
    ·exact hr i (by omega) hf
  ·rw [if_neg h]
   right
   rcases ih with ⟨e, h0⟩ | ⟨a, b, e, ha, hb, fa, fb, hr⟩
   ·refine ⟨k, k, by rw [e]; simp, by omega, by omega, h, h, fun i hi hf => ?_⟩
    by_cases hk : i = k
    ·omega
    ·exact absurd (h0 i (by omega)) hf
   ·refine ⟨a, k, by rw [e]; simp only; rw [if_neg (by omega)], by omega, by omega, fa, h, fun i hi hf => ?_⟩
    by_cases hk : i = k
    ·omega
    ·have := hr i (by omega) hf
     omega
theorem way_nz {v : Voy} (hv : Vd v) {N : Nat} (hn : N < v.lots.toNat) {w : Tn} (hw : w ∈ turnsIn (truths v []) N) : (w.hour = -1 ∧ allF v N 25 ≠ 0) ∨ (∃ i : Nat, i < 25 ∧ w.hour = (i : Int) ∧ allF v N i ≠ 0) := by
 rcases way_in hn hw with e | e
 ·left
  refine ⟨by rw [e], (all_nz hv hn (by omega)).2 ⟨w, hw, by rw [e]; rfl⟩⟩
 ·right
  have := hv.hours
  refine ⟨w.hour.toNat, by omega, by omega, (all_nz hv hn (by omega)).2 ⟨w, hw, ?_⟩⟩
  simp only [hAt]
  rw [if_neg (by omega)]
  omega
theorem nz_hour {v : Voy} (hv : Vd v) {N : Nat} (hn : N < v.lots.toNat) {i : Nat} (hi : i < 25) (h : allF v N i ≠ 0) : (i : Int) ∈ hoursIn (truths v []) N := by
 obtain ⟨w, hw, e⟩ := (all_nz hv hn (by omega)).1 h
 simp only [hAt] at e
 rw [if_neg (by omega)] at e
 exact mem_hours.2 ⟨by omega, w, hw, e⟩
theorem turned_law {v : Voy} (hv : Vd v) (hs : someB v [] = true) {N : Nat} (hn : N < v.lots.toNat) :
  ((spUp (allF v N) 25).1 < 0 ∧ spanIn (truths v []) N = ⟨0, 0⟩ ∧ howIn (truths v []) N = 2) ∨
  (¬ (spUp (allF v N) 25).1 < 0 ∧ spanIn (truths v []) N = ⟨(spUp (allF v N) 25).1, (spUp (allF v N) 25).2⟩ ∧ howIn (truths v []) N = if allF v N 25 = 0 then 1 else 0) := by
 have hne := turns_ne hs hn
 rcases sp_spec (allF v N) 25 with ⟨e, h0⟩ | ⟨a, b, e, ha, hb, fa, fb, hr⟩
 ·left
  have h2 : howIn (truths v []) N = 2 := how_two.2 ⟨hne, fun w hw => by
   rcases way_nz hv hn hw with h | ⟨i, hi, _, h⟩
   ·exact h.1
   ·exact absurd (h0 i hi) h⟩
  exact ⟨by rw [e]; decide, (short_never hn h2 0).2, h2⟩
 ·right
  have hA := nz_hour hv hn ha fa
  have hB := nz_hour hv hn hb fb
  have hrange : ∀ x ∈ hoursIn (truths v []) N, (a : Int) ≤ x ∧ x ≤ (b : Int) := fun x hx => by
   obtain ⟨h1, w, hw, e1⟩ := mem_hours.1 hx
   rcases way_nz hv hn hw with h | ⟨i, hi, e2, h⟩
   ·exact absurd (e1 ▸ h.1) h1
   ·have := hr i hi h
    omega
  obtain ⟨s1, s2, s3⟩ := spanL_spec (List.ne_nil_of_mem hA)
  refine ⟨by rw [e]; simp only; omega, ?_, ?_⟩
  ·rw [e]
   have q1 := hrange _ s1
   have q2 := hrange _ s2
   have q3 := s3 _ hA
   have q4 := s3 _ hB
   show spanL (hoursIn (truths v []) N) = _
   generalize spanL (hoursIn (truths v []) N) = s at *
   cases s
   simp only at *
   congr 1 <;> omega
  ·have h2 : howIn (truths v []) N ≠ 2 := fun h => by
    obtain ⟨h1, w, hw, e1⟩ := mem_hours.1 hA
    exact h1 (e1 ▸ (how_two.1 h).2 w hw)
   by_cases h25 : allF v N 25 = 0
   ·rw [if_pos h25]
    refine how_one.2 fun w hw h => ?_
    rcases way_nz hv hn hw with q | ⟨i, hi, e2, _⟩
    ·exact q.2 h25
    ·omega
   ·rw [if_neg h25]
    have h1 : howIn (truths v []) N ≠ 1 := fun h => by
     obtain ⟨w, hw, e⟩ := (all_nz hv hn (by omega : 25 < 26)).1 h25
     exact how_one.1 h w hw e
    rcases how_cases (truths v []) N with h | h | h
    ·exact h
    ·exact absurd h h1
    ·exact absurd h h2
def orUp (f : Nat → Nat) : Nat → Nat
 | 0 => 0
 | k + 1 => orUp f k ||| f k
theorem orUp_bit (f : Nat → Nat) (d : Nat) : ∀ k, (orUp f k).testBit d = (List.range k).any fun i => (f i).testBit d
 | 0 => by simp [orUp]
 | k + 1 => by simp [orUp, Nat.testBit_or, orUp_bit f d k, List.range_succ, List.any_append]
theorem orUp_lt {f : Nat → Nat} {n : Nat} (h : ∀ i, f i < 2 ^ n) : ∀ k, orUp f k < 2 ^ n
 | 0 => Nat.two_pow_pos n
 | k + 1 => Nat.or_lt_two_pow (orUp_lt h k) (h k)
def causeBits (v : Voy) (N i : Nat) : Nat := allF v N i &&& 15
def causeSet (v : Voy) (N : Nat) : Nat := orUp (causeBits v N) 26
theorem causeBits_lt (v : Voy) (N i : Nat) : causeBits v N i < 16 := Nat.lt_succ_of_le Nat.and_le_right
theorem bit15 : ∀ d : Fin 4, (15 : Nat).testBit d.val = true := by decide
theorem bit16 : ∀ d : Fin 4, (16 : Nat).testBit d.val = false := by decide
theorem all25 {v : Voy} (hv : Vd v) (N : Nat) {d : Nat} (hd : d < 4) : (allF v N 25).testBit d = false := by
 simp only [allF, fold_bit, Nat.zero_testBit, Bool.false_or, List.any_eq_false]
 intro op _
 rw [tF_never hv]
 split
 ·have := bit16 ⟨d, hd⟩
  simp only at this
  rw [this]; simp
 ·simp
theorem causes_law {v : Voy} (hv : Vd v) {N : Nat} (hn : N < v.lots.toNat) : lst v.doors.length (causeSet v N) = causesIn v (truths v []) N := by
 have hdr := hv.ndr
 simp only [lst, causesIn]
 refine List.filter_congr fun x hx => ?_
 have hxr := (numbers_mem _ _ _).1 hx
 obtain ⟨d, rfl⟩ : ∃ d : Nat, x = d := ⟨x.toNat, by omega⟩
 have hd4 : d < 4 := by omega
 have h15 := bit15 ⟨d, hd4⟩
 simp only at h15
 simp only [Int.toNat_natCast]
 rw [← bit_div, causeSet, orUp_bit, Bool.eq_iff_iff]
 simp only [List.any_eq_true, List.mem_range, causeBits, Nat.testBit_and, h15, Bool.and_true, isCause, decide_eq_true_eq]
 constructor
 ·rintro ⟨i, hi, hb⟩
  by_cases h25 : i = 25
  ·subst h25; rw [all25 hv N hd4] at hb; cases hb
  ·exact ⟨_, ((all_bit hv hn (by omega)).1 hb).2, rfl⟩
 ·rintro ⟨w, hw, e⟩
  rcases way_in hn hw with e2 | e2
  ·rw [e2] at e; simp only at e; omega
  ·have := hv.hours
   refine ⟨w.hour.toNat, by omega, (all_bit hv hn (by omega)).2 ⟨by omega, ?_⟩⟩
   have : (⟨((w.hour.toNat : Nat) : Int), (d : Int)⟩ : Tn) = w := by
    cases w
    simp only at e e2 ⊢
    congr 1 <;> omega
   rw [this]; exact hw
def orL (g : Int → Nat) (l : List Int) (s : Nat) : Nat := l.foldl (fun s d => s ||| 2 ^ g d) s
theorem orL_bit (g : Int → Nat) (k : Nat) : ∀ (l : List Int) (s : Nat), (orL g l s).testBit k = (s.testBit k || l.any fun d => decide (g d = k))
 | [], s => by simp [orL]
 | d :: l, s => by
  have ih := orL_bit g k l (s ||| 2 ^ g d)
  simp only [orL, List.foldl_cons, List.any_cons] at ih ⊢
  rw [ih, Nat.testBit_or, Nat.testBit_two_pow, Bool.or_assoc]
theorem orL_lt {g : Int → Nat} {n : Nat} : ∀ {l : List Int} {s : Nat}, s < 2 ^ n → (∀ d ∈ l, g d < n) → orL g l s < 2 ^ n
 | [], s, h, _ => h
 | d :: l, s, h, hg => orL_lt (l := l) (Nat.or_lt_two_pow h (Nat.pow_lt_pow_right (by omega) (hg d (by simp)))) fun x hx => hg x (by simp [hx])
theorem whose_law {v : Voy} (hv : Vd v) (ds : List Int) : lst v.keepers.length (orL (fun d => (keeperAt v (doorHour v d)).toNat) ds 0) = whoseIn v ds := by
 simp only [lst, whoseIn]
 refine List.filter_congr fun x hx => ?_
 have hxr := (numbers_mem _ _ _).1 hx
 rw [← bit_div, orL_bit, Nat.zero_testBit, Bool.false_or]
 congr 1
 funext d
 have := (keeper_in hv (doorHour v d)).1
 rw [decide_eq_decide]
 omega
theorem and_bit (d : Nat) : ∀ (l : List Nat) (a : Nat), (l.foldl (fun a op => a &&& op) a).testBit d = (a.testBit d && l.all fun op => op.testBit d)
 | [], a => by simp
 | x :: l, a => by rw [List.foldl_cons, and_bit d l, Nat.testBit_and, List.all_cons, Bool.and_assoc]
theorem or_bit (d : Nat) : ∀ (l : List Nat) (a : Nat), (l.foldl (fun a op => a ||| op) a).testBit d = (a.testBit d || l.any fun op => op.testBit d)
 | [], a => by simp
 | x :: l, a => by rw [List.foldl_cons, or_bit d l, Nat.testBit_or, List.any_cons, Bool.or_assoc]
theorem sure_law {v : Voy} (hv : Vd v) : lst v.doors.length ((TL v []).foldl (fun a op => a &&& op) (2 ^ v.doors.length - 1)) = (numbers 0 v.doors.length).filter (sureOp (truths v [])) := by
 simp only [lst]
 refine List.filter_congr fun x hx => ?_
 have hxr := (numbers_mem _ _ _).1 hx
 obtain ⟨d, rfl⟩ : ∃ d : Nat, x = d := ⟨x.toNat, by omega⟩
 have hd : d < v.doors.length := by omega
 rw [← bit_div, Int.toNat_natCast, and_bit, Nat.testBit_two_pow_sub_one, sureOp, truths_TL hv, List.all_map]
 simp only [hd, decide_true, Bool.true_and]
 congr 1
 funext op
 simp only [Function.comp_apply, truthAt, has_lst hd]
theorem may_law {v : Voy} (hv : Vd v) : lst v.doors.length ((TL v []).foldl (fun a op => a ||| op) 0) = (numbers 0 v.doors.length).filter (mayOp (truths v [])) := by
 simp only [lst]
 refine List.filter_congr fun x hx => ?_
 have hxr := (numbers_mem _ _ _).1 hx
 obtain ⟨d, rfl⟩ : ∃ d : Nat, x = d := ⟨x.toNat, by omega⟩
 have hd : d < v.doors.length := by omega
 rw [← bit_div, Int.toNat_natCast, or_bit, Nat.zero_testBit, Bool.false_or, mayOp, truths_TL hv, List.any_map]
 congr 1
 funext op
 simp only [Function.comp_apply, truthAt, has_lst hd]
def sureUp (v : Voy) : Nat → Nat
 | 0 => 0
 | k + 1 => sureUp v k ||| (if isSure v (k : Int) = true then 2 ^ k else 0)
theorem sureUp_bit (v : Voy) (d : Nat) : ∀ k, (sureUp v k).testBit d = (decide (d < k) && isSure v (d : Int))
 | 0 => by simp [sureUp]
 | k + 1 => by
  simp only [sureUp, Nat.testBit_or, sureUp_bit v d k]
  by_cases h1 : d = k
  ·subst h1
   cases h2 : isSure v (d : Int)
   ·simp
   ·simp [Nat.testBit_two_pow_self]
  ·have h3 : (if isSure v (k : Int) = true then 2 ^ k else 0).testBit d = false := by
    split
    ·exact Nat.testBit_two_pow_of_ne (fun e => h1 e.symm)
    ·simp
   have h4 : decide (d < k + 1) = decide (d < k) := by rw [decide_eq_decide]; omega
   rw [h3, h4, Bool.or_false]
theorem sureUp_lt (v : Voy) : ∀ k, sureUp v k < 2 ^ k
 | 0 => by simp [sureUp]
 | k + 1 => by
  have ih := sureUp_lt v k
  have h2 : 2 ^ (k + 1) = 2 ^ k * 2 := Nat.pow_succ 2 k
  refine Nat.or_lt_two_pow (by omega) ?_
  have := Nat.two_pow_pos k
  split <;> omega
theorem unsure_law {v : Voy} (hv : Vd v) {op : Nat} (ho : op < 16) : lst v.doors.length (andN op (sureUp v v.doors.length)) = unsure v (lst v.doors.length op) := by
 have hdr := hv.ndr
 have hsl : sureUp v v.doors.length < 9223372036854775808 := Nat.lt_of_lt_of_le (sureUp_lt v _) (Nat.le_trans (Nat.pow_le_pow_right (by omega) hdr : 2 ^ v.doors.length ≤ 2 ^ 4) (by omega))
 simp only [lst, unsure, List.filter_filter]
 refine List.filter_congr fun x hx => ?_
 have hxr := (numbers_mem _ _ _).1 hx
 obtain ⟨d, rfl⟩ : ∃ d : Nat, x = d := ⟨x.toNat, by omega⟩
 have hd : d < v.doors.length := by omega
 rw [← bit_div, ← bit_div, Int.toNat_natCast, andN_bit hsl _ _ (by omega), sureUp_bit]
 simp only [hd, decide_true, Bool.true_and]
 rw [Bool.and_comm]
def fewF (l : List Int) (x : List Int × Bool) : List Int × Bool := if (x.2 || fewer l x.1) = true then (l, false) else x
theorem fewF_fold : ∀ (ls : List (List Int)) (b : List Int), ls.foldl (fun x l => fewF l x) (b, false) = (ls.foldl best b, false)
 | [], b => rfl
 | l :: ls, b => by
  simp only [List.foldl_cons]
  have : fewF l (b, false) = (best b l, false) := by
   simp only [fewF, best, Bool.false_or]
   split <;> rfl
  rw [this, fewF_fold ls]
theorem fewest_law {v : Voy} (hv : Vd v) (hs : someB v [] = true) : ((TL v []).foldl (fun x op => fewF (lst v.doors.length (andN op (sureUp v v.doors.length))) x) ([], true)).1 = fewestL v (truths v []) := by
 have hlt := TL_lt hv (bl := [])
 have hne : TL v [] ≠ [] := by
  intro e
  have := TL_some hv []
  rw [e] at this
  simp [someB, ← this] at hs
 rw [truths_TL hv]
 cases hT : TL v [] with
 | nil => exact absurd hT hne
 | cons op l =>
  rw [hT] at hlt
  simp only [List.foldl_cons, List.map_cons, fewestL]
  have e1 : fewF (lst v.doors.length (andN op (sureUp v v.doors.length))) ([], true) = (unsure v (lst v.doors.length op), false) := by
   rw [unsure_law hv (hlt op (by simp)).1]; rfl
  rw [e1]
  have e2 : ∀ (l : List Nat) (x : List Int × Bool), (∀ t ∈ l, t < 16) → l.foldl (fun x op => fewF (lst v.doors.length (andN op (sureUp v v.doors.length))) x) x = (l.map fun op => unsure v (lst v.doors.length op)).foldl (fun x l => fewF l x) x := by
   intro l
   induction l with
   | nil => intro x _; rfl
   | cons a l ih =>
    intro x h
    simp only [List.foldl_cons, List.map_cons]
    rw [unsure_law hv (h a (by simp)), ih _ fun t ht => h t (by simp [ht])]
  rw [e2 l _ fun t ht => (hlt t (by simp [ht])).1, fewF_fold]
  simp only [List.map_map]
  rfl
def canP (f : Nat → Nat) (k : Nat) : List Int := (numbers 0 k).filter fun h => decide (f h.toNat ≠ 0)
theorem canP_succ (f : Nat → Nat) (k : Nat) : canP f (k + 1) = canP f k ++ (if f k ≠ 0 then [(k : Int)] else []) := by
 simp only [canP, numbers_snoc, List.filter_append, Int.zero_add]
 congr 1
 simp only [List.filter_cons, List.filter_nil, Int.toNat_natCast]
 by_cases h : f k = 0 <;> simp [h]
theorem canP_len (f : Nat → Nat) (k : Nat) : (canP f k).length ≤ k := by
 have := List.length_filter_le (fun h : Int => decide (f h.toNat ≠ 0)) (numbers 0 k)
 rw [numbers_len] at this
 exact this
theorem numbers_nodup : ∀ (n : Nat) (a : Int), (numbers a n).Nodup
 | 0, a => List.nodup_nil
 | n + 1, a => by
  simp only [numbers, List.nodup_cons, numbers_mem]
  exact ⟨by omega, numbers_nodup n (a + 1)⟩
def hMap (h : Int) : Int := if h = -1 then 25 else h
theorem can_perm {v : Voy} (hv : Vd v) {N : Nat} (hn : N < v.lots.toNat) : (canP (allF v N) 26).Perm ((canIn v (truths v []) N).map hMap) := by
 have hhr := hv.hours
 have hle : ∀ x ∈ canIn v (truths v []) N, -1 ≤ x ∧ x ≤ 24 := fun x hx => by
  obtain ⟨w, hw, e⟩ := (mem_can hv hn).1 hx
  rcases way_in hn hw with q | q
  ·rw [q] at e; simp only at e; omega
  ·omega
 refine (List.perm_ext_iff_of_nodup ((numbers_nodup 26 0).filter _) ?_).2 fun a => ?_
 ·refine List.pairwise_map.2 (List.Pairwise.imp_of_mem (fun {x y} hx hy hne h => ?_) ((numbers_nodup _ _).filter _))
  have := hle x hx
  have := hle y hy
  apply hne
  simp only [hMap] at h
  split at h <;> split at h <;> omega
 ·simp only [canP, List.mem_filter, numbers_mem, decide_eq_true_eq, List.mem_map]
  constructor
  ·rintro ⟨hr, hf⟩
   obtain ⟨w, hw, e⟩ := (all_nz hv hn (by omega)).1 hf
   refine ⟨w.hour, (mem_can hv hn).2 ⟨w, hw, rfl⟩, ?_⟩
   simp only [hAt] at e
   simp only [hMap]
   split at e
   ·rw [if_pos e]; omega
   ·rw [if_neg (by omega)]; omega
  ·rintro ⟨x, hx, rfl⟩
   obtain ⟨w, hw, e⟩ := (mem_can hv hn).1 hx
   have := hle x hx
   simp only [hMap]
   split
   ·refine ⟨by omega, (all_nz hv hn (by omega)).2 ⟨w, hw, ?_⟩⟩
    show w.hour = hAt 25
    simp only [hAt, if_true]; omega
   ·refine ⟨by omega, (all_nz hv hn (by omega)).2 ⟨w, hw, ?_⟩⟩
    simp only [hAt]; rw [if_neg (by omega)]; omega
theorem can_len2 {v : Voy} (hv : Vd v) {N : Nat} (hn : N < v.lots.toNat) : (canP (allF v N) 26).length = (canIn v (truths v []) N).length := by
 rw [(can_perm hv hn).length_eq, List.length_map]
theorem can_until {v : Voy} (hv : Vd v) {N : Nat} (hn : N < v.lots.toNat) {a : Int} (ha : a ≤ 24) : ((canP (allF v N) 26).filter fun h => decide (h ≤ a)).length = ((canIn v (truths v []) N).filter fun h => decide (h ≠ -1) && decide (h ≤ a)).length := by
 rw [((can_perm hv hn).filter _).length_eq, List.filter_map, List.length_map]
 congr 1
 refine List.filter_congr fun x _ => ?_
 simp only [Function.comp_apply, hMap]
 by_cases h : x = -1
 ·subst h; simp; omega
 ·simp [h]
theorem can_leaves {v : Voy} (hv : Vd v) {N : Nat} (hn : N < v.lots.toNat) {a : Int} (ha : a ≤ 24) : leaves (canIn v (truths v []) N) a = max (((canP (allF v N) 26).filter fun h => decide (h ≤ a)).length : Int) (((canP (allF v N) 26).length : Int) - (((canP (allF v N) 26).filter fun h => decide (h ≤ a)).length : Int)) := by
 rw [leaves, can_until hv hn ha, can_len2 hv hn]
def stepD (f : List Int → Bool) (o : Option (List Int)) (l : List Int) : Option (List Int) := match o with
 | none => if f l = true then some l else none
 | some b => if (fewer l b && f l) = true then some l else some b
theorem stepD_eq (f : List Int → Bool) (o : Option (List Int)) (l : List Int) (h : ∀ b, o = some b → f b = true) : stepD f o l = fewStep f o l := by
 cases o with
 | none => rfl
 | some b =>
  simp only [stepD, fewStep]
  cases h1 : fewer l b
  ·simp only [Bool.false_and, Bool.false_eq_true, if_false]
   cases h2 : fewer b l
   ·have := fewer_tri h1 h2
    subst this
    rw [h l rfl]; simp
   ·simp
  ·have h2 : fewer b l = false := by
    rw [Bool.eq_false_iff]
    intro h3
    have := fewer_trans h1 h3
    rw [fewer_irr] at this; cases this
   simp [h2]
end Go.Am.Room
set_option maxRecDepth 4000
namespace Go.Am.Room
def QXDDrPA := And.intro @encVoy_eq (And.intro @voyCells_eq (And.intro @encKp_eq (And.intro @encDoor_eq (And.intro @encLook_eq (And.intro @encSpan_eq (And.intro @S_mapKp (And.intro @S_mapDoor (And.intro @S_mapLook (And.intro @List.length_append.{0} (And.intro @T_sapp (And.intro @Nat.add_lt_add_iff_left (And.intro @Nat.lt_add_right_iff_pos (And.intro @Nat.mul_one (And.intro @Int.toNat_natCast (And.intro @natA_len (And.intro @natA_take (And.intro @natA_drop (And.intro @natA_cell (@S_natA)))))))))))))))))))
theorem some_ofne {v : Voy} (h : truths v [] ≠ []) : someB v [] = true := by
 cases he : truths v [] with
 | nil => exact absurd he h
 | cons a l => simp [someB, he]
theorem pturned_ok (v : Voy) (n : Int) (hf : Fits v) : Pure T 18 [encVoy v, .int .i64 n] (encSNE (turnedOf v n)) := by
 refine pure_fn (af := a18) rfl (by simp [a18]) dd ?_
 (repeat (first | simp only [↓QA, QB, Nat.reduceLT, reduceIte, Nat.reduceEqDiff, Nat.reduceAdd, Nat.reduceLeDiff, Nat.reduceMul, Nat.reduceBEq, QXDDrPA, a18] | refine rd0 rfl ?_))
 refine callK_do (enter_run _ v n hf) ?_
 simp only [enterV, enterSt]
 by_cases h0 : lotErr v n = 0
 ·obtain ⟨ha, hne⟩ := errKnown_ok h0
  obtain ⟨hv, hn0, hn1⟩ := errAsk_ok ha
  obtain ⟨N, rfl⟩ : ∃ N : Nat, n = N := ⟨n.toNat, by omega⟩
  have hN : N < v.lots.toNat := by omega
  have hm : turnedOf v N = (spanIn (truths v []) N, howIn (truths v []) N, 0) := by rw [turnedOf, if_pos h0, Int.toNat_natCast]; rfl
  have hal := all_does (voy_at [.cells (voyCells v), .cells [.int .i64 0, .int .i64 0]] v) hv but0 N hN (memo0 v)
  have hlaw := turned_law hv (some_ofne hne) hN
  obtain ⟨F, hF⟩ : ∃ F, allF v N = F := ⟨_, rfl⟩
  obtain ⟨A, hA⟩ : ∃ A, allMemo hv N (memo0 v) = A := ⟨_, rfl⟩
  rw [hA, hF] at hal
  rw [hF] at hlaw
  rw [if_pos h0, if_pos h0, hm]
  obtain ⟨R1, hR1⟩ : ∃ r, spanIn (truths v []) N = r := ⟨_, rfl⟩
  obtain ⟨R2, hR2⟩ : ∃ r, howIn (truths v []) N = r := ⟨_, rfl⟩
  rw [hR1, hR2] at hlaw
  rw [hR1, hR2]
  simp only [entS] at hal ⊢
  try simp only [↓QA, QB, Nat.reduceLT, reduceIte, Nat.reduceEqDiff, Nat.reduceAdd, Nat.reduceLeDiff, Nat.reduceMul, Nat.reduceBEq, QXDDrPA] at hal
  have i25 : (0 : Int) ≤ 25 ∧ (25 : Int) < ((26 : Nat) : Int) := ⟨by omega, by omega⟩
  have t25 : Int.toNat 25 = 25 := rfl
  have hg25 := natA_get F (i := 25) (by omega)
  (repeat (first | simp only [↓QA, QB, Nat.reduceLT, reduceIte, Nat.reduceEqDiff, Nat.reduceAdd, Nat.reduceLeDiff, Nat.reduceMul, Nat.reduceBEq, QXDDrPA, show ((0 : Int) == 0) = true from rfl] | refine rd0 rfl ?_))
  refine callK_do hal ?_
  (repeat (first | simp only [↓QA, QB, Nat.reduceLT, reduceIte, Nat.reduceEqDiff, Nat.reduceAdd, Nat.reduceLeDiff, Nat.reduceMul, Nat.reduceBEq, QXDDrPA, ← z26] | refine rd0 rfl ?_))
  refine loopE (S := Nat) 0 (fun k => k ≤ 25) (fun k => 25 - k)
   (fun k => [(4, .ptr 1 0), (8, .ptr 6 0), (24, .int .i64 k)])
   (fun k => [.cells (voyCells v), .cells [.int .i64 (spUp F k).1, .int .i64 (spUp F k).2], .cells (voyCells v), .cells (voyCells v), .map (tEs v [] A), .cells (db v 0 4), .cells (natA F)]) (Nat.zero_le _) (by simp [voyCells, ints, spUp]) ?_ fun k hk => ?_
  ·try simp only [TrimX, QE, Nat.reduceLT, reduceIte, Nat.reduceEqDiff, Nat.reduceAdd, Nat.reduceLeDiff, Nat.reduceMul, Nat.reduceBEq, QXDDrPA]
   try simp
  ·obtain ⟨s, hs⟩ : ∃ s, spUp F k = s := ⟨_, rfl⟩
   have hst : spUp F (k + 1) = if F k = 0 then s else (if s.1 < 0 then (k : Int) else s.1, (k : Int)) := by simp only [spUp, hs]
   rw [hs]
   (repeat (first | simp only [↓QA, QB, Nat.reduceLT, reduceIte, Nat.reduceEqDiff, Nat.reduceAdd, Nat.reduceLeDiff, Nat.reduceMul, Nat.reduceBEq, QXDDrPA, L18_0] | refine rd0 rfl ?_))
   refine iteP_intro (fun hd => ?_) fun hd => ?_
   ·have hk1 : k < 25 := by simp at hd; omega
    have hw := wrapN hk1 (by omega)
    have i1 : (0 : Int) ≤ (k : Int) ∧ (k : Int) < ((26 : Nat) : Int) := ⟨by omega, by omega⟩
    have hg := natA_get F (i := k) (by omega)
    cases h1 : (((F k : Nat) : Int) == 0)
    ·have h1' : ¬ F k = 0 := by simp at h1; omega
     rw [if_neg h1'] at hst
     cases h2 : decide (s.1 < 0)
     ·have h2' : ¬ s.1 < 0 := by simpa using h2
      rw [if_neg h2'] at hst
      (repeat (first | simp only [↓QA, QB, Nat.reduceLT, reduceIte, Nat.reduceEqDiff, Nat.reduceAdd, Nat.reduceLeDiff, Nat.reduceMul, Nat.reduceBEq, QXDDrPA, i1, hg, h1, h2] | refine rd0 rfl ?_))
      refine ⟨k + 1, by omega, by omega, ?_⟩
      try simp only [TrimX, QE, Nat.reduceLT, reduceIte, Nat.reduceEqDiff, Nat.reduceAdd, Nat.reduceLeDiff, Nat.reduceMul, Nat.reduceBEq, QXDDrPA, hw, hst]
      try simp [okBlk, okVs, okV]
     ·have h2' : s.1 < 0 := by simpa using h2
      rw [if_pos h2'] at hst
      (repeat (first | simp only [↓QA, QB, Nat.reduceLT, reduceIte, Nat.reduceEqDiff, Nat.reduceAdd, Nat.reduceLeDiff, Nat.reduceMul, Nat.reduceBEq, QXDDrPA, i1, hg, h1, h2] | refine rd0 rfl ?_))
      refine ⟨k + 1, by omega, by omega, ?_⟩
      try simp only [TrimX, QE, Nat.reduceLT, reduceIte, Nat.reduceEqDiff, Nat.reduceAdd, Nat.reduceLeDiff, Nat.reduceMul, Nat.reduceBEq, QXDDrPA, hw, hst]
      try simp [okBlk, okVs, okV]
    ·have h1' : F k = 0 := by simp at h1; omega
     rw [if_pos h1'] at hst
     (repeat (first | simp only [↓QA, QB, Nat.reduceLT, reduceIte, Nat.reduceEqDiff, Nat.reduceAdd, Nat.reduceLeDiff, Nat.reduceMul, Nat.reduceBEq, QXDDrPA, i1, hg, h1] | refine rd0 rfl ?_))
     refine ⟨k + 1, by omega, by omega, ?_⟩
     try simp only [TrimX, QE, Nat.reduceLT, reduceIte, Nat.reduceEqDiff, Nat.reduceAdd, Nat.reduceLeDiff, Nat.reduceMul, Nat.reduceBEq, QXDDrPA, hw, hst]
     try simp [okBlk, okVs, okV]
   ·have hk1 : k = 25 := by simp at hd; omega
    subst hk1
    rw [hs] at hlaw
    rcases hlaw with ⟨q1, q2, q3⟩ | ⟨q1, q2, q3⟩
    ·have g1 : decide (s.1 < 0) = true := by simpa using q1
     subst q2
     subst q3
     (repeat (first | simp only [↓QA, QB, Nat.reduceLT, reduceIte, Nat.reduceEqDiff, Nat.reduceAdd, Nat.reduceLeDiff, Nat.reduceMul, Nat.reduceBEq, QXDDrPA, g1, encSNE] | refine rd0 rfl ?_))
     try try simp only [QS, QC, Nat.reduceLT, reduceIte, Nat.reduceEqDiff, Nat.reduceAdd, Nat.reduceLeDiff, Nat.reduceMul, Nat.reduceBEq, QXDDrPA]
    ·have g1 : decide (s.1 < 0) = false := by simpa using q1
     subst q2
     cases h2 : (((F 25 : Nat) : Int) == 0)
     ·have h2' : ¬ F 25 = 0 := by simp at h2; omega
      rw [if_neg h2'] at q3
      subst q3
      (repeat (first | simp only [↓QA, QB, Nat.reduceLT, reduceIte, Nat.reduceEqDiff, Nat.reduceAdd, Nat.reduceLeDiff, Nat.reduceMul, Nat.reduceBEq, QXDDrPA, g1, i25, t25, hg25, h2, encSNE] | refine rd0 rfl ?_))
      try try simp only [QS, QC, Nat.reduceLT, reduceIte, Nat.reduceEqDiff, Nat.reduceAdd, Nat.reduceLeDiff, Nat.reduceMul, Nat.reduceBEq, QXDDrPA]
     ·have h2' : F 25 = 0 := by simp at h2; omega
      rw [if_pos h2'] at q3
      subst q3
      (repeat (first | simp only [↓QA, QB, Nat.reduceLT, reduceIte, Nat.reduceEqDiff, Nat.reduceAdd, Nat.reduceLeDiff, Nat.reduceMul, Nat.reduceBEq, QXDDrPA, g1, i25, t25, hg25, h2, encSNE] | refine rd0 rfl ?_))
      try try simp only [QS, QC, Nat.reduceLT, reduceIte, Nat.reduceEqDiff, Nat.reduceAdd, Nat.reduceLeDiff, Nat.reduceMul, Nat.reduceBEq, QXDDrPA]
 ·have h0' : (lotErr v n == 0) = false := by simpa using h0
  have hm : turnedOf v n = (⟨0, 0⟩, 0, lotErr v n) := by rw [turnedOf, if_neg h0]
  rw [if_neg h0, if_neg h0, hm]
  (repeat (first | simp only [↓QA, QB, Nat.reduceLT, reduceIte, Nat.reduceEqDiff, Nat.reduceAdd, Nat.reduceLeDiff, Nat.reduceMul, Nat.reduceBEq, QXDDrPA, h0', encSNE] | refine rd0 rfl ?_))
  try rfl
end Go.Am.Room
set_option maxRecDepth 4000
namespace Go.Am.Room
def QXDCmp := And.intro @Int.toNat_natCast (@List.length_append.{0})
theorem isnan_ok (n : Int) : Pure T 107 [.int .i64 n] (.bool false) := by
 refine pure_fn (af := a107) rfl (by simp [a107]) dd ?_
 (repeat (first | simp only [↓QA, QB, Nat.reduceLT, reduceIte, Nat.reduceEqDiff, Nat.reduceAdd, Nat.reduceLeDiff, Nat.reduceMul, Nat.reduceBEq, QXDCmp, a107] | refine rd0 rfl ?_))
 try simp
def cmpI (a b : Int) : Int := if a < b then -1 else if b < a then 1 else 0
theorem cmp_ok (a b : Int) : Pure T 104 [.int .i64 a, .int .i64 b] (.int .i64 (cmpI a b)) := by
 refine pure_fn (af := a104) rfl (by simp [a104]) dd ?_
 (repeat (first | simp only [↓QA, QB, Nat.reduceLT, reduceIte, Nat.reduceEqDiff, Nat.reduceAdd, Nat.reduceLeDiff, Nat.reduceMul, Nat.reduceBEq, QXDCmp, a104] | refine rd0 rfl ?_))
 ((first | refine callK_d (isnan_ok a) rfl dd ?_ | refine callD_d (isnan_ok a) rfl dd ?_); (repeat (first | simp only [↓QA, QB, Nat.reduceLT, reduceIte, Nat.reduceEqDiff, Nat.reduceAdd, Nat.reduceLeDiff, Nat.reduceMul, Nat.reduceBEq, QXDCmp] | refine rd0 rfl ?_)))
 ((first | refine callK_d (isnan_ok b) rfl dd ?_ | refine callD_d (isnan_ok b) rfl dd ?_); (repeat (first | simp only [↓QA, QB, Nat.reduceLT, reduceIte, Nat.reduceEqDiff, Nat.reduceAdd, Nat.reduceLeDiff, Nat.reduceMul, Nat.reduceBEq, QXDCmp] | refine rd0 rfl ?_)))
 cases h1 : decide (a < b)
 ·have h1' : ¬ a < b := by simpa using h1
  (repeat (first | simp only [↓QA, QB, Nat.reduceLT, reduceIte, Nat.reduceEqDiff, Nat.reduceAdd, Nat.reduceLeDiff, Nat.reduceMul, Nat.reduceBEq, QXDCmp] | refine rd0 rfl ?_))
  cases h2 : decide (b < a)
  ·have h2' : ¬ b < a := by simpa using h2
   (repeat (first | simp only [↓QA, QB, Nat.reduceLT, reduceIte, Nat.reduceEqDiff, Nat.reduceAdd, Nat.reduceLeDiff, Nat.reduceMul, Nat.reduceBEq, QXDCmp] | refine rd0 rfl ?_))
   simp [cmpI, h1', h2']
  ·have h2' : b < a := by simpa using h2
   (repeat (first | simp only [↓QA, QB, Nat.reduceLT, reduceIte, Nat.reduceEqDiff, Nat.reduceAdd, Nat.reduceLeDiff, Nat.reduceMul, Nat.reduceBEq, QXDCmp] | refine rd0 rfl ?_))
   simp [cmpI, h1', h2']
 ·have h1' : a < b := by simpa using h1
  (repeat (first | simp only [↓QA, QB, Nat.reduceLT, reduceIte, Nat.reduceEqDiff, Nat.reduceAdd, Nat.reduceLeDiff, Nat.reduceMul, Nat.reduceBEq, QXDCmp] | refine rd0 rfl ?_))
  simp [cmpI, h1']
def cmpL : List Int → List Int → Int
 | [], [] => 0
 | [], _ :: _ => -1
 | _ :: _, [] => 1
 | a :: az, b :: bs => if cmpI a b = 0 then cmpL az bs else cmpI a b
theorem scmp_ok (a b : List Int) (ha : a.length < 9223372036854775808) (hb : b.length < 9223372036854775808) : Pure T 98 [ints a, ints b] (.int .i64 (cmpL a b)) := by
 refine pure_fn (af := a98) rfl (by simp [a98]) dd ?_
 (repeat (first | simp only [↓QA, QB, Nat.reduceLT, reduceIte, Nat.reduceEqDiff, Nat.reduceAdd, Nat.reduceLeDiff, Nat.reduceMul, Nat.reduceBEq, QXDCmp, a98] | refine rd0 rfl ?_))
 refine loopE (S := Nat) 0 (fun k => k ≤ a.length ∧ k ≤ b.length ∧ cmpL (a.drop k) (b.drop k) = cmpL a b) (fun k => a.length - k) (fun k => [(0, ints a), (1, ints b), (9, ints a), (10, .int .i64 a.length), (11, .int .i64 k)]) (fun _ => []) ⟨by simp, by simp, by simp⟩ rfl ?_ fun k hk => ?_
 ·try simp only [TrimX, QE, Nat.reduceLT, reduceIte, Nat.reduceEqDiff, Nat.reduceAdd, Nat.reduceLeDiff, Nat.reduceMul, Nat.reduceBEq, QXDCmp]
  try simp
 ·obtain ⟨hk, hkb, hq⟩ := hk
  (repeat (first | simp only [↓QA, QB, Nat.reduceLT, reduceIte, Nat.reduceEqDiff, Nat.reduceAdd, Nat.reduceLeDiff, Nat.reduceMul, Nat.reduceBEq, QXDCmp, L98_0] | refine rd0 rfl ?_))
  refine iteP_intro (fun h => ?_) fun h => ?_
  ·have hk1 : k < a.length := by simpa using h
   have hw := wrapN hk1 ha
   rw [List.drop_eq_getElem_cons hk1] at hq
   (repeat (first | simp only [↓QA, QB, Nat.reduceLT, reduceIte, Nat.reduceEqDiff, Nat.reduceAdd, Nat.reduceLeDiff, Nat.reduceMul, Nat.reduceBEq, QXDCmp, hk1] | refine rd0 rfl ?_))
   refine iteP_intro (fun h2 => ?_) fun h2 => ?_
   ·have hk2 : k = b.length := by simp at h2; omega
    have hd : b.drop k = [] := by rw [hk2, List.drop_length]
    rw [hd] at hq
    simp only [cmpL] at hq
    (repeat (first | simp only [↓QA, QB, Nat.reduceLT, reduceIte, Nat.reduceEqDiff, Nat.reduceAdd, Nat.reduceLeDiff, Nat.reduceMul, Nat.reduceBEq, QXDCmp, hk1, ← hq] | refine rd0 rfl ?_))
   ·have hk2 : k < b.length := by simp at h2; omega
    rw [List.drop_eq_getElem_cons hk2] at hq
    simp only [cmpL] at hq
    (repeat (first | simp only [↓QA, QB, Nat.reduceLT, reduceIte, Nat.reduceEqDiff, Nat.reduceAdd, Nat.reduceLeDiff, Nat.reduceMul, Nat.reduceBEq, QXDCmp, hk1, hk2] | refine rd0 rfl ?_))
    ((first | refine callK_d (cmp_ok a[k] b[k]) rfl dd ?_ | refine callD_d (cmp_ok a[k] b[k]) rfl dd ?_); (repeat (first | simp only [↓QA, QB, Nat.reduceLT, reduceIte, Nat.reduceEqDiff, Nat.reduceAdd, Nat.reduceLeDiff, Nat.reduceMul, Nat.reduceBEq, QXDCmp, hk1, hk2] | refine rd0 rfl ?_)))
    cases h3 : (cmpI a[k] b[k] == 0)
    ·have h3' : cmpI a[k] b[k] ≠ 0 := by simpa using h3
     rw [if_neg h3'] at hq
     (repeat (first | simp only [↓QA, QB, Nat.reduceLT, reduceIte, Nat.reduceEqDiff, Nat.reduceAdd, Nat.reduceLeDiff, Nat.reduceMul, Nat.reduceBEq, QXDCmp, h3, hk1, hk2, hq] | refine rd0 rfl ?_))
    ·have h3' : cmpI a[k] b[k] = 0 := by simpa using h3
     rw [if_pos h3'] at hq
     (repeat (first | simp only [↓QA, QB, Nat.reduceLT, reduceIte, Nat.reduceEqDiff, Nat.reduceAdd, Nat.reduceLeDiff, Nat.reduceMul, Nat.reduceBEq, QXDCmp, h3, hk1, hk2] | refine rd0 rfl ?_))
     refine ⟨k + 1, ⟨by omega, by omega, hq⟩, by omega, ?_⟩
     try simp only [TrimX, QE, Nat.reduceLT, reduceIte, Nat.reduceEqDiff, Nat.reduceAdd, Nat.reduceLeDiff, Nat.reduceMul, Nat.reduceBEq, QXDCmp, hw]
  ·have hk1 : k = a.length := by simp at h; omega
   rw [hk1, List.drop_length] at hq
   (repeat (first | simp only [↓QA, QB, Nat.reduceLT, reduceIte, Nat.reduceEqDiff, Nat.reduceAdd, Nat.reduceLeDiff, Nat.reduceMul, Nat.reduceBEq, QXDCmp] | refine rd0 rfl ?_))
   refine iteP_intro (fun h2 => ?_) fun h2 => ?_
   ·have hk2 : a.length < b.length := by simpa using h2
    rw [List.drop_eq_getElem_cons hk2] at hq
    (repeat (first | simp only [↓QA, QB, Nat.reduceLT, reduceIte, Nat.reduceEqDiff, Nat.reduceAdd, Nat.reduceLeDiff, Nat.reduceMul, Nat.reduceBEq, QXDCmp, ← hq, cmpL] | refine rd0 rfl ?_))
   ·have hk2 : a.length = b.length := by simp at h2; omega
    rw [hk2, List.drop_length] at hq
    (repeat (first | simp only [↓QA, QB, Nat.reduceLT, reduceIte, Nat.reduceEqDiff, Nat.reduceAdd, Nat.reduceLeDiff, Nat.reduceMul, Nat.reduceBEq, QXDCmp, ← hq, cmpL] | refine rd0 rfl ?_))
theorem list_ok (s n : Nat) (hs : s < 9223372036854775808) (hn : n ≤ 60) : Pure T 66 [.int .i64 s, .int .i64 n] (ints (lst n s)) := by
 refine pure_fn (af := a66) rfl (by simp [a66]) dd ?_
 (repeat (first | simp only [↓QA, QB, Nat.reduceLT, reduceIte, Nat.reduceEqDiff, Nat.reduceAdd, Nat.reduceLeDiff, Nat.reduceMul, Nat.reduceBEq, QXDCmp, a66] | refine rd0 rfl ?_))
 obtain ⟨R, hRR⟩ : ∃ R, lst n s = R := ⟨_, rfl⟩
 have hRR' : [] ++ (numbers ((0 : Nat) : Int) (n - 0)).filter (fun i => decide (s / 2 ^ i.toNat % 2 = 1)) = R := hRR
 rw [hRR]
 refine ghostK 4 1 [] rfl ?_
 refine loopE (S := Nat × List Int × Bool) (0, [], false) (fun x => x.1 ≤ n ∧ x.2.1.length ≤ x.1 ∧ x.2.1 ++ (numbers (x.1 : Int) (n - x.1)).filter (fun i => decide (s / 2 ^ i.toNat % 2 = 1)) = R) (fun x => n - x.1)
  (fun x => [(0, .int .i64 s), (4, .lit (x.2.1.map (.int .i64)) false (some 0)), (6, .int .i64 n), (7, .int .i64 x.1)]) (fun x => [.tok 1 x.2.1.length x.2.2]) ⟨by simp, by simp, hRR'⟩ rfl ?_ fun x hx => ?_
 ·try simp only [TrimX, QE, Nat.reduceLT, reduceIte, Nat.reduceEqDiff, Nat.reduceAdd, Nat.reduceLeDiff, Nat.reduceMul, Nat.reduceBEq, QXDCmp]
  try simp
 ·obtain ⟨k, acc, ex⟩ := x
  obtain ⟨hk, hal, hacc⟩ := hx
  simp only at hk hal hacc
  (repeat (first | simp only [↓QA, QB, Nat.reduceLT, reduceIte, Nat.reduceEqDiff, Nat.reduceAdd, Nat.reduceLeDiff, Nat.reduceMul, Nat.reduceBEq, QXDCmp, L66_0] | refine rd0 rfl ?_))
  refine iteP_intro (fun h => ?_) fun h => ?_
  ·have hk1 : k < n := by simpa using h
   have hw := wrapN hk1 (by omega)
   rw [show n - k = (n - (k + 1)) + 1 by omega] at hacc
   simp only [numbers, List.filter_cons, Int.toNat_natCast] at hacc
   rw [show ((k : Int) + 1) = ((k + 1 : Nat) : Int) by omega] at hacc
   have vs := V_shr s k (by omega)
   have va := V_and1 (s / 2 ^ k) (Nat.lt_of_le_of_lt (Nat.div_le_self _ _) hs)
   have hbit : (((s / 2 ^ k % 2 : Nat) : Int) == 1) = decide (s / 2 ^ k % 2 = 1) := by
    generalize s / 2 ^ k % 2 = q
    rw [Bool.eq_iff_iff, beq_iff_eq, decide_eq_true_eq]; omega
   (repeat (first | simp only [↓QA, QB, Nat.reduceLT, reduceIte, Nat.reduceEqDiff, Nat.reduceAdd, Nat.reduceLeDiff, Nat.reduceMul, Nat.reduceBEq, QXDCmp, vs, va, hbit] | refine rd0 rfl ?_))
   cases hb : decide (s / 2 ^ k % 2 = 1)
   ·simp only [hb, Bool.false_eq_true, if_false] at hacc
    (repeat (first | simp only [↓QA, QB, Nat.reduceLT, reduceIte, Nat.reduceEqDiff, Nat.reduceAdd, Nat.reduceLeDiff, Nat.reduceMul, Nat.reduceBEq, QXDCmp, hw] | refine rd0 rfl ?_))
    refine ⟨(k + 1, acc, ex), ⟨by simp only; omega, by simp only; omega, by simpa using hacc⟩, by simp only; omega, ?_⟩
    try simp only [TrimX, QE, Nat.reduceLT, reduceIte, Nat.reduceEqDiff, Nat.reduceAdd, Nat.reduceLeDiff, Nat.reduceMul, Nat.reduceBEq, QXDCmp, hw, S_mapI]
    try simp [okBlk]
   ·simp only [hb, if_true] at hacc
    have hap := fun (τ : St) => append_intT (σ := .tok 1 acc.length ex :: τ) (l := acc) (a := (k : Int)) (ex := ex) (t := 0) (by omega) rfl
    (repeat (first | simp only [↓QA, QB, Nat.reduceLT, reduceIte, Nat.reduceEqDiff, Nat.reduceAdd, Nat.reduceLeDiff, Nat.reduceMul, Nat.reduceBEq, QXDCmp, hw, hap] | refine rd0 rfl ?_))
    refine ⟨(k + 1, acc ++ [(k : Int)], true), ⟨by simp only; omega, by simp only [List.length_append, List.length_cons, List.length_nil]; omega, by
     rw [← hacc]; simp⟩, by simp only; omega, ?_⟩
    try simp only [TrimX, QE, Nat.reduceLT, reduceIte, Nat.reduceEqDiff, Nat.reduceAdd, Nat.reduceLeDiff, Nat.reduceMul, Nat.reduceBEq, QXDCmp, hw, S_mapI, List.map_append, List.map_cons, List.map_nil]
    try simp [okBlk]
  ·have hk1 : k = n := by simp at h; omega
   rw [hk1] at hacc
   simp only [Nat.sub_self, numbers, List.filter_nil, List.append_nil] at hacc
   (repeat (first | simp only [↓QA, QB, Nat.reduceLT, reduceIte, Nat.reduceEqDiff, Nat.reduceAdd, Nat.reduceLeDiff, Nat.reduceMul, Nat.reduceBEq, QXDCmp, hacc, ints] | refine rd0 rfl ?_))
end Go.Am.Room
set_option maxRecDepth 4000
namespace Go.Am.Room
def QXDDrPB := And.intro @encVoy_eq (And.intro @encKp_eq (And.intro @encDoor_eq (And.intro @encLook_eq (And.intro @encSpan_eq (And.intro @S_mapKp (And.intro @S_mapDoor (And.intro @S_mapLook (And.intro @List.length_append.{0} (And.intro @db_3 (And.intro @T_sapp (And.intro @T_sapp0 (And.intro @Nat.mul_one (@Int.toNat_natCast)))))))))))))
theorem key1_ok (k : Kp) (h : Int) (hb : -100 ≤ k.frm - h ∧ k.frm - h ≤ 100) : Pure T 94 [encKp k, .int .i64 h] (.int .i64 (k.frm - h)) := by
 refine pure_fn (af := a94) rfl (by simp [a94]) dd ?_
 have hw : IntKind.i64.wrap (k.frm - h) = k.frm - h := wrap64 ⟨by omega, by omega⟩
 (repeat (first | simp only [↓QA, QB, Nat.reduceLT, reduceIte, Nat.reduceEqDiff, Nat.reduceAdd, Nat.reduceLeDiff, Nat.reduceMul, Nat.reduceBEq, QXDDrPB, a94, hw] | refine rd0 rfl ?_))
theorem wrapu {x : Int} (h : 0 ≤ x ∧ x ≤ 1000) : IntKind.u64.wrap x = x := by
 simp only [IntKind.wrap, IntKind.signed, IntKind.bits]
 simp
 omega
theorem V_half (s : Nat) : binAV .shr (.int .u64 (s : Int)) (.int .u64 1) = some (.int .u64 ((s / 2 : Nat) : Int)) := by
 have hm : Nat.min (1 : Int).toNat 64 = 1 := rfl
 have h0 : ¬ (1 : Int) < 0 := by omega
 simp only [binAV, h0, if_false, IntKind.bits, hm, Option.some.injEq, AV.int.injEq, true_and]
 rw [Int.fdiv_eq_ediv_of_nonneg _ (by decide)]
 norm_cast
def frmL (l : List Kp) (i : Nat) : Int := match l[i]? with | some k => k.frm | none => 1000
theorem bs_ok (l : List Kp) (h : Int) (hl : l.length ≤ 5) (hb : ∀ k ∈ l, 0 ≤ k.frm ∧ k.frm ≤ 24) (hh : 0 ≤ h ∧ h ≤ 24) (hsort : ∀ i j, i < j → j < l.length → frmL l i < frmL l j) :
  ∃ i : Nat, i ≤ l.length ∧ (∀ q, q < i → frmL l q < h) ∧ (∀ q, i ≤ q → q < l.length → h ≤ frmL l q) ∧
   Pure T 93 [.lit (l.map encKp) false none, .int .i64 h, .func 94 [] []] (.tuple [.int .i64 i, .bool (decide (i < l.length) && (frmL l i == h))]) := by
 have hat : ∀ q (hq : q < l.length), frmL l q = l[q].frm := fun q hq => by simp [frmL, hq]
 obtain ⟨i, hi, h1, h2⟩ : ∃ i, i ≤ l.length ∧ (∀ q, q < i → frmL l q < h) ∧ (∀ q, i ≤ q → q < l.length → h ≤ frmL l q) := by
  have key : ∀ k, k ≤ l.length → (∀ q, q < k → frmL l q < h) → ∃ i, i ≤ l.length ∧ (∀ q, q < i → frmL l q < h) ∧ (∀ q, i ≤ q → q < l.length → h ≤ frmL l q) := by
   intro k
   induction hk : l.length - k generalizing k with
   | zero => exact fun h1 h2 => ⟨k, h1, h2, fun q h3 h4 => by omega⟩
   | succ m ih =>
    intro h1 h2
    by_cases hc : frmL l k < h
    ·refine ih (k + 1) (by omega) (by omega) fun q hq => ?_
     by_cases e : q = k
     ·subst e; exact hc
     ·exact h2 q (by omega)
    ·refine ⟨k, h1, h2, fun q h3 h4 => ?_⟩
     by_cases e : q = k
     ·subst e; omega
     ·have := hsort k q (by omega) h4
      omega
  exact key 0 (by omega) fun q hq => by omega
 refine ⟨i, hi, h1, h2, ?_⟩
 refine pure_fn (af := a93) rfl (by simp [a93]) (datas_cons (data_list data_kp l) (datas_cons (data_int _ _) (datas_cons ⟨⟨trivial, trivial⟩, rfl⟩ datas_nil))) ?_
 (repeat (first | simp only [↓QA, QB, Nat.reduceLT, reduceIte, Nat.reduceEqDiff, Nat.reduceAdd, Nat.reduceLeDiff, Nat.reduceMul, Nat.reduceBEq, QXDDrPB, a93] | refine rd0 rfl ?_))
 refine loopE (S := Nat × Nat) (0, l.length) (fun a => a.1 ≤ i ∧ i ≤ a.2 ∧ a.2 ≤ l.length) (fun a => a.2 - a.1)
  (fun a => [(0, .lit (l.map encKp) false none), (1, .int .i64 h), (2, .func 94 [] []), (8, .int .i64 l.length), (9, .int .i64 a.1), (10, .int .i64 a.2)]) (fun _ => []) ⟨by simp, by simpa using hi, by simp⟩ rfl ?_ fun a ha => ?_
 ·try simp only [TrimX, QE, Nat.reduceLT, reduceIte, Nat.reduceEqDiff, Nat.reduceAdd, Nat.reduceLeDiff, Nat.reduceMul, Nat.reduceBEq, QXDDrPB]
  try simp [clr, clrs]
 ·obtain ⟨lo, hi2⟩ := a
  obtain ⟨p1, p2, p3⟩ := ha
  simp only at p1 p2 p3
  (repeat (first | simp only [↓QA, QB, Nat.reduceLT, reduceIte, Nat.reduceEqDiff, Nat.reduceAdd, Nat.reduceLeDiff, Nat.reduceMul, Nat.reduceBEq, QXDDrPB, L93_0] | refine rd0 rfl ?_))
  refine iteP_intro (fun hd => ?_) fun hd => ?_
  ·have hd' : lo < hi2 := by simpa using hd
   obtain ⟨m, hm⟩ : ∃ m, (lo + hi2) / 2 = m := ⟨_, rfl⟩
   have hm1 : m < l.length := by omega
   have hw1 : IntKind.i64.wrap ((lo : Int) + (hi2 : Int)) = ((lo + hi2 : Nat) : Int) := by rw [wrap64 ⟨by omega, by omega⟩]; omega
   have hw2 : IntKind.u64.wrap ((lo + hi2 : Nat) : Int) = ((lo + hi2 : Nat) : Int) := wrapu ⟨by omega, by omega⟩
   have hvh := V_half (lo + hi2)
   rw [hm] at hvh
   have hw3 : IntKind.i64.wrap ((m : Nat) : Int) = (m : Int) := wrap64 ⟨by omega, by omega⟩
   have hw4 : IntKind.i64.wrap ((m : Int) + 1) = ((m + 1 : Nat) : Int) := wrapN hm1 (by omega)
   have hbm := hb _ (List.getElem_mem hm1)
   have hatm := hat m hm1
   obtain ⟨x, hx⟩ : ∃ x, l[m] = x := ⟨_, rfl⟩
   rw [hx] at hbm hatm
   (repeat (first | simp only [↓QA, QB, Nat.reduceLT, reduceIte, Nat.reduceEqDiff, Nat.reduceAdd, Nat.reduceLeDiff, Nat.reduceMul, Nat.reduceBEq, QXDDrPB, hw1, hw2, hvh, hw3, hm1, hx] | refine rd0 rfl ?_))
   ((first | refine callK_d (key1_ok x h (by omega)) rfl dd ?_ | refine callD_d (key1_ok x h (by omega)) rfl dd ?_); (repeat (first | simp only [↓QA, QB, Nat.reduceLT, reduceIte, Nat.reduceEqDiff, Nat.reduceAdd, Nat.reduceLeDiff, Nat.reduceMul, Nat.reduceBEq, QXDDrPB, hw1, hw2, hvh, hw3, hm1, hx] | refine rd0 rfl ?_)))
   refine iteP_intro (fun hc => ?_) fun hc => ?_
   ·have hc' : x.frm - h < 0 := by simpa using hc
    have him : m < i := by
     by_cases e : m < i
     ·exact e
     ·have := h2 m (by omega) hm1; omega
    (repeat (first | simp only [↓QA, QB, Nat.reduceLT, reduceIte, Nat.reduceEqDiff, Nat.reduceAdd, Nat.reduceLeDiff, Nat.reduceMul, Nat.reduceBEq, QXDDrPB, hw4] | refine rd0 rfl ?_))
    refine ⟨(m + 1, hi2), ⟨by simp only; omega, p2, p3⟩, by simp only; omega, ?_⟩
    try simp only [TrimX, QE, Nat.reduceLT, reduceIte, Nat.reduceEqDiff, Nat.reduceAdd, Nat.reduceLeDiff, Nat.reduceMul, Nat.reduceBEq, QXDDrPB, hw4]
    try simp [clr, clrs]
   ·have hc' : ¬ x.frm - h < 0 := by simpa using hc
    have him : i ≤ m := by
     by_cases e : i ≤ m
     ·exact e
     ·have := h1 m (by omega); omega
    (repeat (first | simp only [↓QA, QB, Nat.reduceLT, reduceIte, Nat.reduceEqDiff, Nat.reduceAdd, Nat.reduceLeDiff, Nat.reduceMul, Nat.reduceBEq, QXDDrPB] | refine rd0 rfl ?_))
    refine ⟨(lo, m), ⟨p1, by simp only; omega, by simp only; omega⟩, by simp only; omega, ?_⟩
    try simp only [TrimX, QE, Nat.reduceLT, reduceIte, Nat.reduceEqDiff, Nat.reduceAdd, Nat.reduceLeDiff, Nat.reduceMul, Nat.reduceBEq, QXDDrPB]
    try simp [clr, clrs]
  ·have hd' : lo = i := by simp at hd; omega
   subst hd'
   (repeat (first | simp only [↓QA, QB, Nat.reduceLT, reduceIte, Nat.reduceEqDiff, Nat.reduceAdd, Nat.reduceLeDiff, Nat.reduceMul, Nat.reduceBEq, QXDDrPB] | refine rd0 rfl ?_))
   by_cases hlt : lo < l.length
   ·have g : decide ((lo : Int) < (l.length : Int)) = true := by simp; omega
    have hbm := hb _ (List.getElem_mem hlt)
    have hatm := hat lo hlt
    obtain ⟨x, hx⟩ : ∃ x, l[lo] = x := ⟨_, rfl⟩
    rw [hx] at hbm hatm
    have g2 : (x.frm - h == 0) = (frmL l lo == h) := by rw [hatm, Bool.eq_iff_iff]; simp; omega
    (repeat (first | simp only [↓QA, QB, Nat.reduceLT, reduceIte, Nat.reduceEqDiff, Nat.reduceAdd, Nat.reduceLeDiff, Nat.reduceMul, Nat.reduceBEq, QXDDrPB, g, hlt, hx] | refine rd0 rfl ?_))
    ((first | refine callK_d (key1_ok x h (by omega)) rfl dd ?_ | refine callD_d (key1_ok x h (by omega)) rfl dd ?_); (repeat (first | simp only [↓QA, QB, Nat.reduceLT, reduceIte, Nat.reduceEqDiff, Nat.reduceAdd, Nat.reduceLeDiff, Nat.reduceMul, Nat.reduceBEq, QXDDrPB, g, hlt, hx, g2] | refine rd0 rfl ?_)))
    try simp [hlt]
   ·have g : decide ((lo : Int) < (l.length : Int)) = false := by simp; omega
    (repeat (first | simp only [↓QA, QB, Nat.reduceLT, reduceIte, Nat.reduceEqDiff, Nat.reduceAdd, Nat.reduceLeDiff, Nat.reduceMul, Nat.reduceBEq, QXDDrPB, g] | refine rd0 rfl ?_))
    try simp [hlt]
theorem keeper_law {v : Voy} (hv : Vd v) {h : Int} (hh : 0 ≤ h) {i : Nat} (hi : i ≤ v.keepers.length) (h1 : ∀ q, q < i → frmL v.keepers q < h) (h2 : ∀ q, i ≤ q → q < v.keepers.length → h ≤ frmL v.keepers q) :
  keeperAt v h = if (decide (i < v.keepers.length) && (frmL v.keepers i == h)) = true then (i : Int) else (i : Int) - 1 := by
 have hk := hv.nkp
 have hat : ∀ q, q < v.keepers.length → frmL v.keepers q = frmAt v q := fun q hq => by simp [frmL, frmAt, hq]
 have key : ∀ n, n ≤ v.keepers.length → keeperFrom v h n = if (decide (i < n) && (frmL v.keepers i == h)) = true then (i : Int) else if min i n = 0 then 0 else ((min i n : Nat) : Int) - 1 := by
  intro n
  induction n with
  | zero => intro _; simp [keeperFrom]
  | succ n ih =>
   intro hn
   have e := hat n (by omega)
   simp only [keeperFrom]
   by_cases hc : n < i
   ·have := h1 n hc
    rw [if_pos (by omega)]
    have a1 : decide (i < n + 1) = false := by simp; omega
    rw [a1]
    simp only [Bool.false_and, Bool.false_eq_true, if_false]
    rw [if_neg (by omega)]
    omega
   ·have := h2 n (by omega) (by omega)
    by_cases hn2 : n = i
    ·subst hn2
     by_cases hq : frmL v.keepers n = h
     ·rw [if_pos (by omega)]
      simp [hq]
     ·rw [if_neg (by omega), ih (by omega)]
      have a1 : decide (n < n) = false := by simp
      have a2 : (frmL v.keepers n == h) = false := by simpa using hq
      rw [a1, a2]
      simp
    ·have hlt : frmAt v i < frmAt v n := by
      have mono : ∀ d, ∀ i, i + (d + 1) < v.keepers.length → frmAt v i < frmAt v (i + (d + 1)) := by
       intro d
       induction d with
       | zero => intro i hi; have := (kp_frm hv (i := i + 1) (by omega)).2.2 (by omega); simpa using this
       | succ d ih2 =>
        intro i hi
        have a := ih2 i (by omega)
        have b := (kp_frm hv (i := i + (d + 1) + 1) (by omega)).2.2 (by omega)
        rw [Nat.add_sub_cancel] at b
        have : i + (d + 1 + 1) = i + (d + 1) + 1 := by omega
        rw [this]; omega
      have := mono (n - i - 1) i (by omega)
      rwa [show i + (n - i - 1 + 1) = n by omega] at this
     have h3 := h2 i (Nat.le_refl _) (by omega)
     rw [hat i (by omega)] at h3
     rw [if_neg (by omega), ih (by omega)]
     have a1 : decide (i < n + 1) = decide (i < n) := by rw [decide_eq_decide]; omega
     have a2 : min i (n + 1) = min i n := by omega
     rw [a1, a2]
 have h0 := (kp_frm hv (i := 0) (by omega)).2.1 rfl
 have hm : min i v.keepers.length = i := by omega
 rw [keeperAt, key _ (Nat.le_refl _), hm]
 by_cases hc : (decide (i < v.keepers.length) && (frmL v.keepers i == h)) = true
 ·rw [if_pos hc, if_pos hc]
 ·rw [if_neg hc, if_neg hc]
  by_cases hi0 : i = 0
  ·exfalso
   subst hi0
   have := h2 0 (by omega) (by omega)
   have e := hat 0 (by omega)
   apply hc
   simp only [Bool.and_eq_true, decide_eq_true_eq, beq_iff_eq]
   omega
  ·rw [if_neg hi0]
theorem keeper_m (σ : St) (p : Nat) (v : Voy) (b m : Nat) (hp : cellsAt σ p = some (db v b m)) (hv : Vd v) (h : Int) (hh : 0 ≤ h ∧ h ≤ 24) : Same T (.func 69 [.ptr p 0] []) [.int .i64 h] σ (.int .i64 (keeperAt v h)) := by
 have hk := hv.nkp
 have hhr := hv.hours
 obtain ⟨i, hi, h1, h2, hbs⟩ := bs_ok v.keepers h (by omega) (fun k hk => by
   obtain ⟨q, hq, rfl⟩ := List.mem_iff_getElem.1 hk
   have := (kp_frm hv hq).1
   rw [frmAt, List.getElem?_eq_getElem hq] at this
   simp only at this
   omega) hh (fun i j hij hj => by
   have hat : ∀ q, q < v.keepers.length → frmL v.keepers q = frmAt v q := fun q hq => by simp [frmL, frmAt, hq]
   rw [hat i (by omega), hat j hj]
   obtain ⟨d, rfl⟩ : ∃ d, j = i + (d + 1) := ⟨j - i - 1, by omega⟩
   clear hij
   induction d with
   | zero => have := (kp_frm hv (i := i + 1) (by omega)).2.2 (by omega); simpa using this
   | succ d ih2 =>
    have a := ih2 (by omega)
    have b := (kp_frm hv (i := i + (d + 1) + 1) (by omega)).2.2 (by omega)
    rw [Nat.add_sub_cancel] at b
    have : i + (d + 1 + 1) = i + (d + 1) + 1 := by omega
    rw [this]; omega)
 have hlaw := keeper_law hv hh.1 hi h1 h2
 obtain ⟨C, hC⟩ : ∃ C, (decide (i < v.keepers.length) && (frmL v.keepers i == h)) = C := ⟨_, rfl⟩
 rw [hC] at hbs hlaw
 have hw : IntKind.i64.wrap ((i : Int) - 1) = (i : Int) - 1 := wrap64 ⟨by omega, by omega⟩
 refine same_fn (af := a69) rfl (by simp [a69]) ?_
 (repeat (first | simp only [↓QA, QB, Nat.reduceLT, reduceIte, Nat.reduceEqDiff, Nat.reduceAdd, Nat.reduceLeDiff, Nat.reduceMul, Nat.reduceBEq, QXDDrPB, a69, hp] | refine rd0 rfl ?_))
 refine callK_d hbs rfl (datas_cons (data_list data_kp v.keepers) (datas_cons (data_int .i64 h) (datas_cons (v := .func 94 [] []) ⟨⟨trivial, trivial⟩, rfl⟩ datas_nil))) ?_
 cases C
 ·simp only [Bool.false_eq_true, if_false] at hlaw
  (repeat (first | simp only [↓QA, QB, Nat.reduceLT, reduceIte, Nat.reduceEqDiff, Nat.reduceAdd, Nat.reduceLeDiff, Nat.reduceMul, Nat.reduceBEq, QXDDrPB, hw] | refine rd0 rfl ?_))
  refine baseR [] (by first | rfl | simp) ?_
  rw [hlaw]
  try simp only [QS, QC, Nat.reduceLT, reduceIte, Nat.reduceEqDiff, Nat.reduceAdd, Nat.reduceLeDiff, Nat.reduceMul, Nat.reduceBEq, QXDDrPB]
 ·simp only [if_true] at hlaw
  (repeat (first | simp only [↓QA, QB, Nat.reduceLT, reduceIte, Nat.reduceEqDiff, Nat.reduceAdd, Nat.reduceLeDiff, Nat.reduceMul, Nat.reduceBEq, QXDDrPB] | refine rd0 rfl ?_))
  refine baseR [] (by first | rfl | simp) ?_
  rw [hlaw]
  try simp only [QS, QC, Nat.reduceLT, reduceIte, Nat.reduceEqDiff, Nat.reduceAdd, Nat.reduceLeDiff, Nat.reduceMul, Nat.reduceBEq, QXDDrPB]
end Go.Am.Room
set_option maxRecDepth 4000
namespace Go.Am.Room
def QXDDrPC := And.intro @encKp_eq (And.intro @encDoor_eq (And.intro @encLook_eq (And.intro @encSpan_eq (And.intro @S_mapKp (And.intro @S_mapDoor (And.intro @S_mapLook (And.intro @List.length_append.{0} (And.intro @db_0 (And.intro @db_1 (And.intro @db_2 (And.intro @db_3 (And.intro @db_4 (And.intro @db_5 (And.intro @db_6 (And.intro @db_7 (And.intro @db_8 (And.intro @T_sapp (And.intro @T_sapp0 (And.intro @Nat.add_lt_add_iff_left (And.intro @Nat.lt_add_right_iff_pos (And.intro @Nat.mul_one (And.intro @Int.toNat_natCast (And.intro @natA_len (And.intro @natA_take (And.intro @natA_drop (And.intro @natA_cell (@S_natA)))))))))))))))))))))))))))
theorem causes_does {S : List Ask → St} {v : Voy} {b p m N : Nat} (hR : MemAt S (db v b m) (tEs v []) p m N) (hv : Vd v) (hb : ButIs b []) (n : Nat) (hn : n < v.lots.toNat) (A : List Ask) :
  Does T (.func 67 [] []) [.ptr p 0, .int .i64 n] (S A) (.int .i64 (causeSet v n : Int)) (S (allMemo hv n A)) := by
 have hal := all_does hR hv hb n hn A
 obtain ⟨A2, hA2⟩ : ∃ A2, allMemo hv n A = A2 := ⟨_, rfl⟩
 obtain ⟨F, hF⟩ : ∃ F, allF v n = F := ⟨_, rfl⟩
 obtain ⟨f, hfe⟩ : ∃ f, causeBits v n = f := ⟨_, rfl⟩
 have hff : ∀ i, f i = F i &&& 15 := fun i => by rw [← hfe, ← hF]; rfl
 have hFl : ∀ i, i < 26 → F i < 32 := fun i _ => by
  have e := all_fold hv n (TL v []) f0
  have : allF v n = ((TL v []).foldl (fun x a => (allStep hv n a x).1) f0).1 := e.symm
  rw [← hF, this]
  exact ((TL v []).foldl (fun x a => (allStep hv n a x).1) f0).2 i
 have hfl : ∀ i, f i < 2 ^ 4 := fun i => by rw [← hfe]; exact causeBits_lt v n i
 have hcs : causeSet v n = orUp f 26 := by rw [← hfe]; rfl
 rw [hA2] at hal ⊢
 rw [hF] at hal
 rw [hcs]
 refine does_memo hR (af := a67) rfl (by simp [a67]) ?_
 (repeat (first | simp only [↓QA, QB, Nat.reduceLT, reduceIte, Nat.reduceEqDiff, Nat.reduceAdd, Nat.reduceLeDiff, Nat.reduceMul, Nat.reduceBEq, QXDDrPC, hR.len, hR.base, hR.base0, hR.bset, hR.bset0, hR.at1, hR.at0, a67] | refine rd0 rfl ?_))
 refine callK_do hal ?_
 (repeat (first | simp only [↓QA, QB, Nat.reduceLT, reduceIte, Nat.reduceEqDiff, Nat.reduceAdd, Nat.reduceLeDiff, Nat.reduceMul, Nat.reduceBEq, QXDDrPC, hR.len, hR.base, hR.base0, hR.bset, hR.bset0, hR.at1, hR.at0] | refine rd0 rfl ?_))
 refine loopE (S := Nat) 0 (fun k => k ≤ 26) (fun k => 26 - k)
  (fun k => [(4, .int .i64 (orUp f k : Int)), (9, .agg (natA F)), (10, .int .i64 k)]) (fun _ => S A2) (Nat.zero_le _) rfl ?_ fun k hk => ?_
 ·try simp only [TrimX, QE, Nat.reduceLT, reduceIte, Nat.reduceEqDiff, Nat.reduceAdd, Nat.reduceLeDiff, Nat.reduceMul, Nat.reduceBEq, QXDDrPC, hR.len, hR.base, hR.base0, hR.bset, hR.bset0, hR.at1, hR.at0, orUp]
  try simp
 ·(repeat (first | simp only [↓QA, QB, Nat.reduceLT, reduceIte, Nat.reduceEqDiff, Nat.reduceAdd, Nat.reduceLeDiff, Nat.reduceMul, Nat.reduceBEq, QXDDrPC, hR.len, hR.base, hR.base0, hR.bset, hR.bset0, hR.at1, hR.at0, L67_0] | refine rd0 rfl ?_))
  refine iteP_intro (fun hd => ?_) fun hd => ?_
  ·have hk1 : k < 26 := by simp at hd; omega
   have hw := wrapN hk1 (by omega)
   have i1 : (0 : Int) ≤ (k : Int) ∧ (k : Int) < ((26 : Nat) : Int) := ⟨by omega, by omega⟩
   have hg := natA_get F hk1
   have h1 := hFl k hk1
   have h2 := orUp_lt hfl k
   have h3 := hfl k
   have hand : binAV .and (.int .i64 ((F k : Nat) : Int)) (.int .i64 15) = some (.int .i64 ((f k : Nat) : Int)) := by rw [hff]; exact V_and (F k) 15 (by omega) (by omega)
   have hor := V_or (orUp f k) (f k) (by omega) (by omega)
   have hst : orUp f (k + 1) = orUp f k ||| f k := rfl
   (repeat (first | simp only [↓QA, QB, Nat.reduceLT, reduceIte, Nat.reduceEqDiff, Nat.reduceAdd, Nat.reduceLeDiff, Nat.reduceMul, Nat.reduceBEq, QXDDrPC, hR.len, hR.base, hR.base0, hR.bset, hR.bset0, hR.at1, hR.at0, i1, hg, hand, hor, V_ixA] | refine rd0 rfl ?_))
   refine ⟨k + 1, by omega, by omega, ?_⟩
   try simp only [TrimX, QE, Nat.reduceLT, reduceIte, Nat.reduceEqDiff, Nat.reduceAdd, Nat.reduceLeDiff, Nat.reduceMul, Nat.reduceBEq, QXDDrPC, hR.len, hR.base, hR.base0, hR.bset, hR.bset0, hR.at1, hR.at0, hw, hst]
   try simp
  ·have hk1 : k = 26 := by simp at hd; omega
   subst hk1
   (repeat (first | simp only [↓QA, QB, Nat.reduceLT, reduceIte, Nat.reduceEqDiff, Nat.reduceAdd, Nat.reduceLeDiff, Nat.reduceMul, Nat.reduceBEq, QXDDrPC, hR.len, hR.base, hR.base0, hR.bset, hR.bset0, hR.at1, hR.at0] | refine rd0 rfl ?_))
   exact ⟨_, [], rfl, by simp, by try simp only [QS, QC, Nat.reduceLT, reduceIte, Nat.reduceEqDiff, Nat.reduceAdd, Nat.reduceLeDiff, Nat.reduceMul, Nat.reduceBEq, QXDDrPC, hR.len, hR.base, hR.base0, hR.bset, hR.bset0, hR.at1, hR.at0]⟩
end Go.Am.Room
set_option maxRecDepth 4000
namespace Go.Am.Room
def QXDDrPD := And.intro @encVoy_eq (And.intro @voyCells_eq (And.intro @encKp_eq (And.intro @encDoor_eq (And.intro @encLook_eq (And.intro @encSpan_eq (And.intro @S_mapKp (And.intro @S_mapDoor (And.intro @S_mapLook (And.intro @List.length_append.{0} (And.intro @T_sapp (And.intro @T_sapp0 (And.intro @Nat.add_lt_add_iff_left (And.intro @Nat.lt_add_right_iff_pos (And.intro @Nat.mul_one (@Int.toNat_natCast)))))))))))))))
theorem pcauses_ok (v : Voy) (n : Int) (hf : Fits v) : Pure T 21 [encVoy v, .int .i64 n] (encLE (causesOf v n)) := by
 refine pure_fn (af := a21) rfl (by simp [a21]) dd ?_
 (repeat (first | simp only [↓QA, QB, Nat.reduceLT, reduceIte, Nat.reduceEqDiff, Nat.reduceAdd, Nat.reduceLeDiff, Nat.reduceMul, Nat.reduceBEq, QXDDrPD, a21] | refine rd0 rfl ?_))
 refine callK_do (enter_run _ v n hf) ?_
 simp only [enterV, enterSt]
 by_cases h0 : lotErr v n = 0
 ·obtain ⟨ha, hne⟩ := errKnown_ok h0
  obtain ⟨hv, hn0, hn1⟩ := errAsk_ok ha
  have hdr := hv.ndr
  obtain ⟨N, rfl⟩ : ∃ N : Nat, n = N := ⟨n.toNat, by omega⟩
  have hN : N < v.lots.toNat := by omega
  have hm : causesOf v N = (causesIn v (truths v []) N, 0) := by rw [causesOf, if_pos h0, Int.toNat_natCast]
  have hcd := causes_does (voy_at [.cells (voyCells v)] v) hv but0 N hN (memo0 v)
  have hcl : causeSet v N < 16 := orUp_lt (n := 4) (causeBits_lt v N) 26
  have hlo := list_ok (causeSet v N) v.doors.length (by omega) (by omega)
  rw [causes_law hv hN] at hlo
  obtain ⟨A, hA⟩ : ∃ A, allMemo hv N (memo0 v) = A := ⟨_, rfl⟩
  obtain ⟨C, hC⟩ : ∃ C, causeSet v N = C := ⟨_, rfl⟩
  rw [hA, hC] at hcd
  rw [hC] at hlo
  rw [if_pos h0, if_pos h0, hm]
  simp only [entS] at hcd ⊢
  try simp only [↓QA, QB, Nat.reduceLT, reduceIte, Nat.reduceEqDiff, Nat.reduceAdd, Nat.reduceLeDiff, Nat.reduceMul, Nat.reduceBEq, QXDDrPD] at hcd
  (repeat (first | simp only [↓QA, QB, Nat.reduceLT, reduceIte, Nat.reduceEqDiff, Nat.reduceAdd, Nat.reduceLeDiff, Nat.reduceMul, Nat.reduceBEq, QXDDrPD, show ((0 : Int) == 0) = true from rfl] | refine rd0 rfl ?_))
  refine callD_do hcd ?_
  (repeat (first | simp only [↓QA, QB, Nat.reduceLT, reduceIte, Nat.reduceEqDiff, Nat.reduceAdd, Nat.reduceLeDiff, Nat.reduceMul, Nat.reduceBEq, QXDDrPD] | refine rd0 rfl ?_))
  ((first | refine callK_d (hlo) rfl dd ?_ | refine callD_d (hlo) rfl dd ?_); (repeat (first | simp only [↓QA, QB, Nat.reduceLT, reduceIte, Nat.reduceEqDiff, Nat.reduceAdd, Nat.reduceLeDiff, Nat.reduceMul, Nat.reduceBEq, QXDDrPD, encLE] | refine rd0 rfl ?_)))
 ·have h0' : (lotErr v n == 0) = false := by simpa using h0
  have hm : causesOf v n = ([], lotErr v n) := by rw [causesOf, if_neg h0]
  rw [if_neg h0, if_neg h0, hm]
  (repeat (first | simp only [↓QA, QB, Nat.reduceLT, reduceIte, Nat.reduceEqDiff, Nat.reduceAdd, Nat.reduceLeDiff, Nat.reduceMul, Nat.reduceBEq, QXDDrPD, h0', encLE] | refine rd0 rfl ?_))
  try rfl
theorem orL_take (g : Int → Nat) (l : List Int) {k : Nat} (h : k < l.length) : orL g (l.take (k + 1)) 0 = orL g (l.take k) 0 ||| 2 ^ g l[k] := by
 rw [orL, List.take_add_one, List.getElem?_eq_getElem h, List.foldl_append]
 rfl
theorem pwhose_ok (v : Voy) (n : Int) (hf : Fits v) : Pure T 24 [encVoy v, .int .i64 n] (encLE (whoseOf v n)) := by
 refine pure_fn (af := a24) rfl (by simp [a24]) dd ?_
 (repeat (first | simp only [↓QA, QB, Nat.reduceLT, reduceIte, Nat.reduceEqDiff, Nat.reduceAdd, Nat.reduceLeDiff, Nat.reduceMul, Nat.reduceBEq, QXDDrPD, a24] | refine rd0 rfl ?_))
 refine callK_do (enter_run _ v n hf) ?_
 simp only [enterV, enterSt]
 by_cases h0 : lotErr v n = 0
 ·obtain ⟨ha, hne⟩ := errKnown_ok h0
  obtain ⟨hv, hn0, hn1⟩ := errAsk_ok ha
  have hdr := hv.ndr
  have hkp := hv.nkp
  have hhr := hv.hours
  obtain ⟨N, rfl⟩ : ∃ N : Nat, n = N := ⟨n.toNat, by omega⟩
  have hN : N < v.lots.toNat := by omega
  have hm : whoseOf v N = (whoseIn v (causesIn v (truths v []) N), 0) := by rw [whoseOf, if_pos h0, Int.toNat_natCast]
  have hcd := causes_does (voy_at [.cells (voyCells v)] v) hv but0 N hN (memo0 v)
  have hcl : causeSet v N < 16 := orUp_lt (n := 4) (causeBits_lt v N) 26
  have hlo := list_ok (causeSet v N) v.doors.length (by omega) (by omega)
  rw [causes_law hv hN] at hlo
  have hds : (causesIn v (truths v []) N).length ≤ 4 := by
   refine Nat.le_trans (List.length_filter_le _ _) ?_
   rw [numbers_len]; omega
  have hdi : ∀ d ∈ causesIn v (truths v []) N, 0 ≤ d ∧ d < v.doors.length := fun d hd => (mem_causes.1 hd).1
  obtain ⟨ds, hdse⟩ : ∃ ds, causesIn v (truths v []) N = ds := ⟨_, rfl⟩
  rw [hdse] at hlo hds hdi hm
  obtain ⟨A, hA⟩ : ∃ A, allMemo hv N (memo0 v) = A := ⟨_, rfl⟩
  obtain ⟨C, hC⟩ : ∃ C, causeSet v N = C := ⟨_, rfl⟩
  rw [hA, hC] at hcd
  rw [hC] at hlo
  obtain ⟨g, hg⟩ : ∃ g : Int → Nat, (fun d => (keeperAt v (doorHour v d)).toNat) = g := ⟨_, rfl⟩
  have hgk : ∀ d, keeperAt v (doorHour v d) = ((g d : Nat) : Int) := fun d => by
   have := (keeper_in hv (doorHour v d)).1
   rw [← hg]; simp only; omega
  have hg5 : ∀ d, g d < 5 := fun d => by have := (keeper_in hv (doorHour v d)).2; have := hgk d; omega
  have hor32 : ∀ l : List Int, orL g l 0 < 2 ^ 5 := fun l => orL_lt (by omega) fun d _ => hg5 d
  have hlo2 := list_ok (orL g ds 0) v.keepers.length (by have := hor32 ds; omega) (by omega)
  have hwl := whose_law hv ds
  rw [hg] at hwl
  rw [hwl] at hlo2
  have hkm := fun h hh => keeper_m [.cells (voyCells v), .cells (voyCells v), .cells (voyCells v), .map (tEs v [] A), .cells (db v 0 3)] 4 v 0 3 rfl hv h hh
  rw [if_pos h0, if_pos h0, hm]
  simp only [entS] at hcd ⊢
  try simp only [↓QA, QB, Nat.reduceLT, reduceIte, Nat.reduceEqDiff, Nat.reduceAdd, Nat.reduceLeDiff, Nat.reduceMul, Nat.reduceBEq, QXDDrPD] at hcd hkm
  (repeat (first | simp only [↓QA, QB, Nat.reduceLT, reduceIte, Nat.reduceEqDiff, Nat.reduceAdd, Nat.reduceLeDiff, Nat.reduceMul, Nat.reduceBEq, QXDDrPD, show ((0 : Int) == 0) = true from rfl] | refine rd0 rfl ?_))
  refine callD_do hcd ?_
  (repeat (first | simp only [↓QA, QB, Nat.reduceLT, reduceIte, Nat.reduceEqDiff, Nat.reduceAdd, Nat.reduceLeDiff, Nat.reduceMul, Nat.reduceBEq, QXDDrPD] | refine rd0 rfl ?_))
  ((first | refine callK_d (hlo) rfl dd ?_ | refine callD_d (hlo) rfl dd ?_); (repeat (first | simp only [↓QA, QB, Nat.reduceLT, reduceIte, Nat.reduceEqDiff, Nat.reduceAdd, Nat.reduceLeDiff, Nat.reduceMul, Nat.reduceBEq, QXDDrPD] | refine rd0 rfl ?_)))
  refine loopE (S := Nat) 0 (fun k => k ≤ ds.length) (fun k => ds.length - k)
   (fun k => [(2, .ptr 0 0), (8, .func 69 [.ptr 4 0] []), (9, .int .i64 (orL g (ds.take k) 0 : Int)), (29, ints ds), (30, .int .i64 ds.length), (31, .int .i64 k)])
   (fun k => [.cells (voyCells v), .cells (voyCells v), .cells (voyCells v), .map (tEs v [] A), .cells (db v 0 3)]) (Nat.zero_le _) (by simp [voyCells, ints]) ?_ fun k hk => ?_
  ·try simp only [TrimX, QE, Nat.reduceLT, reduceIte, Nat.reduceEqDiff, Nat.reduceAdd, Nat.reduceLeDiff, Nat.reduceMul, Nat.reduceBEq, QXDDrPD, ints, List.take_zero, orL, List.foldl_nil]
   try simp
  ·(repeat (first | simp only [↓QA, QB, Nat.reduceLT, reduceIte, Nat.reduceEqDiff, Nat.reduceAdd, Nat.reduceLeDiff, Nat.reduceMul, Nat.reduceBEq, QXDDrPD, L24_0] | refine rd0 rfl ?_))
   refine iteP_intro (fun hd => ?_) fun hd => ?_
   ·have hk1 : k < ds.length := by simpa using hd
    have hw := wrapN hk1 (by omega)
    have hdd := hdi _ (List.getElem_mem hk1)
    have hst := orL_take g ds hk1
    obtain ⟨d, hde⟩ : ∃ d, ds[k] = d := ⟨_, rfl⟩
    rw [hde] at hdd hst
    have hd0 : 0 ≤ d := hdd.1
    have hd1 : d.toNat < v.doors.length := by omega
    have hdh : doorHour v d = v.doors[d.toNat].hour := by simp [doorHour, hd1]
    have hrg := hv.dr _ (List.getElem_mem hd1)
    have hkd := hkm v.doors[d.toNat].hour (by omega)
    have hgd := hgk d
    have hgl := hg5 d
    rw [hdh] at hgd
    rw [hgd] at hkd
    have h1 := hor32 (ds.take k)
    have hp2 : 2 ^ g d < 2 ^ 5 := Nat.pow_lt_pow_right (by omega) hgl
    have hsh := V_shl1 (g d) (by omega)
    have hor := V_or (orL g (ds.take k) 0) (2 ^ g d) (by omega) (by omega)
    (repeat (first | simp only [↓QA, QB, Nat.reduceLT, reduceIte, Nat.reduceEqDiff, Nat.reduceAdd, Nat.reduceLeDiff, Nat.reduceMul, Nat.reduceBEq, QXDDrPD, hk1, hde, V_idxI, hd0, hd1] | refine rd0 rfl ?_))
    refine callK_same hkd ?_
    (repeat (first | simp only [↓QA, QB, Nat.reduceLT, reduceIte, Nat.reduceEqDiff, Nat.reduceAdd, Nat.reduceLeDiff, Nat.reduceMul, Nat.reduceBEq, QXDDrPD, hk1, hde, V_idxI, hd0, hd1, hsh, hor] | refine rd0 rfl ?_))
    refine ⟨k + 1, by omega, by omega, ?_⟩
    try simp only [TrimX, QE, Nat.reduceLT, reduceIte, Nat.reduceEqDiff, Nat.reduceAdd, Nat.reduceLeDiff, Nat.reduceMul, Nat.reduceBEq, QXDDrPD, hw, hst]
    try simp [okBlk, okVs, okV]
   ·have hk1 : k = ds.length := by simp at hd; omega
    rw [hk1, List.take_length]
    (repeat (first | simp only [↓QA, QB, Nat.reduceLT, reduceIte, Nat.reduceEqDiff, Nat.reduceAdd, Nat.reduceLeDiff, Nat.reduceMul, Nat.reduceBEq, QXDDrPD] | refine rd0 rfl ?_))
    ((first | refine callK_d (hlo2) rfl dd ?_ | refine callD_d (hlo2) rfl dd ?_); (repeat (first | simp only [↓QA, QB, Nat.reduceLT, reduceIte, Nat.reduceEqDiff, Nat.reduceAdd, Nat.reduceLeDiff, Nat.reduceMul, Nat.reduceBEq, QXDDrPD, encLE] | refine rd0 rfl ?_)))
 ·have h0' : (lotErr v n == 0) = false := by simpa using h0
  have hm : whoseOf v n = ([], lotErr v n) := by rw [whoseOf, if_neg h0]
  rw [if_neg h0, if_neg h0, hm]
  (repeat (first | simp only [↓QA, QB, Nat.reduceLT, reduceIte, Nat.reduceEqDiff, Nat.reduceAdd, Nat.reduceLeDiff, Nat.reduceMul, Nat.reduceBEq, QXDDrPD, h0', encLE] | refine rd0 rfl ?_))
  try rfl
theorem fam1_ofX {X : Type} {M : Type} {S : X → M → St} {obj : List AV} {es : M → List (AV × AV)} {p m N : Nat} (hS : ∀ x, MemAt (S x) obj es p m N) (hK : ∀ x A y B k i, N ≤ k → i < N → blkKept (S x A) (S y B) k i) (hpl : p < N) (U UD : X → St) (n : Nat) (hU : ∀ x, (U x).length = n) (hUD : ∀ x, (UD x).length = n) (ok : ∀ x y, y ∈ U x → ∀ k, N ≤ k → okBlk k y) (okD : ∀ x y, y ∈ UD x → ∀ k, N ≤ k → okBlk k y)
  (env : Env) (ps : List Nat) (a bb : ACode) (st st' : LS) (pe pe' : Option AJump) :
  Fam1 (fun x A => S x A ++ (U x ++ [.cells [.ptr p 0], .loop st pe env ps a bb])) (fun x A => S x A ++ (UD x ++ [.cells [.ptr p 0], .loop st' pe' env ps a bb])) obj es p m (N + n) (N + n + 2) := by
 have low : ∀ (x : X) (A : M) (y : X) (B : M) (C D : St) (k i : Nat), N ≤ k → i < N → blkKept (S x A ++ C) (S y B ++ D) k i := by
  intro x A y B C D k i hk hi
  have e1 : (S x A ++ C)[i]? = (S x A)[i]? := List.getElem?_append_left (by rw [(hS x).len]; exact hi)
  have e2 : (S y B ++ D)[i]? = (S y B)[i]? := List.getElem?_append_left (by rw [(hS y).len]; exact hi)
  have := hK x A y B k i hk hi
  simp only [blkKept, e1, e2] at this ⊢
  exact this
 have high : ∀ (P Q : St) (C D : St) (l1 l2 : ABlk) (k i : Nat), P.length = N → Q.length = N → C.length = n → D.length = n → (∀ y ∈ D, okBlk k y) → N ≤ i → i < N + n + 2 → (l1 = l2 ∨ ∃ st pe st' pe' env ps a b, l1 = .loop st pe env ps a b ∧ l2 = .loop st' pe' env ps a b) →
   blkKept (P ++ (C ++ [.cells [.ptr p 0], l1])) (Q ++ (D ++ [.cells [.ptr p 0], l2])) k i := by
  intro P Q C D l1 l2 k i hP hQ hA hB hk h1 h2 hl
  have e1 : (P ++ (C ++ [.cells [.ptr p 0], l1]))[i]? = (C ++ [.cells [.ptr p 0], l1])[i - N]? := by rw [List.getElem?_append_right (by rw [hP]; exact h1), hP]
  have e2 : (Q ++ (D ++ [.cells [.ptr p 0], l2]))[i]? = (D ++ [.cells [.ptr p 0], l2])[i - N]? := by rw [List.getElem?_append_right (by rw [hQ]; exact h1), hQ]
  simp only [blkKept, e1, e2]
  obtain ⟨j, hj⟩ : ∃ j, i - N = j := ⟨_, rfl⟩
  rw [hj]
  by_cases hjn : j < n
  ·right; left
   have hb : j < D.length := by omega
   refine ⟨D[j], ?_, hk _ (List.getElem_mem hb)⟩
   rw [List.getElem?_append_left hb, List.getElem?_eq_getElem hb]
  ·have : j = n ∨ j = n + 1 := by omega
   rcases this with rfl | rfl
   ·left
    rw [List.getElem?_append_right (by omega), List.getElem?_append_right (by omega), hA, hB]
    simp
   ·rw [List.getElem?_append_right (by omega), List.getElem?_append_right (by omega), hA, hB]
    simp only [Nat.add_sub_cancel_left, List.getElem?_cons_succ, List.getElem?_cons_zero]
    rcases hl with rfl | ⟨_, _, _, _, _, _, _, _, rfl, rfl⟩
    ·exact .inl rfl
    ·exact .inr (.inr ⟨_, _, _, _, _, _, _, _, rfl, rfl⟩)
 refine ⟨fun x => ?_, fun x A => ?_, fun x A => ?_, fun x A y B k i hk hi => ?_, fun x A y B k i hk hi => ?_, by omega, by omega⟩
 ·have := (hS x).app (U x ++ [.cells [.ptr p 0], .loop st pe env ps a bb])
  rw [List.length_append, hU] at this
  exact this
 ·simp [(hS x).len, hUD]; omega
 ·have e : N + n = (S x A).length + n := by rw [(hS x).len]
  rw [e, M_base]
  have : n = (U x).length := by rw [hU]
  rw [this]
  exact M_base0 _ _
 ·by_cases h : i < N
  ·exact low _ _ _ _ _ _ _ _ (by omega) h
  ·exact high _ _ _ _ _ _ _ _ ((hS x).len A) ((hS y).len B) (hU x) (hU y) (fun z hz => ok y z hz k (by omega)) (by omega) hi (.inl rfl)
 ·by_cases h : i < N
  ·exact low _ _ _ _ _ _ _ _ (by omega) h
  ·exact high _ _ _ _ _ _ _ _ ((hS x).len A) ((hS y).len B) (hU x) (hUD y) (fun z hz => okD y z hz k (by omega)) (by omega) hi (.inr ⟨_, _, _, _, _, _, _, _, rfl, rfl⟩)
theorem range_ofX {X M : Type} {S : X → M → St} {obj : List AV} {es : M → List (AV × AV)} {p m N : Nat} (hS : ∀ x, MemAt (S x) obj es p m N) (U UD : X → St) (n : Nat) (hU : ∀ x, (U x).length = n) (hUD : ∀ x, (UD x).length = n)
  (J : AJump) (e : Env) (k : Nat) (ps : List Nat) (a bb : ACode) (g : FuncId) (ek : Env.get e k = .func g [] [.ptr (N + n) 0]) (r : X × Bool) (B' : M) (x : X) (B : M)
  (hrun : Run T (.call g [.yield (N + n + 1), .ptr (N + n) 0] (S x B ++ (U x ++ [.cells [.ptr p 0], .loop .ready none e ps a bb]))) fun o => ∃ τ', o.σ = Fam1.out (fun x A => S x A ++ (U x ++ [.cells [.ptr p 0], .loop .ready none e ps a bb])) (fun x A => S x A ++ (UD x ++ [.cells [.ptr p 0], .loop .done (some J) e ps a bb])) r B' ++ τ') (K : KJ)
  (hT : ∀ τ, r.2 = true → K none e (S r.1 B' ++ (U r.1 ++ (.cells [.ptr p 0] :: .dead :: τ))))
  (hD : ∀ τ, r.2 = false → K (some J) e (S r.1 B' ++ (UD r.1 ++ (.cells [.ptr p 0] :: .dead :: τ)))) :
  rK (K := ⟨K⟩) T (.rangeFunc (.t k) ps a bb) e (S x B ++ (U x ++ [.cells [.ptr p 0]])) := by
 have hlen : (S x B ++ (U x ++ [ABlk.cells [.ptr p 0]])).length = N + n + 1 := by simp [(hS x).len, hU]; omega
 have hout : ∀ (A W : St) (lp : ABlk) (τ' : St), A.length = N → W.length = n → (A ++ (W ++ [ABlk.cells [.ptr p 0], lp]) ++ τ')[N + n + 1]? = some lp ∧ (A ++ (W ++ [ABlk.cells [.ptr p 0], lp]) ++ τ').set (N + n + 1) .dead = A ++ (W ++ (.cells [.ptr p 0] :: .dead :: τ')) := by
  intro A W lp τ' hA hW
  have h1 : N + n + 1 = (A ++ W).length + 1 := by simp [hA, hW]
  have h2 : A ++ (W ++ [ABlk.cells [.ptr p 0], lp]) ++ τ' = (A ++ W) ++ (.cells [.ptr p 0] :: lp :: τ') := by simp
  rw [h1, h2]
  constructor
  ·rw [st_get]; rfl
  ·rw [st_set]; simp
 refine rK_range (by rw [q_evt, ek]) (by
  rw [hlen, List.append_assoc (S x B), List.append_assoc (U x)]
  exact hrun) fun o ho => ?_
 obtain ⟨τ', hσ⟩ := ho
 rw [hlen, hσ]
 cases hr2 : r.2
 ·have hD' := hD τ' hr2
  obtain ⟨g1, g2⟩ := hout (S r.1 B') (UD r.1) (.loop .done (some J) e ps a bb) τ' ((hS _).len _) (hUD _)
  simp only [Fam1.out, hr2, Bool.false_eq_true, if_false]
  rw [g1, g2]
  exact ⟨_, _, _, _, _, _, rfl, by simp, hD'⟩
 ·have hT' := hT τ' hr2
  obtain ⟨g1, g2⟩ := hout (S r.1 B') (U r.1) (.loop .ready none e ps a bb) τ' ((hS _).len _) (hU _)
  simp only [Fam1.out, hr2, if_true]
  rw [g1, g2]
  exact ⟨_, _, _, _, _, _, rfl, by simp, hT'⟩
theorem yields_ofX {X A M : Type} {S : X → M → St} {obj : List AV} {es : M → List (AV × AV)} {p m N : Nat} (hS : ∀ x, MemAt (S x) obj es p m N) (U UD : X → St) (n : Nat) (hU : ∀ x, (U x).length = n) (hUD : ∀ x, (UD x).length = n) (J : AJump) (e : Env) (ps : List Nat) (args : A → Bool → Option Nat → List AV) (hps : ∀ t fl tk, ps.length = (args t fl tk).length) (a bb : ACode) {P : A → Prop} {f : A → X → X × Bool}
  (h : ∀ t, P t → ∀ (fl : Bool) (tk : Option Nat) x B τ, wp T a (bindPs e ps (args t fl tk)) (S x B ++ (U x ++ (.cells [.ptr p 0] :: .loop .ready none e ps a bb :: τ))) (fun j e' σ' => j = none ∧ σ' = S x B ++ (U x ++ (.cells [.ptr p 0] :: .loop .ready none e ps a bb :: τ)) ∧
   wp T bb e' (S x B ++ (U x ++ (.cells [.ptr p 0] :: .loop .busy none e ps a bb :: τ))) (fun j e'' σ'' => ((f t x).2 = true ∧ j = none ∧ ∃ τ', σ'' = S (f t x).1 B ++ (U (f t x).1 ++ (.cells [.ptr p 0] :: .loop .busy none e ps a bb :: (τ ++ τ')))) ∨
    ((f t x).2 = false ∧ j = some J ∧ ∃ τ', σ'' = S (f t x).1 B ++ (UD (f t x).1 ++ (.cells [.ptr p 0] :: .loop .busy none e ps a bb :: (τ ++ τ'))))))) :
  YieldsT (fun x B => S x B ++ (U x ++ [.cells [.ptr p 0], .loop .ready none e ps a bb])) (fun x B => S x B ++ (UD x ++ [.cells [.ptr p 0], .loop .done (some J) e ps a bb])) (N + n + 1) args P f := by
 intro t ht fl tk x B τ
 have hget : ∀ (A W : St) (lp : ABlk) (υ : St), A.length = N → W.length = n → (A ++ (W ++ (ABlk.cells [.ptr p 0] :: lp :: υ)))[N + n + 1]? = some lp := by
  intro A W lp υ hA hW
  have h1 : N + n + 1 = (A ++ W).length + 1 := by simp [hA, hW]
  rw [h1, ← List.append_assoc, st_get]; rfl
 have hset : ∀ (A W : St) (lp l2 : ABlk) (υ : St), A.length = N → W.length = n → (A ++ (W ++ (ABlk.cells [.ptr p 0] :: lp :: υ))).set (N + n + 1) l2 = A ++ (W ++ (ABlk.cells [.ptr p 0] :: l2 :: υ)) := by
  intro A W lp l2 υ hA hW
  have h1 : N + n + 1 = (A ++ W).length + 1 := by simp [hA, hW]
  rw [h1, ← List.append_assoc, st_set]
  simp
 obtain ⟨r, hr⟩ : ∃ r, f t x = r := ⟨_, rfl⟩
 have h := h t ht fl tk x B τ
 rw [hr] at h ⊢
 have hst : (fun x B => S x B ++ (U x ++ [ABlk.cells [.ptr p 0], .loop .ready none e ps a bb])) x B ++ τ = S x B ++ (U x ++ (.cells [.ptr p 0] :: .loop .ready none e ps a bb :: τ)) := by simp
 rw [hst]
 refine .round (env := e) (ps := ps) (a := a) (b := bb)
  (R := fun o => o.j = none ∧ o.σ = S x B ++ (U x ++ (.cells [.ptr p 0] :: .loop .ready none e ps a bb :: τ)) ∧ wp T bb o.env (S x B ++ (U x ++ (.cells [.ptr p 0] :: .loop .busy none e ps a bb :: τ))) (fun j e'' σ'' => (r.2 = true ∧ j = none ∧ ∃ τ', σ'' = S r.1 B ++ (U r.1 ++ (.cells [.ptr p 0] :: .loop .busy none e ps a bb :: (τ ++ τ')))) ∨
    (r.2 = false ∧ j = some J ∧ ∃ τ', σ'' = S r.1 B ++ (UD r.1 ++ (.cells [.ptr p 0] :: .loop .busy none e ps a bb :: (τ ++ τ'))))))
  (S := fun o => (r.2 = true ∧ o.j = none ∧ ∃ τ', o.σ = S r.1 B ++ (U r.1 ++ (.cells [.ptr p 0] :: .loop .busy none e ps a bb :: (τ ++ τ')))) ∨ (r.2 = false ∧ o.j = some J ∧ ∃ τ', o.σ = S r.1 B ++ (UD r.1 ++ (.cells [.ptr p 0] :: .loop .busy none e ps a bb :: (τ ++ τ'))))) (hget _ _ _ _ ((hS _).len _) (hU _)) (by rw [hps t fl tk]) (run_wp h fun o ho => ho) ?_ ?_ ?_
 ·rintro o ⟨hj, hσ, _⟩
  exact ⟨hj, by rw [hσ]; exact hget _ _ _ _ ((hS _).len _) (hU _)⟩
 ·rintro o ⟨_, hσ, hw⟩
  rw [hσ, hset _ _ _ _ _ ((hS _).len _) (hU _)]
  exact run_wp hw fun o ho => ho
 ·rintro o (⟨hr2, hj, τ', hσ⟩ | ⟨hr2, hj, τ', hσ⟩)
  ·rw [hσ, hj, hget _ _ _ _ ((hS _).len _) (hU _), hset _ _ _ _ _ ((hS _).len _) (hU _)]
   refine ⟨rfl, by rw [hr2]; rfl, τ', ?_⟩
   simp [Fam1.out, hr2]
  ·rw [hσ, hj, hget _ _ _ _ ((hS _).len _) (hUD _), hset _ _ _ _ _ ((hS _).len _) (hUD _)]
   refine ⟨rfl, by rw [hr2]; rfl, τ', ?_⟩
   simp [Fam1.out, hr2]
end Go.Am.Room
set_option maxRecDepth 4000
namespace Go.Am.Room
def QXDDrPE := And.intro @encVoy_eq (And.intro @voyCells_eq (And.intro @encKp_eq (And.intro @encDoor_eq (And.intro @encLook_eq (And.intro @encSpan_eq (And.intro @S_mapKp (And.intro @S_mapDoor (And.intro @S_mapLook (And.intro @List.length_append.{0} (And.intro @T_sapp (And.intro @T_sapp0 (And.intro @Nat.add_lt_add_iff_left (And.intro @Nat.lt_add_right_iff_pos (And.intro @Nat.mul_one (And.intro @Int.toNat_natCast (And.intro @C_yield (@K_yield)))))))))))))))))
theorem ask0 {v : Voy} : errAsk v 0 = (check v).2.2 := by
 unfold errAsk
 split
 ·rename_i h
  have := (vd_of_check h).lots
  rw [if_pos (inR_iff.2 ⟨by omega, by omega⟩)]
  exact h.symm
 ·rfl
theorem enter_whole (v : Voy) : lotErr v 0 = wholeErr v := by rw [lotErr, ask0]; rfl
def andI (a b : Int) : Int := Go.Am.bits .and .i64 a b
def orI (a b : Int) : Int := Go.Am.bits .or .i64 a b
theorem V_andI (a b : Int) : binAV .and (.int .i64 a) (.int .i64 b) = some (.int .i64 (andI a b)) := by simp [binAV, binInt, andI]
theorem V_orI (a b : Int) : binAV .or (.int .i64 a) (.int .i64 b) = some (.int .i64 (orI a b)) := by simp [binAV, binInt, orI]
theorem andI_nat (a b : Nat) (ha : a < 9223372036854775808) (hb : b < 9223372036854775808) : andI a b = ((a &&& b : Nat) : Int) := by
 have := V_and a b ha hb
 rw [V_andI] at this
 simpa using this
theorem orI_nat (a b : Nat) (ha : a < 4611686018427387904) (hb : b < 4611686018427387904) : orI a b = ((a ||| b : Nat) : Int) := by
 have := V_or a b ha hb
 rw [V_orI] at this
 simpa using this
def opF (op : Nat) (x : Int × Int) : (Int × Int) × Bool := ((andI x.1 op, orI x.2 op), true)
theorem op_fold : ∀ (l : List Nat) (a b : Nat), a < 16 → b < 16 → (∀ t ∈ l, t < 16) → l.foldl (fun x op => (opF op x).1) (((a : Nat) : Int), ((b : Nat) : Int)) = (((l.foldl (fun a op => a &&& op) a : Nat) : Int), ((l.foldl (fun a op => a ||| op) b : Nat) : Int)) ∧ l.foldl (fun a op => a &&& op) a < 16 ∧ l.foldl (fun a op => a ||| op) b < 16
 | [], a, b, ha, hb, _ => ⟨rfl, ha, hb⟩
 | op :: l, a, b, ha, hb, h => by
  have ho := h op (by simp)
  have h1 : a &&& op < 16 := Nat.lt_of_le_of_lt Nat.and_le_left ha
  have h2 : b ||| op < 16 := Nat.or_lt_two_pow (n := 4) hb ho
  have ih := op_fold l (a &&& op) (b ||| op) h1 h2 fun t ht => h t (by simp [ht])
  simp only [List.foldl_cons]
  have e : (opF op (((a : Nat) : Int), ((b : Nat) : Int))).1 = (((a &&& op : Nat) : Int), ((b ||| op : Nat) : Int)) := by
   simp only [opF, andI_nat a op (by omega) (by omega), orI_nat b op (by omega) (by omega)]
  rw [e]
  exact ih
def opU (x : Int × Int) : St := [.cells [.int .i64 x.1], .cells [.int .i64 x.2]]
theorem opU_ok (N : Nat) (x : Int × Int) (y : ABlk) (hy : y ∈ opU x) (k : Nat) (hk : N ≤ k) : okBlk k y := by
 simp only [opU, List.mem_cons, List.not_mem_nil, or_false] at hy
 rcases hy with rfl | rfl <;> simp [okBlk, okVs, okV]
theorem popened_ok (v : Voy) (hf : Fits v) : Pure T 26 [encVoy v] (encLLE (openedOf v)) := by
 refine pure_fn (af := a26) rfl (by simp [a26]) dd ?_
 (repeat (first | simp only [↓QA, QB, Nat.reduceLT, reduceIte, Nat.reduceEqDiff, Nat.reduceAdd, Nat.reduceLeDiff, Nat.reduceMul, Nat.reduceBEq, QXDDrPE, a26] | refine rd0 rfl ?_))
 refine callK_do (enter_run _ v 0 hf) ?_
 simp only [enterV, enterSt, enter_whole]
 by_cases h0 : wholeErr v = 0
 ·obtain ⟨ha, hne⟩ := errKnown_ok h0
  have hv := vd_of_check ha
  have hdr := hv.ndr
  obtain ⟨D, hD⟩ : ∃ D, v.doors.length = D := ⟨_, rfl⟩
  rw [hD] at hdr
  obtain ⟨U, hU⟩ : ∃ U, 2 ^ D - 1 = U := ⟨_, rfl⟩
  have hp4 : 2 ^ D ≤ 2 ^ 4 := Nat.pow_le_pow_right (by omega) hdr
  have hpos := Nat.two_pow_pos D
  have hsh := V_shl1 D (by omega)
  have hwU : IntKind.i64.wrap (((2 ^ D : Nat) : Int) - 1) = (U : Int) := by
   have : ((2 ^ D : Nat) : Int) - 1 = (U : Int) := by omega
   rw [this]; exact wrap64 ⟨by omega, by omega⟩
  have hl1 := sure_law hv
  have hl2 := may_law hv
  obtain ⟨hfd, hb1, hb2⟩ := op_fold (TL v []) U 0 (by omega) (by omega) fun t ht => (TL_lt hv t ht).1
  rw [hD, hU] at hl1
  rw [hD] at hl2
  obtain ⟨P, hP⟩ : ∃ P, (TL v []).foldl (fun a op => a &&& op) U = P := ⟨_, rfl⟩
  obtain ⟨Q, hQ⟩ : ∃ Q, (TL v []).foldl (fun a op => a ||| op) 0 = Q := ⟨_, rfl⟩
  rw [hP] at hl1 hfd hb1
  rw [hQ] at hl2 hfd hb2
  have hm : openedOf v = (lst D P, lst D Q, 0) := by rw [openedOf, if_pos h0, hD, hl1, hl2]
  have hlo1 := list_ok P D (by omega) (by omega)
  have hlo2 := list_ok Q D (by omega) (by omega)
  have hgo : iterF opF (TL v []) ((U : Int), ((0 : Nat) : Int)) = (((P : Int), (Q : Int)), true) := by rw [iterF_go (fun _ _ => rfl), hfd]
  rw [if_pos h0, if_pos h0, hm]
  have hR := voy_at [.cells (voyCells v)] v
  have hrng := truths_range hR hv but0 opU opU 2 (fun _ => rfl) (fun _ => rfl) (opU_ok _) (opU_ok _) .ret (P := fun _ => True) (f := opF)
  simp only [entS] at hrng ⊢
  simp only [voyCells_eq] at hrng
  (repeat (first | simp only [↓QA, QB, Nat.reduceLT, reduceIte, Nat.reduceEqDiff, Nat.reduceAdd, Nat.reduceLeDiff, Nat.reduceMul, Nat.reduceBEq, QXDDrPE, show ((0 : Int) == 0) = true from rfl, hD, hsh, hwU] | refine rd0 rfl ?_))
  refine callK_in rfl (by simp [a70]) ?_
  (repeat (first | simp only [↓QA, QB, Nat.reduceLT, reduceIte, Nat.reduceEqDiff, Nat.reduceAdd, Nat.reduceLeDiff, Nat.reduceMul, Nat.reduceBEq, QXDDrPE, a70] | refine rd0 rfl ?_))
  refine hrng _ 23 [24, 25] _ _ ?_ ?_ (fun _ _ => trivial) ((U : Int), ((0 : Nat) : Int)) (memo0 v) _ ?_ ?_
  ·try simp only [TrimX, QE, Nat.reduceLT, reduceIte, Nat.reduceEqDiff, Nat.reduceAdd, Nat.reduceLeDiff, Nat.reduceMul, Nat.reduceBEq, QXDDrPE]
  ·refine yields_of hR opU opU 2 (fun _ => rfl) (fun _ => rfl) .ret _ _ (tArgs v []) (fun _ _ _ => rfl) _ _ ?_
   intro t _ fl tk x B τ
   simp only [bindPs, tArgs, entS, opU, voyCells_eq]
   (repeat (first | simp only [↓QA, QB, Nat.reduceLT, reduceIte, Nat.reduceEqDiff, Nat.reduceAdd, Nat.reduceLeDiff, Nat.reduceMul, Nat.reduceBEq, QXDDrPE, F26_0, V_andI, V_orI] | refine rd0 rfl ?_))
   exact .inl ⟨rfl, [], by simp [opF]⟩
  ·intro τ h2
   rw [hgo]
   simp only [opU]
   (repeat (first | simp only [↓QA, QB, Nat.reduceLT, reduceIte, Nat.reduceEqDiff, Nat.reduceAdd, Nat.reduceLeDiff, Nat.reduceMul, Nat.reduceBEq, QXDDrPE, hD] | refine rd0 rfl ?_))
   ((first | refine callK_d (hlo1) rfl dd ?_ | refine callD_d (hlo1) rfl dd ?_); (repeat (first | simp only [↓QA, QB, Nat.reduceLT, reduceIte, Nat.reduceEqDiff, Nat.reduceAdd, Nat.reduceLeDiff, Nat.reduceMul, Nat.reduceBEq, QXDDrPE, hD] | refine rd0 rfl ?_)))
   ((first | refine callK_d (hlo2) rfl dd ?_ | refine callD_d (hlo2) rfl dd ?_); (repeat (first | simp only [↓QA, QB, Nat.reduceLT, reduceIte, Nat.reduceEqDiff, Nat.reduceAdd, Nat.reduceLeDiff, Nat.reduceMul, Nat.reduceBEq, QXDDrPE, hD, encLLE] | refine rd0 rfl ?_)))
  ·intro τ h2
   rw [hgo] at h2
   cases h2
 ·have h0' : (wholeErr v == 0) = false := by simpa using h0
  have hm : openedOf v = ([], [], wholeErr v) := by rw [openedOf, if_neg h0]
  rw [if_neg h0, if_neg h0, hm]
  (repeat (first | simp only [↓QA, QB, Nat.reduceLT, reduceIte, Nat.reduceEqDiff, Nat.reduceAdd, Nat.reduceLeDiff, Nat.reduceMul, Nat.reduceBEq, QXDDrPE, h0', encLLE] | refine rd0 rfl ?_))
  try rfl
end Go.Am.Room
set_option maxRecDepth 4000
namespace Go.Am.Room
def QXDDrPF := And.intro @encVoy_eq (And.intro @voyCells_eq (And.intro @encKp_eq (And.intro @encDoor_eq (And.intro @encLook_eq (And.intro @encSpan_eq (And.intro @S_mapKp (And.intro @S_mapDoor (And.intro @S_mapLook (And.intro @List.length_append.{0} (And.intro @T_sapp (And.intro @T_sapp0 (And.intro @Nat.add_lt_add_iff_left (And.intro @Nat.lt_add_right_iff_pos (And.intro @Nat.mul_one (And.intro @Int.toNat_natCast (And.intro @C_yield (@K_yield)))))))))))))))))
theorem cmpL_neg : ∀ a b : List Int, decide (cmpL a b < 0) = less a b
 | [], [] => rfl
 | [], b :: bs => rfl
 | a :: az, [] => rfl
 | a :: az, b :: bs => by
  have ih := cmpL_neg az bs
  simp only [cmpL, less, cmpI]
  by_cases h1 : a < b
  ·simp [h1, show ¬ a = b by omega]
  ·by_cases h2 : b < a
   ·simp [h1, h2, show ¬ a = b by omega]
   ·have : a = b := by omega
    subst this
    simp [ih]
theorem pfewer_ok (a b : List Int) (ha : a.length < 9223372036854775808) (hb : b.length < 9223372036854775808) : Pure T 71 [ints a, ints b] (.bool (fewer a b)) := by
 refine pure_fn (af := a71) rfl (by simp [a71]) dd ?_
 by_cases h1 : a.length < b.length
 ·have g1 : decide ((a.length : Int) < (b.length : Int)) = true := by simp; omega
  have e : fewer a b = true := by rw [fewer, if_neg (by omega)]; simp [h1]
  rw [e]
  (repeat (first | simp only [↓QA, QB, Nat.reduceLT, reduceIte, Nat.reduceEqDiff, Nat.reduceAdd, Nat.reduceLeDiff, Nat.reduceMul, Nat.reduceBEq, QXDDrPF, a71, g1] | refine rd0 rfl ?_))
 ·have g1 : decide ((a.length : Int) < (b.length : Int)) = false := by simp; omega
  by_cases h2 : a.length = b.length
  ·have g2 : ((a.length : Int) == (b.length : Int)) = true := by simp; omega
   have e : fewer a b = less a b := by rw [fewer, if_pos h2]
   have hn := cmpL_neg a b
   rw [e]
   (repeat (first | simp only [↓QA, QB, Nat.reduceLT, reduceIte, Nat.reduceEqDiff, Nat.reduceAdd, Nat.reduceLeDiff, Nat.reduceMul, Nat.reduceBEq, QXDDrPF, a71, g1, g2] | refine rd0 rfl ?_))
   ((first | refine callK_d (scmp_ok a b ha hb) rfl dd ?_ | refine callD_d (scmp_ok a b ha hb) rfl dd ?_); (repeat (first | simp only [↓QA, QB, Nat.reduceLT, reduceIte, Nat.reduceEqDiff, Nat.reduceAdd, Nat.reduceLeDiff, Nat.reduceMul, Nat.reduceBEq, QXDDrPF, g1, g2, hn] | refine rd0 rfl ?_)))
  ·have g2 : ((a.length : Int) == (b.length : Int)) = false := by simp; omega
   have e : fewer a b = false := by rw [fewer, if_neg h2]; simp [h1]
   rw [e]
   (repeat (first | simp only [↓QA, QB, Nat.reduceLT, reduceIte, Nat.reduceEqDiff, Nat.reduceAdd, Nat.reduceLeDiff, Nat.reduceMul, Nat.reduceBEq, QXDDrPF, a71, g1, g2] | refine rd0 rfl ?_))
theorem truths_rangeX {X : Type} {S : X → List Ask → St} {v : Voy} {b p m N : Nat} {bl : List Int} (hS : ∀ x, MemAt (S x) (db v b m) (tEs v bl) p m N) (hK : ∀ x A y B k i, N ≤ k → i < N → blkKept (S x A) (S y B) k i) (hpl : p < N) (hv : Vd v) (hb : ButIs b bl) (U UD : X → St) (n : Nat) (hU : ∀ x, (U x).length = n) (hUD : ∀ x, (UD x).length = n) (ok : ∀ x y, y ∈ U x → ∀ k, N ≤ k → okBlk k y) (okD : ∀ x y, y ∈ UD x → ∀ k, N ≤ k → okBlk k y)
  (J : AJump) {P : Nat → Prop} {f : Nat → X → X × Bool} (e : Env) (k : Nat) (ps : List Nat) (a bb : ACode) (ek : Env.get e k = .func 95 [] [.ptr (N + n) 0])
  (hy : YieldsT (fun x B => S x B ++ (U x ++ [.cells [.ptr p 0], .loop .ready none e ps a bb])) (fun x B => S x B ++ (UD x ++ [.cells [.ptr p 0], .loop .done (some J) e ps a bb])) (N + n + 1) (tArgs v bl) P f)
  (hP : ∀ t ∈ TL v bl, P t) (x : X) (A : List Ask) (K : KJ)
  (hT : ∀ τ, (iterF f (TL v bl) x).2 = true → K none e (S (iterF f (TL v bl) x).1 (allSets v bl f x A).1.2 ++ (U (iterF f (TL v bl) x).1 ++ (.cells [.ptr p 0] :: .dead :: τ))))
  (hD : ∀ τ, (iterF f (TL v bl) x).2 = false → K (some J) e (S (iterF f (TL v bl) x).1 (allSets v bl f x A).1.2 ++ (UD (iterF f (TL v bl) x).1 ++ (.cells [.ptr p 0] :: .dead :: τ)))) :
  rK (K := ⟨K⟩) T (.rangeFunc (.t k) ps a bb) e (S x A ++ (U x ++ [.cells [.ptr p 0]])) := by
 have hrun := truths1_run (fam1_ofX hS hK hpl U UD n hU hUD ok okD e ps a bb .ready .done none (some J)) hv hb hy (fun a ha hl => hP a (List.mem_filter.2 ⟨ha, hl⟩)) x A
 rw [allSets_fst] at hrun
 exact range_ofX hS U UD n hU hUD J e k ps a bb 95 ek (iterF f (TL v bl) x) (allSets v bl f x A).1.2 x A hrun K hT hD
abbrev Bst := { l : List Int // l.length ≤ 60 } × Bool
def bestAV (x : Bst) : AV := match x.2 with
 | true => .lit [] true none
 | false => ints x.1.1
theorem best_okV (x : Bst) (k : Nat) : okV k (bestAV x) := by
 obtain ⟨l, b⟩ := x
 cases b
 ·exact ok_data (data_ints l.1) k
 ·simp [bestAV, okV, okVs]
def bstep {v : Voy} (hv : Vd v) (op : Nat) (x : Bst) : Bst × Bool :=
 (if (x.2 || fewer (lst v.doors.length (andN op (sureUp v v.doors.length))) x.1.1) = true then (⟨lst v.doors.length (andN op (sureUp v v.doors.length)), Nat.le_trans (lst_len _ _) (Nat.le_trans hv.ndr (by omega))⟩, false) else x, true)
theorem bst_fold {v : Voy} (hv : Vd v) : ∀ (l : List Nat) (x : Bst), ((l.foldl (fun x op => (bstep hv op x).1) x).1.1, (l.foldl (fun x op => (bstep hv op x).1) x).2) = l.foldl (fun x op => fewF (lst v.doors.length (andN op (sureUp v v.doors.length))) x) (x.1.1, x.2)
 | [], x => rfl
 | op :: l, x => by
  simp only [List.foldl_cons]
  rw [bst_fold hv l]
  congr 1
  simp only [bstep, fewF]
  split <;> rfl
def bU (s : Nat) (x : Bst) : St := [.cells [.int .i64 s], .cells [.bool x.2]]
theorem bU_ok (N s : Nat) (x : Bst) (y : ABlk) (hy : y ∈ bU s x) (k : Nat) (hk : N ≤ k) : okBlk k y := by
 simp only [bU, List.mem_cons, List.not_mem_nil, or_false] at hy
 rcases hy with rfl | rfl <;> simp [okBlk, okVs, okV]
def bS (v : Voy) (x : Bst) (A : List Ask) : St := entS [.cells (voyCells v), .cells [bestAV x]] v A
theorem bS_at (v : Voy) (x : Bst) : MemAt (bS v x) (db v 0 4) (tEs v []) 5 4 6 := voy_at [.cells (voyCells v), .cells [bestAV x]] v
theorem bS_keep (v : Voy) (x : Bst) (A : List Ask) (y : Bst) (B : List Ask) (k i : Nat) (hk : 6 ≤ k) (hi : i < 6) : blkKept (bS v x A) (bS v y B) k i := by
 match i, hi with
 | 0, _ => exact .inl rfl
 | 1, _ => exact .inr (.inl ⟨_, rfl, best_okV y k, trivial⟩)
 | 2, _ => exact .inl rfl
 | 3, _ => exact .inl rfl
 | 4, _ => exact .inr (.inl ⟨_, rfl, tEs_ok v [] B k⟩)
 | 5, _ => exact .inl rfl
theorem cell_best (x : Bst) : cellsOk 1 (bestAV x) = true := by
 obtain ⟨l, b⟩ := x
 cases b <;> simp [bestAV, ints, cellsOk, AV.cells, AV.cell]
theorem pfewest_ok (v : Voy) (hf : Fits v) : Pure T 28 [encVoy v] (encLE (fewestOf v)) := by
 refine pure_fn (af := a28) rfl (by simp [a28]) dd ?_
 (repeat (first | simp only [↓QA, QB, Nat.reduceLT, reduceIte, Nat.reduceEqDiff, Nat.reduceAdd, Nat.reduceLeDiff, Nat.reduceMul, Nat.reduceBEq, QXDDrPF, a28] | refine rd0 rfl ?_))
 refine callK_do (enter_run _ v 0 hf) ?_
 simp only [enterV, enterSt, enter_whole]
 by_cases h0 : wholeErr v = 0
 ·obtain ⟨ha, hne⟩ := errKnown_ok h0
  have hv := vd_of_check ha
  have hdr := hv.ndr
  have hs := some_ofne hne
  have hlaw := fewest_law hv hs
  obtain ⟨W, hW⟩ : ∃ W, (TL v []).foldl (fun x op => (bstep hv op x).1) (⟨[], by simp⟩, true) = W := ⟨_, rfl⟩
  have hfd := bst_fold hv (TL v []) (⟨[], by simp⟩, true)
  rw [hW] at hfd
  have hW1 : W.1.1 = fewestL v (truths v []) := by rw [← hlaw, ← hfd]
  have hW2 : W.2 = false := by
   have e : TL v [] ≠ [] := by
    intro e
    have := TL_some hv []
    rw [e] at this
    simp [someB, ← this] at hs
   have h2 := congrArg Prod.snd hfd
   simp only at h2
   rw [h2]
   cases hT : TL v [] with
   | nil => exact absurd hT e
   | cons op l =>
    simp only [List.foldl_cons]
    have e1 : fewF (lst v.doors.length (andN op (sureUp v v.doors.length))) ([], true) = (lst v.doors.length (andN op (sureUp v v.doors.length)), false) := rfl
    have e2 : ∀ (l : List Nat) (b : List Int), (l.foldl (fun x op => fewF (lst v.doors.length (andN op (sureUp v v.doors.length))) x) (b, false)).2 = false := by
     intro l
     induction l with
     | nil => intro b; rfl
     | cons a l ih =>
      intro b
      simp only [List.foldl_cons]
      have : ∃ c, fewF (lst v.doors.length (andN a (sureUp v v.doors.length))) (b, false) = (c, false) := by
       simp only [fewF]
       split
       ·exact ⟨_, rfl⟩
       ·exact ⟨_, rfl⟩
      obtain ⟨c, hc⟩ := this
      rw [hc, ih]
    rw [e1, e2]
  have hm : fewestOf v = (W.1.1, 0) := by rw [fewestOf, if_pos h0, hW1]
  have hgo : iterF (bstep hv) (TL v []) (⟨[], by simp⟩, true) = (W, true) := by rw [iterF_go (fun _ _ => rfl), hW]
  have hWa : bestAV W = ints W.1.1 := by simp only [bestAV, hW2]
  obtain ⟨SU, hSU⟩ : ∃ SU, sureUp v v.doors.length = SU := ⟨_, rfl⟩
  have hSl : SU < 16 := by rw [← hSU]; exact Nat.lt_of_lt_of_le (sureUp_lt v _) (show 2 ^ v.doors.length ≤ 2 ^ 4 from Nat.pow_le_pow_right (by omega) hdr)
  rw [if_pos h0, if_pos h0, hm]
  have hR := bS_at v
  have hrng := truths_rangeX hR (bS_keep v) (by omega) hv but0 (bU SU) (bU SU) 2 (fun _ => rfl) (fun _ => rfl) (bU_ok _ SU) (bU_ok _ SU) .ret (P := fun t => t < 16) (f := bstep hv)
  simp only [bS, entS] at hrng ⊢
  simp only [voyCells_eq] at hrng
  (repeat (first | simp only [↓QA, QB, Nat.reduceLT, reduceIte, Nat.reduceEqDiff, Nat.reduceAdd, Nat.reduceLeDiff, Nat.reduceMul, Nat.reduceBEq, QXDDrPF, show ((0 : Int) == 0) = true from rfl] | refine rd0 rfl ?_))
  refine loopE (S := Nat) 0 (fun k => k ≤ v.doors.length) (fun k => v.doors.length - k)
   (fun k => [(1, .ptr 0 0), (2, .ptr 1 0), (4, .ptr 5 0), (5, .ptr 6 0), (20, .lit (v.doors.map encDoor) false none), (21, .int .i64 v.doors.length), (22, .int .i64 k)])
   (fun k => [.cells (voyCells v), .cells [.lit [] true none], .cells (voyCells v), .cells (voyCells v), .map (tEs v [] (memo0 v)), .cells (db v 0 4), .cells [.int .i64 (sureUp v k : Int)]]) (Nat.zero_le _) (by simp [voyCells, ints, sureUp]) ?_ fun k hk => ?_
  ·try simp only [TrimX, QE, Nat.reduceLT, reduceIte, Nat.reduceEqDiff, Nat.reduceAdd, Nat.reduceLeDiff, Nat.reduceMul, Nat.reduceBEq, QXDDrPF]
   try simp
  ·(repeat (first | simp only [↓QA, QB, Nat.reduceLT, reduceIte, Nat.reduceEqDiff, Nat.reduceAdd, Nat.reduceLeDiff, Nat.reduceMul, Nat.reduceBEq, QXDDrPF, L28_0] | refine rd0 rfl ?_))
   refine iteP_intro (fun hd => ?_) fun hd => ?_
   ·have hk1 : k < v.doors.length := by simpa using hd
    have hw := wrapN hk1 (by omega)
    have hse : isSure v (k : Int) = v.doors[k].sure := isSure_at hk1
    obtain ⟨y, hye⟩ : ∃ y, v.doors[k] = y := ⟨_, rfl⟩
    rw [hye] at hse
    have hst : sureUp v (k + 1) = sureUp v k ||| (if isSure v (k : Int) = true then 2 ^ k else 0) := rfl
    rw [hse] at hst
    have hp2 : 2 ^ k ≤ 2 ^ 4 := Nat.pow_le_pow_right (by omega) (by omega)
    have hul := sureUp_lt v k
    have hsh := V_shl1 k (by omega)
    have hor := V_or (sureUp v k) (2 ^ k) (by omega) (by omega)
    cases hys : y.sure
    ·rw [hys] at hst
     simp only [Bool.false_eq_true, if_false, Nat.or_zero] at hst
     (repeat (first | simp only [↓QA, QB, Nat.reduceLT, reduceIte, Nat.reduceEqDiff, Nat.reduceAdd, Nat.reduceLeDiff, Nat.reduceMul, Nat.reduceBEq, QXDDrPF, hk1, hye, hys, show (false == true) = false from rfl, Bool.and_false] | refine rd0 rfl ?_))
     refine ⟨k + 1, by omega, by omega, ?_⟩
     try simp only [TrimX, QE, Nat.reduceLT, reduceIte, Nat.reduceEqDiff, Nat.reduceAdd, Nat.reduceLeDiff, Nat.reduceMul, Nat.reduceBEq, QXDDrPF, hw, hst]
     try simp [okBlk, okVs, okV]
    ·rw [hys] at hst
     simp only [if_true] at hst
     (repeat (first | simp only [↓QA, QB, Nat.reduceLT, reduceIte, Nat.reduceEqDiff, Nat.reduceAdd, Nat.reduceLeDiff, Nat.reduceMul, Nat.reduceBEq, QXDDrPF, hk1, hye, hys, show (true == true) = true from rfl, hsh, hor] | refine rd0 rfl ?_))
     refine ⟨k + 1, by omega, by omega, ?_⟩
     try simp only [TrimX, QE, Nat.reduceLT, reduceIte, Nat.reduceEqDiff, Nat.reduceAdd, Nat.reduceLeDiff, Nat.reduceMul, Nat.reduceBEq, QXDDrPF, hw, hst]
     try simp [okBlk, okVs, okV]
   ·have hk1 : k = v.doors.length := by simp at hd; omega
    rw [hk1, hSU]
    (repeat (first | simp only [↓QA, QB, Nat.reduceLT, reduceIte, Nat.reduceEqDiff, Nat.reduceAdd, Nat.reduceLeDiff, Nat.reduceMul, Nat.reduceBEq, QXDDrPF] | refine rd0 rfl ?_))
    refine callK_in rfl (by simp [a70]) ?_
    (repeat (first | simp only [↓QA, QB, Nat.reduceLT, reduceIte, Nat.reduceEqDiff, Nat.reduceAdd, Nat.reduceLeDiff, Nat.reduceMul, Nat.reduceBEq, QXDDrPF, a70] | refine rd0 rfl ?_))
    refine hrng _ 38 [39, 40] _ _ ?_ ?_ (fun t ht => (TL_lt hv t ht).1) (⟨[], by simp⟩, true) (memo0 v) _ ?_ ?_
    ·try simp only [TrimX, QE, Nat.reduceLT, reduceIte, Nat.reduceEqDiff, Nat.reduceAdd, Nat.reduceLeDiff, Nat.reduceMul, Nat.reduceBEq, QXDDrPF]
    ·refine yields_ofX hR (bU SU) (bU SU) 2 (fun _ => rfl) (fun _ => rfl) .ret _ _ (tArgs v []) (fun _ _ _ => rfl) _ _ ?_
     intro t ht fl tk x B τ
     have hnot := V_andNot t SU (by omega) (by omega)
     have hal := andN_le t SU
     have hlo := list_ok (andN t SU) v.doors.length (by omega) (by omega)
     have hll := lst_len v.doors.length (andN t SU)
     have hbs : bstep hv t x = (if (x.2 || fewer (lst v.doors.length (andN t SU)) x.1.1) = true then (⟨lst v.doors.length (andN t SU), Nat.le_trans (lst_len _ _) (Nat.le_trans hv.ndr (by omega))⟩, false) else x, true) := by
      rw [← hSU]; rfl
     obtain ⟨r, hr⟩ : ∃ r, bstep hv t x = r := ⟨_, rfl⟩
     rw [hr] at hbs ⊢
     have hcb := cell_best x
     obtain ⟨⟨l, hl⟩, fst⟩ := x
     simp only [bindPs, tArgs, bS, entS, bU, voyCells_eq]
     (repeat (first | simp only [↓QA, QB, Nat.reduceLT, reduceIte, Nat.reduceEqDiff, Nat.reduceAdd, Nat.reduceLeDiff, Nat.reduceMul, Nat.reduceBEq, QXDDrPF, F28_1, hnot] | refine rd0 rfl ?_))
     ((first | refine callK_d (hlo) rfl dd ?_ | refine callD_d (hlo) rfl dd ?_); (repeat (first | simp only [↓QA, QB, Nat.reduceLT, reduceIte, Nat.reduceEqDiff, Nat.reduceAdd, Nat.reduceLeDiff, Nat.reduceMul, Nat.reduceBEq, QXDDrPF] | refine rd0 rfl ?_)))
     cases fst
     ·have hx : bestAV (⟨l, hl⟩, false) = ints l := rfl
      rw [hx] at hcb ⊢
      (repeat (first | simp only [↓QA, QB, Nat.reduceLT, reduceIte, Nat.reduceEqDiff, Nat.reduceAdd, Nat.reduceLeDiff, Nat.reduceMul, Nat.reduceBEq, QXDDrPF, hcb] | refine rd0 rfl ?_))
      ((first | refine callK_d (pfewer_ok (lst v.doors.length (andN t SU)) l (by omega) (by omega)) rfl dd ?_ | refine callD_d (pfewer_ok (lst v.doors.length (andN t SU)) l (by omega) (by omega)) rfl dd ?_); (repeat (first | simp only [↓QA, QB, Nat.reduceLT, reduceIte, Nat.reduceEqDiff, Nat.reduceAdd, Nat.reduceLeDiff, Nat.reduceMul, Nat.reduceBEq, QXDDrPF] | refine rd0 rfl ?_)))
      cases hfw : fewer (lst v.doors.length (andN t SU)) l
      ·simp only [Bool.false_or, hfw, Bool.false_eq_true, if_false] at hbs
       subst hbs
       (repeat (first | simp only [↓QA, QB, Nat.reduceLT, reduceIte, Nat.reduceEqDiff, Nat.reduceAdd, Nat.reduceLeDiff, Nat.reduceMul, Nat.reduceBEq, QXDDrPF, hcb] | refine rd0 rfl ?_))
       exact .inl ⟨[], by simp [hx, ints]⟩
      ·simp only [Bool.false_or, hfw, if_true] at hbs
       subst hbs
       (repeat (first | simp only [↓QA, QB, Nat.reduceLT, reduceIte, Nat.reduceEqDiff, Nat.reduceAdd, Nat.reduceLeDiff, Nat.reduceMul, Nat.reduceBEq, QXDDrPF, hcb] | refine rd0 rfl ?_))
       exact .inl ⟨[], by simp [bestAV, ints]⟩
     ·simp only [Bool.true_or, if_true] at hbs
      subst hbs
      (repeat (first | simp only [↓QA, QB, Nat.reduceLT, reduceIte, Nat.reduceEqDiff, Nat.reduceAdd, Nat.reduceLeDiff, Nat.reduceMul, Nat.reduceBEq, QXDDrPF, hcb] | refine rd0 rfl ?_))
      exact .inl ⟨[], by simp [bestAV, ints]⟩
    ·intro τ h2
     rw [hgo]
     simp only [bU, hWa]
     (repeat (first | simp only [↓QA, QB, Nat.reduceLT, reduceIte, Nat.reduceEqDiff, Nat.reduceAdd, Nat.reduceLeDiff, Nat.reduceMul, Nat.reduceBEq, QXDDrPF, encLE] | refine rd0 rfl ?_))
    ·intro τ h2
     rw [hgo] at h2
     cases h2
 ·have h0' : (wholeErr v == 0) = false := by simpa using h0
  have hm : fewestOf v = ([], wholeErr v) := by rw [fewestOf, if_neg h0]
  rw [if_neg h0, if_neg h0, hm]
  (repeat (first | simp only [↓QA, QB, Nat.reduceLT, reduceIte, Nat.reduceEqDiff, Nat.reduceAdd, Nat.reduceLeDiff, Nat.reduceMul, Nat.reduceBEq, QXDDrPF, h0', encLE] | refine rd0 rfl ?_))
  try rfl
end Go.Am.Room
set_option maxRecDepth 4000
namespace Go.Am.Room
def QXDDrPG := And.intro @encVoy_eq (And.intro @voyCells_eq (And.intro @encKp_eq (And.intro @encDoor_eq (And.intro @encLook_eq (And.intro @encSpan_eq (And.intro @S_mapKp (And.intro @S_mapDoor (And.intro @S_mapLook (And.intro @List.length_append.{0} (And.intro @T_sapp (And.intro @T_sapp0 (And.intro @Nat.add_lt_add_iff_left (And.intro @Nat.lt_add_right_iff_pos (And.intro @Nat.mul_one (And.intro @Int.toNat_natCast (And.intro @natA_len (And.intro @natA_take (And.intro @natA_drop (And.intro @natA_cell (@S_natA))))))))))))))))))))
def spH (hs : List Int) : Nat → Int × Int
 | 0 => (-1, (hs.length : Int))
 | k + 1 => (splitTo hs k, leaves hs (splitTo hs k))
theorem split_nn (hs : List Int) (k : Nat) : 0 ≤ splitTo hs k := (splitTo_spec hs k).1.1
theorem spH_step (hs : List Int) (k : Nat) : spH hs (k + 1) = if (spH hs k).1 < 0 ∨ leaves hs (k : Int) < (spH hs k).2 then ((k : Int), leaves hs (k : Int)) else spH hs k := by
 cases k with
 | zero => rw [if_pos (.inl (show (-1 : Int) < 0 by decide))]; rfl
 | succ j =>
  have h0 := split_nn hs j
  by_cases h3 : leaves hs ((j : Int) + 1) < leaves hs (splitTo hs j)
  ·have e : splitTo hs (j + 1) = (j : Int) + 1 := by simp only [splitTo]; rw [if_pos h3]
   rw [if_pos (.inr (show leaves hs ((j + 1 : Nat) : Int) < leaves hs (splitTo hs j) from h3))]
   show (splitTo hs (j + 1), leaves hs (splitTo hs (j + 1))) = _
   rw [e]; rfl
  ·have e : splitTo hs (j + 1) = splitTo hs j := by simp only [splitTo]; rw [if_neg h3]
   rw [if_neg (show ¬((spH hs (j + 1)).1 < 0 ∨ leaves hs ((j + 1 : Nat) : Int) < (spH hs (j + 1)).2) from fun h => h.elim (fun h => absurd (show splitTo hs j < 0 from h) (by omega)) h3)]
   show (splitTo hs (j + 1), leaves hs (splitTo hs (j + 1))) = _
   rw [e]; rfl
theorem psplit_ok (v : Voy) (n : Int) (hf : Fits v) : Pure T 30 [encVoy v, .int .i64 n] (enc3 (splitOf v n)) := by
 refine pure_fn (af := a30) rfl (by simp [a30]) dd ?_
 (repeat (first | simp only [↓QA, QB, Nat.reduceLT, reduceIte, Nat.reduceEqDiff, Nat.reduceAdd, Nat.reduceLeDiff, Nat.reduceMul, Nat.reduceBEq, QXDDrPG, a30] | refine rd0 rfl ?_))
 refine callK_do (enter_run _ v n hf) ?_
 simp only [enterV, enterSt]
 by_cases h0 : lotErr v n = 0
 ·obtain ⟨ha, hne⟩ := errKnown_ok h0
  obtain ⟨hv, hn0, hn1⟩ := errAsk_ok ha
  have hhr := hv.hours
  obtain ⟨N, rfl⟩ : ∃ N : Nat, n = N := ⟨n.toNat, by omega⟩
  have hN : N < v.lots.toNat := by omega
  have hm : splitOf v N = splitIn v (canIn v (truths v []) N) := by rw [splitOf, if_pos h0, Int.toNat_natCast]
  have hal := all_does (voy_at [.cells (voyCells v)] v) hv but0 N hN (memo0 v)
  have hlen := can_len2 hv hN
  have hlv := fun a ha => can_leaves hv hN (a := a) ha
  have hcl := canP_len (allF v N) 26
  obtain ⟨F, hF⟩ : ∃ F, allF v N = F := ⟨_, rfl⟩
  obtain ⟨A, hA⟩ : ∃ A, allMemo hv N (memo0 v) = A := ⟨_, rfl⟩
  obtain ⟨hs, hhs⟩ : ∃ hs, canIn v (truths v []) N = hs := ⟨_, rfl⟩
  rw [hA, hF] at hal
  rw [hF, hhs] at hlen hlv
  rw [hF] at hcl
  rw [hhs] at hm
  obtain ⟨C, hC⟩ : ∃ C, canP F 26 = C := ⟨_, rfl⟩
  rw [hC] at hlen hlv hcl
  rw [if_pos h0, if_pos h0, hm]
  simp only [entS] at hal ⊢
  try simp only [↓QA, QB, Nat.reduceLT, reduceIte, Nat.reduceEqDiff, Nat.reduceAdd, Nat.reduceLeDiff, Nat.reduceMul, Nat.reduceBEq, QXDDrPG] at hal
  (repeat (first | simp only [↓QA, QB, Nat.reduceLT, reduceIte, Nat.reduceEqDiff, Nat.reduceAdd, Nat.reduceLeDiff, Nat.reduceMul, Nat.reduceBEq, QXDDrPG, show ((0 : Int) == 0) = true from rfl] | refine rd0 rfl ?_))
  refine callK_do hal ?_
  (repeat (first | simp only [↓QA, QB, Nat.reduceLT, reduceIte, Nat.reduceEqDiff, Nat.reduceAdd, Nat.reduceLeDiff, Nat.reduceMul, Nat.reduceBEq, QXDDrPG] | refine rd0 rfl ?_))
  refine ghostK 8 1 [] rfl ?_
  refine loopE (S := Nat × Bool) (0, false) (fun a => a.1 ≤ 26) (fun a => 26 - a.1)
   (fun a => [(2, .ptr 0 0), (8, .lit ((canP F a.1).map (.int .i64)) false (some 5)), (27, .agg (natA F)), (28, .int .i64 a.1)])
   (fun a => [.cells (voyCells v), .cells (voyCells v), .cells (voyCells v), .map (tEs v [] A), .cells (db v 0 3), .tok 1 (canP F a.1).length a.2]) (Nat.zero_le _) (by simp [voyCells, ints, canP, numbers]) ?_ fun a hk => ?_
  ·try simp only [TrimX, QE, Nat.reduceLT, reduceIte, Nat.reduceEqDiff, Nat.reduceAdd, Nat.reduceLeDiff, Nat.reduceMul, Nat.reduceBEq, QXDDrPG, canP, numbers, List.filter_nil, List.map_nil]
   try simp
  ·obtain ⟨k, ex⟩ := a
   simp only at hk
   (repeat (first | simp only [↓QA, QB, Nat.reduceLT, reduceIte, Nat.reduceEqDiff, Nat.reduceAdd, Nat.reduceLeDiff, Nat.reduceMul, Nat.reduceBEq, QXDDrPG, L30_0] | refine rd0 rfl ?_))
   refine iteP_intro (fun hd => ?_) fun hd => ?_
   ·have hk1 : k < 26 := by simp at hd; omega
    have hw := wrapN hk1 (by omega)
    have i1 : (0 : Int) ≤ (k : Int) ∧ (k : Int) < ((26 : Nat) : Int) := ⟨by omega, by omega⟩
    have hg := natA_get F hk1
    have hst := canP_succ F k
    have hln := canP_len F k
    have ap := fun (b0 b1 b2 b3 b4 : ABlk) (τ : St) => append_at (σ := b0 :: b1 :: b2 :: b3 :: b4 :: .tok 1 (canP F k).length ex :: τ) (t := 5) (ex := ex) (sz := 1) (b := 8) (xs := (canP F k).map (.int .i64)) (ys := [.int .i64 k]) (f := true) (tk := none) ⟨allCells_int _, by simp [allCells, AV.cells, AV.cell], by simp [room]; omega, by simp [room]; omega⟩ (by simp) (canP F k).length (by simp) rfl
    cases h1 : (((F k : Nat) : Int) == 0)
    ·have h1' : F k ≠ 0 := by simp at h1; omega
     rw [if_pos h1'] at hst
     (repeat (first | simp only [↓QA, QB, Nat.reduceLT, reduceIte, Nat.reduceEqDiff, Nat.reduceAdd, Nat.reduceLeDiff, Nat.reduceMul, Nat.reduceBEq, QXDDrPG, i1, hg, h1, V_ixA, ap] | refine rd0 rfl ?_))
     refine ⟨(k + 1, true), by simp only; omega, by simp only; omega, ?_⟩
     try simp only [TrimX, QE, Nat.reduceLT, reduceIte, Nat.reduceEqDiff, Nat.reduceAdd, Nat.reduceLeDiff, Nat.reduceMul, Nat.reduceBEq, QXDDrPG, hw, hst, List.map_append, List.map_cons, List.map_nil, List.length_append]
     try simp [okBlk, okVs, okV]
    ·have h1' : ¬ F k ≠ 0 := by simp at h1; omega
     rw [if_neg h1', List.append_nil] at hst
     (repeat (first | simp only [↓QA, QB, Nat.reduceLT, reduceIte, Nat.reduceEqDiff, Nat.reduceAdd, Nat.reduceLeDiff, Nat.reduceMul, Nat.reduceBEq, QXDDrPG, i1, hg, h1, V_ixA] | refine rd0 rfl ?_))
     refine ⟨(k + 1, ex), by simp only; omega, by simp only; omega, ?_⟩
     try simp only [TrimX, QE, Nat.reduceLT, reduceIte, Nat.reduceEqDiff, Nat.reduceAdd, Nat.reduceLeDiff, Nat.reduceMul, Nat.reduceBEq, QXDDrPG, hw, hst]
     try simp [okBlk, okVs, okV]
   ·have hk1 : k = 26 := by simp at hd; omega
    subst hk1
    rw [hC]
    cases h1 : ((C.length : Int) == 1)
    ·have h1' : ¬ hs.length = 1 := by rw [← hlen]; intro e; rw [e] at h1; simp at h1
     have hsp : splitIn v hs = (splitTo hs v.hours.toNat, leaves hs (splitTo hs v.hours.toNat), 0) := by rw [splitIn, if_neg h1']
     obtain ⟨H, hH⟩ : ∃ H : Nat, v.hours = (H : Int) := ⟨v.hours.toNat, by omega⟩
     have hHn : v.hours.toNat = H := by omega
     have hwH : IntKind.i64.wrap ((H : Int) + 1) = ((H + 1 : Nat) : Int) := wrapN (show H < H + 1 by omega) (by omega)
     have hC0 : ((C.length : Nat) : Int) = (spH hs 0).2 := by simp only [spH]; omega
     rw [hsp, hHn]
     (repeat (first | simp only [↓QA, QB, Nat.reduceLT, reduceIte, Nat.reduceEqDiff, Nat.reduceAdd, Nat.reduceLeDiff, Nat.reduceMul, Nat.reduceBEq, QXDDrPG, h1, hH, hwH] | refine rd0 rfl ?_))
     refine loopE (S := Nat) 0 (fun k => k ≤ H + 1) (fun k => H + 1 - k)
      (fun k => [(4, .int .i64 (spH hs k).1), (5, .int .i64 (spH hs k).2), (8, .lit (C.map (.int .i64)) false (some 5)), (46, .int .i64 ((H + 1 : Nat) : Int)), (47, .int .i64 k)])
      (fun _ => [.cells (voyCells v), .cells (voyCells v), .cells (voyCells v), .map (tEs v [] A), .cells (db v 0 3), .tok 1 C.length ex]) (Nat.zero_le _) (by simp [voyCells, ints, hH]) ?_ fun k hk => ?_
     ·try simp only [TrimX, QE, Nat.reduceLT, reduceIte, Nat.reduceEqDiff, Nat.reduceAdd, Nat.reduceLeDiff, Nat.reduceMul, Nat.reduceBEq, QXDDrPG, ← hC0]
      try simp [spH]
     ·obtain ⟨s, hse⟩ : ∃ s, spH hs k = s := ⟨_, rfl⟩
      rw [hse]
      (repeat (first | simp only [↓QA, QB, Nat.reduceLT, reduceIte, Nat.reduceEqDiff, Nat.reduceAdd, Nat.reduceLeDiff, Nat.reduceMul, Nat.reduceBEq, QXDDrPG, L30_2] | refine rd0 rfl ?_))
      refine iteP_intro (fun hd2 => ?_) fun hd2 => ?_
      ·have hk2 : k < H + 1 := by simp at hd2; omega
       have hw := wrapN hk2 (by omega)
       have hlvk := hlv (k : Int) (by omega)
       obtain ⟨q, hq⟩ : ∃ q : Int → Bool, (fun h => decide (h ≤ (k : Int))) = q := ⟨_, rfl⟩
       have hqd : ∀ x, q x = decide (x ≤ (k : Int)) := fun x => by rw [← hq]
       rw [hq] at hlvk
       (repeat (first | simp only [↓QA, QB, Nat.reduceLT, reduceIte, Nat.reduceEqDiff, Nat.reduceAdd, Nat.reduceLeDiff, Nat.reduceMul, Nat.reduceBEq, QXDDrPG] | refine rd0 rfl ?_))
       refine loopE (S := Nat) 0 (fun i => i ≤ C.length) (fun i => C.length - i)
        (fun i => [(4, .int .i64 s.1), (5, .int .i64 s.2), (8, .lit (C.map (.int .i64)) false (some 5)), (11, .int .i64 k), (12, .int .i64 (((C.take i).filter q).length : Int)), (46, .int .i64 ((H + 1 : Nat) : Int)), (47, .int .i64 k), (50, .lit (C.map (.int .i64)) false (some 5)), (51, .int .i64 C.length), (52, .int .i64 i)])
        (fun _ => [.cells (voyCells v), .cells (voyCells v), .cells (voyCells v), .map (tEs v [] A), .cells (db v 0 3), .tok 1 C.length ex]) (Nat.zero_le _) (by simp [voyCells, ints]) ?_ fun i hi => ?_
       ·try simp only [TrimX, QE, Nat.reduceLT, reduceIte, Nat.reduceEqDiff, Nat.reduceAdd, Nat.reduceLeDiff, Nat.reduceMul, Nat.reduceBEq, QXDDrPG, List.take_zero, List.filter_nil]
        try simp
       ·have hfl : ((C.take i).filter q).length ≤ C.length := Nat.le_trans (List.length_filter_le _ _) (by simp; omega)
        (repeat (first | simp only [↓QA, QB, Nat.reduceLT, reduceIte, Nat.reduceEqDiff, Nat.reduceAdd, Nat.reduceLeDiff, Nat.reduceMul, Nat.reduceBEq, QXDDrPG, L30_4] | refine rd0 rfl ?_))
        refine iteP_intro (fun hd3 => ?_) fun hd3 => ?_
        ·have hi1 : i < C.length := by simpa using hd3
         have hwi := wrapN hi1 (by omega)
         have hst : ((C.take (i + 1)).filter q).length = ((C.take i).filter q).length + (if q C[i] = true then 1 else 0) := by
          rw [List.take_add_one, List.getElem?_eq_getElem hi1]
          simp only [Option.toList_some, List.filter_append, List.length_append, List.filter_cons, List.filter_nil]
          split <;> rfl
         obtain ⟨x, hx⟩ : ∃ x, C[i] = x := ⟨_, rfl⟩
         obtain ⟨c, hce⟩ : ∃ c, ((C.take i).filter q).length = c := ⟨_, rfl⟩
         rw [hx, hce, hqd] at hst
         rw [hce] at hfl
         have hwc : IntKind.i64.wrap ((c : Int) + 1) = ((c + 1 : Nat) : Int) := wrapN (show c < c + 1 by omega) (by omega)
         rw [hce]
         cases h2 : decide (x ≤ (k : Int))
         ·rw [h2] at hst
          simp only [Bool.false_eq_true, if_false, Nat.add_zero] at hst
          (repeat (first | simp only [↓QA, QB, Nat.reduceLT, reduceIte, Nat.reduceEqDiff, Nat.reduceAdd, Nat.reduceLeDiff, Nat.reduceMul, Nat.reduceBEq, QXDDrPG, hi1, hx, h2] | refine rd0 rfl ?_))
          refine ⟨i + 1, by omega, by omega, ?_⟩
          try simp only [TrimX, QE, Nat.reduceLT, reduceIte, Nat.reduceEqDiff, Nat.reduceAdd, Nat.reduceLeDiff, Nat.reduceMul, Nat.reduceBEq, QXDDrPG, hwi, hst]
          try simp [okBlk, okVs, okV]
         ·rw [h2] at hst
          simp only [if_true] at hst
          (repeat (first | simp only [↓QA, QB, Nat.reduceLT, reduceIte, Nat.reduceEqDiff, Nat.reduceAdd, Nat.reduceLeDiff, Nat.reduceMul, Nat.reduceBEq, QXDDrPG, hi1, hx, h2, hwc] | refine rd0 rfl ?_))
          refine ⟨i + 1, by omega, by omega, ?_⟩
          try simp only [TrimX, QE, Nat.reduceLT, reduceIte, Nat.reduceEqDiff, Nat.reduceAdd, Nat.reduceLeDiff, Nat.reduceMul, Nat.reduceBEq, QXDDrPG, hwi, hst]
          try simp [okBlk, okVs, okV]
        ·have hi1 : i = C.length := by simp at hd3; omega
         rw [hi1, List.take_length]
         rw [hi1, List.take_length] at hfl
         obtain ⟨c, hce⟩ : ∃ c, (C.filter q).length = c := ⟨_, rfl⟩
         rw [hce] at hlvk hfl ⊢
         have hwm : IntKind.i64.wrap ((C.length : Int) - (c : Int)) = (C.length : Int) - (c : Int) := wrap64 ⟨by omega, by omega⟩
         have hnx : spH hs (k + 1) = if s.1 < 0 ∨ leaves hs k < s.2 then ((k : Int), leaves hs k) else s := by
          rw [spH_step, hse]
         obtain ⟨lv, hle⟩ : ∃ lv, leaves hs (k : Int) = lv := ⟨_, rfl⟩
         rw [hle] at hnx hlvk
         cases h2 : decide (s.1 < 0)
         ·have h2' : ¬ s.1 < 0 := by simpa using h2
          cases h3 : decide (lv < s.2)
          ·have h3' : ¬ lv < s.2 := by simpa using h3
           rw [if_neg (by rintro (h | h) <;> omega)] at hnx
           (repeat (first | simp only [↓QA, QB, Nat.reduceLT, reduceIte, Nat.reduceEqDiff, Nat.reduceAdd, Nat.reduceLeDiff, Nat.reduceMul, Nat.reduceBEq, QXDDrPG, hwm, h2, V_max2, ← hlvk, h3] | refine rd0 rfl ?_))
           refine ⟨k + 1, by omega, by omega, ?_⟩
           try simp only [TrimX, QE, Nat.reduceLT, reduceIte, Nat.reduceEqDiff, Nat.reduceAdd, Nat.reduceLeDiff, Nat.reduceMul, Nat.reduceBEq, QXDDrPG, hw, hnx]
           try simp [okBlk, okVs, okV]
          ·have h3' : lv < s.2 := by simpa using h3
           rw [if_pos (.inr h3')] at hnx
           (repeat (first | simp only [↓QA, QB, Nat.reduceLT, reduceIte, Nat.reduceEqDiff, Nat.reduceAdd, Nat.reduceLeDiff, Nat.reduceMul, Nat.reduceBEq, QXDDrPG, hwm, h2, V_max2, ← hlvk, h3] | refine rd0 rfl ?_))
           refine ⟨k + 1, by omega, by omega, ?_⟩
           try simp only [TrimX, QE, Nat.reduceLT, reduceIte, Nat.reduceEqDiff, Nat.reduceAdd, Nat.reduceLeDiff, Nat.reduceMul, Nat.reduceBEq, QXDDrPG, hw, hnx]
           try simp [okBlk, okVs, okV]
         ·have h2' : s.1 < 0 := by simpa using h2
          rw [if_pos (.inl h2')] at hnx
          (repeat (first | simp only [↓QA, QB, Nat.reduceLT, reduceIte, Nat.reduceEqDiff, Nat.reduceAdd, Nat.reduceLeDiff, Nat.reduceMul, Nat.reduceBEq, QXDDrPG, hwm, h2, V_max2, ← hlvk] | refine rd0 rfl ?_))
          refine ⟨k + 1, by omega, by omega, ?_⟩
          try simp only [TrimX, QE, Nat.reduceLT, reduceIte, Nat.reduceEqDiff, Nat.reduceAdd, Nat.reduceLeDiff, Nat.reduceMul, Nat.reduceBEq, QXDDrPG, hw, hnx]
          try simp [okBlk, okVs, okV]
      ·have hk2 : k = H + 1 := by simp at hd2; omega
       subst hk2
       subst hse
       (repeat (first | simp only [↓QA, QB, Nat.reduceLT, reduceIte, Nat.reduceEqDiff, Nat.reduceAdd, Nat.reduceLeDiff, Nat.reduceMul, Nat.reduceBEq, QXDDrPG, spH, enc3] | refine rd0 rfl ?_))
    ·have h1' : hs.length = 1 := by simp at h1; omega
     have hsp : splitIn v hs = (0, 0, 9) := by rw [splitIn, if_pos h1']
     rw [hsp]
     (repeat (first | simp only [↓QA, QB, Nat.reduceLT, reduceIte, Nat.reduceEqDiff, Nat.reduceAdd, Nat.reduceLeDiff, Nat.reduceMul, Nat.reduceBEq, QXDDrPG, h1, enc3] | refine rd0 rfl ?_))
 ·have h0' : (lotErr v n == 0) = false := by simpa using h0
  have hm : splitOf v n = (0, 0, lotErr v n) := by rw [splitOf, if_neg h0]
  rw [if_neg h0, if_neg h0, hm]
  (repeat (first | simp only [↓QA, QB, Nat.reduceLT, reduceIte, Nat.reduceEqDiff, Nat.reduceAdd, Nat.reduceLeDiff, Nat.reduceMul, Nat.reduceBEq, QXDDrPG, h0', enc3] | refine rd0 rfl ?_))
variable {α : Type}
def flatC (c : α → List AV) : List α → List AV
 | [] => []
 | y :: l => c y ++ flatC c l
structure Cells (enc : α → AV) (c : α → List AV) (sz : Nat) : Prop where
 agg : ∀ x, enc x = .agg (c x)
 len : ∀ x, (c x).length = sz
 one : sz ≠ 1 ∧ sz ≠ 0
 cell : ∀ x, (c x).all (·.cell) = true
 data : ∀ x, Data (enc x)
variable {enc : α → AV} {c : α → List AV} {sz : Nat}
theorem flatC_len (h : Cells enc c sz) : ∀ l, (flatC c l).length = l.length * sz
 | [] => by simp [flatC]
 | y :: l => by simp only [flatC, List.length_append, h.len, List.length_cons, flatC_len h l, Nat.add_mul]; omega
theorem flatC_map (h : Cells enc c sz) : ∀ l : List α, (l.map enc).flatMap AV.cells = flatC c l
 | [] => rfl
 | y :: l => by rw [List.map_cons, List.flatMap_cons, flatC_map h l, h.agg]; rfl
theorem flatC_all (h : Cells enc c sz) (l : List α) : allCells sz (l.map enc) = true := L_allM sz enc l fun y => by
 rw [h.agg]
 simp only [cellsOk, AV.cells, h.len, beq_self_eq_true, Bool.true_and]
 exact h.cell y
theorem flatC_okVs (h : Cells enc c sz) (m : Nat) (hc : ∀ x, okVs m (c x)) : ∀ l, okVs m (flatC c l)
 | [] => trivial
 | y :: l => okVs_app (hc y) (flatC_okVs h m hc l)
end Go.Am.Room
set_option maxRecDepth 4000
namespace Go.Am.Room
def QXDDrPH := And.intro @encVoy_eq (And.intro @voyCells_eq (And.intro @encKp_eq (And.intro @encDoor_eq (And.intro @encLook_eq (And.intro @encSpan_eq (And.intro @S_mapKp (And.intro @S_mapDoor (And.intro @S_mapLook (And.intro @List.length_append.{0} (And.intro @T_sapp (And.intro @T_sapp0 (And.intro @Nat.add_lt_add_iff_left (And.intro @Nat.lt_add_right_iff_pos (And.intro @Nat.mul_one (@Int.toNat_natCast)))))))))))))))
def lookC (x : Look) : List AV := [.int .i64 x.lot, .int .i64 x.hour, .bool x.turned]
theorem lookC_ok : Cells encLook lookC 3 := ⟨fun x => by simp only [encLook, lookC], fun x => rfl, by decide, fun x => rfl, data_look⟩
theorem lookC_okV (m : Nat) (x : Look) : okVs m (lookC x) := ⟨trivial, trivial, trivial, trivial⟩
def zero3 : List AV := [.int .i64 0, .int .i64 0, .bool false]
theorem copy_looks (b0 : ABlk) (l : List Look) : copyAV 3 [b0, .cells (List.replicate l.length zero3).flatten] (.ref 1 0 l.length 3) (.lit (l.map encLook) false none) = some (.int .i64 l.length, [b0, .cells (flatC lookC l)]) := by
 have h1 : allCells 3 (l.map encLook) = true := flatC_all lookC_ok l
 have h2 : (l.map encLook).take l.length = l.map encLook := List.take_of_length_le (by simp)
 have h3 := flatC_len lookC_ok l
 have h4 : ((List.replicate l.length zero3).flatten).length = l.length * 3 := by simp [zero3]
 have h5 : setCells (List.replicate l.length zero3).flatten 0 (flatC lookC l) = some (flatC lookC l) := by
  simp only [setCells]
  rw [if_pos (by omega), List.drop_of_length_le (by omega)]
  simp
 have h6 := flatC_map lookC_ok l
 simp [copyAV, view, sized, h1, cellsAt, h2, h5, h6]
def lookS (σ : St) (v : Voy) (b : Nat) (bl : List Int) (A : List Ask) : St := σ ++ [.cells (voyCells v), .map (tEs v bl A), .cells (db v b (σ.length + 1))]
theorem look_at (σ : St) (v : Voy) (b : Nat) (bl : List Int) : MemAt (lookS σ v b bl) (db v b (σ.length + 1)) (tEs v bl) (σ.length + 2) (σ.length + 1) (σ.length + 3) :=
 ⟨fun M => by simp [lookS], fun M => by simp [lookS, M_base, M_atS, M_at0], fun M => by rw [lookS, st_get]; rfl, fun M M' => by rw [lookS, lookS, st_set]; rfl, fun A k => tEs_ok v bl A k, by omega, by omega⟩
theorem pwrong_ok (v : Voy) (hf : Fits v) : Pure T 32 [encVoy v] (encLE (wrongOf v)) := by
 refine pure_fn (af := a32) rfl (by simp [a32]) dd ?_
 (repeat (first | simp only [↓QA, QB, Nat.reduceLT, reduceIte, Nat.reduceEqDiff, Nat.reduceAdd, Nat.reduceLeDiff, Nat.reduceMul, Nat.reduceBEq, QXDDrPH, a32] | refine rd0 rfl ?_))
 ((first | refine callK_d (check_ok v hf) rfl dd ?_ | refine callD_d (check_ok v hf) rfl dd ?_); (repeat (first | simp only [↓QA, QB, Nat.reduceLT, reduceIte, Nat.reduceEqDiff, Nat.reduceAdd, Nat.reduceLeDiff, Nat.reduceMul, Nat.reduceBEq, QXDDrPH, enc3] | refine rd0 rfl ?_)))
 cases h0 : ((check v).2.2 == 0)
 ·have h0' : (check v).2.2 ≠ 0 := by simpa using h0
  have hwo : wrongOf v = ([], (check v).2.2) := if_neg h0'
  rw [hwo]
  (repeat (first | simp only [↓QA, QB, Nat.reduceLT, reduceIte, Nat.reduceEqDiff, Nat.reduceAdd, Nat.reduceLeDiff, Nat.reduceMul, Nat.reduceBEq, QXDDrPH, h0, encLE] | refine rd0 rfl ?_))
  try rfl
 ·have h0' : (check v).2.2 = 0 := by simpa using h0
  have hwo : wrongOf v = (wrongL v, 0) := if_pos h0'
  have hv := vd_of_check h0'
  have hnl := hv.nlk
  have hwf := wrong_first hv
  rw [← few_eq _ _ (by omega)] at hwf
  rw [hwo]
  obtain ⟨W, hW⟩ : ∃ W, wrongL v = W := ⟨_, rfl⟩
  rw [hW] at hwf ⊢
  have hcp := fun b0 => copy_looks b0 v.looks
  obtain ⟨LC, hLC⟩ : ∃ LC, flatC lookC v.looks = LC := ⟨_, rfl⟩
  have hLCo : ∀ k, okVs k LC := fun k => by rw [← hLC]; exact flatC_okVs lookC_ok k (lookC_okV k) v.looks
  rw [hLC] at hcp
  obtain ⟨n, hn⟩ : ∃ n, v.looks.length = n := ⟨_, rfl⟩
  rw [hn] at hcp hwf hnl
  have hmk : vMkslice 24 (.int .i64 n) (.int .i64 n) = some n := by simp [vMkslice, room]; omega
  have hp : 2 ^ n ≤ 2 ^ 5 := Nat.pow_le_pow_right (by omega) hnl
  have hshl := V_shl1 n (by omega)
  obtain ⟨P, hP⟩ : ∃ P, 2 ^ n = P := ⟨_, rfl⟩
  have hbl : ∀ s, s < P → ButIs s (lst n s) := fun s hs => but_lst hnl (by omega)
  rw [hP] at hp hshl hwf
  simp only [zero3] at hcp
  obtain ⟨q, hq⟩ : ∃ q, someB v = q := ⟨_, rfl⟩
  have hqd : ∀ l, (!(truths v l).isEmpty) = q l := fun l => by rw [← hq]; rfl
  rw [hq] at hwf
  (repeat (first | simp only [↓QA, QB, Nat.reduceLT, reduceIte, Nat.reduceEqDiff, Nat.reduceAdd, Nat.reduceLeDiff, Nat.reduceMul, Nat.reduceBEq, QXDDrPH, h0, hn, hmk, hcp, hshl] | refine rd0 rfl ?_))
  refine loopE (S := Nat × Option (List Int)) (0, none) (fun x => x.1 ≤ P ∧ fewFold q n (P - x.1) x.1 x.2 = some W ∧ (x.2.getD []).length ≤ n ∧ ∀ b, x.2 = some b → q b = true) (fun x => P - x.1)
   (fun x => [(1, .ptr 0 0), (2, ints (x.2.getD [])), (4, .ref 1 0 n 3), (5, .bool x.2.isSome), (27, .int .i64 P), (28, .int .i64 x.1)])
   (fun x => [.cells (voyCells v), .cells LC]) ⟨by simp, by simpa using hwf, by simp, fun b hb => by cases hb⟩ (by simp [voyCells, ints]) ?_ fun x hx => ?_
  ·try simp only [TrimX, QE, Nat.reduceLT, reduceIte, Nat.reduceEqDiff, Nat.reduceAdd, Nat.reduceLeDiff, Nat.reduceMul, Nat.reduceBEq, QXDDrPH, ints, S_refK (show 1 < 2 by omega)]
   try simp [clr, clrs]
  ·obtain ⟨s, o⟩ := x
   obtain ⟨hs, hfo, hol, hob⟩ := hx
   simp only at hs hfo hol hob
   (repeat (first | simp only [↓QA, QB, Nat.reduceLT, reduceIte, Nat.reduceEqDiff, Nat.reduceAdd, Nat.reduceLeDiff, Nat.reduceMul, Nat.reduceBEq, QXDDrPH, L32_0] | refine rd0 rfl ?_))
   refine iteP_intro (fun h => ?_) fun h => ?_
   ·have hs1 : s < P := by simpa using h
    have hw := wrapN hs1 (by omega)
    have hll := lst_len n s
    have hso := some_does (look_at [.cells (voyCells v), .cells LC] v s (lst n s)) hv (hbl s hs1) []
    have hlk := look_run [.cells (voyCells v), .cells LC] v s
    have hlo := list_ok s n (by omega) (by omega)
    rw [hqd] at hso
    rw [show P - s = (P - (s + 1)) + 1 by omega] at hfo
    simp only [fewFold] at hfo
    rw [← stepD_eq q o _ hob] at hfo
    obtain ⟨L, hL⟩ : ∃ L, lst n s = L := ⟨_, rfl⟩
    rw [hL] at hfo hll hso hlo
    have e0 : tEs v L [] = [] := rfl
    simp only [lookS, lookSt, e0] at hso hlk
    try simp only [↓QA, QB, Nat.reduceLT, reduceIte, Nat.reduceEqDiff, Nat.reduceAdd, Nat.reduceLeDiff, Nat.reduceMul, Nat.reduceBEq, QXDDrPH] at hso hlk
    (repeat (first | simp only [↓QA, QB, Nat.reduceLT, reduceIte, Nat.reduceEqDiff, Nat.reduceAdd, Nat.reduceLeDiff, Nat.reduceMul, Nat.reduceBEq, QXDDrPH, Option.getD_some] | refine rd0 rfl ?_))
    ((first | refine callK_d (hlo) rfl dd ?_ | refine callD_d (hlo) rfl dd ?_); (repeat (first | simp only [↓QA, QB, Nat.reduceLT, reduceIte, Nat.reduceEqDiff, Nat.reduceAdd, Nat.reduceLeDiff, Nat.reduceMul, Nat.reduceBEq, QXDDrPH] | refine rd0 rfl ?_)))
    cases o with
    | none =>
     have hst : stepD q none L = if q L = true then some L else none := rfl
     (repeat (first | simp only [↓QA, QB, Nat.reduceLT, reduceIte, Nat.reduceEqDiff, Nat.reduceAdd, Nat.reduceLeDiff, Nat.reduceMul, Nat.reduceBEq, QXDDrPH, Option.isSome_none, Option.getD_none] | refine rd0 rfl ?_))
     refine callK_do hlk ?_
     (repeat (first | simp only [↓QA, QB, Nat.reduceLT, reduceIte, Nat.reduceEqDiff, Nat.reduceAdd, Nat.reduceLeDiff, Nat.reduceMul, Nat.reduceBEq, QXDDrPH] | refine rd0 rfl ?_))
     refine callK_do hso ?_
     cases hqL : q L
     ·rw [hqL] at hst
      simp only [Bool.false_eq_true, if_false] at hst
      rw [hst] at hfo
      (repeat (first | simp only [↓QA, QB, Nat.reduceLT, reduceIte, Nat.reduceEqDiff, Nat.reduceAdd, Nat.reduceLeDiff, Nat.reduceMul, Nat.reduceBEq, QXDDrPH, hw] | refine rd0 rfl ?_))
      refine ⟨(s + 1, none), ⟨by simp only; omega, hfo, by simp, fun b hb => by cases hb⟩, by simp only; omega, ?_⟩
      try simp only [TrimX, QE, Nat.reduceLT, reduceIte, Nat.reduceEqDiff, Nat.reduceAdd, Nat.reduceLeDiff, Nat.reduceMul, Nat.reduceBEq, QXDDrPH, hw, S_refK (show 1 < 2 by omega)]
      try simp [ints, okBlk, hLCo]
     ·rw [hqL] at hst
      simp only [if_true] at hst
      rw [hst] at hfo
      (repeat (first | simp only [↓QA, QB, Nat.reduceLT, reduceIte, Nat.reduceEqDiff, Nat.reduceAdd, Nat.reduceLeDiff, Nat.reduceMul, Nat.reduceBEq, QXDDrPH, hw] | refine rd0 rfl ?_))
      refine ⟨(s + 1, some L), ⟨by simp only; omega, hfo, by simpa using hll, fun b hb => by cases hb; exact hqL⟩, by simp only; omega, ?_⟩
      try simp only [TrimX, QE, Nat.reduceLT, reduceIte, Nat.reduceEqDiff, Nat.reduceAdd, Nat.reduceLeDiff, Nat.reduceMul, Nat.reduceBEq, QXDDrPH, hw, S_refK (show 1 < 2 by omega)]
      try simp [ints, okBlk, hLCo]
    | some b =>
     simp only [Option.getD_some] at hol
     have hst : stepD q (some b) L = if (fewer L b && q L) = true then some L else some b := rfl
     simp only [Option.isSome_some, Option.getD_some]
     (repeat (first | simp only [↓QA, QB, Nat.reduceLT, reduceIte, Nat.reduceEqDiff, Nat.reduceAdd, Nat.reduceLeDiff, Nat.reduceMul, Nat.reduceBEq, QXDDrPH, Option.isSome_some, Option.getD_some] | refine rd0 rfl ?_))
     ((first | refine callK_d (pfewer_ok L b (by omega) (by omega)) rfl dd ?_ | refine callD_d (pfewer_ok L b (by omega) (by omega)) rfl dd ?_); (repeat (first | simp only [↓QA, QB, Nat.reduceLT, reduceIte, Nat.reduceEqDiff, Nat.reduceAdd, Nat.reduceLeDiff, Nat.reduceMul, Nat.reduceBEq, QXDDrPH, Option.isSome_some, Option.getD_some] | refine rd0 rfl ?_)))
     cases hfw : fewer L b
     ·rw [hfw] at hst
      simp only [Bool.false_and, Bool.false_eq_true, if_false] at hst
      rw [hst] at hfo
      (repeat (first | simp only [↓QA, QB, Nat.reduceLT, reduceIte, Nat.reduceEqDiff, Nat.reduceAdd, Nat.reduceLeDiff, Nat.reduceMul, Nat.reduceBEq, QXDDrPH, hw, Option.isSome_some, Option.getD_some] | refine rd0 rfl ?_))
      refine ⟨(s + 1, some b), ⟨by simp only; omega, hfo, by simpa using hol, hob⟩, by simp only; omega, ?_⟩
      try simp only [TrimX, QE, Nat.reduceLT, reduceIte, Nat.reduceEqDiff, Nat.reduceAdd, Nat.reduceLeDiff, Nat.reduceMul, Nat.reduceBEq, QXDDrPH, hw, S_refK (show 1 < 2 by omega)]
      try simp [ints, okBlk, hLCo]
     ·rw [hfw, Bool.true_and] at hst
      (repeat (first | simp only [↓QA, QB, Nat.reduceLT, reduceIte, Nat.reduceEqDiff, Nat.reduceAdd, Nat.reduceLeDiff, Nat.reduceMul, Nat.reduceBEq, QXDDrPH, Option.isSome_some, Option.getD_some] | refine rd0 rfl ?_))
      refine callK_do hlk ?_
      (repeat (first | simp only [↓QA, QB, Nat.reduceLT, reduceIte, Nat.reduceEqDiff, Nat.reduceAdd, Nat.reduceLeDiff, Nat.reduceMul, Nat.reduceBEq, QXDDrPH, Option.isSome_some, Option.getD_some] | refine rd0 rfl ?_))
      refine callK_do hso ?_
      cases hqL : q L
      ·rw [hqL] at hst
       simp only [Bool.false_eq_true, if_false] at hst
       rw [hst] at hfo
       (repeat (first | simp only [↓QA, QB, Nat.reduceLT, reduceIte, Nat.reduceEqDiff, Nat.reduceAdd, Nat.reduceLeDiff, Nat.reduceMul, Nat.reduceBEq, QXDDrPH, hw, Option.isSome_some, Option.getD_some] | refine rd0 rfl ?_))
       refine ⟨(s + 1, some b), ⟨by simp only; omega, hfo, by simpa using hol, hob⟩, by simp only; omega, ?_⟩
       try simp only [TrimX, QE, Nat.reduceLT, reduceIte, Nat.reduceEqDiff, Nat.reduceAdd, Nat.reduceLeDiff, Nat.reduceMul, Nat.reduceBEq, QXDDrPH, hw, S_refK (show 1 < 2 by omega)]
       try simp [ints, okBlk, hLCo]
      ·rw [hqL] at hst
       simp only [if_true] at hst
       rw [hst] at hfo
       (repeat (first | simp only [↓QA, QB, Nat.reduceLT, reduceIte, Nat.reduceEqDiff, Nat.reduceAdd, Nat.reduceLeDiff, Nat.reduceMul, Nat.reduceBEq, QXDDrPH, hw, Option.isSome_some, Option.getD_some] | refine rd0 rfl ?_))
       refine ⟨(s + 1, some L), ⟨by simp only; omega, hfo, by simpa using hll, fun b hb => by cases hb; exact hqL⟩, by simp only; omega, ?_⟩
       try simp only [TrimX, QE, Nat.reduceLT, reduceIte, Nat.reduceEqDiff, Nat.reduceAdd, Nat.reduceLeDiff, Nat.reduceMul, Nat.reduceBEq, QXDDrPH, hw, S_refK (show 1 < 2 by omega)]
       try simp [ints, okBlk, hLCo]
   ·have hs1 : s = P := by simp at h; omega
    rw [hs1, Nat.sub_self] at hfo
    simp only [fewFold] at hfo
    subst hfo
    (repeat (first | simp only [↓QA, QB, Nat.reduceLT, reduceIte, Nat.reduceEqDiff, Nat.reduceAdd, Nat.reduceLeDiff, Nat.reduceMul, Nat.reduceBEq, QXDDrPH, Option.getD_some, encLE] | refine rd0 rfl ?_))
end Go.Am.Room
set_option maxRecDepth 8000
namespace Go.Am.Room
def QXDLawC := And.intro @encSpan_eq (@List.length_append.{0})
theorem span_ok (a b : Int) : Pure T 48 [.int .i64 a, .int .i64 b] (encSpan ⟨a, b⟩) := by
 refine pure_fn (af := a48) rfl (by simp [a48]) dd ?_
 (repeat (first | simp only [↓QA, QB, Nat.reduceLT, reduceIte, Nat.reduceEqDiff, Nat.reduceAdd, Nat.reduceLeDiff, Nat.reduceMul, Nat.reduceBEq, QXDLawC, a48] | refine rd0 rfl ?_))
end Go.Am.Room
set_option maxRecDepth 8000
namespace Go.Am.Room
def QXDDrQ1 := And.intro @encVoy_eq (And.intro @voyCells_eq (And.intro @encKp_eq (And.intro @encDoor_eq (And.intro @encLook_eq (And.intro @encSpan_eq (And.intro @S_mapKp (And.intro @S_mapDoor (And.intro @S_mapLook (And.intro @T_sapp (@List.length_append.{0}))))))))))
theorem green_ok (h : Int) : Pure T 35 [.int .i64 h] (encLook ⟨0, h, false⟩) := by
 refine pure_fn (af := a35) rfl (by simp [a35]) dd ?_
 (repeat (first | simp only [↓QA, QB, Nat.reduceLT, reduceIte, Nat.reduceEqDiff, Nat.reduceAdd, Nat.reduceLeDiff, Nat.reduceMul, Nat.reduceBEq, QXDDrQ1, a35] | refine rd0 rfl ?_))
theorem lturned_ok (h : Int) : Pure T 36 [.int .i64 h] (encLook ⟨0, h, true⟩) := by
 refine pure_fn (af := a36) rfl (by simp [a36]) dd ?_
 (repeat (first | simp only [↓QA, QB, Nat.reduceLT, reduceIte, Nat.reduceEqDiff, Nat.reduceAdd, Nat.reduceLeDiff, Nat.reduceMul, Nat.reduceBEq, QXDDrQ1, a36] | refine rd0 rfl ?_))
theorem exvoy_ok (l : List Look) : Pure T 34 [.lit (l.map encLook) false none] (encVoy (exV l)) := by
 refine pure_fn (af := a34) rfl (by simp [a34]) dd ?_
 (repeat (first | simp only [↓QA, QB, Nat.reduceLT, reduceIte, Nat.reduceEqDiff, Nat.reduceAdd, Nat.reduceLeDiff, Nat.reduceMul, Nat.reduceBEq, QXDDrQ1, a34] | refine rd0 rfl ?_))
 ((first | refine callK_d (span_ok 2 4) rfl dd ?_ | refine callD_d (span_ok 2 4) rfl dd ?_); (repeat (first | simp only [↓QA, QB, Nat.reduceLT, reduceIte, Nat.reduceEqDiff, Nat.reduceAdd, Nat.reduceLeDiff, Nat.reduceMul, Nat.reduceBEq, QXDDrQ1, exV, nmTram, nmShip, nmTrain, List.map_cons, List.map_nil] | refine rd0 rfl ?_)))
theorem fits_ex (l : List Look) (h : l.length ≤ 100 := by decide) : Fits (exV l) := ⟨by simp [exV], by simp [exV], by simp [exV]; omega, fun k hk => by
 simp only [exV, List.mem_cons, List.not_mem_nil, or_false] at hk
 rcases hk with rfl | rfl | rfl <;> decide⟩
end Go.Am.Room
set_option maxRecDepth 8000
namespace Go.Am.Room
def QXDDrQ2 := And.intro @encVoy_eq (And.intro @voyCells_eq (And.intro @encKp_eq (And.intro @encDoor_eq (And.intro @encLook_eq (And.intro @encSpan_eq (And.intro @S_mapKp (And.intro @S_mapDoor (And.intro @S_mapLook (And.intro @T_sapp (@List.length_append.{0}))))))))))
set_option maxHeartbeats 1000000 in
theorem awake_ok : Pure T 20 [] (.bool true) := by
 refine pure_fn (af := a20) rfl (by simp [a20]) datas_nil ?_
 (repeat (first | simp only [↓QA, QB, Nat.reduceLT, reduceIte, Nat.reduceEqDiff, Nat.reduceAdd, Nat.reduceLeDiff, Nat.reduceMul, Nat.reduceBEq, QXDDrQ2, a20] | refine rd0 rfl ?_))
 refine callK_v (exvoy_ok []) (by simp [clr, clrs]) (by simp [okV, okVs]) ?_
 (repeat (first | simp only [↓QA, QB, Nat.reduceLT, reduceIte, Nat.reduceEqDiff, Nat.reduceAdd, Nat.reduceLeDiff, Nat.reduceMul, Nat.reduceBEq, QXDDrQ2] | refine rd0 rfl ?_))
 ((first | refine callK_d (green_ok 6) rfl dd ?_ | refine callD_d (green_ok 6) rfl dd ?_); (repeat (first | simp only [↓QA, QB, Nat.reduceLT, reduceIte, Nat.reduceEqDiff, Nat.reduceAdd, Nat.reduceLeDiff, Nat.reduceMul, Nat.reduceBEq, QXDDrQ2] | refine rd0 rfl ?_)))
 ((first | refine callK_d (lturned_ok 10) rfl dd ?_ | refine callD_d (lturned_ok 10) rfl dd ?_); (repeat (first | simp only [↓QA, QB, Nat.reduceLT, reduceIte, Nat.reduceEqDiff, Nat.reduceAdd, Nat.reduceLeDiff, Nat.reduceMul, Nat.reduceBEq, QXDDrQ2] | refine rd0 rfl ?_)))
 refine callK_v (exvoy_ok [⟨0, 6, false⟩, ⟨0, 10, true⟩]) (by simp [clr, clrs, encLook]) (by simp [okV, okVs]) ?_
 (repeat (first | simp only [↓QA, QB, Nat.reduceLT, reduceIte, Nat.reduceEqDiff, Nat.reduceAdd, Nat.reduceLeDiff, Nat.reduceMul, Nat.reduceBEq, QXDDrQ2] | refine rd0 rfl ?_))
 ((first | refine callK_d (green_ok 6) rfl dd ?_ | refine callD_d (green_ok 6) rfl dd ?_); (repeat (first | simp only [↓QA, QB, Nat.reduceLT, reduceIte, Nat.reduceEqDiff, Nat.reduceAdd, Nat.reduceLeDiff, Nat.reduceMul, Nat.reduceBEq, QXDDrQ2] | refine rd0 rfl ?_)))
 ((first | refine callK_d (lturned_ok 10) rfl dd ?_ | refine callD_d (lturned_ok 10) rfl dd ?_); (repeat (first | simp only [↓QA, QB, Nat.reduceLT, reduceIte, Nat.reduceEqDiff, Nat.reduceAdd, Nat.reduceLeDiff, Nat.reduceMul, Nat.reduceBEq, QXDDrQ2] | refine rd0 rfl ?_)))
 ((first | refine callK_d (lturned_ok 3) rfl dd ?_ | refine callD_d (lturned_ok 3) rfl dd ?_); (repeat (first | simp only [↓QA, QB, Nat.reduceLT, reduceIte, Nat.reduceEqDiff, Nat.reduceAdd, Nat.reduceLeDiff, Nat.reduceMul, Nat.reduceBEq, QXDDrQ2] | refine rd0 rfl ?_)))
 refine callK_v (exvoy_ok [⟨0, 6, false⟩, ⟨0, 10, true⟩, ⟨0, 3, true⟩]) (by simp [clr, clrs, encLook]) (by simp [okV, okVs]) ?_
 (repeat (first | simp only [↓QA, QB, Nat.reduceLT, reduceIte, Nat.reduceEqDiff, Nat.reduceAdd, Nat.reduceLeDiff, Nat.reduceMul, Nat.reduceBEq, QXDDrQ2] | refine rd0 rfl ?_))
 ((first | refine callK_d (pturned_ok (exV []) 0 (fits_ex _)) rfl dd ?_ | refine callD_d (pturned_ok (exV []) 0 (fits_ex _)) rfl dd ?_); (repeat (first | simp only [↓QA, QB, Nat.reduceLT, reduceIte, Nat.reduceEqDiff, Nat.reduceAdd, Nat.reduceLeDiff, Nat.reduceMul, Nat.reduceBEq, QXDDrQ2, x1, encSNE] | refine rd0 rfl ?_)))
 ((first | refine callK_d (pturned_ok exL 0 (fits_ex _)) rfl dd ?_ | refine callD_d (pturned_ok exL 0 (fits_ex _)) rfl dd ?_); (repeat (first | simp only [↓QA, QB, Nat.reduceLT, reduceIte, Nat.reduceEqDiff, Nat.reduceAdd, Nat.reduceLeDiff, Nat.reduceMul, Nat.reduceBEq, QXDDrQ2, x2, encSNE] | refine rd0 rfl ?_)))
 ((first | refine callK_d (pcauses_ok exL 0 (fits_ex _)) rfl dd ?_ | refine callD_d (pcauses_ok exL 0 (fits_ex _)) rfl dd ?_); (repeat (first | simp only [↓QA, QB, Nat.reduceLT, reduceIte, Nat.reduceEqDiff, Nat.reduceAdd, Nat.reduceLeDiff, Nat.reduceMul, Nat.reduceBEq, QXDDrQ2, x3, encLE] | refine rd0 rfl ?_)))
 ((first | refine callK_d (pwhose_ok exL 0 (fits_ex _)) rfl dd ?_ | refine callD_d (pwhose_ok exL 0 (fits_ex _)) rfl dd ?_); (repeat (first | simp only [↓QA, QB, Nat.reduceLT, reduceIte, Nat.reduceEqDiff, Nat.reduceAdd, Nat.reduceLeDiff, Nat.reduceMul, Nat.reduceBEq, QXDDrQ2, x4, encLE] | refine rd0 rfl ?_)))
 ((first | refine callK_d (popened_ok (exV []) (fits_ex _)) rfl dd ?_ | refine callD_d (popened_ok (exV []) (fits_ex _)) rfl dd ?_); (repeat (first | simp only [↓QA, QB, Nat.reduceLT, reduceIte, Nat.reduceEqDiff, Nat.reduceAdd, Nat.reduceLeDiff, Nat.reduceMul, Nat.reduceBEq, QXDDrQ2, x5, encLLE] | refine rd0 rfl ?_)))
 ((first | refine callK_d (pfewest_ok exL (fits_ex _)) rfl dd ?_ | refine callD_d (pfewest_ok exL (fits_ex _)) rfl dd ?_); (repeat (first | simp only [↓QA, QB, Nat.reduceLT, reduceIte, Nat.reduceEqDiff, Nat.reduceAdd, Nat.reduceLeDiff, Nat.reduceMul, Nat.reduceBEq, QXDDrQ2, x6, encLE] | refine rd0 rfl ?_)))
 ((first | refine callK_d (psplit_ok (exV []) 0 (fits_ex _)) rfl dd ?_ | refine callD_d (psplit_ok (exV []) 0 (fits_ex _)) rfl dd ?_); (repeat (first | simp only [↓QA, QB, Nat.reduceLT, reduceIte, Nat.reduceEqDiff, Nat.reduceAdd, Nat.reduceLeDiff, Nat.reduceMul, Nat.reduceBEq, QXDDrQ2, x7, enc3] | refine rd0 rfl ?_)))
 ((first | refine callK_d (pwrong_ok exW (fits_ex _)) rfl dd ?_ | refine callD_d (pwrong_ok exW (fits_ex _)) rfl dd ?_); (repeat (first | simp only [↓QA, QB, Nat.reduceLT, reduceIte, Nat.reduceEqDiff, Nat.reduceAdd, Nat.reduceLeDiff, Nat.reduceMul, Nat.reduceBEq, QXDDrQ2, x8, encLE] | refine rd0 rfl ?_)))
 ((first | refine callK_d (pcauses_ok exW 0 (fits_ex _)) rfl dd ?_ | refine callD_d (pcauses_ok exW 0 (fits_ex _)) rfl dd ?_); (repeat (first | simp only [↓QA, QB, Nat.reduceLT, reduceIte, Nat.reduceEqDiff, Nat.reduceAdd, Nat.reduceLeDiff, Nat.reduceMul, Nat.reduceBEq, QXDDrQ2, x9, encLE] | refine rd0 rfl ?_)))
 ((first | refine callK_d (green_ok 12) rfl dd ?_ | refine callD_d (green_ok 12) rfl dd ?_); (repeat (first | simp only [↓QA, QB, Nat.reduceLT, reduceIte, Nat.reduceEqDiff, Nat.reduceAdd, Nat.reduceLeDiff, Nat.reduceMul, Nat.reduceBEq, QXDDrQ2] | refine rd0 rfl ?_)))
 refine callK_v (exvoy_ok [⟨0, 12, false⟩]) (by simp [clr, clrs, encLook]) (by simp [okV, okVs]) ?_
 (repeat (first | simp only [↓QA, QB, Nat.reduceLT, reduceIte, Nat.reduceEqDiff, Nat.reduceAdd, Nat.reduceLeDiff, Nat.reduceMul, Nat.reduceBEq, QXDDrQ2] | refine rd0 rfl ?_))
 ((first | refine callK_d (psplit_ok exN 0 (fits_ex _)) rfl dd ?_ | refine callD_d (psplit_ok exN 0 (fits_ex _)) rfl dd ?_); (repeat (first | simp only [↓QA, QB, Nat.reduceLT, reduceIte, Nat.reduceEqDiff, Nat.reduceAdd, Nat.reduceLeDiff, Nat.reduceMul, Nat.reduceBEq, QXDDrQ2, x10, enc3] | refine rd0 rfl ?_)))
 ((first | refine callK_d (green_ok 12) rfl dd ?_ | refine callD_d (green_ok 12) rfl dd ?_); (repeat (first | simp only [↓QA, QB, Nat.reduceLT, reduceIte, Nat.reduceEqDiff, Nat.reduceAdd, Nat.reduceLeDiff, Nat.reduceMul, Nat.reduceBEq, QXDDrQ2] | refine rd0 rfl ?_)))
 refine callK_v (exvoy_ok [⟨0, 12, false⟩]) (by simp [clr, clrs, encLook]) (by simp [okV, okVs]) ?_
 (repeat (first | simp only [↓QA, QB, Nat.reduceLT, reduceIte, Nat.reduceEqDiff, Nat.reduceAdd, Nat.reduceLeDiff, Nat.reduceMul, Nat.reduceBEq, QXDDrQ2] | refine rd0 rfl ?_))
 ((first | refine callK_d (pturned_ok exN 0 (fits_ex _)) rfl dd ?_ | refine callD_d (pturned_ok exN 0 (fits_ex _)) rfl dd ?_); (repeat (first | simp only [↓QA, QB, Nat.reduceLT, reduceIte, Nat.reduceEqDiff, Nat.reduceAdd, Nat.reduceLeDiff, Nat.reduceMul, Nat.reduceBEq, QXDDrQ2, x11, encSNE] | refine rd0 rfl ?_)))
 ((first | refine callK_d (span_ok 4 12) rfl dd ?_ | refine callD_d (span_ok 4 12) rfl dd ?_); (repeat (first | simp only [↓QA, QB, Nat.reduceLT, reduceIte, Nat.reduceEqDiff, Nat.reduceAdd, Nat.reduceLeDiff, Nat.reduceMul, Nat.reduceBEq, QXDDrQ2] | refine rd0 rfl ?_)))
 ((first | refine callK_d (span_ok 7 9) rfl dd ?_ | refine callD_d (span_ok 7 9) rfl dd ?_); (repeat (first | simp only [↓QA, QB, Nat.reduceLT, reduceIte, Nat.reduceEqDiff, Nat.reduceAdd, Nat.reduceLeDiff, Nat.reduceMul, Nat.reduceBEq, QXDDrQ2] | refine rd0 rfl ?_)))
 ((first | refine callK_v (ints_ok [1] [1] (by simp) (by simp)) (by simp [clr, clrs, ints]) (by simp [okV, okVs]) ?_ | refine callD_v (ints_ok [1] [1] (by simp) (by simp)) (by simp [clr, clrs, ints]) (by simp [okV, okVs]) ?_); (repeat (first | simp only [↓QA, QB, Nat.reduceLT, reduceIte, Nat.reduceEqDiff, Nat.reduceAdd, Nat.reduceLeDiff, Nat.reduceMul, Nat.reduceBEq, QXDDrQ2, eq_self] | refine rd0 rfl ?_)))
 ((first | refine callK_v (ints_ok [1] [1] (by simp) (by simp)) (by simp [clr, clrs, ints]) (by simp [okV, okVs]) ?_ | refine callD_v (ints_ok [1] [1] (by simp) (by simp)) (by simp [clr, clrs, ints]) (by simp [okV, okVs]) ?_); (repeat (first | simp only [↓QA, QB, Nat.reduceLT, reduceIte, Nat.reduceEqDiff, Nat.reduceAdd, Nat.reduceLeDiff, Nat.reduceMul, Nat.reduceBEq, QXDDrQ2, eq_self] | refine rd0 rfl ?_)))
 ((first | refine callK_v (ints_ok [0, 2] [0, 2] (by simp) (by simp)) (by simp [clr, clrs, ints]) (by simp [okV, okVs]) ?_ | refine callD_v (ints_ok [0, 2] [0, 2] (by simp) (by simp)) (by simp [clr, clrs, ints]) (by simp [okV, okVs]) ?_); (repeat (first | simp only [↓QA, QB, Nat.reduceLT, reduceIte, Nat.reduceEqDiff, Nat.reduceAdd, Nat.reduceLeDiff, Nat.reduceMul, Nat.reduceBEq, QXDDrQ2, eq_self] | refine rd0 rfl ?_)))
 ((first | refine callK_v (ints_ok [0, 1, 2] [0, 1, 2] (by simp) (by simp)) (by simp [clr, clrs, ints]) (by simp [okV, okVs]) ?_ | refine callD_v (ints_ok [0, 1, 2] [0, 1, 2] (by simp) (by simp)) (by simp [clr, clrs, ints]) (by simp [okV, okVs]) ?_); (repeat (first | simp only [↓QA, QB, Nat.reduceLT, reduceIte, Nat.reduceEqDiff, Nat.reduceAdd, Nat.reduceLeDiff, Nat.reduceMul, Nat.reduceBEq, QXDDrQ2, eq_self] | refine rd0 rfl ?_)))
 ((first | refine callK_v (ints_ok [1] [1] (by simp) (by simp)) (by simp [clr, clrs, ints]) (by simp [okV, okVs]) ?_ | refine callD_v (ints_ok [1] [1] (by simp) (by simp)) (by simp [clr, clrs, ints]) (by simp [okV, okVs]) ?_); (repeat (first | simp only [↓QA, QB, Nat.reduceLT, reduceIte, Nat.reduceEqDiff, Nat.reduceAdd, Nat.reduceLeDiff, Nat.reduceMul, Nat.reduceBEq, QXDDrQ2, eq_self] | refine rd0 rfl ?_)))
 ((first | refine callK_v (ints_ok [2] [2] (by simp) (by simp)) (by simp [clr, clrs, ints]) (by simp [okV, okVs]) ?_ | refine callD_v (ints_ok [2] [2] (by simp) (by simp)) (by simp [clr, clrs, ints]) (by simp [okV, okVs]) ?_); (repeat (first | simp only [↓QA, QB, Nat.reduceLT, reduceIte, Nat.reduceEqDiff, Nat.reduceAdd, Nat.reduceLeDiff, Nat.reduceMul, Nat.reduceBEq, QXDDrQ2, eq_self] | refine rd0 rfl ?_)))
end Go.Am.Room
