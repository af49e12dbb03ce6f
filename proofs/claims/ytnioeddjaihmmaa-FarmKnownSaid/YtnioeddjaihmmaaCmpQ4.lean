/- A part of the proofs: an abstract machine, or what functions come to on it. -/
import Derived.Test.YtnioeddjaihmmaaCmpQ3
set_option linter.unusedVariables false
set_option linter.unusedSimpArgs false
set_option linter.defProp false
namespace Go.Am.Room
structure Plot where
 name : ByteArray
 flower : Span
 hands : Int
structure Look where
 plot : Int
 day : Int
 points : Int
structure Farm where
 rain : List Span
 full : Int
 ripe : Int
 way : Span
 plots : List Plot
 looks : List Look
theorem S_mapSpan (σ : St) (m d : Nat) (l : List Span) : snapMs σ m d (l.map encSpan) = some (l.map encSpan) := S_datas (datas_map data_span l) σ m d
instance (l : List Span) : Dats (l.map encSpan) := ⟨datas_map data_span l⟩
def encPlot (p : Plot) : AV := .agg [.str p.name, .int .i64 p.flower.lo, .int .i64 p.flower.hi, .int .i64 p.hands]
theorem encPlot_eq (p : Plot) : encPlot p = .agg [.str p.name, .int .i64 p.flower.lo, .int .i64 p.flower.hi, .int .i64 p.hands] := by simp only [encPlot]
theorem data_plot (p : Plot) : Data (encPlot p) := data_agg (datas_cons (data_str _) (datas_cons (data_int _ _) (datas_cons (data_int _ _) (datas_cons (data_int _ _) datas_nil))))
instance (p : Plot) : Dat (encPlot p) := ⟨data_plot p⟩
def encLook (x : Look) : AV := .agg [.int .i64 x.plot, .int .i64 x.day, .int .i64 x.points]
theorem encLook_eq (x : Look) : encLook x = .agg [.int .i64 x.plot, .int .i64 x.day, .int .i64 x.points] := by simp only [encLook]
theorem data_look (x : Look) : Data (encLook x) := data_agg (datas_cons (data_int _ _) (datas_cons (data_int _ _) (datas_cons (data_int _ _) datas_nil)))
instance (x : Look) : Dat (encLook x) := ⟨data_look x⟩
instance (l : List Plot) : Dats (l.map encPlot) := ⟨datas_map data_plot l⟩
instance (l : List Look) : Dats (l.map encLook) := ⟨datas_map data_look l⟩
def farmCells (v : Farm) : List AV := [.lit (v.rain.map encSpan) false none, .int .i64 v.full, .int .i64 v.ripe, .int .i64 v.way.lo, .int .i64 v.way.hi, .lit (v.plots.map encPlot) false none, .lit (v.looks.map encLook) false none]
theorem farmCells_eq (v : Farm) : farmCells v = [.lit (v.rain.map encSpan) false none, .int .i64 v.full, .int .i64 v.ripe, .int .i64 v.way.lo, .int .i64 v.way.hi, .lit (v.plots.map encPlot) false none, .lit (v.looks.map encLook) false none] := by simp only [farmCells]
def encFarm (v : Farm) : AV := .agg (farmCells v)
theorem encFarm_eq (v : Farm) : encFarm v = .agg (farmCells v) := by simp only [encFarm]
theorem data_farm (v : Farm) : Data (encFarm v) := data_agg (datas_cons (data_list data_span _) (datas_cons (data_int _ _) (datas_cons (data_int _ _) (datas_cons (data_int _ _) (datas_cons (data_int _ _) (datas_cons (data_list data_plot _) (datas_cons (data_list data_look _) datas_nil)))))))
instance (v : Farm) : Dat (encFarm v) := ⟨data_farm v⟩
theorem S_mapPlot (σ : St) (m d : Nat) (l : List Plot) : snapMs σ m d (l.map encPlot) = some (l.map encPlot) := S_datas (datas_map data_plot l) σ m d
theorem S_mapLook (σ : St) (m d : Nat) (l : List Look) : snapMs σ m d (l.map encLook) = some (l.map encLook) := S_datas (datas_map data_look l) σ m d
structure Fits (v : Farm) : Prop where
 rain : v.rain.length < 9223372036854775808
 plots : v.plots.length < 9223372036854775808
 looks : v.looks.length < 9223372036854775808
 names : ∀ p ∈ v.plots, p.name.size < 9223372036854775808
def endOf (v : Farm) : Int := v.rain.length
def raErr (_ : Nat) (s : Span) : Int := ends s 0 2
def plErr2 (v : Farm) (p : Plot) : Int := if ends p.flower 0 (endOf v - 1) = 7 ∨ inR p.hands 1 99 = false then 7 else ends p.flower 0 (endOf v - 1)
def plErr (v : Farm) (i : Nat) (p : Plot) : Int := if fresh p.name ((v.plots.take i).map Plot.name) = 0 then plErr2 v p else fresh p.name ((v.plots.take i).map Plot.name)
def lkErr (v : Farm) (_ : Nat) (x : Look) : Int := if inR x.plot 0 ((v.plots.length : Int) - 1) = false then 4 else if inR x.day 0 (endOf v) = false ∨ inR x.points 0 30 = false then 7 else 0
def check4 (v : Farm) : Int × Int × Int := if 4 < v.looks.length then (4, 0, 3) else match firstBad (lkErr v) v.looks 0 with | some (i, e) => (4, i, e) | none => (0, 0, 0)
def check3 (v : Farm) : Int × Int × Int := if 4 < v.plots.length then (3, 0, 3) else match firstBad (plErr v) v.plots 0 with | some (i, e) => (3, i, e) | none => check4 v
def check2 (v : Farm) : Int × Int × Int := if inR v.full 0 30 = false ∨ inR v.ripe 0 30 = false ∨ ends v.way 0 9 = 7 then (2, 0, 7) else if ends v.way 0 9 = 0 then check3 v else (2, 0, ends v.way 0 9)
def check (v : Farm) : Int × Int × Int := if inR v.rain.length 1 7 = false then (1, 0, 3) else match firstBad raErr v.rain 0 with | some (i, e) => (1, i, e) | none => check2 v
def pts (r : Nat → Int) (a : Nat) : Nat → Int
 | 0 => 0
 | d + 1 => if a ≤ d then pts r a d + (1 + r d) else 0
def rl (l : List Int) (i : Nat) : Int := (l[i]?).getD 0
def ptsL (l : List Int) (a d : Int) : Int := pts (rl l) a.toNat d.toNat
def waysIn (s : Span) : List Int := numbers s.lo (s.hi + 1 - s.lo).toNat
def ext (s : Span) (l : List Int) : List (List Int) := (waysIn s).map fun n => l ++ [n]
def weatherTo (rs : List Span) : Nat → List (List Int)
 | 0 => [[]]
 | k + 1 => match rs[k]? with | some s => (weatherTo rs k).flatMap (ext s) | none => weatherTo rs k
def weather (v : Farm) : List (List Int) := weatherTo v.rain v.rain.length
def lookOk (plot : Int) (but : List Int) (rain : List Int) (d : Int) (k : Nat) (x : Look) : Bool := !decide (x.plot = plot) || but.contains (k : Int) || ptsL rain d x.day == x.points
def flowerOk (v : Farm) (plot : Int) (rain but : List Int) (d : Int) : Bool := (List.range v.looks.length).all fun k => match v.looks[k]? with | some x => lookOk plot but rain d k x | none => true
def flowerAt (v : Farm) (p : Nat) : Span := match v.plots[p]? with | some x => x.flower | none => ⟨0, -1⟩
def flowersOf (v : Farm) (p : Nat) (rain but : List Int) : List Int := (waysIn (flowerAt v p)).filter (flowerOk v (p : Int) rain but)
structure Truth where
 rain : List Int
 fl : List (List Int)
def truthOf (v : Farm) (but rain : List Int) : Option Truth :=
 let l := (List.range v.plots.length).map fun (p : Nat) => flowersOf v p rain but
 if l.all (fun x => !x.isEmpty) then some ⟨rain, l⟩ else none
def truths (v : Farm) (but : List Int) : List Truth := (weather v).filterMap (truthOf v but)
def someB (v : Farm) (but : List Int) : Bool := !(truths v but).isEmpty
def errAsk (v : Farm) (plot : Int) : Int := if (check v).2.2 = 0 then (if inR plot 0 ((v.plots.length : Int) - 1) then 0 else 4) else (check v).2.2
def within (n most e : Int) : Int := if e = 0 then (if inR n 0 most then 0 else 7) else e
def errKnown (v : Farm) (e : Int) : Int := if e = 0 then (if (truths v []).isEmpty then 8 else 0) else e
def flAt (t : Truth) (p : Nat) : List Int := (t.fl[p]?).getD []
def fullIn (l : List Truth) (p d : Nat) : List Int := l.flatMap fun t => (flAt t p).map fun h => ptsL t.rain h d
def fullS (l : List Truth) (p d : Nat) : Span := spanL (fullIn l p d)
def grownErr (v : Farm) (plot day : Int) : Int := errKnown v (within day (endOf v) (errAsk v plot))
def grownOf (v : Farm) (plot day : Int) : Span × Int := if grownErr v plot day = 0 then (fullS (truths v []) plot.toNat day.toNat, 0) else (⟨0, 0⟩, grownErr v plot day)
def rainErr (v : Farm) (day : Int) : Int := errKnown v (within day (endOf v - 1) (check v).2.2)
def rainedIn (l : List Truth) (d : Nat) : List Int := l.map fun t => rl t.rain d
def rainedOf (v : Farm) (day : Int) : Span × Int := if rainErr v day = 0 then (spanL (rainedIn (truths v []) day.toNat), 0) else (⟨0, 0⟩, rainErr v day)
def plotErr (v : Farm) (plot : Int) : Int := errKnown v (errAsk v plot)
def isFl (l : List Truth) (p : Nat) (d : Int) : Bool := l.any fun t => (flAt t p).contains d
def floweredIn (v : Farm) (l : List Truth) (p : Nat) : List Int := (numbers 0 v.rain.length).filter (isFl l p)
def floweredOf (v : Farm) (plot : Int) : List Int × Int := if plotErr v plot = 0 then (floweredIn v (truths v []) plot.toNat, 0) else ([], plotErr v plot)
def goodAt (v : Farm) (n w : Int) : Bool := decide (v.full ≤ n) && decide (n + w ≤ v.ripe)
def goodsOf (v : Farm) (n : Int) : List Bool := (waysIn v.way).map (goodAt v n)
def goodsIn (v : Farm) (l : List Truth) (p d : Nat) : List Bool := (fullIn l p d).flatMap (goodsOf v)
def goodOf (v : Farm) (l : List Truth) (p d : Nat) : Int := settled ((goodsIn v l p d).filter id).length (goodsIn v l p d).length
def cutOf (v : Farm) (plot day : Int) : Int × Int := if grownErr v plot day = 0 then (goodOf v (truths v []) plot.toNat day.toNat, 0) else (0, grownErr v plot day)
def sureDays (v : Farm) (l : List Truth) (p : Nat) : List Int := (numbers 0 (v.rain.length + 1)).filter fun d => goodOf v l p d.toNat == 1
def mayDays (v : Farm) (l : List Truth) (p : Nat) : List Int := (numbers 0 (v.rain.length + 1)).filter fun d => !(goodOf v l p d.toNat == 2)
def daysOf (v : Farm) (plot : Int) : List Int × List Int × Int := if plotErr v plot = 0 then (sureDays v (truths v []) plot.toNat, mayDays v (truths v []) plot.toNat, 0) else ([], [], plotErr v plot)
def greenB (v : Farm) (l : List Truth) (p d : Nat) : Bool := decide ((fullS l p d).hi + v.way.hi ≤ v.ripe)
def wholeB (v : Farm) (l : List Truth) (p d : Nat) : Bool := decide (v.full ≤ (fullS l p d).lo)
def lastTo (q : Nat → Bool) : Nat → Int
 | 0 => -1
 | k + 1 => if q k then k else lastTo q k
def lastIn (v : Farm) (l : List Truth) (p : Nat) : Int := lastTo (greenB v l p) (v.rain.length + 1)
def lastOf (v : Farm) (plot : Int) : Int × Int := if plotErr v plot = 0 then (if lastIn v (truths v []) plot.toNat = -1 then (0, 9) else (lastIn v (truths v []) plot.toNat, 0)) else (0, plotErr v plot)
def handsAt (v : Farm) (p : Int) : Int := match v.plots[p.toNat]? with | some x => x.hands | none => 0
def handsOf (v : Farm) : List Int → Int
 | [] => 0
 | p :: l => handsAt v p + handsOf v l
def shrinksOf (v : Farm) (l : List Truth) (ps : List Int) (d : Nat) : List Int := ps.filter fun p => !wholeB v l p.toNat d
def doesB (v : Farm) (l : List Truth) (ps : List Int) (d : Nat) (hands : Int) : Bool := decide (hands ≤ handsOf v ps) && ps.all fun p => greenB v l p.toNat d
def earlyStep (v : Farm) (l : List Truth) (d : Nat) (hands : Int) (o : Option (List Int)) (ps : List Int) : Option (List Int) :=
 if doesB v l ps d hands then (match o with | none => some ps | some b => if (shrinksOf v l ps d).length < (shrinksOf v l b d).length then some ps else some b) else o
def chFrom (n : Nat) : Nat → Nat → List (List Int)
 | 0, _ => []
 | k + 1, m => choices n m ++ chFrom n k (m + 1)
def allChoices (n : Nat) : List (List Int) := chFrom n (n + 1) 0
def earlyIn (v : Farm) (l : List Truth) (d : Nat) (hands : Int) : Option (List Int) := (allChoices v.plots.length).foldl (earlyStep v l d hands) none
def earlyErr (v : Farm) (day hands : Int) : Int := errKnown v (within hands 400 (within day (endOf v) (check v).2.2))
def earlyR (v : Farm) (l : List Truth) (d : Nat) : Option (List Int) → List Int × List Int × Int
 | none => ([], [], 9)
 | some b => (b, shrinksOf v l b d, 0)
def earlyOf (v : Farm) (day hands : Int) : List Int × List Int × Int := if earlyErr v day hands = 0 then earlyR v (truths v []) day.toNat (earlyIn v (truths v []) day.toNat hands) else ([], [], earlyErr v day hands)
def wrongL (v : Farm) : List Int := (firstFrom (someB v) v.looks.length v.looks.length 0).getD (((choices v.looks.length v.looks.length)[0]?).getD [])
def wrongOf (v : Farm) : List Int × Int := if (check v).2.2 = 0 then (wrongL v, 0) else ([], (check v).2.2)
def nmHill : ByteArray := ⟨#[104, 105, 108, 108]⟩
def nmBank : ByteArray := ⟨#[98, 97, 110, 107]⟩
def nmBend : ByteArray := ⟨#[98, 101, 110, 100]⟩
def exF (l : List Look) : Farm := ⟨[⟨1, 1⟩, ⟨0, 1⟩, ⟨0, 0⟩, ⟨1, 2⟩, ⟨0, 1⟩], 6, 11, ⟨2, 3⟩, [⟨nmHill, ⟨0, 0⟩, 30⟩, ⟨nmBank, ⟨1, 2⟩, 20⟩, ⟨nmBend, ⟨0, 1⟩, 25⟩], l⟩
def exL : Farm := exF [⟨1, 3, 2⟩]
def exW : Farm := exF [⟨1, 3, 2⟩, ⟨0, 1, 3⟩]
theorem x1 : grownOf (exF []) 1 4 = (⟨3, 6⟩, 0) := by decide +kernel
theorem x2 : grownOf exL 1 4 = (⟨4, 5⟩, 0) := by decide +kernel
theorem x3 : cutOf (exF []) 0 4 = (1, 0) := by decide +kernel
theorem x4 : cutOf (exF []) 0 3 = (2, 0) := by decide +kernel
theorem x5 : daysOf (exF []) 0 = ([4], [4, 5], 0) := by decide +kernel
theorem x6 : lastOf (exF []) 0 = (4, 0) := by decide +kernel
theorem x7 : earlyOf (exF []) 4 50 = ([0, 1], [1], 0) := by decide +kernel
theorem x8 : earlyOf (exF []) 4 80 = ([], [], 9) := by decide +kernel
theorem x9 : rainedOf exL 1 = (⟨0, 0⟩, 0) := by decide +kernel
theorem x10 : floweredOf exL 1 = ([1], 0) := by decide +kernel
theorem x11 : wrongOf exW = ([1], 0) := by decide +kernel
theorem x12 : lastOf exW 0 = (0, 8) := by decide +kernel
structure Vd (v : Farm) : Prop where
 nra : 1 ≤ v.rain.length ∧ v.rain.length ≤ 7
 ra : ∀ s ∈ v.rain, 0 ≤ s.lo ∧ s.lo ≤ s.hi ∧ s.hi ≤ 2
 full : 0 ≤ v.full ∧ v.full ≤ 30
 ripe : 0 ≤ v.ripe ∧ v.ripe ≤ 30
 way : 0 ≤ v.way.lo ∧ v.way.lo ≤ v.way.hi ∧ v.way.hi ≤ 9
 npl : v.plots.length ≤ 4
 pl : ∀ i (h : i < v.plots.length), plErr v i v.plots[i] = 0
 nlk : v.looks.length ≤ 4
 lk : ∀ x ∈ v.looks, (0 ≤ x.plot ∧ x.plot < v.plots.length) ∧ (0 ≤ x.day ∧ x.day ≤ v.rain.length) ∧ 0 ≤ x.points ∧ x.points ≤ 30
theorem vd_of_check {v : Farm} (h : (check v).2.2 = 0) : Vd v := by
 unfold check at h
 split at h
 ·simp at h
 rename_i c1
 split at h
 ·rename_i i e he; exact absurd h (firstBad_nz he)
 rename_i f1
 unfold check2 at h
 split at h
 ·simp at h
 rename_i c2
 split at h
 case isFalse hn => exact absurd h hn
 rename_i c0
 unfold check3 at h
 split at h
 ·simp at h
 rename_i c3
 split at h
 ·rename_i i e he; exact absurd h (firstBad_nz he)
 rename_i f2
 unfold check4 at h
 split at h
 ·simp at h
 rename_i c4
 split at h
 ·rename_i i e he; exact absurd h (firstBad_nz he)
 rename_i f3
 simp only [not_or, Bool.not_eq_false] at c1 c2
 obtain ⟨d1, d2, d3⟩ := c2
 rw [inR_iff] at c1 d1 d2
 refine ⟨by omega, ?_, d1, d2, ends_zero c0, by omega, fun i hi => by simpa using firstBad_all f2 i hi, by omega, ?_⟩
 ·intro x hx
  obtain ⟨k, hk, rfl⟩ := List.getElem_of_mem hx
  exact ends_zero (firstBad_all f1 k hk)
 ·intro x hx
  obtain ⟨k, hk, rfl⟩ := List.getElem_of_mem hx
  have := firstBad_all f3 k hk
  unfold lkErr at this
  split at this
  ·omega
  rename_i hi
  split at this
  ·omega
  rename_i hj
  rw [not_or, Bool.not_eq_false, Bool.not_eq_false, inR_iff, inR_iff] at hj
  rw [Bool.not_eq_false, inR_iff] at hi
  simp only [endOf] at hj
  omega
theorem pl_ok {v : Farm} (h : Vd v) {i : Nat} (hi : i < v.plots.length) : (0 ≤ v.plots[i].flower.lo ∧ v.plots[i].flower.lo ≤ v.plots[i].flower.hi ∧ v.plots[i].flower.hi ≤ (v.rain.length : Int) - 1) ∧ 1 ≤ v.plots[i].hands ∧ v.plots[i].hands ≤ 99 := by
 have := h.pl i hi
 unfold plErr at this
 split at this
 ·unfold plErr2 at this
  split at this
  ·omega
  ·rename_i h1
   rw [not_or, Bool.not_eq_false, inR_iff] at h1
   have := ends_zero this
   simp only [endOf] at this
   omega
 ·rename_i h0; exact absurd this h0
theorem flower_at {v : Farm} {p : Nat} (hp : p < v.plots.length) : flowerAt v p = v.plots[p].flower := by simp [flowerAt, hp]
theorem hands_at {v : Farm} {p : Nat} (hp : p < v.plots.length) : handsAt v (p : Int) = v.plots[p].hands := by simp [handsAt, hp]
theorem waysIn_mem {s : Span} {n : Int} : n ∈ waysIn s ↔ s.lo ≤ n ∧ n ≤ s.hi := by
 rw [waysIn, numbers_mem]; omega
theorem waysIn_len {s : Span} : (waysIn s).length = (s.hi + 1 - s.lo).toNat := numbers_len _ _
theorem ext_mem {s : Span} {l c : List Int} : c ∈ ext s l ↔ ∃ n, (s.lo ≤ n ∧ n ≤ s.hi) ∧ c = l ++ [n] := by
 simp only [ext, List.mem_map, waysIn_mem]
 constructor
 ·rintro ⟨n, h, rfl⟩; exact ⟨n, h, rfl⟩
 ·rintro ⟨n, h, rfl⟩; exact ⟨n, h, rfl⟩
theorem weatherTo_succ {rs : List Span} {k : Nat} (h : k < rs.length) : weatherTo rs (k + 1) = (weatherTo rs k).flatMap (ext rs[k]) := by
 simp only [weatherTo, List.getElem?_eq_getElem h]
theorem weatherTo_mem {rs : List Span} : ∀ {k : Nat}, k ≤ rs.length → ∀ {c : List Int}, c ∈ weatherTo rs k ↔ c.length = k ∧ ∀ i (h : i < k) (h2 : i < rs.length) , rs[i].lo ≤ rl c i ∧ rl c i ≤ rs[i].hi
 | 0, _, c => by
  simp only [weatherTo, List.mem_singleton]
  constructor
  ·rintro rfl; exact ⟨rfl, fun i h => by omega⟩
  ·rintro ⟨h, _⟩; exact List.length_eq_zero_iff.1 h
 | k + 1, hk, c => by
  rw [weatherTo_succ (show k < rs.length by omega), List.mem_flatMap]
  constructor
  ·rintro ⟨l, hl, hc⟩
   obtain ⟨n, hn, rfl⟩ := ext_mem.1 hc
   obtain ⟨h1, h2⟩ := (weatherTo_mem (by omega)).1 hl
   refine ⟨by simp [h1], fun i hi hi2 => ?_⟩
   by_cases e : i = k
   ·subst e
    simp only [rl]
    rw [List.getElem?_append_right (by omega), h1, Nat.sub_self]
    exact hn
   ·have := h2 i (by omega) hi2
    simp only [rl] at this ⊢
    rw [List.getElem?_append_left (by omega)]
    exact this
  ·rintro ⟨h1, h2⟩
   have hd : c ≠ [] := by intro e; subst e; simp at h1
   have hsp := List.dropLast_concat_getLast hd
   refine ⟨c.dropLast, (weatherTo_mem (by omega)).2 ⟨by simp [h1], fun i hi hi2 => ?_⟩, ext_mem.2 ⟨c.getLast hd, ?_, hsp.symm⟩⟩
   ·have := h2 i (by omega) hi2
    simp only [rl] at this ⊢
    rw [List.getElem?_dropLast, if_pos (by omega)]
    exact this
   ·have := h2 k (by omega) (by omega)
    have hlast : rl c k = c.getLast hd := by
     simp only [rl]
     rw [List.getLast_eq_getElem, List.getElem?_eq_getElem (by omega)]
     simp [h1]
    rw [hlast] at this
    exact this
structure RainOk (v : Farm) (c : List Int) : Prop where
 len : c.length = v.rain.length
 bd : ∀ i (h : i < v.rain.length), v.rain[i].lo ≤ rl c i ∧ rl c i ≤ v.rain[i].hi
theorem weather_mem {v : Farm} {c : List Int} : c ∈ weather v ↔ RainOk v c := by
 rw [weather, weatherTo_mem (Nat.le_refl _)]
 exact ⟨fun ⟨h1, h2⟩ => ⟨h1, fun i h => h2 i h h⟩, fun ⟨h1, h2⟩ => ⟨h1, fun i h _ => h2 i h⟩⟩
theorem rain_bd {v : Farm} (hv : Vd v) {c : List Int} (h : RainOk v c) (i : Nat) : 0 ≤ rl c i ∧ rl c i ≤ 2 := by
 by_cases hi : i < v.rain.length
 ·have h1 := h.bd i hi
  have h2 := hv.ra _ (List.getElem_mem hi)
  omega
 ·rw [rl, List.getElem?_eq_none (by rw [h.len]; omega)]
  simp
theorem pts_self (r : Nat → Int) (a : Nat) : pts r a a = 0 := by
 cases a with
 | zero => rfl
 | succ a => simp only [pts]; rw [if_neg (by omega)]
theorem pts_lt (r : Nat → Int) {a d : Nat} (h : d ≤ a) : pts r a d = 0 := by
 cases d with
 | zero => rfl
 | succ d => simp only [pts]; rw [if_neg (by omega)]
theorem pts_step (r : Nat → Int) {a d : Nat} (h : a ≤ d) : pts r a (d + 1) = pts r a d + (1 + r d) := by simp only [pts]; rw [if_pos h]
theorem pts_bd {r : Nat → Int} (hr : ∀ i, 0 ≤ r i ∧ r i ≤ 2) (a : Nat) : ∀ d, 0 ≤ pts r a d ∧ pts r a d ≤ 3 * d
 | 0 => by simp [pts]
 | d + 1 => by
  have ih := pts_bd hr a d
  have := hr d
  simp only [pts]
  split
  ·omega
  ·omega
theorem mem_truths {v : Farm} {but : List Int} {t : Truth} : t ∈ truths v but ↔ RainOk v t.rain ∧ t.fl = (List.range v.plots.length).map (fun p => flowersOf v p t.rain but) ∧ ∀ x ∈ t.fl, x ≠ [] := by
 simp only [truths, List.mem_filterMap]
 constructor
 ·rintro ⟨c, hc, h⟩
  simp only [truthOf] at h
  split at h
  ·rename_i ha
   simp only [Option.some.injEq] at h
   subst h
   refine ⟨weather_mem.1 hc, rfl, fun x hx e => ?_⟩
   have := List.all_eq_true.1 ha x hx
   rw [e] at this
   simp at this
  ·cases h
 ·rintro ⟨h1, h2, h3⟩
  refine ⟨t.rain, weather_mem.2 h1, ?_⟩
  obtain ⟨rain, fl⟩ := t
  simp only at h1 h2 h3 ⊢
  simp only [truthOf, ← h2]
  rw [if_pos]
  rw [List.all_eq_true]
  intro x hx
  have := h3 x hx
  cases x with
  | nil => exact absurd rfl this
  | cons a b => rfl
structure TOk (v : Farm) (t : Truth) : Prop where
 rain : RainOk v t.rain
 len : t.fl.length = v.plots.length
 fl : ∀ p, p < v.plots.length → flAt t p ≠ [] ∧ (flAt t p).length ≤ 7 ∧ ∀ d ∈ flAt t p, 0 ≤ d ∧ d < v.rain.length
theorem flowers_bd {v : Farm} (hv : Vd v) {p : Nat} (hp : p < v.plots.length) (rain but : List Int) : (flowersOf v p rain but).length ≤ 7 ∧ ∀ d ∈ flowersOf v p rain but, 0 ≤ d ∧ d < v.rain.length := by
 have h1 := (pl_ok hv hp).1
 have h2 := hv.nra
 rw [flowersOf, flower_at hp]
 refine ⟨Nat.le_trans (List.length_filter_le _ _) (by rw [waysIn_len]; omega), fun d hd => ?_⟩
 have := waysIn_mem.1 (List.mem_filter.1 hd).1
 omega
theorem tok_of {v : Farm} (hv : Vd v) {but : List Int} {t : Truth} (h : t ∈ truths v but) : TOk v t := by
 obtain ⟨h1, h2, h3⟩ := mem_truths.1 h
 refine ⟨h1, by rw [h2]; simp, fun p hp => ?_⟩
 have e : flAt t p = flowersOf v p t.rain but := by simp [flAt, h2, hp]
 rw [e]
 refine ⟨h3 _ (by rw [h2]; exact List.mem_map.2 ⟨p, by simpa using hp, rfl⟩), flowers_bd hv hp _ _⟩
end Go.Am.Room
set_option maxRecDepth 4000
namespace Go.Am.Room
def enc3 (x : Int × Int × Int) : AV := .tuple [.int .i64 x.1, .int .i64 x.2.1, .int .i64 x.2.2]
theorem T_sapp (m : Nat) : ∀ (σ a b c : St), EqS m (σ ++ a) (σ ++ b) (σ ++ c) = EqS m a b c
 | [], a, b, c => rfl
 | x :: σ, a, b, c => by simp only [List.cons_append, EqS, T_sapp m σ a b c, true_or, true_and, and_self]
theorem and1 (a : Nat) (h : a < 9223372036854775808) : Go.Am.bits .and .i64 (a : Int) 1 = ((a % 2 : Nat) : Int) := by
 have e1 : (BitVec.ofInt 64 (a : Int) &&& BitVec.ofInt 64 1).toNat = a % 2 := by
  rw [BitVec.toNat_and]
  have h1 : (BitVec.ofInt 64 (a : Int)).toNat = a := by
   rw [BitVec.toNat_ofInt]
   omega
  have h2 : (BitVec.ofInt 64 1).toNat = 1 := by decide
  rw [h1, h2, Nat.and_one_is_mod]
 show IntKind.i64.wrap (((BitVec.ofInt 64 (a : Int) &&& BitVec.ofInt 64 1).toNat : Nat) : Int) = _
 rw [e1]
 exact wrap64 ⟨by omega, by omega⟩
theorem V_and1 (a : Nat) (h : a < 9223372036854775808) : binAV .and (.int .i64 (a : Int)) (.int .i64 1) = some (.int .i64 ((a % 2 : Nat) : Int)) := by
 simp [binAV, binInt, and1 a h]
theorem V_shr (a i : Nat) (h : i ≤ 60) : binAV .shr (.int .i64 (a : Int)) (.int .i64 (i : Int)) = some (.int .i64 ((a / 2 ^ i : Nat) : Int)) := by
 have hm : Nat.min i 64 = i := Nat.min_eq_left (by omega)
 have h0 : ¬ (i : Int) < 0 := by omega
 simp only [binAV, h0, if_false, IntKind.bits, Int.toNat_natCast, hm, Option.some.injEq, AV.int.injEq, true_and]
 rw [Int.fdiv_eq_ediv_of_nonneg _ (Int.pow_nonneg (by omega))]
 norm_cast
theorem T_sapp0 (m : Nat) (σ b c : St) : EqS m σ (σ ++ b) (σ ++ c) = EqS m [] b c := by have := T_sapp m σ [] b c; rwa [List.append_nil] at this
def Does (T : FuncId → Option AFunc) (f : AV) (args : List AV) (σ : St) (v : AV) (σ' : St) : Prop := Run T (.callv f args σ) fun o => o.v = v ∧ o.σ = σ'
theorem callK_do {f : AV} {args : List AV} {v : AV} {σ σ' : St} {K : AV → St → Prop} (h : Does T f args σ v σ') (k : K v σ') : cK (K := ⟨K⟩) T f args σ := .mono h fun o ho => by rw [ho.1, ho.2]; exact k
theorem callD_do {f : AV} {args : List AV} {v : AV} {σ σ' : St} {K : AV → St → Prop} (h : Does T f args σ v σ') (k : K v σ') : cD (K := ⟨K⟩) T f args σ := ⟨v, σ', h, k⟩
theorem C_yield (i : Nat) : cellsOk 1 (.yield i) = true := by simp [cellsOk, AV.cells, AV.cell]
theorem K_yield (i : Nat) : (AV.yield i).cells = [.yield i] := by simp [AV.cells]
theorem rK_range {f : AOpd} {g : FuncId} {first cap : List AV} {ps : List Nat} {a b : ACode} {e : Env} {σ : St} {K : KJ} {R : Out → Prop} (hf : f.ev e = .func g first cap)
  (h : Run T (.call g (first ++ [.yield σ.length] ++ cap) (σ ++ [.loop .ready none e ps a b])) R)
  (h1 : ∀ o, R o → ∃ st pend env' ps' a' b', o.σ[σ.length]? = some (.loop st pend env' ps' a' b') ∧ st ≠ .busy ∧ K pend e (o.σ.set σ.length .dead)) : rK (K := ⟨K⟩) T (.rangeFunc f ps a b) e σ := .rangeFunc hf h h1
theorem append_intT {σ : St} {l : List Int} {a : Int} {ex : Bool} {t : Nat} (hn : l.length < 100) (ht : σ[t]? = some (.tok 1 l.length ex)) : appendAV 1 8 σ (.lit (l.map (.int .i64)) false (some t)) (.lit [.int .i64 a] true none) = some (.lit ((l ++ [a]).map (.int .i64)) false (some t), σ.set t (.tok 1 (l.length + 1) true)) := by
 rw [app_tok (ex := ex) ⟨L_allM 1 _ l (fun x => C_int _ _), by simp [allCells, AV.cells, AV.cell], by simp [room]; omega, by simp [room]; omega⟩ (by simp) (by simpa using ht)]
 simp
theorem ok_datas {vs : List AV} (h : Datas vs) (m : Nat) : okVs m vs := okVs_up _ h.1
theorem ok_data {v : AV} (h : Data v) (m : Nat) : okV m v := (ok_datas (datas_cons h datas_nil) m).1
end Go.Am.Room
set_option maxRecDepth 4000
namespace Go.Am.Room
theorem rl_at {l : List Int} {k : Nat} (h : k < l.length) : rl l k = l[k] := by simp [rl, h]
theorem ways_step {a b : Int} (h : a ≤ b) : numbers a (b + 1 - a).toNat = a :: numbers (a + 1) (b + 1 - (a + 1)).toNat := by
 have : (b + 1 - a).toNat = (b + 1 - (a + 1)).toNat + 1 := by omega
 rw [this, numbers]
theorem ways_end {a b : Int} (h : ¬ a ≤ b) : numbers a (b + 1 - a).toNat = [] := by
 have : (b + 1 - a).toNat = 0 := by omega
 rw [this, numbers]
end Go.Am.Room
set_option maxRecDepth 4000
namespace Go.Am.Room
def flowerUpTo (v : Farm) (plot : Int) (rain but : List Int) (d : Int) (n : Nat) : Bool := (List.range n).all fun k => match v.looks[k]? with | some x => lookOk plot but rain d k x | none => true
theorem flowerUpTo_succ {v : Farm} {k : Nat} (hk : k < v.looks.length) (plot : Int) (rain but : List Int) (d : Int) : flowerUpTo v plot rain but d (k + 1) = (flowerUpTo v plot rain but d k && lookOk plot but rain d k v.looks[k]) := by
 simp [flowerUpTo, List.range_succ, List.all_append, hk]
end Go.Am.Room
set_option maxRecDepth 4000
namespace Go.Am.Room
def flTo (v : Farm) (rain but : List Int) (k : Nat) : List (List Int) := (List.range k).map fun (p : Nat) => flowersOf v p rain but
def allFl (v : Farm) (rain but : List Int) (k : Nat) : Bool := (flTo v rain but k).all fun x => !x.isEmpty
theorem truthOf_eq (v : Farm) (but rain : List Int) : truthOf v but rain = if allFl v rain but v.plots.length = true then some ⟨rain, flTo v rain but v.plots.length⟩ else none := rfl
theorem foldl_join : ∀ (l : List Int) (s : Span), s.lo ≤ s.hi → (l.foldl join s).lo ≤ s.lo ∧ s.hi ≤ (l.foldl join s).hi ∧ (∀ x ∈ l, (l.foldl join s).lo ≤ x ∧ x ≤ (l.foldl join s).hi) ∧ ((l.foldl join s).lo = s.lo ∨ (l.foldl join s).lo ∈ l) ∧ ((l.foldl join s).hi = s.hi ∨ (l.foldl join s).hi ∈ l)
 | [], s, h => ⟨Int.le_refl _, Int.le_refl _, fun x hx => by simp at hx, .inl rfl, .inl rfl⟩
 | y :: l, s, h => by
  have hj : (join s y).lo ≤ (join s y).hi := by simp only [join]; omega
  obtain ⟨a, b, c, d, e⟩ := foldl_join l (join s y) hj
  simp only [List.foldl_cons]
  have h1 : (join s y).lo ≤ s.lo ∧ (join s y).lo ≤ y ∧ ((join s y).lo = s.lo ∨ (join s y).lo = y) := by simp only [join]; omega
  have h2 : s.hi ≤ (join s y).hi ∧ y ≤ (join s y).hi ∧ ((join s y).hi = s.hi ∨ (join s y).hi = y) := by simp only [join]; omega
  refine ⟨by omega, by omega, fun x hx => ?_, ?_, ?_⟩
  ·rcases List.mem_cons.1 hx with rfl | hx
   ·omega
   ·exact c x hx
  ·rcases d with d | d
   ·rcases h1.2.2 with h | h
    ·left; omega
    ·right; rw [d, h]; simp
   ·right; simp [d]
  ·rcases e with e | e
   ·rcases h2.2.2 with h | h
    ·left; omega
    ·right; rw [e, h]; simp
   ·right; simp [e]
theorem spanL_spec {l : List Int} (h : l ≠ []) : (spanL l).lo ∈ l ∧ (spanL l).hi ∈ l ∧ ∀ x ∈ l, (spanL l).lo ≤ x ∧ x ≤ (spanL l).hi := by
 cases l with
 | nil => exact absurd rfl h
 | cons x l =>
  obtain ⟨a, b, c, d, e⟩ := foldl_join l ⟨x, x⟩ (Int.le_refl _)
  simp only [spanL]
  refine ⟨?_, ?_, fun y hy => ?_⟩
  ·rcases d with d | d
   ·rw [d]; simp
   ·simp [d]
  ·rcases e with e | e
   ·rw [e]; simp
   ·simp [e]
  ·rcases List.mem_cons.1 hy with rfl | hy
   ·exact ⟨a, b⟩
   ·exact c y hy
theorem filter_len {α : Type} {p : α → Bool} {l : List α} : (l.filter p).length = l.length ↔ ∀ x ∈ l, p x = true := by
 rw [List.length_filter_eq_length_iff]
theorem settled_one {α : Type} {p : α → Bool} {l : List α} : settled (l.filter p).length l.length = 1 ↔ ∀ x ∈ l, p x = true := by
 rw [← filter_len]
 unfold settled
 split
 ·rename_i h; simp [h]
 ·rename_i h
  split
  ·simp [h]
  ·simp [h]
theorem settled_two {α : Type} {p : α → Bool} {l : List α} : settled (l.filter p).length l.length = 2 ↔ l ≠ [] ∧ ∀ x ∈ l, p x = false := by
 unfold settled
 split
 ·rename_i h
  simp only [show ¬ (1 : Int) = 2 by omega, false_iff]
  rintro ⟨h1, h2⟩
  rw [filter_len] at h
  cases l with
  | nil => exact h1 rfl
  | cons x l =>
   have a := h x (by simp)
   have b := h2 x (by simp)
   rw [a] at b; cases b
 ·rename_i h
  split
  ·rename_i h0
   simp only [true_iff]
   refine ⟨fun e => ?_, fun x hx => ?_⟩
   ·subst e; simp at h
   ·have := List.eq_nil_of_length_eq_zero h0
    rw [List.filter_eq_nil_iff] at this
    simpa using this x hx
  ·rename_i h0
   simp only [show ¬ (0 : Int) = 2 by omega, false_iff]
   rintro ⟨h1, h2⟩
   apply h0
   rw [List.length_eq_zero_iff, List.filter_eq_nil_iff]
   intro x hx
   simp [h2 x hx]
theorem settled_cases (a b : Nat) : settled a b = 0 ∨ settled a b = 1 ∨ settled a b = 2 := by
 unfold settled; split
 ·simp
 ·split <;> simp
end Go.Am.Room
set_option maxRecDepth 4000
namespace Go.Am.Room
def encSE (x : Span × Int) : AV := .tuple [encSpan x.1, .int .i64 x.2]
def encLE (x : List Int × Int) : AV := .tuple [ints x.1, .int .i64 x.2]
def encIE (x : Int × Int) : AV := .tuple [.int .i64 x.1, .int .i64 x.2]
def encLLE (x : List Int × List Int × Int) : AV := .tuple [ints x.1, ints x.2.1, .int .i64 x.2.2]
theorem errAsk_ok {v : Farm} {n : Int} (h : errAsk v n = 0) : Vd v ∧ 0 ≤ n ∧ n < v.plots.length := by
 unfold errAsk at h
 split at h
 ·rename_i h0
  split at h
  ·rename_i h1; have := inR_iff.1 h1; exact ⟨vd_of_check h0, by omega, by omega⟩
  ·omega
 ·rename_i h0; exact absurd h h0
theorem within_ok {n most e : Int} (h : within n most e = 0) : e = 0 ∧ 0 ≤ n ∧ n ≤ most := by
 unfold within at h
 split at h
 ·rename_i h0
  split at h
  ·rename_i h1; exact ⟨h0, inR_iff.1 h1⟩
  ·omega
 ·rename_i h0; exact absurd h h0
theorem errKnown_ok {v : Farm} {e : Int} (h : errKnown v e = 0) : e = 0 ∧ truths v [] ≠ [] := by
 unfold errKnown at h
 split at h
 ·rename_i h0
  split at h
  ·omega
  ·rename_i h1; exact ⟨h0, by simpa using h1⟩
 ·rename_i h0; exact absurd h h0
def ptsT (t : Truth) (d : Nat) (h : Int) : Int := ptsL t.rain h d
end Go.Am.Room
set_option maxRecDepth 4000
namespace Go.Am.Room
theorem ptsT_bd {v : Farm} (hv : Vd v) {t : Truth} (ht : TOk v t) {d : Nat} (hd : d ≤ v.rain.length) (h : Int) : 0 ≤ ptsT t d h ∧ ptsT t d h ≤ 21 := by
 have hb := pts_bd (rain_bd hv ht.rain) h.toNat d
 have := hv.nra
 simp only [ptsT, ptsL, Int.toNat_natCast]
 omega
theorem fullIn_bd {v : Farm} (hv : Vd v) {l : List Truth} (hl : ∀ t ∈ l, TOk v t) {d : Nat} (hd : d ≤ v.rain.length) (p : Nat) : ∀ n ∈ fullIn l p d, 0 ≤ n ∧ n ≤ 21 := by
 intro n hn
 simp only [fullIn, List.mem_flatMap, List.mem_map] at hn
 obtain ⟨t, ht, h, _, rfl⟩ := hn
 exact ptsT_bd hv (hl t ht) hd h
theorem fullIn_ne {v : Farm} {l : List Truth} (hl : ∀ t ∈ l, TOk v t) (hne : l ≠ []) {p : Nat} (hp : p < v.plots.length) (d : Nat) : fullIn l p d ≠ [] := by
 cases l with
 | nil => exact absurd rfl hne
 | cons t l =>
  have := ((hl t (by simp)).fl p hp).1
  cases hf : flAt t p with
  | nil => exact absurd hf this
  | cons a b => simp [fullIn, hf]
theorem fullS_bd {v : Farm} (hv : Vd v) {l : List Truth} (hl : ∀ t ∈ l, TOk v t) (hne : l ≠ []) {p d : Nat} (hp : p < v.plots.length) (hd : d ≤ v.rain.length) : 0 ≤ (fullS l p d).lo ∧ (fullS l p d).lo ≤ (fullS l p d).hi ∧ (fullS l p d).hi ≤ 21 := by
 have hs := spanL_spec (fullIn_ne hl hne hp d)
 have h1 := fullIn_bd hv hl hd p _ hs.1
 have h2 := fullIn_bd hv hl hd p _ hs.2.1
 have h3 := hs.2.2 _ hs.1
 simp only [fullS]
 omega
end Go.Am.Room
set_option maxRecDepth 4000
namespace Go.Am.Room
def idxOf {α : Type} (p : α → Bool) : List α → Nat → Int
 | [], _ => -1
 | x :: xs, k => if p x then k else idxOf p xs (k + 1)
theorem idxOf_any {α : Type} (p : α → Bool) : ∀ (l : List α) (k : Nat), decide (0 ≤ idxOf p l k) = l.any p
 | [], k => by simp [idxOf]
 | x :: xs, k => by
  cases h : p x
  ·simp [idxOf, h, idxOf_any p xs (k + 1)]
  ·simp [idxOf, h]
theorem index_int (σ : St) (f : AV) (l : List Int) (p : Int → Bool) (hl : l.length < 9223372036854775808) (hk : Keeps σ f) (h : ∀ x ∈ l, Same T f [.int .i64 x] σ (.bool (p x))) : Same T (.func 103 [] []) [ints l, f] σ (.int .i64 (idxOf p l 0)) := by
 refine same_fn (af := a103) rfl (by simp [a103]) ?_
 have hk0 := hk.nil
 (repeat (first | simp only [↓QA, QB, Nat.reduceLT, reduceIte, Nat.reduceEqDiff, Nat.reduceAdd, Nat.reduceLeDiff, Nat.reduceMul, Nat.reduceBEq, a103] | refine rd0 rfl ?_))
 refine loopE (S := Nat) 0 (fun k => k ≤ l.length ∧ idxOf p (l.drop k) k = idxOf p l 0) (fun k => l.length - k) (fun k => [(0, ints l), (1, f), (7, .int .i64 l.length), (8, .int .i64 k)]) (fun _ => σ) ⟨Nat.zero_le _, by simp⟩ rfl ?_ fun k hk1 => ?_
 ·try simp only [TrimX, QE, Nat.reduceLT, reduceIte, Nat.reduceEqDiff, Nat.reduceAdd, Nat.reduceLeDiff, Nat.reduceMul, Nat.reduceBEq]
  try simp
 ·obtain ⟨hkl, hi⟩ := hk1
  (repeat (first | simp only [↓QA, QB, Nat.reduceLT, reduceIte, Nat.reduceEqDiff, Nat.reduceAdd, Nat.reduceLeDiff, Nat.reduceMul, Nat.reduceBEq, L103_0] | refine rd0 rfl ?_))
  refine iteP_intro (fun hd => ?_) fun hd => ?_
  ·have hlt : k < l.length := by simpa using hd
   rw [List.drop_eq_getElem_cons hlt] at hi
   simp only [idxOf] at hi
   have hw := wrapN hlt hl
   (repeat (first | simp only [↓QA, QB, Nat.reduceLT, reduceIte, Nat.reduceEqDiff, Nat.reduceAdd, Nat.reduceLeDiff, Nat.reduceMul, Nat.reduceBEq, hlt] | refine rd0 rfl ?_))
   refine callK_same (h l[k] (List.getElem_mem hlt)) ?_
   (repeat (first | simp only [↓QA, QB, Nat.reduceLT, reduceIte, Nat.reduceEqDiff, Nat.reduceAdd, Nat.reduceLeDiff, Nat.reduceMul, Nat.reduceBEq] | refine rd0 rfl ?_))
   cases hp : p l[k]
   ·(repeat (first | simp only [↓QA, QB, Nat.reduceLT, reduceIte, Nat.reduceEqDiff, Nat.reduceAdd, Nat.reduceLeDiff, Nat.reduceMul, Nat.reduceBEq, hw] | refine rd0 rfl ?_))
    refine ⟨k + 1, ⟨by omega, by rw [← hi, hp]; rfl⟩, by omega, ?_⟩
    try simp only [TrimX, QE, Nat.reduceLT, reduceIte, Nat.reduceEqDiff, Nat.reduceAdd, Nat.reduceLeDiff, Nat.reduceMul, Nat.reduceBEq, hw, hk0, Nat.le_refl]
   ·(repeat (first | simp only [↓QA, QB, Nat.reduceLT, reduceIte, Nat.reduceEqDiff, Nat.reduceAdd, Nat.reduceLeDiff, Nat.reduceMul, Nat.reduceBEq] | refine rd0 rfl ?_))
    refine baseR [] (by first | rfl | simp) ?_
    rw [← hi, hp]
    try simp only [QS, QC, Nat.reduceLT, reduceIte, Nat.reduceEqDiff, Nat.reduceAdd, Nat.reduceLeDiff, Nat.reduceMul, Nat.reduceBEq]
  ·have hlt : k = l.length := by simp at hd; omega
   (repeat (first | simp only [↓QA, QB, Nat.reduceLT, reduceIte, Nat.reduceEqDiff, Nat.reduceAdd, Nat.reduceLeDiff, Nat.reduceMul, Nat.reduceBEq] | refine rd0 rfl ?_))
   refine baseR [] (by first | rfl | simp) ?_
   rw [← hi, hlt, List.drop_length]
   try simp only [QS, QC, Nat.reduceLT, reduceIte, Nat.reduceEqDiff, Nat.reduceAdd, Nat.reduceLeDiff, Nat.reduceMul, Nat.reduceBEq, idxOf]
theorem contains_int (σ : St) (f : AV) (l : List Int) (p : Int → Bool) (hl : l.length < 9223372036854775808) (hk : Keeps σ f) (h : ∀ x ∈ l, Same T f [.int .i64 x] σ (.bool (p x))) : Same T (.func 90 [] []) [ints l, f] σ (.bool (l.any p)) := by
 refine same_fn (af := a90) rfl (by simp [a90]) ?_
 (repeat (first | simp only [↓QA, QB, Nat.reduceLT, reduceIte, Nat.reduceEqDiff, Nat.reduceAdd, Nat.reduceLeDiff, Nat.reduceMul, Nat.reduceBEq, a90] | refine rd0 rfl ?_))
 refine callK_same (index_int σ f l p hl hk h) ?_
 (repeat (first | simp only [↓QA, QB, Nat.reduceLT, reduceIte, Nat.reduceEqDiff, Nat.reduceAdd, Nat.reduceLeDiff, Nat.reduceMul, Nat.reduceBEq] | refine rd0 rfl ?_))
 refine baseR [] (by first | rfl | simp) ?_
 rw [← idxOf_any p l 0]
 try simp only [QS, QC, Nat.reduceLT, reduceIte, Nat.reduceEqDiff, Nat.reduceAdd, Nat.reduceLeDiff, Nat.reduceMul, Nat.reduceBEq]
def outside (lo hi n : Int) : Bool := decide (n < lo) || decide (hi < n)
theorem beyond1_ok (lo hi n : Int) : Same T (.func 91 [] [.ptr 0 0, .ptr 1 0]) [.int .i64 n] [.cells [.int .i64 lo], .cells [.int .i64 hi]] (.bool (outside lo hi n)) := by
 refine same_fn (af := a91) rfl (by simp [a91]) ?_
 (repeat (first | simp only [↓QA, QB, Nat.reduceLT, reduceIte, Nat.reduceEqDiff, Nat.reduceAdd, Nat.reduceLeDiff, Nat.reduceMul, Nat.reduceBEq, a91] | refine rd0 rfl ?_))
 refine iteP_intro (fun h => ?_) fun h => ?_
 all_goals
  (repeat (first | simp only [↓QA, QB, Nat.reduceLT, reduceIte, Nat.reduceEqDiff, Nat.reduceAdd, Nat.reduceLeDiff, Nat.reduceMul, Nat.reduceBEq, h] | refine rd0 rfl ?_))
  refine baseR [] (by first | rfl | simp) ?_
  try simp only [QS, QC, Nat.reduceLT, reduceIte, Nat.reduceEqDiff, Nat.reduceAdd, Nat.reduceLeDiff, Nat.reduceMul, Nat.reduceBEq, outside, h]
  try simp
def beyond (lo hi : Int) (ns : List Int) : Bool := ns.any (outside lo hi)
theorem beyond_ok (lo hi : Int) (ns : List Int) (hl : ns.length < 9223372036854775808) : Pure T 55 [.int .i64 lo, .int .i64 hi, ints ns] (.bool (beyond lo hi ns)) := by
 refine pure_fn (af := a55) rfl (by simp [a55]) dd ?_
 (repeat (first | simp only [↓QA, QB, Nat.reduceLT, reduceIte, Nat.reduceEqDiff, Nat.reduceAdd, Nat.reduceLeDiff, Nat.reduceMul, Nat.reduceBEq, a55] | refine rd0 rfl ?_))
 refine callK_same (contains_int _ _ ns (outside lo hi) hl (fun τ => ?_) fun x _ => beyond1_ok lo hi x) ?_
 ·try simp only [QS, QC, Nat.reduceLT, reduceIte, Nat.reduceEqDiff, Nat.reduceAdd, Nat.reduceLeDiff, Nat.reduceMul, Nat.reduceBEq]
 ·(repeat (first | simp only [↓QA, QB, Nat.reduceLT, reduceIte, Nat.reduceEqDiff, Nat.reduceAdd, Nat.reduceLeDiff, Nat.reduceMul, Nat.reduceBEq, beyond] | refine rd0 rfl ?_))
theorem off1_ok (lo hi n : Int) : Same T (.func 104 [] [.ptr 0 0, .ptr 1 0]) [.int .i64 n] [.cells [.int .i64 lo], .cells [.int .i64 hi]] (.bool (outside lo hi n)) := by
 refine same_fn (af := a104) rfl (by simp [a104]) ?_
 (repeat (first | simp only [↓QA, QB, Nat.reduceLT, reduceIte, Nat.reduceEqDiff, Nat.reduceAdd, Nat.reduceLeDiff, Nat.reduceMul, Nat.reduceBEq, a104] | refine rd0 rfl ?_))
 refine iteP_intro (fun h => ?_) fun h => ?_
 all_goals
  (repeat (first | simp only [↓QA, QB, Nat.reduceLT, reduceIte, Nat.reduceEqDiff, Nat.reduceAdd, Nat.reduceLeDiff, Nat.reduceMul, Nat.reduceBEq, h] | refine rd0 rfl ?_))
  refine baseR [] (by first | rfl | simp) ?_
  try simp only [QS, QC, Nat.reduceLT, reduceIte, Nat.reduceEqDiff, Nat.reduceAdd, Nat.reduceLeDiff, Nat.reduceMul, Nat.reduceBEq, outside, h]
  try simp
theorem off_ok (lo hi : Int) (ns : List Int) (hl : ns.length < 9223372036854775808) : Pure T 92 [.int .i64 lo, .int .i64 hi, ints ns] (.bool (beyond lo hi ns)) := by
 refine pure_fn (af := a92) rfl (by simp [a92]) dd ?_
 (repeat (first | simp only [↓QA, QB, Nat.reduceLT, reduceIte, Nat.reduceEqDiff, Nat.reduceAdd, Nat.reduceLeDiff, Nat.reduceMul, Nat.reduceBEq, a92] | refine rd0 rfl ?_))
 refine callK_same (contains_int _ _ ns (outside lo hi) hl (fun τ => ?_) fun x _ => off1_ok lo hi x) ?_
 ·try simp only [QS, QC, Nat.reduceLT, reduceIte, Nat.reduceEqDiff, Nat.reduceAdd, Nat.reduceLeDiff, Nat.reduceMul, Nat.reduceBEq]
 ·(repeat (first | simp only [↓QA, QB, Nat.reduceLT, reduceIte, Nat.reduceEqDiff, Nat.reduceAdd, Nat.reduceLeDiff, Nat.reduceMul, Nat.reduceBEq, beyond] | refine rd0 rfl ?_))
theorem okUpTo_mono (s : ByteArray) : ∀ n k, k ≤ n → okUpTo s k = false → okUpTo s n = false
  | 0, k, h, h1 => by have : k = 0 := by omega
                      subst this; exact h1
  | n + 1, k, h, h1 => by
    by_cases hk : k = n + 1
    · subst hk; exact h1
    · simp [okUpTo, okUpTo_mono s n k (by omega) h1]
theorem beyond1 (lo hi n : Int) : beyond lo hi [n] = !inR n lo hi := by
 rw [Bool.eq_iff_iff]; simp [beyond, outside, inR]
theorem beyond2 (lo hi n m : Int) : beyond lo hi [n, m] = (!inR n lo hi || !inR m lo hi) := by
 rw [Bool.eq_iff_iff]; simp [beyond, outside, inR]
theorem handname_ok (s : ByteArray) (hs : s.size < 9223372036854775808) : Pure T 61 [.str s] (.bool (nameOk s)) := by
 refine pure_fn (af := a61) rfl (by simp [a61]) dd ?_
 (repeat (first | simp only [↓QA, QB, Nat.reduceLT, reduceIte, Nat.reduceEqDiff, Nat.reduceAdd, Nat.reduceLeDiff, Nat.reduceMul, Nat.reduceBEq, a61] | refine rd0 rfl ?_))
 refine loopE (S := Nat) 0 (fun k => k ≤ s.size ∧ okUpTo s k = true) (fun k => s.size - k) (fun k => [(0, .str s), (7, .ptr 0 0)]) (fun k => [.siter s k]) ⟨Nat.zero_le _, rfl⟩ rfl ?_ fun k hk => ?_
 ·try simp only [TrimX, QE, Nat.reduceLT, reduceIte, Nat.reduceEqDiff, Nat.reduceAdd, Nat.reduceLeDiff, Nat.reduceMul, Nat.reduceBEq]
  try simp
 ·obtain ⟨hkl, hok⟩ := hk
  by_cases hk1 : k < s.size
  ·obtain ⟨R, hR⟩ : ∃ R : Int, ((Utf8.decode s k).1 : Int) = R := ⟨_, rfl⟩
   obtain ⟨W, hW⟩ : ∃ W, (Utf8.decode s k).2 = W := ⟨_, rfl⟩
   have hstep : okUpTo s (k + 1) = okByte k (byteAt s k) := by simp [okUpTo, hok]
   have hbl := byteAt_lt s k
   have key : (97 ≤ R ∧ R ≤ 122 ∨ 0 < k ∧ (R = 46 ∨ 48 ≤ R ∧ R ≤ 57)) → W = 1 ∧ okUpTo s (k + 1) = true := by
    intro h
    by_cases hb : byteAt s k < 128
    ·have := byteAt_ascii hk1 hb
     rw [this] at hR hW
     have hR' : R = byteAt s k := by simp at hR; omega
     refine ⟨hW.symm, ?_⟩
     rw [hstep, okByte, ← hR']
     simp [inR]
     omega
    ·have := byteAt_high hk1 (by omega)
     omega
   have key2 : ¬ (97 ≤ R ∧ R ≤ 122 ∨ 0 < k ∧ (R = 46 ∨ 48 ≤ R ∧ R ≤ 57)) → nameOk s = false := by
    intro h
    have : okUpTo s (k + 1) = false := by
     rw [hstep, okByte]
     by_cases hb : byteAt s k < 128
     ·have := byteAt_ascii hk1 hb
      rw [this] at hR hW
      have hR' : R = byteAt s k := by simp at hR; omega
      rw [← hR']
      simp [inR]
      omega
     ·simp [inR]; omega
    simp [nameOk, okUpTo_mono s s.size (k + 1) (by omega) this]
   have go : ∀ (e : Env), W = 1 ∧ okUpTo s (k + 1) = true → Env.get e 0 = .str s → Env.get e 7 = .ptr 0 0 → ∃ s', (s' ≤ s.size ∧ okUpTo s s' = true) ∧ s.size - s' < s.size - k ∧ TrimX [.siter s k] e [.siter s (k + W)] [(0, .str s), (7, .ptr 0 0)] [.siter s s'] := by
    intro e h e0 e7
    refine ⟨k + 1, ⟨by omega, h.2⟩, by omega, ?_⟩
    try simp only [TrimX, QE, Nat.reduceLT, reduceIte, Nat.reduceEqDiff, Nat.reduceAdd, Nat.reduceLeDiff, Nat.reduceMul, Nat.reduceBEq, e0, e7, h.1]
    try simp [okBlk]
   (repeat (first | simp only [↓QA, QB, Nat.reduceLT, reduceIte, Nat.reduceEqDiff, Nat.reduceAdd, Nat.reduceLeDiff, Nat.reduceMul, Nat.reduceBEq, L61_0, V_snextT hk1, hR, hW] | refine rd0 rfl ?_))
   cases h1 : decide (97 ≤ R)
   ·have h1' : ¬ 97 ≤ R := by simpa using h1
    (repeat (first | simp only [↓QA, QB, Nat.reduceLT, reduceIte, Nat.reduceEqDiff, Nat.reduceAdd, Nat.reduceLeDiff, Nat.reduceMul, Nat.reduceBEq, h1] | refine rd0 rfl ?_))
    cases h3 : ((k : Int) == 0)
    ·have h3' : 0 < k := by simp at h3; omega
     (repeat (first | simp only [↓QA, QB, Nat.reduceLT, reduceIte, Nat.reduceEqDiff, Nat.reduceAdd, Nat.reduceLeDiff, Nat.reduceMul, Nat.reduceBEq, h3] | refine rd0 rfl ?_))
     cases h4 : (R == 46)
     ·have h4' : R ≠ 46 := by simpa using h4
      (repeat (first | simp only [↓QA, QB, Nat.reduceLT, reduceIte, Nat.reduceEqDiff, Nat.reduceAdd, Nat.reduceLeDiff, Nat.reduceMul, Nat.reduceBEq, h4] | refine rd0 rfl ?_))
      cases h5 : decide (R < 48)
      ·have h5' : ¬ R < 48 := by simpa using h5
       (repeat (first | simp only [↓QA, QB, Nat.reduceLT, reduceIte, Nat.reduceEqDiff, Nat.reduceAdd, Nat.reduceLeDiff, Nat.reduceMul, Nat.reduceBEq, h5] | refine rd0 rfl ?_))
       cases h6 : decide (57 < R)
       ·have h6' : ¬ 57 < R := by simpa using h6
        (repeat (first | simp only [↓QA, QB, Nat.reduceLT, reduceIte, Nat.reduceEqDiff, Nat.reduceAdd, Nat.reduceLeDiff, Nat.reduceMul, Nat.reduceBEq, h6] | refine rd0 rfl ?_))
        exact go _ (key (by omega)) (by try simp only [TrimX, QE, Nat.reduceLT, reduceIte, Nat.reduceEqDiff, Nat.reduceAdd, Nat.reduceLeDiff, Nat.reduceMul, Nat.reduceBEq]) (by try simp only [TrimX, QE, Nat.reduceLT, reduceIte, Nat.reduceEqDiff, Nat.reduceAdd, Nat.reduceLeDiff, Nat.reduceMul, Nat.reduceBEq])
       ·have h6' : 57 < R := by simpa using h6
        rw [key2 (by omega)]
        (repeat (first | simp only [↓QA, QB, Nat.reduceLT, reduceIte, Nat.reduceEqDiff, Nat.reduceAdd, Nat.reduceLeDiff, Nat.reduceMul, Nat.reduceBEq, h6] | refine rd0 rfl ?_))
      ·have h5' : R < 48 := by simpa using h5
       rw [key2 (by omega)]
       (repeat (first | simp only [↓QA, QB, Nat.reduceLT, reduceIte, Nat.reduceEqDiff, Nat.reduceAdd, Nat.reduceLeDiff, Nat.reduceMul, Nat.reduceBEq, h5] | refine rd0 rfl ?_))
     ·have h4' : R = 46 := by simpa using h4
      (repeat (first | simp only [↓QA, QB, Nat.reduceLT, reduceIte, Nat.reduceEqDiff, Nat.reduceAdd, Nat.reduceLeDiff, Nat.reduceMul, Nat.reduceBEq, h4] | refine rd0 rfl ?_))
      exact go _ (key (by omega)) (by try simp only [TrimX, QE, Nat.reduceLT, reduceIte, Nat.reduceEqDiff, Nat.reduceAdd, Nat.reduceLeDiff, Nat.reduceMul, Nat.reduceBEq]) (by try simp only [TrimX, QE, Nat.reduceLT, reduceIte, Nat.reduceEqDiff, Nat.reduceAdd, Nat.reduceLeDiff, Nat.reduceMul, Nat.reduceBEq])
    ·have h3' : k = 0 := by simp at h3; omega
     rw [key2 (by omega)]
     (repeat (first | simp only [↓QA, QB, Nat.reduceLT, reduceIte, Nat.reduceEqDiff, Nat.reduceAdd, Nat.reduceLeDiff, Nat.reduceMul, Nat.reduceBEq, h3] | refine rd0 rfl ?_))
   ·have h1' : 97 ≤ R := by simpa using h1
    (repeat (first | simp only [↓QA, QB, Nat.reduceLT, reduceIte, Nat.reduceEqDiff, Nat.reduceAdd, Nat.reduceLeDiff, Nat.reduceMul, Nat.reduceBEq, h1] | refine rd0 rfl ?_))
    cases h2 : decide (R ≤ 122)
    ·have h2' : ¬ R ≤ 122 := by simpa using h2
     (repeat (first | simp only [↓QA, QB, Nat.reduceLT, reduceIte, Nat.reduceEqDiff, Nat.reduceAdd, Nat.reduceLeDiff, Nat.reduceMul, Nat.reduceBEq, h2] | refine rd0 rfl ?_))
     cases h3 : ((k : Int) == 0)
     ·have h3' : 0 < k := by simp at h3; omega
      (repeat (first | simp only [↓QA, QB, Nat.reduceLT, reduceIte, Nat.reduceEqDiff, Nat.reduceAdd, Nat.reduceLeDiff, Nat.reduceMul, Nat.reduceBEq, h3] | refine rd0 rfl ?_))
      cases h4 : (R == 46)
      ·have h4' : R ≠ 46 := by simpa using h4
       (repeat (first | simp only [↓QA, QB, Nat.reduceLT, reduceIte, Nat.reduceEqDiff, Nat.reduceAdd, Nat.reduceLeDiff, Nat.reduceMul, Nat.reduceBEq, h4] | refine rd0 rfl ?_))
       cases h5 : decide (R < 48)
       ·have h5' : ¬ R < 48 := by simpa using h5
        (repeat (first | simp only [↓QA, QB, Nat.reduceLT, reduceIte, Nat.reduceEqDiff, Nat.reduceAdd, Nat.reduceLeDiff, Nat.reduceMul, Nat.reduceBEq, h5] | refine rd0 rfl ?_))
        cases h6 : decide (57 < R)
        ·have h6' : ¬ 57 < R := by simpa using h6
         (repeat (first | simp only [↓QA, QB, Nat.reduceLT, reduceIte, Nat.reduceEqDiff, Nat.reduceAdd, Nat.reduceLeDiff, Nat.reduceMul, Nat.reduceBEq, h6] | refine rd0 rfl ?_))
         exact go _ (key (by omega)) (by try simp only [TrimX, QE, Nat.reduceLT, reduceIte, Nat.reduceEqDiff, Nat.reduceAdd, Nat.reduceLeDiff, Nat.reduceMul, Nat.reduceBEq]) (by try simp only [TrimX, QE, Nat.reduceLT, reduceIte, Nat.reduceEqDiff, Nat.reduceAdd, Nat.reduceLeDiff, Nat.reduceMul, Nat.reduceBEq])
        ·have h6' : 57 < R := by simpa using h6
         rw [key2 (by omega)]
         (repeat (first | simp only [↓QA, QB, Nat.reduceLT, reduceIte, Nat.reduceEqDiff, Nat.reduceAdd, Nat.reduceLeDiff, Nat.reduceMul, Nat.reduceBEq, h6] | refine rd0 rfl ?_))
       ·have h5' : R < 48 := by simpa using h5
        rw [key2 (by omega)]
        (repeat (first | simp only [↓QA, QB, Nat.reduceLT, reduceIte, Nat.reduceEqDiff, Nat.reduceAdd, Nat.reduceLeDiff, Nat.reduceMul, Nat.reduceBEq, h5] | refine rd0 rfl ?_))
      ·have h4' : R = 46 := by simpa using h4
       (repeat (first | simp only [↓QA, QB, Nat.reduceLT, reduceIte, Nat.reduceEqDiff, Nat.reduceAdd, Nat.reduceLeDiff, Nat.reduceMul, Nat.reduceBEq, h4] | refine rd0 rfl ?_))
       exact go _ (key (by omega)) (by try simp only [TrimX, QE, Nat.reduceLT, reduceIte, Nat.reduceEqDiff, Nat.reduceAdd, Nat.reduceLeDiff, Nat.reduceMul, Nat.reduceBEq]) (by try simp only [TrimX, QE, Nat.reduceLT, reduceIte, Nat.reduceEqDiff, Nat.reduceAdd, Nat.reduceLeDiff, Nat.reduceMul, Nat.reduceBEq])
     ·have h3' : k = 0 := by simp at h3; omega
      rw [key2 (by omega)]
      (repeat (first | simp only [↓QA, QB, Nat.reduceLT, reduceIte, Nat.reduceEqDiff, Nat.reduceAdd, Nat.reduceLeDiff, Nat.reduceMul, Nat.reduceBEq, h3] | refine rd0 rfl ?_))
    ·have h2' : R ≤ 122 := by simpa using h2
     (repeat (first | simp only [↓QA, QB, Nat.reduceLT, reduceIte, Nat.reduceEqDiff, Nat.reduceAdd, Nat.reduceLeDiff, Nat.reduceMul, Nat.reduceBEq, h2] | refine rd0 rfl ?_))
     exact go _ (key (by omega)) (by try simp only [TrimX, QE, Nat.reduceLT, reduceIte, Nat.reduceEqDiff, Nat.reduceAdd, Nat.reduceLeDiff, Nat.reduceMul, Nat.reduceBEq]) (by try simp only [TrimX, QE, Nat.reduceLT, reduceIte, Nat.reduceEqDiff, Nat.reduceAdd, Nat.reduceLeDiff, Nat.reduceMul, Nat.reduceBEq])
  ·have hk2 : k = s.size := by omega
   (repeat (first | simp only [↓QA, QB, Nat.reduceLT, reduceIte, Nat.reduceEqDiff, Nat.reduceAdd, Nat.reduceLeDiff, Nat.reduceMul, Nat.reduceBEq, L61_0, V_snextF hk1] | refine rd0 rfl ?_))
   ((first | refine callK_v (off_ok 1 16 [(s.size : Int)] (by simp)) (by simp [clr, clrs, ints]) (by simp [okV, okVs]) ?_ | refine callD_v (off_ok 1 16 [(s.size : Int)] (by simp)) (by simp [clr, clrs, ints]) (by simp [okV, okVs]) ?_); (repeat (first | simp only [↓QA, QB, Nat.reduceLT, reduceIte, Nat.reduceEqDiff, Nat.reduceAdd, Nat.reduceLeDiff, Nat.reduceMul, Nat.reduceBEq] | refine rd0 rfl ?_)))
   rw [beyond1]
   (repeat (first | simp only [↓QA, QB, Nat.reduceLT, reduceIte, Nat.reduceEqDiff, Nat.reduceAdd, Nat.reduceLeDiff, Nat.reduceMul, Nat.reduceBEq] | refine rd0 rfl ?_))
   simp [nameOk, ← hk2, hok]
def enc2 (x : Int × Int) : AV := .tuple [.int .i64 x.1, .int .i64 x.2]
theorem any_nameOf {α : Type} (f : α → ByteArray) (s : ByteArray) : ∀ l : List α, l.any (fun x => decide (f x = s)) = decide (ahead s (l.map f) ≠ (l.map f).length)
 | [] => by simp [ahead]
 | x :: xs => by
  simp only [List.any_cons, any_nameOf f s xs, List.map_cons, ahead, List.length_cons]
  by_cases h : f x = s
  ·simp [h]
  ·simp [h]
end Go.Am.Room
set_option maxRecDepth 4000
namespace Go.Am.Room
def QXFFaP1 := And.intro @encFarm_eq (And.intro @farmCells_eq (And.intro @encPlot_eq (And.intro @encLook_eq (And.intro @encSpan_eq (And.intro @S_mapPlot (And.intro @S_mapLook (@S_mapSpan)))))))
theorem pends_ok (s : Span) (lo hi : Int) : Pure T 58 [encSpan s, .int .i64 lo, .int .i64 hi] (.int .i64 (ends s lo hi)) := by
 refine pure_fn (af := a58) rfl (by simp [a58]) dd ?_
 (repeat (first | simp only [↓QA, QB, Nat.reduceLT, reduceIte, Nat.reduceEqDiff, Nat.reduceAdd, Nat.reduceLeDiff, Nat.reduceMul, Nat.reduceBEq, QXFFaP1, a58] | refine rd0 rfl ?_))
 ((first | refine callK_v (beyond_ok lo hi [s.lo, s.hi] (by simp)) (by simp [clr, clrs, ints]) (by simp [okV, okVs]) ?_ | refine callD_v (beyond_ok lo hi [s.lo, s.hi] (by simp)) (by simp [clr, clrs, ints]) (by simp [okV, okVs]) ?_); (repeat (first | simp only [↓QA, QB, Nat.reduceLT, reduceIte, Nat.reduceEqDiff, Nat.reduceAdd, Nat.reduceLeDiff, Nat.reduceMul, Nat.reduceBEq, QXFFaP1, beyond2] | refine rd0 rfl ?_)))
 cases h1 : (!inR s.lo lo hi || !inR s.hi lo hi)
 ·(repeat (first | simp only [↓QA, QB, Nat.reduceLT, reduceIte, Nat.reduceEqDiff, Nat.reduceAdd, Nat.reduceLeDiff, Nat.reduceMul, Nat.reduceBEq, QXFFaP1] | refine rd0 rfl ?_))
  cases h2 : decide (s.hi < s.lo)
  ·have h2' : ¬ s.hi < s.lo := by simpa using h2
   (repeat (first | simp only [↓QA, QB, Nat.reduceLT, reduceIte, Nat.reduceEqDiff, Nat.reduceAdd, Nat.reduceLeDiff, Nat.reduceMul, Nat.reduceBEq, QXFFaP1, h2] | refine rd0 rfl ?_))
   simp [ends, h1, h2']
  ·have h2' : s.hi < s.lo := by simpa using h2
   (repeat (first | simp only [↓QA, QB, Nat.reduceLT, reduceIte, Nat.reduceEqDiff, Nat.reduceAdd, Nat.reduceLeDiff, Nat.reduceMul, Nat.reduceBEq, QXFFaP1, h2] | refine rd0 rfl ?_))
   simp [ends, h1, h2']
 ·(repeat (first | simp only [↓QA, QB, Nat.reduceLT, reduceIte, Nat.reduceEqDiff, Nat.reduceAdd, Nat.reduceLeDiff, Nat.reduceMul, Nat.reduceBEq, QXFFaP1] | refine rd0 rfl ?_))
  simp [ends, h1]
theorem index_pl (σ : St) (f : AV) (l : List Plot) (p : Plot → Bool) (hl : l.length < 9223372036854775808) (hk : Keeps σ f) (h : ∀ x ∈ l, Same T f [encPlot x] σ (.bool (p x))) : Same T (.func 93 [] []) [.lit (l.map encPlot) false none, f] σ (.int .i64 (idxOf p l 0)) := by
 refine same_fn (af := a93) rfl (by simp [a93]) ?_
 have hk0 := hk.nil
 (repeat (first | simp only [↓QA, QB, Nat.reduceLT, reduceIte, Nat.reduceEqDiff, Nat.reduceAdd, Nat.reduceLeDiff, Nat.reduceMul, Nat.reduceBEq, QXFFaP1, a93] | refine rd0 rfl ?_))
 refine loopE (S := Nat) 0 (fun k => k ≤ l.length ∧ idxOf p (l.drop k) k = idxOf p l 0) (fun k => l.length - k) (fun k => [(0, .lit (l.map encPlot) false none), (1, f), (7, .int .i64 l.length), (8, .int .i64 k)]) (fun _ => σ) ⟨Nat.zero_le _, by simp⟩ rfl ?_ fun k hk1 => ?_
 ·try simp only [TrimX, QE, Nat.reduceLT, reduceIte, Nat.reduceEqDiff, Nat.reduceAdd, Nat.reduceLeDiff, Nat.reduceMul, Nat.reduceBEq, QXFFaP1]
  try simp
 ·obtain ⟨hkl, hi⟩ := hk1
  (repeat (first | simp only [↓QA, QB, Nat.reduceLT, reduceIte, Nat.reduceEqDiff, Nat.reduceAdd, Nat.reduceLeDiff, Nat.reduceMul, Nat.reduceBEq, QXFFaP1, L93_0] | refine rd0 rfl ?_))
  refine iteP_intro (fun hd => ?_) fun hd => ?_
  ·have hlt : k < l.length := by simpa using hd
   rw [List.drop_eq_getElem_cons hlt] at hi
   simp only [idxOf] at hi
   have hw := wrapN hlt hl
   (repeat (first | simp only [↓QA, QB, Nat.reduceLT, reduceIte, Nat.reduceEqDiff, Nat.reduceAdd, Nat.reduceLeDiff, Nat.reduceMul, Nat.reduceBEq, QXFFaP1, hlt] | refine rd0 rfl ?_))
   refine callK_same (h l[k] (List.getElem_mem hlt)) ?_
   (repeat (first | simp only [↓QA, QB, Nat.reduceLT, reduceIte, Nat.reduceEqDiff, Nat.reduceAdd, Nat.reduceLeDiff, Nat.reduceMul, Nat.reduceBEq, QXFFaP1] | refine rd0 rfl ?_))
   cases hp : p l[k]
   ·(repeat (first | simp only [↓QA, QB, Nat.reduceLT, reduceIte, Nat.reduceEqDiff, Nat.reduceAdd, Nat.reduceLeDiff, Nat.reduceMul, Nat.reduceBEq, QXFFaP1, hw] | refine rd0 rfl ?_))
    refine ⟨k + 1, ⟨by omega, by rw [← hi, hp]; rfl⟩, by omega, ?_⟩
    try simp only [TrimX, QE, Nat.reduceLT, reduceIte, Nat.reduceEqDiff, Nat.reduceAdd, Nat.reduceLeDiff, Nat.reduceMul, Nat.reduceBEq, QXFFaP1, hw, hk0, Nat.le_refl, S_mapPlot]
   ·(repeat (first | simp only [↓QA, QB, Nat.reduceLT, reduceIte, Nat.reduceEqDiff, Nat.reduceAdd, Nat.reduceLeDiff, Nat.reduceMul, Nat.reduceBEq, QXFFaP1] | refine rd0 rfl ?_))
    refine baseR [] (by first | rfl | simp) ?_
    rw [← hi, hp]
    try simp only [QS, QC, Nat.reduceLT, reduceIte, Nat.reduceEqDiff, Nat.reduceAdd, Nat.reduceLeDiff, Nat.reduceMul, Nat.reduceBEq, QXFFaP1]
  ·have hlt : k = l.length := by simp at hd; omega
   (repeat (first | simp only [↓QA, QB, Nat.reduceLT, reduceIte, Nat.reduceEqDiff, Nat.reduceAdd, Nat.reduceLeDiff, Nat.reduceMul, Nat.reduceBEq, QXFFaP1] | refine rd0 rfl ?_))
   refine baseR [] (by first | rfl | simp) ?_
   rw [← hi, hlt, List.drop_length]
   try simp only [QS, QC, Nat.reduceLT, reduceIte, Nat.reduceEqDiff, Nat.reduceAdd, Nat.reduceLeDiff, Nat.reduceMul, Nat.reduceBEq, QXFFaP1, idxOf]
theorem contains_pl (σ : St) (f : AV) (l : List Plot) (p : Plot → Bool) (hl : l.length < 9223372036854775808) (hk : Keeps σ f) (h : ∀ x ∈ l, Same T f [encPlot x] σ (.bool (p x))) : Same T (.func 62 [] []) [.lit (l.map encPlot) false none, f] σ (.bool (l.any p)) := by
 refine same_fn (af := a62) rfl (by simp [a62]) ?_
 (repeat (first | simp only [↓QA, QB, Nat.reduceLT, reduceIte, Nat.reduceEqDiff, Nat.reduceAdd, Nat.reduceLeDiff, Nat.reduceMul, Nat.reduceBEq, QXFFaP1, a62] | refine rd0 rfl ?_))
 refine callK_same (index_pl σ f l p hl hk h) ?_
 (repeat (first | simp only [↓QA, QB, Nat.reduceLT, reduceIte, Nat.reduceEqDiff, Nat.reduceAdd, Nat.reduceLeDiff, Nat.reduceMul, Nat.reduceBEq, QXFFaP1] | refine rd0 rfl ?_))
 refine baseR [] (by first | rfl | simp) ?_
 rw [← idxOf_any p l 0]
 try simp only [QS, QC, Nat.reduceLT, reduceIte, Nat.reduceEqDiff, Nat.reduceAdd, Nat.reduceLeDiff, Nat.reduceMul, Nat.reduceBEq, QXFFaP1]
def failF {α : Type} (of : Nat → α → Int) (l : List α) : Int × Int := match firstBad of l 0 with | some (i, e) => (i, e) | none => (0, 0)
theorem failing_span (σ : St) (f : AV) (l : List Span) (of : Nat → Span → Int) (hl : l.length < 9223372036854775808) (hk : Keeps σ f)
  (h : ∀ i (hi : i < l.length), Same T f [.int .i64 i, encSpan l[i]] (σ ++ [.cells (encSpan l[i]).cells]) (.int .i64 (of i l[i]))) : Same T (.func 56 [] []) [.lit (l.map encSpan) false none, f] σ (enc2 (failF of l)) := by
 refine same_fn (af := a56) rfl (by simp [a56]) ?_
 have hk0 := hk.nil
 have hk2 : ∀ τ, snapM (σ ++ τ) σ.length 20 f = some f := hk
 (repeat (first | simp only [↓QA, QB, Nat.reduceLT, reduceIte, Nat.reduceEqDiff, Nat.reduceAdd, Nat.reduceLeDiff, Nat.reduceMul, Nat.reduceBEq, QXFFaP1, a56] | refine rd0 rfl ?_))
 refine loopE (S := Nat) 0 (fun k => k ≤ l.length ∧ firstBad of (l.drop k) k = firstBad of l 0) (fun k => l.length - k) (fun k => [(1, f), (9, .lit (l.map encSpan) false none), (10, .int .i64 l.length), (11, .int .i64 k)]) (fun _ => σ) ⟨Nat.zero_le _, by simp⟩ rfl ?_ fun k hk1 => ?_
 ·try simp only [TrimX, QE, Nat.reduceLT, reduceIte, Nat.reduceEqDiff, Nat.reduceAdd, Nat.reduceLeDiff, Nat.reduceMul, Nat.reduceBEq, QXFFaP1]
  try simp
 ·obtain ⟨hkl, hi⟩ := hk1
  (repeat (first | simp only [↓QA, QB, Nat.reduceLT, reduceIte, Nat.reduceEqDiff, Nat.reduceAdd, Nat.reduceLeDiff, Nat.reduceMul, Nat.reduceBEq, QXFFaP1, L56_0] | refine rd0 rfl ?_))
  refine iteP_intro (fun hd => ?_) fun hd => ?_
  ·have hlt : k < l.length := by simpa using hd
   have hs := h k hlt
   rw [firstBad_step hlt] at hi
   have hw := wrapN hlt hl
   try simp only [↓QA, QB, Nat.reduceLT, reduceIte, Nat.reduceEqDiff, Nat.reduceAdd, Nat.reduceLeDiff, Nat.reduceMul, Nat.reduceBEq, QXFFaP1, hlt] at hs
   (repeat (first | simp only [↓QA, QB, Nat.reduceLT, reduceIte, Nat.reduceEqDiff, Nat.reduceAdd, Nat.reduceLeDiff, Nat.reduceMul, Nat.reduceBEq, QXFFaP1, hlt] | refine rd0 rfl ?_))
   refine callK_same hs ?_
   (repeat (first | simp only [↓QA, QB, Nat.reduceLT, reduceIte, Nat.reduceEqDiff, Nat.reduceAdd, Nat.reduceLeDiff, Nat.reduceMul, Nat.reduceBEq, QXFFaP1] | refine rd0 rfl ?_))
   cases hp : (of k l[k] == 0)
   ·have hp' : of k l[k] ≠ 0 := by simpa using hp
    rw [if_neg hp'] at hi
    (repeat (first | simp only [↓QA, QB, Nat.reduceLT, reduceIte, Nat.reduceEqDiff, Nat.reduceAdd, Nat.reduceLeDiff, Nat.reduceMul, Nat.reduceBEq, QXFFaP1, hp] | refine rd0 rfl ?_))
    refine baseR _ rfl ?_
    try simp only [QS, QC, Nat.reduceLT, reduceIte, Nat.reduceEqDiff, Nat.reduceAdd, Nat.reduceLeDiff, Nat.reduceMul, Nat.reduceBEq, QXFFaP1, enc2, failF, ← hi, reduceCtorEq]
   ·have hp' : of k l[k] = 0 := by simpa using hp
    rw [if_pos hp'] at hi
    (repeat (first | simp only [↓QA, QB, Nat.reduceLT, reduceIte, Nat.reduceEqDiff, Nat.reduceAdd, Nat.reduceLeDiff, Nat.reduceMul, Nat.reduceBEq, QXFFaP1, hp, hw] | refine rd0 rfl ?_))
    refine ⟨k + 1, ⟨by omega, hi⟩, by omega, ?_⟩
    try simp only [TrimX, QE, Nat.reduceLT, reduceIte, Nat.reduceEqDiff, Nat.reduceAdd, Nat.reduceLeDiff, Nat.reduceMul, Nat.reduceBEq, QXFFaP1, hw, hk0, hk2, Nat.le_refl, S_mapSpan]
  ·have hlt : k = l.length := by simp at hd; omega
   rw [firstBad_end hlt] at hi
   (repeat (first | simp only [↓QA, QB, Nat.reduceLT, reduceIte, Nat.reduceEqDiff, Nat.reduceAdd, Nat.reduceLeDiff, Nat.reduceMul, Nat.reduceBEq, QXFFaP1] | refine rd0 rfl ?_))
   refine baseR [] (by first | rfl | simp) ?_
   try simp only [QS, QC, Nat.reduceLT, reduceIte, Nat.reduceEqDiff, Nat.reduceAdd, Nat.reduceLeDiff, Nat.reduceMul, Nat.reduceBEq, QXFFaP1, enc2, failF, ← hi, reduceCtorEq]
theorem failing_plot (σ : St) (f : AV) (l : List Plot) (of : Nat → Plot → Int) (hl : l.length < 9223372036854775808) (hk : Keeps σ f)
  (h : ∀ i (hi : i < l.length), Same T f [.int .i64 i, encPlot l[i]] (σ ++ [.cells (encPlot l[i]).cells]) (.int .i64 (of i l[i]))) : Same T (.func 59 [] []) [.lit (l.map encPlot) false none, f] σ (enc2 (failF of l)) := by
 refine same_fn (af := a59) rfl (by simp [a59]) ?_
 have hk0 := hk.nil
 have hk2 : ∀ τ, snapM (σ ++ τ) σ.length 20 f = some f := hk
 (repeat (first | simp only [↓QA, QB, Nat.reduceLT, reduceIte, Nat.reduceEqDiff, Nat.reduceAdd, Nat.reduceLeDiff, Nat.reduceMul, Nat.reduceBEq, QXFFaP1, a59] | refine rd0 rfl ?_))
 refine loopE (S := Nat) 0 (fun k => k ≤ l.length ∧ firstBad of (l.drop k) k = firstBad of l 0) (fun k => l.length - k) (fun k => [(1, f), (9, .lit (l.map encPlot) false none), (10, .int .i64 l.length), (11, .int .i64 k)]) (fun _ => σ) ⟨Nat.zero_le _, by simp⟩ rfl ?_ fun k hk1 => ?_
 ·try simp only [TrimX, QE, Nat.reduceLT, reduceIte, Nat.reduceEqDiff, Nat.reduceAdd, Nat.reduceLeDiff, Nat.reduceMul, Nat.reduceBEq, QXFFaP1]
  try simp
 ·obtain ⟨hkl, hi⟩ := hk1
  (repeat (first | simp only [↓QA, QB, Nat.reduceLT, reduceIte, Nat.reduceEqDiff, Nat.reduceAdd, Nat.reduceLeDiff, Nat.reduceMul, Nat.reduceBEq, QXFFaP1, L59_0] | refine rd0 rfl ?_))
  refine iteP_intro (fun hd => ?_) fun hd => ?_
  ·have hlt : k < l.length := by simpa using hd
   have hs := h k hlt
   rw [firstBad_step hlt] at hi
   have hw := wrapN hlt hl
   try simp only [↓QA, QB, Nat.reduceLT, reduceIte, Nat.reduceEqDiff, Nat.reduceAdd, Nat.reduceLeDiff, Nat.reduceMul, Nat.reduceBEq, QXFFaP1, hlt] at hs
   (repeat (first | simp only [↓QA, QB, Nat.reduceLT, reduceIte, Nat.reduceEqDiff, Nat.reduceAdd, Nat.reduceLeDiff, Nat.reduceMul, Nat.reduceBEq, QXFFaP1, hlt] | refine rd0 rfl ?_))
   refine callK_same hs ?_
   (repeat (first | simp only [↓QA, QB, Nat.reduceLT, reduceIte, Nat.reduceEqDiff, Nat.reduceAdd, Nat.reduceLeDiff, Nat.reduceMul, Nat.reduceBEq, QXFFaP1] | refine rd0 rfl ?_))
   cases hp : (of k l[k] == 0)
   ·have hp' : of k l[k] ≠ 0 := by simpa using hp
    rw [if_neg hp'] at hi
    (repeat (first | simp only [↓QA, QB, Nat.reduceLT, reduceIte, Nat.reduceEqDiff, Nat.reduceAdd, Nat.reduceLeDiff, Nat.reduceMul, Nat.reduceBEq, QXFFaP1, hp] | refine rd0 rfl ?_))
    refine baseR _ rfl ?_
    try simp only [QS, QC, Nat.reduceLT, reduceIte, Nat.reduceEqDiff, Nat.reduceAdd, Nat.reduceLeDiff, Nat.reduceMul, Nat.reduceBEq, QXFFaP1, enc2, failF, ← hi, reduceCtorEq]
   ·have hp' : of k l[k] = 0 := by simpa using hp
    rw [if_pos hp'] at hi
    (repeat (first | simp only [↓QA, QB, Nat.reduceLT, reduceIte, Nat.reduceEqDiff, Nat.reduceAdd, Nat.reduceLeDiff, Nat.reduceMul, Nat.reduceBEq, QXFFaP1, hp, hw] | refine rd0 rfl ?_))
    refine ⟨k + 1, ⟨by omega, hi⟩, by omega, ?_⟩
    try simp only [TrimX, QE, Nat.reduceLT, reduceIte, Nat.reduceEqDiff, Nat.reduceAdd, Nat.reduceLeDiff, Nat.reduceMul, Nat.reduceBEq, QXFFaP1, hw, hk0, hk2, Nat.le_refl, S_mapPlot]
  ·have hlt : k = l.length := by simp at hd; omega
   rw [firstBad_end hlt] at hi
   (repeat (first | simp only [↓QA, QB, Nat.reduceLT, reduceIte, Nat.reduceEqDiff, Nat.reduceAdd, Nat.reduceLeDiff, Nat.reduceMul, Nat.reduceBEq, QXFFaP1] | refine rd0 rfl ?_))
   refine baseR [] (by first | rfl | simp) ?_
   try simp only [QS, QC, Nat.reduceLT, reduceIte, Nat.reduceEqDiff, Nat.reduceAdd, Nat.reduceLeDiff, Nat.reduceMul, Nat.reduceBEq, QXFFaP1, enc2, failF, ← hi, reduceCtorEq]
theorem failing_look (σ : St) (f : AV) (l : List Look) (of : Nat → Look → Int) (hl : l.length < 9223372036854775808) (hk : Keeps σ f)
  (h : ∀ i (hi : i < l.length), Same T f [.int .i64 i, encLook l[i]] (σ ++ [.cells (encLook l[i]).cells]) (.int .i64 (of i l[i]))) : Same T (.func 64 [] []) [.lit (l.map encLook) false none, f] σ (enc2 (failF of l)) := by
 refine same_fn (af := a64) rfl (by simp [a64]) ?_
 have hk0 := hk.nil
 have hk2 : ∀ τ, snapM (σ ++ τ) σ.length 20 f = some f := hk
 (repeat (first | simp only [↓QA, QB, Nat.reduceLT, reduceIte, Nat.reduceEqDiff, Nat.reduceAdd, Nat.reduceLeDiff, Nat.reduceMul, Nat.reduceBEq, QXFFaP1, a64] | refine rd0 rfl ?_))
 refine loopE (S := Nat) 0 (fun k => k ≤ l.length ∧ firstBad of (l.drop k) k = firstBad of l 0) (fun k => l.length - k) (fun k => [(1, f), (9, .lit (l.map encLook) false none), (10, .int .i64 l.length), (11, .int .i64 k)]) (fun _ => σ) ⟨Nat.zero_le _, by simp⟩ rfl ?_ fun k hk1 => ?_
 ·try simp only [TrimX, QE, Nat.reduceLT, reduceIte, Nat.reduceEqDiff, Nat.reduceAdd, Nat.reduceLeDiff, Nat.reduceMul, Nat.reduceBEq, QXFFaP1]
  try simp
 ·obtain ⟨hkl, hi⟩ := hk1
  (repeat (first | simp only [↓QA, QB, Nat.reduceLT, reduceIte, Nat.reduceEqDiff, Nat.reduceAdd, Nat.reduceLeDiff, Nat.reduceMul, Nat.reduceBEq, QXFFaP1, L64_0] | refine rd0 rfl ?_))
  refine iteP_intro (fun hd => ?_) fun hd => ?_
  ·have hlt : k < l.length := by simpa using hd
   have hs := h k hlt
   rw [firstBad_step hlt] at hi
   have hw := wrapN hlt hl
   try simp only [↓QA, QB, Nat.reduceLT, reduceIte, Nat.reduceEqDiff, Nat.reduceAdd, Nat.reduceLeDiff, Nat.reduceMul, Nat.reduceBEq, QXFFaP1, hlt] at hs
   (repeat (first | simp only [↓QA, QB, Nat.reduceLT, reduceIte, Nat.reduceEqDiff, Nat.reduceAdd, Nat.reduceLeDiff, Nat.reduceMul, Nat.reduceBEq, QXFFaP1, hlt] | refine rd0 rfl ?_))
   refine callK_same hs ?_
   (repeat (first | simp only [↓QA, QB, Nat.reduceLT, reduceIte, Nat.reduceEqDiff, Nat.reduceAdd, Nat.reduceLeDiff, Nat.reduceMul, Nat.reduceBEq, QXFFaP1] | refine rd0 rfl ?_))
   cases hp : (of k l[k] == 0)
   ·have hp' : of k l[k] ≠ 0 := by simpa using hp
    rw [if_neg hp'] at hi
    (repeat (first | simp only [↓QA, QB, Nat.reduceLT, reduceIte, Nat.reduceEqDiff, Nat.reduceAdd, Nat.reduceLeDiff, Nat.reduceMul, Nat.reduceBEq, QXFFaP1, hp] | refine rd0 rfl ?_))
    refine baseR _ rfl ?_
    try simp only [QS, QC, Nat.reduceLT, reduceIte, Nat.reduceEqDiff, Nat.reduceAdd, Nat.reduceLeDiff, Nat.reduceMul, Nat.reduceBEq, QXFFaP1, enc2, failF, ← hi, reduceCtorEq]
   ·have hp' : of k l[k] = 0 := by simpa using hp
    rw [if_pos hp'] at hi
    (repeat (first | simp only [↓QA, QB, Nat.reduceLT, reduceIte, Nat.reduceEqDiff, Nat.reduceAdd, Nat.reduceLeDiff, Nat.reduceMul, Nat.reduceBEq, QXFFaP1, hp, hw] | refine rd0 rfl ?_))
    refine ⟨k + 1, ⟨by omega, hi⟩, by omega, ?_⟩
    try simp only [TrimX, QE, Nat.reduceLT, reduceIte, Nat.reduceEqDiff, Nat.reduceAdd, Nat.reduceLeDiff, Nat.reduceMul, Nat.reduceBEq, QXFFaP1, hw, hk0, hk2, Nat.le_refl, S_mapLook]
  ·have hlt : k = l.length := by simp at hd; omega
   rw [firstBad_end hlt] at hi
   (repeat (first | simp only [↓QA, QB, Nat.reduceLT, reduceIte, Nat.reduceEqDiff, Nat.reduceAdd, Nat.reduceLeDiff, Nat.reduceMul, Nat.reduceBEq, QXFFaP1] | refine rd0 rfl ?_))
   refine baseR [] (by first | rfl | simp) ?_
   try simp only [QS, QC, Nat.reduceLT, reduceIte, Nat.reduceEqDiff, Nat.reduceAdd, Nat.reduceLeDiff, Nat.reduceMul, Nat.reduceBEq, QXFFaP1, enc2, failF, ← hi, reduceCtorEq]
theorem chk1_ok (i : Int) (s : Span) (σ : St) : Same T (.func 57 [] []) [.int .i64 i, encSpan s] σ (.int .i64 (raErr 0 s)) := by
 refine same_fn (af := a57) rfl (by simp [a57]) ?_
 (repeat (first | simp only [↓QA, QB, Nat.reduceLT, reduceIte, Nat.reduceEqDiff, Nat.reduceAdd, Nat.reduceLeDiff, Nat.reduceMul, Nat.reduceBEq, QXFFaP1, a57] | refine rd0 rfl ?_))
 ((first | refine callK_d (pends_ok s 0 2) rfl dd ?_ | refine callD_d (pends_ok s 0 2) rfl dd ?_); (repeat (first | simp only [↓QA, QB, Nat.reduceLT, reduceIte, Nat.reduceEqDiff, Nat.reduceAdd, Nat.reduceLeDiff, Nat.reduceMul, Nat.reduceBEq, QXFFaP1] | refine rd0 rfl ?_)))
 refine baseR [.cells [.int .i64 s.lo, .int .i64 s.hi]] (by first | rfl | simp) ?_
 try simp only [QS, QC, Nat.reduceLT, reduceIte, Nat.reduceEqDiff, Nat.reduceAdd, Nat.reduceLeDiff, Nat.reduceMul, Nat.reduceBEq, QXFFaP1, raErr]
theorem chk21_ok (s x : Plot) (b : ABlk) (τ : St) : Same T (.func 63 [] [.ptr (τ.length + 1) 0]) [encPlot x] (b :: (τ ++ [.cells (encPlot s).cells])) (.bool (decide (x.name = s.name))) := by
 refine same_fn (af := a63) rfl (by simp [a63]) ?_
 (repeat (first | simp only [↓QA, QB, Nat.reduceLT, reduceIte, Nat.reduceEqDiff, Nat.reduceAdd, Nat.reduceLeDiff, Nat.reduceMul, Nat.reduceBEq, QXFFaP1, a63, str_beq, List.length_append] | refine rd0 rfl ?_))
 refine baseR [.cells [.str x.name, .int .i64 x.flower.lo, .int .i64 x.flower.hi, .int .i64 x.hands]] (by first | rfl | simp) ?_
 try simp only [QS, QC, Nat.reduceLT, reduceIte, Nat.reduceEqDiff, Nat.reduceAdd, Nat.reduceLeDiff, Nat.reduceMul, Nat.reduceBEq, QXFFaP1]
theorem chk2_ok (v : Farm) (h : Fits v) (i : Nat) (hi : i < v.plots.length) (τ : St) : Same T (.func 60 [] [.ptr 0 0]) [.int .i64 i, encPlot v.plots[i]] (.cells (farmCells v) :: τ) (.int .i64 (plErr v i v.plots[i])) := by
 refine same_fn (af := a60) rfl (by simp [a60]) ?_
 have hfr := h.rain
 have hsz := h.names _ (List.getElem_mem hi)
 have hts : (v.plots.take i).length < 9223372036854775808 := by have := h.plots; simp; omega
 obtain ⟨s, hs⟩ : ∃ s, v.plots[i] = s := ⟨_, rfl⟩
 have hk : plErr v i s = if fresh s.name ((v.plots.take i).map Plot.name) = 0 then (if ends s.flower 0 (endOf v - 1) = 7 ∨ inR s.hands 1 99 = false then 7 else ends s.flower 0 (endOf v - 1)) else fresh s.name ((v.plots.take i).map Plot.name) := rfl
 rw [hs] at hsz ⊢
 obtain ⟨E, hE⟩ : ∃ E, plErr v i s = E := ⟨_, rfl⟩
 rw [hE] at hk ⊢
 have hwe : IntKind.i64.wrap ((v.rain.length : Int) - 1) = endOf v - 1 := wrap64 ⟨by omega, by omega⟩
 have hen := pends_ok s.flower 0 (endOf v - 1)
 obtain ⟨F, hF⟩ : ∃ F, ends s.flower 0 (endOf v - 1) = F := ⟨_, rfl⟩
 rw [hF] at hk hen
 have fin : ∀ (n : Int) (e : Env) (b : List AV), n = E → BaseR (some (.int .i64 n)) (.cells (farmCells v) :: τ) (.cells (farmCells v) :: (τ ++ [.cells b])) (.int .i64 E) := fun n e b hv => by
  refine baseR [.cells b] (by first | rfl | simp) ?_
  rw [hv]
  try simp only [QS, QC, Nat.reduceLT, reduceIte, Nat.reduceEqDiff, Nat.reduceAdd, Nat.reduceLeDiff, Nat.reduceMul, Nat.reduceBEq, QXFFaP1]
 simp only [farmCells_eq] at fin
 (repeat (first | simp only [↓QA, QB, Nat.reduceLT, reduceIte, Nat.reduceEqDiff, Nat.reduceAdd, Nat.reduceLeDiff, Nat.reduceMul, Nat.reduceBEq, QXFFaP1, a60, hwe] | refine rd0 rfl ?_))
 ((first | refine callK_d (hen) rfl dd ?_ | refine callD_d (hen) rfl dd ?_); (repeat (first | simp only [↓QA, QB, Nat.reduceLT, reduceIte, Nat.reduceEqDiff, Nat.reduceAdd, Nat.reduceLeDiff, Nat.reduceMul, Nat.reduceBEq, QXFFaP1] | refine rd0 rfl ?_)))
 ((first | refine callK_d (handname_ok s.name hsz) rfl dd ?_ | refine callD_d (handname_ok s.name hsz) rfl dd ?_); (repeat (first | simp only [↓QA, QB, Nat.reduceLT, reduceIte, Nat.reduceEqDiff, Nat.reduceAdd, Nat.reduceLeDiff, Nat.reduceMul, Nat.reduceBEq, QXFFaP1] | refine rd0 rfl ?_)))
 cases h1 : nameOk s.name
 ·(repeat (first | simp only [↓QA, QB, Nat.reduceLT, reduceIte, Nat.reduceEqDiff, Nat.reduceAdd, Nat.reduceLeDiff, Nat.reduceMul, Nat.reduceBEq, QXFFaP1] | refine rd0 rfl ?_))
  exact fin _ [] _ (by rw [hk]; simp [fresh, h1])
 ·have hc := contains_pl (.cells (farmCells v) :: (τ ++ [.cells (encPlot s).cells])) (.func 63 [] [.ptr (τ.length + 1) 0]) (v.plots.take i) (fun x => decide (x.name = s.name)) hts (fun υ => by try simp only [QS, QC, Nat.reduceLT, reduceIte, Nat.reduceEqDiff, Nat.reduceAdd, Nat.reduceLeDiff, Nat.reduceMul, Nat.reduceBEq, QXFFaP1, List.length_append]; simp) fun x _ => chk21_ok s x _ τ
  try simp only [↓QA, QB, Nat.reduceLT, reduceIte, Nat.reduceEqDiff, Nat.reduceAdd, Nat.reduceLeDiff, Nat.reduceMul, Nat.reduceBEq, QXFFaP1] at hc
  (repeat (first | simp only [↓QA, QB, Nat.reduceLT, reduceIte, Nat.reduceEqDiff, Nat.reduceAdd, Nat.reduceLeDiff, Nat.reduceMul, Nat.reduceBEq, QXFFaP1, V_take (enc := encPlot) (l := v.plots) (Nat.le_of_lt hi)] | refine rd0 rfl ?_))
  refine callK_same hc ?_
  rw [any_nameOf]
  cases h2 : decide (ahead s.name ((v.plots.take i).map Plot.name) ≠ ((v.plots.take i).map Plot.name).length)
  ·have h2' : ahead s.name ((v.plots.take i).map Plot.name) = ((v.plots.take i).map Plot.name).length := by simpa using h2
   have hf : fresh s.name ((v.plots.take i).map Plot.name) = 0 := by simp only [fresh, h1, h2']; simp
   rw [hf] at hk
   simp only [if_true] at hk
   (repeat (first | simp only [↓QA, QB, Nat.reduceLT, reduceIte, Nat.reduceEqDiff, Nat.reduceAdd, Nat.reduceLeDiff, Nat.reduceMul, Nat.reduceBEq, QXFFaP1] | refine rd0 rfl ?_))
   ((first | refine callK_v (beyond_ok 1 99 [s.hands] (by simp)) (by simp [clr, clrs, ints]) (by simp [okV, okVs]) ?_ | refine callD_v (beyond_ok 1 99 [s.hands] (by simp)) (by simp [clr, clrs, ints]) (by simp [okV, okVs]) ?_); (repeat (first | simp only [↓QA, QB, Nat.reduceLT, reduceIte, Nat.reduceEqDiff, Nat.reduceAdd, Nat.reduceLeDiff, Nat.reduceMul, Nat.reduceBEq, QXFFaP1, beyond1] | refine rd0 rfl ?_)))
   cases h3 : inR s.hands 1 99
   ·(repeat (first | simp only [↓QA, QB, Nat.reduceLT, reduceIte, Nat.reduceEqDiff, Nat.reduceAdd, Nat.reduceLeDiff, Nat.reduceMul, Nat.reduceBEq, QXFFaP1] | refine rd0 rfl ?_))
    exact fin _ [] _ (by rw [hk, if_pos (.inr h3)])
   ·(repeat (first | simp only [↓QA, QB, Nat.reduceLT, reduceIte, Nat.reduceEqDiff, Nat.reduceAdd, Nat.reduceLeDiff, Nat.reduceMul, Nat.reduceBEq, QXFFaP1] | refine rd0 rfl ?_))
    refine fin _ [] _ ?_
    rw [hk]
    by_cases h4 : F = 7
    ·simp [h4]
    ·simp [h4, h3]
  ·have h2' : ahead s.name ((v.plots.take i).map Plot.name) ≠ ((v.plots.take i).map Plot.name).length := by simpa using h2
   have hf : fresh s.name ((v.plots.take i).map Plot.name) = 5 := by simp only [fresh, h1, h2', if_false]; simp
   rw [hf] at hk
   (repeat (first | simp only [↓QA, QB, Nat.reduceLT, reduceIte, Nat.reduceEqDiff, Nat.reduceAdd, Nat.reduceLeDiff, Nat.reduceMul, Nat.reduceBEq, QXFFaP1] | refine rd0 rfl ?_))
   exact fin _ [] _ (by rw [hk]; simp)
theorem chk3_ok (v : Farm) (h : Fits v) (i : Int) (x : Look) : Same T (.func 65 [] [.ptr 0 0]) [.int .i64 i, encLook x] [.cells (farmCells v), .cells (encLook x).cells] (.int .i64 (lkErr v 0 x)) := by
 refine same_fn (af := a65) rfl (by simp [a65]) ?_
 have hfp := h.plots
 have hw : IntKind.i64.wrap ((v.plots.length : Int) - 1) = (v.plots.length : Int) - 1 := wrap64 ⟨by omega, by omega⟩
 have he : endOf v = (v.rain.length : Int) := rfl
 (repeat (first | simp only [↓QA, QB, Nat.reduceLT, reduceIte, Nat.reduceEqDiff, Nat.reduceAdd, Nat.reduceLeDiff, Nat.reduceMul, Nat.reduceBEq, QXFFaP1, a65, hw] | refine rd0 rfl ?_))
 ((first | refine callK_v (beyond_ok 0 ((v.plots.length : Int) - 1) [x.plot] (by simp)) (by simp [clr, clrs, ints]) (by simp [okV, okVs]) ?_ | refine callD_v (beyond_ok 0 ((v.plots.length : Int) - 1) [x.plot] (by simp)) (by simp [clr, clrs, ints]) (by simp [okV, okVs]) ?_); (repeat (first | simp only [↓QA, QB, Nat.reduceLT, reduceIte, Nat.reduceEqDiff, Nat.reduceAdd, Nat.reduceLeDiff, Nat.reduceMul, Nat.reduceBEq, QXFFaP1, beyond1] | refine rd0 rfl ?_)))
 cases h1 : inR x.plot 0 ((v.plots.length : Int) - 1)
 ·(repeat (first | simp only [↓QA, QB, Nat.reduceLT, reduceIte, Nat.reduceEqDiff, Nat.reduceAdd, Nat.reduceLeDiff, Nat.reduceMul, Nat.reduceBEq, QXFFaP1] | refine rd0 rfl ?_))
  refine baseR _ rfl ?_
  try simp only [QS, QC, Nat.reduceLT, reduceIte, Nat.reduceEqDiff, Nat.reduceAdd, Nat.reduceLeDiff, Nat.reduceMul, Nat.reduceBEq, QXFFaP1, lkErr, h1]
 ·(repeat (first | simp only [↓QA, QB, Nat.reduceLT, reduceIte, Nat.reduceEqDiff, Nat.reduceAdd, Nat.reduceLeDiff, Nat.reduceMul, Nat.reduceBEq, QXFFaP1] | refine rd0 rfl ?_))
  ((first | refine callK_v (beyond_ok 0 (v.rain.length : Int) [x.day] (by simp)) (by simp [clr, clrs, ints]) (by simp [okV, okVs]) ?_ | refine callD_v (beyond_ok 0 (v.rain.length : Int) [x.day] (by simp)) (by simp [clr, clrs, ints]) (by simp [okV, okVs]) ?_); (repeat (first | simp only [↓QA, QB, Nat.reduceLT, reduceIte, Nat.reduceEqDiff, Nat.reduceAdd, Nat.reduceLeDiff, Nat.reduceMul, Nat.reduceBEq, QXFFaP1, beyond1] | refine rd0 rfl ?_)))
  cases h2 : inR x.day 0 (v.rain.length : Int)
  ·(repeat (first | simp only [↓QA, QB, Nat.reduceLT, reduceIte, Nat.reduceEqDiff, Nat.reduceAdd, Nat.reduceLeDiff, Nat.reduceMul, Nat.reduceBEq, QXFFaP1] | refine rd0 rfl ?_))
   refine baseR _ rfl ?_
   try simp only [QS, QC, Nat.reduceLT, reduceIte, Nat.reduceEqDiff, Nat.reduceAdd, Nat.reduceLeDiff, Nat.reduceMul, Nat.reduceBEq, QXFFaP1, lkErr, h1, he, h2]
   try simp
  ·(repeat (first | simp only [↓QA, QB, Nat.reduceLT, reduceIte, Nat.reduceEqDiff, Nat.reduceAdd, Nat.reduceLeDiff, Nat.reduceMul, Nat.reduceBEq, QXFFaP1] | refine rd0 rfl ?_))
   ((first | refine callK_v (beyond_ok 0 30 [x.points] (by simp)) (by simp [clr, clrs, ints]) (by simp [okV, okVs]) ?_ | refine callD_v (beyond_ok 0 30 [x.points] (by simp)) (by simp [clr, clrs, ints]) (by simp [okV, okVs]) ?_); (repeat (first | simp only [↓QA, QB, Nat.reduceLT, reduceIte, Nat.reduceEqDiff, Nat.reduceAdd, Nat.reduceLeDiff, Nat.reduceMul, Nat.reduceBEq, QXFFaP1, beyond1] | refine rd0 rfl ?_)))
   cases h3 : inR x.points 0 30
   all_goals
    (repeat (first | simp only [↓QA, QB, Nat.reduceLT, reduceIte, Nat.reduceEqDiff, Nat.reduceAdd, Nat.reduceLeDiff, Nat.reduceMul, Nat.reduceBEq, QXFFaP1] | refine rd0 rfl ?_))
    refine baseR _ rfl ?_
    try simp only [QS, QC, Nat.reduceLT, reduceIte, Nat.reduceEqDiff, Nat.reduceAdd, Nat.reduceLeDiff, Nat.reduceMul, Nat.reduceBEq, QXFFaP1, lkErr, h1, he, h2, h3]
    try simp
theorem ofInt_nat {a : Nat} (h : a < 9223372036854775808) : (BitVec.ofInt 64 (a : Int)).toNat = a := by
 rw [BitVec.toNat_ofInt]
 omega
theorem V_and (a b : Nat) (ha : a < 9223372036854775808) (hb : b < 9223372036854775808) : binAV .and (.int .i64 (a : Int)) (.int .i64 (b : Int)) = some (.int .i64 ((a &&& b : Nat) : Int)) := by
 have h1 : (BitVec.ofInt 64 (a : Int) &&& BitVec.ofInt 64 (b : Int)).toNat = a &&& b := by rw [BitVec.toNat_and, ofInt_nat ha, ofInt_nat hb]
 have h2 : a &&& b ≤ a := Nat.and_le_left
 have h3 : Go.Am.bits .and .i64 (a : Int) (b : Int) = ((a &&& b : Nat) : Int) := by
  show IntKind.i64.wrap (((BitVec.ofInt 64 (a : Int) &&& BitVec.ofInt 64 (b : Int)).toNat : Nat) : Int) = _
  rw [h1]
  exact wrap64 ⟨by omega, by omega⟩
 simp [binAV, binInt, h3]
theorem V_or (a b : Nat) (ha : a < 4611686018427387904) (hb : b < 4611686018427387904) : binAV .or (.int .i64 (a : Int)) (.int .i64 (b : Int)) = some (.int .i64 ((a ||| b : Nat) : Int)) := by
 have h1 : (BitVec.ofInt 64 (a : Int) ||| BitVec.ofInt 64 (b : Int)).toNat = a ||| b := by rw [BitVec.toNat_or, ofInt_nat (by omega), ofInt_nat (by omega)]
 have h2 : a ||| b < 2 ^ 62 := Nat.or_lt_two_pow (by omega) (by omega)
 have h3 : Go.Am.bits .or .i64 (a : Int) (b : Int) = ((a ||| b : Nat) : Int) := by
  show IntKind.i64.wrap (((BitVec.ofInt 64 (a : Int) ||| BitVec.ofInt 64 (b : Int)).toNat : Nat) : Int) = _
  rw [h1]
  exact wrap64 ⟨by omega, by omega⟩
 simp [binAV, binInt, h3]
def andN (a b : Nat) : Nat := a &&& (2 ^ 64 - (b + 1))
theorem andN_bit {b : Nat} (hb : b < 9223372036854775808) (a i : Nat) (ha : a < 9223372036854775808) : (andN a b).testBit i = (a.testBit i && !b.testBit i) := by
 rw [andN, Nat.testBit_and, Nat.testBit_two_pow_sub_succ (by omega)]
 by_cases hi : i < 64
 ·simp [hi]
 ·have : a.testBit i = false := Nat.testBit_lt_two_pow (Nat.lt_of_lt_of_le (show a < 2 ^ 63 by omega) (Nat.pow_le_pow_right (by omega) (by omega)))
  simp [this]
theorem andN_le (a b : Nat) : andN a b ≤ a := Nat.and_le_left
theorem V_andNot (a b : Nat) (ha : a < 9223372036854775808) (hb : b < 9223372036854775808) : binAV .andNot (.int .i64 (a : Int)) (.int .i64 (b : Int)) = some (.int .i64 ((andN a b : Nat) : Int)) := by
 have h1 : (BitVec.ofInt 64 (a : Int) &&& ~~~BitVec.ofInt 64 (b : Int)).toNat = andN a b := by
  rw [BitVec.toNat_and, BitVec.toNat_not, ofInt_nat ha, ofInt_nat hb, andN]
  congr 1
  omega
 have h2 := andN_le a b
 have h3 : Go.Am.bits .andNot .i64 (a : Int) (b : Int) = ((andN a b : Nat) : Int) := by
  show IntKind.i64.wrap (((BitVec.ofInt 64 (a : Int) &&& ~~~BitVec.ofInt 64 (b : Int)).toNat : Nat) : Int) = _
  rw [h1]
  exact wrap64 ⟨by omega, by omega⟩
 simp [binAV, binInt, h3]
theorem pow_small {i : Nat} (h : i ≤ 60) : 2 ^ i ≤ 1152921504606846976 := by
 calc 2 ^ i ≤ 2 ^ 60 := Nat.pow_le_pow_right (by omega) h
  _ = 1152921504606846976 := by decide
theorem V_shl1 (i : Nat) (h : i ≤ 60) : binAV .shl (.int .i64 1) (.int .i64 (i : Int)) = some (.int .i64 ((2 ^ i : Nat) : Int)) := by
 have hm : Nat.min i 64 = i := Nat.min_eq_left (by omega)
 have h0 : ¬ (i : Int) < 0 := by omega
 have hp := pow_small h
 have hc : (1 : Int) * 2 ^ i = ((2 ^ i : Nat) : Int) := by rw [Int.one_mul]; exact (Int.natCast_pow 2 i).symm
 simp only [binAV, h0, if_false, IntKind.bits, Int.toNat_natCast, hm, hc]
 generalize 2 ^ i = q at hp
 rw [wrap64 ⟨by omega, by omega⟩]
theorem bit_div (a i : Nat) : a.testBit i = decide (a / 2 ^ i % 2 = 1) := Nat.testBit_eq_decide_div_mod_eq
theorem mem_lst {n s : Nat} {x : Int} : x ∈ lst n s ↔ (0 ≤ x ∧ x < n) ∧ s.testBit x.toNat = true := by
 simp only [lst, List.mem_filter, numbers_mem, bit_div]
 constructor
 ·rintro ⟨h1, h2⟩; exact ⟨by omega, h2⟩
 ·rintro ⟨h1, h2⟩; exact ⟨by omega, h2⟩
theorem has_lst {n s i : Nat} (h : i < n) : (lst n s).contains (i : Int) = s.testBit i := by
 rw [Bool.eq_iff_iff, List.contains_iff_mem, mem_lst]
 simp only [Int.toNat_natCast]
 constructor
 ·rintro ⟨_, h2⟩; exact h2
 ·intro h2; exact ⟨⟨by omega, by omega⟩, h2⟩
theorem nat_eq0 (a : Nat) : ((a : Int) == 0) = decide (a = 0) := by rw [Bool.eq_iff_iff]; simp
structure ButIs (b : Nat) (bl : List Int) : Prop where
 lt : b < 9223372036854775808
 bit : ∀ i : Nat, i < 5 → (((b / 2 ^ i % 2 : Nat) : Int) == 0) = !bl.contains (i : Int)
theorem but0 : ButIs 0 [] := ⟨by omega, fun i hi => by simp⟩
theorem but_lst {n set : Nat} (hn : n ≤ 5) (hs : set < 2 ^ n) : ButIs set (lst n set) := by
 have hp : 2 ^ n ≤ 2 ^ 5 := Nat.pow_le_pow_right (by omega) hn
 refine ⟨by omega, fun i hi => ?_⟩
 have e : (((set / 2 ^ i % 2 : Nat) : Int) == 0) = !set.testBit i := by
  rw [bit_div, nat_eq0, Bool.eq_iff_iff]
  simp
 rw [e]
 by_cases h : i < n
 ·rw [has_lst h]
 ·have h1 : set.testBit i = false := Nat.testBit_lt_two_pow (Nat.lt_of_lt_of_le hs (Nat.pow_le_pow_right (by omega) (by omega)))
  have h2 : (lst n set).contains (i : Int) = false := by
   rw [Bool.eq_false_iff]
   intro hc
   rw [List.contains_iff_mem, mem_lst] at hc
   omega
  rw [h1, h2]
end Go.Am.Room
set_option maxRecDepth 4000
namespace Go.Am.Room
def QXFCmp := And.intro @Int.toNat_natCast (@List.length_append.{0})
theorem isnan_ok (n : Int) : Pure T 108 [.int .i64 n] (.bool false) := by
 refine pure_fn (af := a108) rfl (by simp [a108]) dd ?_
 (repeat (first | simp only [↓QA, QB, Nat.reduceLT, reduceIte, Nat.reduceEqDiff, Nat.reduceAdd, Nat.reduceLeDiff, Nat.reduceMul, Nat.reduceBEq, QXFCmp, a108] | refine rd0 rfl ?_))
 try simp
def cmpI (a b : Int) : Int := if a < b then -1 else if b < a then 1 else 0
theorem cmp_ok (a b : Int) : Pure T 100 [.int .i64 a, .int .i64 b] (.int .i64 (cmpI a b)) := by
 refine pure_fn (af := a100) rfl (by simp [a100]) dd ?_
 (repeat (first | simp only [↓QA, QB, Nat.reduceLT, reduceIte, Nat.reduceEqDiff, Nat.reduceAdd, Nat.reduceLeDiff, Nat.reduceMul, Nat.reduceBEq, QXFCmp, a100] | refine rd0 rfl ?_))
 ((first | refine callK_d (isnan_ok a) rfl dd ?_ | refine callD_d (isnan_ok a) rfl dd ?_); (repeat (first | simp only [↓QA, QB, Nat.reduceLT, reduceIte, Nat.reduceEqDiff, Nat.reduceAdd, Nat.reduceLeDiff, Nat.reduceMul, Nat.reduceBEq, QXFCmp] | refine rd0 rfl ?_)))
 ((first | refine callK_d (isnan_ok b) rfl dd ?_ | refine callD_d (isnan_ok b) rfl dd ?_); (repeat (first | simp only [↓QA, QB, Nat.reduceLT, reduceIte, Nat.reduceEqDiff, Nat.reduceAdd, Nat.reduceLeDiff, Nat.reduceMul, Nat.reduceBEq, QXFCmp] | refine rd0 rfl ?_)))
 cases h1 : decide (a < b)
 ·have h1' : ¬ a < b := by simpa using h1
  (repeat (first | simp only [↓QA, QB, Nat.reduceLT, reduceIte, Nat.reduceEqDiff, Nat.reduceAdd, Nat.reduceLeDiff, Nat.reduceMul, Nat.reduceBEq, QXFCmp] | refine rd0 rfl ?_))
  cases h2 : decide (b < a)
  ·have h2' : ¬ b < a := by simpa using h2
   (repeat (first | simp only [↓QA, QB, Nat.reduceLT, reduceIte, Nat.reduceEqDiff, Nat.reduceAdd, Nat.reduceLeDiff, Nat.reduceMul, Nat.reduceBEq, QXFCmp] | refine rd0 rfl ?_))
   simp [cmpI, h1', h2']
  ·have h2' : b < a := by simpa using h2
   (repeat (first | simp only [↓QA, QB, Nat.reduceLT, reduceIte, Nat.reduceEqDiff, Nat.reduceAdd, Nat.reduceLeDiff, Nat.reduceMul, Nat.reduceBEq, QXFCmp] | refine rd0 rfl ?_))
   simp [cmpI, h1', h2']
 ·have h1' : a < b := by simpa using h1
  (repeat (first | simp only [↓QA, QB, Nat.reduceLT, reduceIte, Nat.reduceEqDiff, Nat.reduceAdd, Nat.reduceLeDiff, Nat.reduceMul, Nat.reduceBEq, QXFCmp] | refine rd0 rfl ?_))
  simp [cmpI, h1']
def cmpL : List Int → List Int → Int
 | [], [] => 0
 | [], _ :: _ => -1
 | _ :: _, [] => 1
 | a :: az, b :: bs => if cmpI a b = 0 then cmpL az bs else cmpI a b
theorem cmpL_less : ∀ a b : List Int, decide (0 < cmpL a b) = less b a
 | [], [] => rfl
 | [], b :: bs => rfl
 | a :: az, [] => rfl
 | a :: az, b :: bs => by
  have ih := cmpL_less az bs
  simp only [cmpL, less, cmpI]
  by_cases h1 : a < b
  ·simp [h1, show ¬ b = a by omega]; omega
  ·by_cases h2 : b < a
   ·simp [h1, h2, show ¬ b = a by omega]
   ·have : b = a := by omega
    subst this
    simp [ih]
theorem scmp_ok (a b : List Int) (ha : a.length < 9223372036854775808) (hb : b.length < 9223372036854775808) : Pure T 84 [ints a, ints b] (.int .i64 (cmpL a b)) := by
 refine pure_fn (af := a84) rfl (by simp [a84]) dd ?_
 (repeat (first | simp only [↓QA, QB, Nat.reduceLT, reduceIte, Nat.reduceEqDiff, Nat.reduceAdd, Nat.reduceLeDiff, Nat.reduceMul, Nat.reduceBEq, QXFCmp, a84] | refine rd0 rfl ?_))
 refine loopE (S := Nat) 0 (fun k => k ≤ a.length ∧ k ≤ b.length ∧ cmpL (a.drop k) (b.drop k) = cmpL a b) (fun k => a.length - k) (fun k => [(0, ints a), (1, ints b), (9, ints a), (10, .int .i64 a.length), (11, .int .i64 k)]) (fun _ => []) ⟨by simp, by simp, by simp⟩ rfl ?_ fun k hk => ?_
 ·try simp only [TrimX, QE, Nat.reduceLT, reduceIte, Nat.reduceEqDiff, Nat.reduceAdd, Nat.reduceLeDiff, Nat.reduceMul, Nat.reduceBEq, QXFCmp]
  try simp
 ·obtain ⟨hk, hkb, hq⟩ := hk
  (repeat (first | simp only [↓QA, QB, Nat.reduceLT, reduceIte, Nat.reduceEqDiff, Nat.reduceAdd, Nat.reduceLeDiff, Nat.reduceMul, Nat.reduceBEq, QXFCmp, L84_0] | refine rd0 rfl ?_))
  refine iteP_intro (fun h => ?_) fun h => ?_
  ·have hk1 : k < a.length := by simpa using h
   have hw := wrapN hk1 ha
   rw [List.drop_eq_getElem_cons hk1] at hq
   (repeat (first | simp only [↓QA, QB, Nat.reduceLT, reduceIte, Nat.reduceEqDiff, Nat.reduceAdd, Nat.reduceLeDiff, Nat.reduceMul, Nat.reduceBEq, QXFCmp, hk1] | refine rd0 rfl ?_))
   refine iteP_intro (fun h2 => ?_) fun h2 => ?_
   ·have hk2 : k = b.length := by simp at h2; omega
    have hd : b.drop k = [] := by rw [hk2, List.drop_length]
    rw [hd] at hq
    simp only [cmpL] at hq
    (repeat (first | simp only [↓QA, QB, Nat.reduceLT, reduceIte, Nat.reduceEqDiff, Nat.reduceAdd, Nat.reduceLeDiff, Nat.reduceMul, Nat.reduceBEq, QXFCmp, hk1, ← hq] | refine rd0 rfl ?_))
   ·have hk2 : k < b.length := by simp at h2; omega
    rw [List.drop_eq_getElem_cons hk2] at hq
    simp only [cmpL] at hq
    (repeat (first | simp only [↓QA, QB, Nat.reduceLT, reduceIte, Nat.reduceEqDiff, Nat.reduceAdd, Nat.reduceLeDiff, Nat.reduceMul, Nat.reduceBEq, QXFCmp, hk1, hk2] | refine rd0 rfl ?_))
    ((first | refine callK_d (cmp_ok a[k] b[k]) rfl dd ?_ | refine callD_d (cmp_ok a[k] b[k]) rfl dd ?_); (repeat (first | simp only [↓QA, QB, Nat.reduceLT, reduceIte, Nat.reduceEqDiff, Nat.reduceAdd, Nat.reduceLeDiff, Nat.reduceMul, Nat.reduceBEq, QXFCmp, hk1, hk2] | refine rd0 rfl ?_)))
    cases h3 : (cmpI a[k] b[k] == 0)
    ·have h3' : cmpI a[k] b[k] ≠ 0 := by simpa using h3
     rw [if_neg h3'] at hq
     (repeat (first | simp only [↓QA, QB, Nat.reduceLT, reduceIte, Nat.reduceEqDiff, Nat.reduceAdd, Nat.reduceLeDiff, Nat.reduceMul, Nat.reduceBEq, QXFCmp, h3, hk1, hk2, hq] | refine rd0 rfl ?_))
    ·have h3' : cmpI a[k] b[k] = 0 := by simpa using h3
     rw [if_pos h3'] at hq
     (repeat (first | simp only [↓QA, QB, Nat.reduceLT, reduceIte, Nat.reduceEqDiff, Nat.reduceAdd, Nat.reduceLeDiff, Nat.reduceMul, Nat.reduceBEq, QXFCmp, h3, hk1, hk2] | refine rd0 rfl ?_))
     refine ⟨k + 1, ⟨by omega, by omega, hq⟩, by omega, ?_⟩
     try simp only [TrimX, QE, Nat.reduceLT, reduceIte, Nat.reduceEqDiff, Nat.reduceAdd, Nat.reduceLeDiff, Nat.reduceMul, Nat.reduceBEq, QXFCmp, hw]
  ·have hk1 : k = a.length := by simp at h; omega
   rw [hk1, List.drop_length] at hq
   (repeat (first | simp only [↓QA, QB, Nat.reduceLT, reduceIte, Nat.reduceEqDiff, Nat.reduceAdd, Nat.reduceLeDiff, Nat.reduceMul, Nat.reduceBEq, QXFCmp] | refine rd0 rfl ?_))
   refine iteP_intro (fun h2 => ?_) fun h2 => ?_
   ·have hk2 : a.length < b.length := by simpa using h2
    rw [List.drop_eq_getElem_cons hk2] at hq
    (repeat (first | simp only [↓QA, QB, Nat.reduceLT, reduceIte, Nat.reduceEqDiff, Nat.reduceAdd, Nat.reduceLeDiff, Nat.reduceMul, Nat.reduceBEq, QXFCmp, ← hq, cmpL] | refine rd0 rfl ?_))
   ·have hk2 : a.length = b.length := by simp at h2; omega
    rw [hk2, List.drop_length] at hq
    (repeat (first | simp only [↓QA, QB, Nat.reduceLT, reduceIte, Nat.reduceEqDiff, Nat.reduceAdd, Nat.reduceLeDiff, Nat.reduceMul, Nat.reduceBEq, QXFCmp, ← hq, cmpL] | refine rd0 rfl ?_))
theorem cells_lt {σ : St} {i : Nat} {cs : List AV} (h : cellsAt σ i = some cs) : i < σ.length := by
 unfold cellsAt at h
 by_cases hi : i < σ.length
 ·exact hi
 ·rw [List.getElem?_eq_none (by omega)] at h
  cases h
theorem cells_app {σ : St} {i : Nat} {cs : List AV} (h : cellsAt σ i = some cs) (τ : St) : cellsAt (σ ++ τ) i = some cs := by
 have hl := cells_lt h
 simp only [cellsAt] at h ⊢
 rw [List.getElem?_append_left hl]
 exact h
end Go.Am.Room
namespace Go.Am.Room
structure MemAt {M : Type} (S : M → St) (obj : List AV) (es : M → List (AV × AV)) (p m N : Nat) : Prop where
 len : ∀ M, (S M).length = N
 at0 : ∀ M, cellsAt (S M) p = some obj
 map0 : ∀ M, (S M)[m]? = some (.map (es M))
 mset : ∀ M M', (S M).set m (.map (es M')) = S M'
 ok : ∀ M k, okBlk k (.map (es M))
 pl : p < N
 ml : m < N
namespace MemAt
variable {M : Type} {S : M → St} {obj : List AV} {es : M → List (AV × AV)} {p m N : Nat}
theorem base (h : MemAt S obj es p m N) (A : M) (τ : St) (k : Nat) : cellsAt (S A ++ τ) (N + k) = cellsAt τ k := by rw [← h.len A]; exact M_base _ _ _
theorem base0 (h : MemAt S obj es p m N) (A : M) (τ : St) : cellsAt (S A ++ τ) N = cellsAt τ 0 := h.base A τ 0
theorem bset (h : MemAt S obj es p m N) (A : M) (τ : St) (k : Nat) (x : ABlk) : (S A ++ τ).set (N + k) x = S A ++ τ.set k x := by rw [← h.len A]; exact st_set _ _ _ _
theorem bset0 (h : MemAt S obj es p m N) (A : M) (τ : St) (x : ABlk) : (S A ++ τ).set N x = S A ++ τ.set 0 x := h.bset A τ 0 x
theorem map1 (h : MemAt S obj es p m N) (A : M) (τ : St) : (S A ++ τ)[m]? = some (.map (es A)) := by
 have hl := h.ml
 rw [← h.len A] at hl
 rw [List.getElem?_append_left hl]
 exact h.map0 A
theorem keep (h : MemAt S obj es p m N) (A B : M) (i : Nat) (hi : i ≠ m) : (S B)[i]? = (S A)[i]? := by
 rw [← h.mset A B, List.getElem?_set_ne (fun e => hi e.symm)]
end MemAt
def iterF {A X : Type} (f : A → X → X × Bool) : List A → X → X × Bool
 | [], x => (x, true)
 | a :: az, x => if (f a x).2 = true then iterF f az (f a x).1 else ((f a x).1, false)
theorem iterF_app {A X : Type} (f : A → X → X × Bool) : ∀ (az bs : List A) (x : X), iterF f (az ++ bs) x = if (iterF f az x).2 = true then iterF f bs (iterF f az x).1 else ((iterF f az x).1, false)
 | [], bs, x => by simp [iterF]
 | a :: az, bs, x => by
  simp only [List.cons_append, iterF]
  split
  ·exact iterF_app f az bs _
  ·simp
structure Fam {X : Type} (Z ZD : X → St) (obj : List AV) (p q N : Nat) : Prop where
 len : ∀ x, (Z x).length = N
 lenD : ∀ x, (ZD x).length = N
 at0 : ∀ x, cellsAt (Z x) p = some obj
 atq0 : ∀ x, cellsAt (Z x) q = some [.ptr p 0]
 keep : ∀ x y k i, N ≤ k → i < N → blkKept (Z x) (Z y) k i
 keepD : ∀ x y k i, N ≤ k → i < N → blkKept (Z x) (ZD y) k i
 pl : p < N
 ql : q < N
namespace Fam
variable {X : Type} {Z ZD : X → St} {obj : List AV} {p q N : Nat}
theorem base (h : Fam Z ZD obj p q N) (x : X) (τ : St) (k : Nat) : cellsAt (Z x ++ τ) (N + k) = cellsAt τ k := by rw [← h.len x]; exact M_base _ _ _
theorem base0 (h : Fam Z ZD obj p q N) (x : X) (τ : St) : cellsAt (Z x ++ τ) N = cellsAt τ 0 := h.base x τ 0
theorem bset (h : Fam Z ZD obj p q N) (x : X) (τ : St) (k : Nat) (y : ABlk) : (Z x ++ τ).set (N + k) y = Z x ++ τ.set k y := by rw [← h.len x]; exact st_set _ _ _ _
theorem bset0 (h : Fam Z ZD obj p q N) (x : X) (τ : St) (y : ABlk) : (Z x ++ τ).set N y = Z x ++ τ.set 0 y := h.bset x τ 0 y
def out (Z ZD : X → St) (r : X × Bool) : St := if r.2 = true then Z r.1 else ZD r.1
end Fam
theorem iterF_one {A X : Type} (f : A → X → X × Bool) (a : A) (x : X) : iterF f [a] x = f a x := by
 simp only [iterF]
 obtain ⟨y, bb⟩ := f a x
 cases bb <;> simp
namespace Fam1
variable {X : Type} {M : Type} {Z ZD : X → M → St} {obj : List AV} {es : M → List (AV × AV)} {p m q N : Nat}
def out (Z ZD : X → M → St) (r : X × Bool) (A : M) : St := if r.2 = true then Z r.1 A else ZD r.1 A
end Fam1
theorem iterF_go {A X : Type} {f : A → X → X × Bool} (h : ∀ a x, (f a x).2 = true) : ∀ (l : List A) (x : X), iterF f l x = (l.foldl (fun x a => (f a x).1) x, true)
 | [], x => rfl
 | a :: az, x => by simp only [iterF, h, if_true, List.foldl_cons]; exact iterF_go h az _
end Go.Am.Room
namespace Go.Am.Room
def updF (f : Nat → Int) (i : Nat) (v : Int) : Nat → Int := fun j => if j = i then v else f j
def arrA (n : Nat) (f : Nat → Int) : List AV := (List.range n).map fun i => .int .i64 (f i)
theorem arrA_len (n : Nat) (f : Nat → Int) : (arrA n f).length = n := by simp [arrA]
theorem arrA_get (n : Nat) (f : Nat → Int) {i : Nat} (h : i < n) : (arrA n f)[i]? = some (.int .i64 (f i)) := by simp [arrA, h]
theorem arrA_set (n : Nat) (f : Nat → Int) (v : Int) {i : Nat} (h : i < n) : (arrA n f).take i ++ [AV.int .i64 v] ++ (arrA n f).drop (i + 1) = arrA n (updF f i v) := by
 have h1 : (arrA n f).take i ++ [AV.int .i64 v] ++ (arrA n f).drop (i + 1) = (arrA n f).set i (.int .i64 v) := by
  rw [List.set_eq_take_append_cons_drop, if_pos (by rw [arrA_len]; exact h)]; simp
 rw [h1]
 refine List.ext_getElem? fun j => ?_
 by_cases hj : j < n
 ·rw [arrA_get n _ hj, List.getElem?_set]
  by_cases e : i = j
  ·subst e; simp [arrA_len, hj, updF]
  ·rw [if_neg e, arrA_get n _ hj]; simp [updF, show ¬ j = i from fun q => e q.symm]
 ·rw [List.getElem?_eq_none (by rw [List.length_set, arrA_len]; omega), List.getElem?_eq_none (by rw [arrA_len]; omega)]
theorem datas_arrA (n : Nat) (f : Nat → Int) : Datas (arrA n f) := datas_map (enc := fun i : Nat => AV.int .i64 (f i)) (fun i => data_int _ _) (List.range n)
instance (n : Nat) (f : Nat → Int) : Dats (arrA n f) := ⟨datas_arrA n f⟩
theorem arrA_ok (n : Nat) (f : Nat → Int) (m : Nat) : okVs m (arrA n f) := ok_datas (datas_arrA n f) m
theorem S_arrA (n : Nat) (f : Nat → Int) (σ : St) (m d : Nat) : snapMs σ m d (arrA n f) = some (arrA n f) := S_datas (datas_arrA n f) σ m d
theorem arrA_cell (n : Nat) (f : Nat → Int) : allCell (arrA n f) = true := C_mapc _ _ fun i => by simp [AV.cell]
theorem arrA_take (n : Nat) (f : Nat → Int) : (arrA n f).take n = arrA n f := List.take_of_length_le (by rw [arrA_len]; exact Nat.le_refl n)
theorem arrA_drop (n : Nat) (f : Nat → Int) : (arrA n f).drop n = [] := List.drop_eq_nil_of_le (by rw [arrA_len]; exact Nat.le_refl n)
theorem arrA_eqC (f g : Nat → Int) : ∀ l : List Nat, eqCells (List.replicate l.length .i) (l.map fun i => .int .i64 (f i)) (l.map fun i => .int .i64 (g i)) = some (l.all fun i => f i == g i)
 | [] => rfl
 | x :: l => by
  simp only [List.length_cons, List.replicate_succ, List.map_cons, V_eqC1, V_eqI, arrA_eqC f g l, V_oand, List.all_cons]
theorem arrA_eq (n : Nat) (f g : Nat → Int) : eqCells (List.replicate n .i) (arrA n f) (arrA n g) = some ((List.range n).all fun i => f i == g i) := by
 have := arrA_eqC f g (List.range n)
 rwa [List.length_range] at this
section
variable {K : Type} [DecidableEq K]
variable {sh : EqTy} {enc val : K → AV}
variable {S : List K → St} {obj : List AV} {p m N : Nat}
end
end Go.Am.Room
set_option maxRecDepth 4000
namespace Go.Am.Room
def QXFFaP2 := And.intro @encFarm_eq (And.intro @farmCells_eq (And.intro @encPlot_eq (And.intro @encLook_eq (And.intro @encSpan_eq (And.intro @S_mapPlot (And.intro @S_mapLook (And.intro @S_mapSpan (And.intro @T_sapp (@List.length_append.{0})))))))))
theorem check_ok (v : Farm) (h : Fits v) : Pure T 15 [encFarm v] (enc3 (check v)) := by
 refine pure_fn (af := a15) rfl (by simp [a15]) dd ?_
 (repeat (first | simp only [↓QA, QB, Nat.reduceLT, reduceIte, Nat.reduceEqDiff, Nat.reduceAdd, Nat.reduceLeDiff, Nat.reduceMul, Nat.reduceBEq, QXFFaP2, a15] | refine rd0 rfl ?_))
 ((first | refine callK_v (beyond_ok 1 7 [(v.rain.length : Int)] (by simp)) (by simp [clr, clrs, ints]) (by simp [okV, okVs]) ?_ | refine callD_v (beyond_ok 1 7 [(v.rain.length : Int)] (by simp)) (by simp [clr, clrs, ints]) (by simp [okV, okVs]) ?_); (repeat (first | simp only [↓QA, QB, Nat.reduceLT, reduceIte, Nat.reduceEqDiff, Nat.reduceAdd, Nat.reduceLeDiff, Nat.reduceMul, Nat.reduceBEq, QXFFaP2, beyond1] | refine rd0 rfl ?_)))
 cases h1 : inR (v.rain.length : Int) 1 7
 ·(repeat (first | simp only [↓QA, QB, Nat.reduceLT, reduceIte, Nat.reduceEqDiff, Nat.reduceAdd, Nat.reduceLeDiff, Nat.reduceMul, Nat.reduceBEq, QXFFaP2] | refine rd0 rfl ?_))
  simp [check, h1, enc3]
 ·have hc : check v = match firstBad raErr v.rain 0 with | some (i, e) => (1, (i : Int), e) | none => check2 v := by simp only [check, h1, Bool.true_eq_false, if_false]; try rfl
  rw [hc]
  have hf := failing_span [.cells (farmCells v)] (.func 57 [] []) v.rain raErr h.rain (fun τ => by try simp only [QS, QC, Nat.reduceLT, reduceIte, Nat.reduceEqDiff, Nat.reduceAdd, Nat.reduceLeDiff, Nat.reduceMul, Nat.reduceBEq, QXFFaP2]) fun i hi => chk1_ok i _ _
  try simp only [↓QA, QB, Nat.reduceLT, reduceIte, Nat.reduceEqDiff, Nat.reduceAdd, Nat.reduceLeDiff, Nat.reduceMul, Nat.reduceBEq, QXFFaP2] at hf
  (repeat (first | simp only [↓QA, QB, Nat.reduceLT, reduceIte, Nat.reduceEqDiff, Nat.reduceAdd, Nat.reduceLeDiff, Nat.reduceMul, Nat.reduceBEq, QXFFaP2] | refine rd0 rfl ?_))
  refine callK_same hf ?_
  cases hb : firstBad raErr v.rain 0 with
  | some p =>
   obtain ⟨i, e⟩ := p
   have he := firstBad_nz hb
   have hg : (e == 0) = false := by simpa using he
   (repeat (first | simp only [↓QA, QB, Nat.reduceLT, reduceIte, Nat.reduceEqDiff, Nat.reduceAdd, Nat.reduceLeDiff, Nat.reduceMul, Nat.reduceBEq, QXFFaP2, failF, hb, enc2, hg, enc3] | refine rd0 rfl ?_))
  | none =>
   (repeat (first | simp only [↓QA, QB, Nat.reduceLT, reduceIte, Nat.reduceEqDiff, Nat.reduceAdd, Nat.reduceLeDiff, Nat.reduceMul, Nat.reduceBEq, QXFFaP2, failF, hb, enc2] | refine rd0 rfl ?_))
   ((first | refine callK_d (pends_ok v.way 0 9) rfl dd ?_ | refine callD_d (pends_ok v.way 0 9) rfl dd ?_); (repeat (first | simp only [↓QA, QB, Nat.reduceLT, reduceIte, Nat.reduceEqDiff, Nat.reduceAdd, Nat.reduceLeDiff, Nat.reduceMul, Nat.reduceBEq, QXFFaP2] | refine rd0 rfl ?_)))
   ((first | refine callK_v (beyond_ok 0 30 [v.full, v.ripe] (by simp)) (by simp [clr, clrs, ints]) (by simp [okV, okVs]) ?_ | refine callD_v (beyond_ok 0 30 [v.full, v.ripe] (by simp)) (by simp [clr, clrs, ints]) (by simp [okV, okVs]) ?_); (repeat (first | simp only [↓QA, QB, Nat.reduceLT, reduceIte, Nat.reduceEqDiff, Nat.reduceAdd, Nat.reduceLeDiff, Nat.reduceMul, Nat.reduceBEq, QXFFaP2, beyond2] | refine rd0 rfl ?_)))
   cases h2 : (!inR v.full 0 30 || !inR v.ripe 0 30)
   ·have h2' : ¬ (inR v.full 0 30 = false ∨ inR v.ripe 0 30 = false) := by
     intro h; rcases h with h | h <;> rw [h] at h2 <;> simp at h2
    cases h5 : (ends v.way 0 9 == 0)
    ·have h5' : ends v.way 0 9 ≠ 0 := by simpa using h5
     (repeat (first | simp only [↓QA, QB, Nat.reduceLT, reduceIte, Nat.reduceEqDiff, Nat.reduceAdd, Nat.reduceLeDiff, Nat.reduceMul, Nat.reduceBEq, QXFFaP2, h5] | refine rd0 rfl ?_))
     by_cases h4 : ends v.way 0 9 = 7
     ·simp [check2, h4, enc3]
     ·have : ¬ (inR v.full 0 30 = false ∨ inR v.ripe 0 30 = false ∨ ends v.way 0 9 = 7) := by
       rintro (h | h | h)
       ·exact h2' (.inl h)
       ·exact h2' (.inr h)
       ·exact h4 h
      simp [check2, this, h5', enc3]
    ·have h5' : ends v.way 0 9 = 0 := by simpa using h5
     have hc : check2 v = check3 v := by
      have : ¬ (inR v.full 0 30 = false ∨ inR v.ripe 0 30 = false ∨ ends v.way 0 9 = 7) := by
       rintro (h | h | h)
       ·exact h2' (.inl h)
       ·exact h2' (.inr h)
       ·omega
      rw [check2, if_neg this, if_pos h5']
     rw [hc]
     (repeat (first | simp only [↓QA, QB, Nat.reduceLT, reduceIte, Nat.reduceEqDiff, Nat.reduceAdd, Nat.reduceLeDiff, Nat.reduceMul, Nat.reduceBEq, QXFFaP2, h5] | refine rd0 rfl ?_))
     cases h6 : decide ((4 : Int) < (v.plots.length : Int))
     case' true =>
      have h6' : 4 < v.plots.length := by first | (have := of_decide_eq_false h6; omega) | (have := of_decide_eq_true h6; omega)
      (repeat (first | simp only [↓QA, QB, Nat.reduceLT, reduceIte, Nat.reduceEqDiff, Nat.reduceAdd, Nat.reduceLeDiff, Nat.reduceMul, Nat.reduceBEq, QXFFaP2, h6] | refine rd0 rfl ?_))
      simp [check3, h6', enc3]
     have h6' : ¬ 4 < v.plots.length := by first | (have := of_decide_eq_false h6; omega) | (have := of_decide_eq_true h6; omega)
     have hc : check3 v = match firstBad (plErr v) v.plots 0 with | some (i, e) => (3, (i : Int), e) | none => check4 v := by simp only [check3, h6', if_false]; try rfl
     rw [hc]
     have hf := failing_plot [.cells (farmCells v)] (.func 60 [] [.ptr 0 0]) v.plots (plErr v) h.plots (fun τ => by try simp only [QS, QC, Nat.reduceLT, reduceIte, Nat.reduceEqDiff, Nat.reduceAdd, Nat.reduceLeDiff, Nat.reduceMul, Nat.reduceBEq, QXFFaP2]) fun i hi => chk2_ok v h i hi _
     try simp only [↓QA, QB, Nat.reduceLT, reduceIte, Nat.reduceEqDiff, Nat.reduceAdd, Nat.reduceLeDiff, Nat.reduceMul, Nat.reduceBEq, QXFFaP2] at hf
     (repeat (first | simp only [↓QA, QB, Nat.reduceLT, reduceIte, Nat.reduceEqDiff, Nat.reduceAdd, Nat.reduceLeDiff, Nat.reduceMul, Nat.reduceBEq, QXFFaP2, h6] | refine rd0 rfl ?_))
     refine callK_same hf ?_
     cases hb : firstBad (plErr v) v.plots 0 with
     | some p =>
      obtain ⟨i, e⟩ := p
      have he := firstBad_nz hb
      have hg : (e == 0) = false := by simpa using he
      (repeat (first | simp only [↓QA, QB, Nat.reduceLT, reduceIte, Nat.reduceEqDiff, Nat.reduceAdd, Nat.reduceLeDiff, Nat.reduceMul, Nat.reduceBEq, QXFFaP2, failF, hb, enc2, hg, enc3] | refine rd0 rfl ?_))
     | none =>
      (repeat (first | simp only [↓QA, QB, Nat.reduceLT, reduceIte, Nat.reduceEqDiff, Nat.reduceAdd, Nat.reduceLeDiff, Nat.reduceMul, Nat.reduceBEq, QXFFaP2, failF, hb, enc2] | refine rd0 rfl ?_))
      cases h7 : decide ((4 : Int) < (v.looks.length : Int))
      case' true =>
       have h7' : 4 < v.looks.length := by first | (have := of_decide_eq_false h7; omega) | (have := of_decide_eq_true h7; omega)
       (repeat (first | simp only [↓QA, QB, Nat.reduceLT, reduceIte, Nat.reduceEqDiff, Nat.reduceAdd, Nat.reduceLeDiff, Nat.reduceMul, Nat.reduceBEq, QXFFaP2, h7] | refine rd0 rfl ?_))
       simp [check4, h7', enc3]
      have h7' : ¬ 4 < v.looks.length := by first | (have := of_decide_eq_false h7; omega) | (have := of_decide_eq_true h7; omega)
      have hc : check4 v = match firstBad (lkErr v) v.looks 0 with | some (i, e) => (4, (i : Int), e) | none => (0, 0, 0) := by simp only [check4, h7', if_false]; try rfl
      rw [hc]
      have hf := failing_look [.cells (farmCells v)] (.func 65 [] [.ptr 0 0]) v.looks (lkErr v) h.looks (fun τ => by try simp only [QS, QC, Nat.reduceLT, reduceIte, Nat.reduceEqDiff, Nat.reduceAdd, Nat.reduceLeDiff, Nat.reduceMul, Nat.reduceBEq, QXFFaP2]) fun i hi => chk3_ok v h i _
      try simp only [↓QA, QB, Nat.reduceLT, reduceIte, Nat.reduceEqDiff, Nat.reduceAdd, Nat.reduceLeDiff, Nat.reduceMul, Nat.reduceBEq, QXFFaP2] at hf
      (repeat (first | simp only [↓QA, QB, Nat.reduceLT, reduceIte, Nat.reduceEqDiff, Nat.reduceAdd, Nat.reduceLeDiff, Nat.reduceMul, Nat.reduceBEq, QXFFaP2, h7] | refine rd0 rfl ?_))
      refine callK_same hf ?_
      cases hb : firstBad (lkErr v) v.looks 0 with
      | some p =>
       obtain ⟨i, e⟩ := p
       have he := firstBad_nz hb
       have hg : (e == 0) = false := by simpa using he
       (repeat (first | simp only [↓QA, QB, Nat.reduceLT, reduceIte, Nat.reduceEqDiff, Nat.reduceAdd, Nat.reduceLeDiff, Nat.reduceMul, Nat.reduceBEq, QXFFaP2, failF, hb, enc2, hg, enc3] | refine rd0 rfl ?_))
      | none =>
       (repeat (first | simp only [↓QA, QB, Nat.reduceLT, reduceIte, Nat.reduceEqDiff, Nat.reduceAdd, Nat.reduceLeDiff, Nat.reduceMul, Nat.reduceBEq, QXFFaP2, failF, hb, enc2, enc3] | refine rd0 rfl ?_))
   ·have h2' : inR v.full 0 30 = false ∨ inR v.ripe 0 30 = false := by
     cases a : inR v.full 0 30
     ·exact .inl rfl
     ·cases b : inR v.ripe 0 30
      ·exact .inr rfl
      ·rw [a, b] at h2; simp at h2
    have : inR v.full 0 30 = false ∨ inR v.ripe 0 30 = false ∨ ends v.way 0 9 = 7 := by
     rcases h2' with h | h
     ·exact .inl h
     ·exact .inr (.inl h)
    (repeat (first | simp only [↓QA, QB, Nat.reduceLT, reduceIte, Nat.reduceEqDiff, Nat.reduceAdd, Nat.reduceLeDiff, Nat.reduceMul, Nat.reduceBEq, QXFFaP2] | refine rd0 rfl ?_))
    simp [check2, this, enc3]
theorem numbers_ok (s n : Nat) (hs : s < 9223372036854775808) (hn : n ≤ 60) : Pure T 78 [.int .i64 s, .int .i64 n] (ints (lst n s)) := by
 refine pure_fn (af := a78) rfl (by simp [a78]) dd ?_
 (repeat (first | simp only [↓QA, QB, Nat.reduceLT, reduceIte, Nat.reduceEqDiff, Nat.reduceAdd, Nat.reduceLeDiff, Nat.reduceMul, Nat.reduceBEq, QXFFaP2, a78] | refine rd0 rfl ?_))
 obtain ⟨R, hRR⟩ : ∃ R, lst n s = R := ⟨_, rfl⟩
 have hRR' : [] ++ (numbers ((0 : Nat) : Int) (n - 0)).filter (fun i => decide (s / 2 ^ i.toNat % 2 = 1)) = R := hRR
 rw [hRR]
 refine ghostK 4 1 [] rfl ?_
 refine loopE (S := Nat × List Int × Bool) (0, [], false) (fun x => x.1 ≤ n ∧ x.2.1.length ≤ x.1 ∧ x.2.1 ++ (numbers (x.1 : Int) (n - x.1)).filter (fun i => decide (s / 2 ^ i.toNat % 2 = 1)) = R) (fun x => n - x.1)
  (fun x => [(0, .int .i64 s), (4, .lit (x.2.1.map (.int .i64)) false (some 0)), (6, .int .i64 n), (7, .int .i64 x.1)]) (fun x => [.tok 1 x.2.1.length x.2.2]) ⟨by simp, by simp, hRR'⟩ rfl ?_ fun x hx => ?_
 ·try simp only [TrimX, QE, Nat.reduceLT, reduceIte, Nat.reduceEqDiff, Nat.reduceAdd, Nat.reduceLeDiff, Nat.reduceMul, Nat.reduceBEq, QXFFaP2]
  try simp
 ·obtain ⟨k, acc, ex⟩ := x
  obtain ⟨hk, hal, hacc⟩ := hx
  simp only at hk hal hacc
  (repeat (first | simp only [↓QA, QB, Nat.reduceLT, reduceIte, Nat.reduceEqDiff, Nat.reduceAdd, Nat.reduceLeDiff, Nat.reduceMul, Nat.reduceBEq, QXFFaP2, L78_0] | refine rd0 rfl ?_))
  refine iteP_intro (fun h => ?_) fun h => ?_
  ·have hk1 : k < n := by simpa using h
   have hw := wrapN hk1 (by omega)
   rw [show n - k = (n - (k + 1)) + 1 by omega] at hacc
   simp only [numbers, List.filter_cons, Int.toNat_natCast] at hacc
   rw [show ((k : Int) + 1) = ((k + 1 : Nat) : Int) by omega] at hacc
   have vs := V_shr s k (by omega)
   have va := V_and1 (s / 2 ^ k) (Nat.lt_of_le_of_lt (Nat.div_le_self _ _) hs)
   have hbit : (((s / 2 ^ k % 2 : Nat) : Int) == 1) = decide (s / 2 ^ k % 2 = 1) := by
    generalize s / 2 ^ k % 2 = q
    rw [Bool.eq_iff_iff, beq_iff_eq, decide_eq_true_eq]; omega
   (repeat (first | simp only [↓QA, QB, Nat.reduceLT, reduceIte, Nat.reduceEqDiff, Nat.reduceAdd, Nat.reduceLeDiff, Nat.reduceMul, Nat.reduceBEq, QXFFaP2, vs, va, hbit] | refine rd0 rfl ?_))
   cases hb : decide (s / 2 ^ k % 2 = 1)
   ·simp only [hb, Bool.false_eq_true, if_false] at hacc
    (repeat (first | simp only [↓QA, QB, Nat.reduceLT, reduceIte, Nat.reduceEqDiff, Nat.reduceAdd, Nat.reduceLeDiff, Nat.reduceMul, Nat.reduceBEq, QXFFaP2, hw] | refine rd0 rfl ?_))
    refine ⟨(k + 1, acc, ex), ⟨by simp only; omega, by simp only; omega, by simpa using hacc⟩, by simp only; omega, ?_⟩
    try simp only [TrimX, QE, Nat.reduceLT, reduceIte, Nat.reduceEqDiff, Nat.reduceAdd, Nat.reduceLeDiff, Nat.reduceMul, Nat.reduceBEq, QXFFaP2, hw, S_mapI]
    try simp [okBlk]
   ·simp only [hb, if_true] at hacc
    have hap := fun (τ : St) => append_intT (σ := .tok 1 acc.length ex :: τ) (l := acc) (a := (k : Int)) (ex := ex) (t := 0) (by omega) rfl
    (repeat (first | simp only [↓QA, QB, Nat.reduceLT, reduceIte, Nat.reduceEqDiff, Nat.reduceAdd, Nat.reduceLeDiff, Nat.reduceMul, Nat.reduceBEq, QXFFaP2, hw, hap] | refine rd0 rfl ?_))
    refine ⟨(k + 1, acc ++ [(k : Int)], true), ⟨by simp only; omega, by simp only [List.length_append, List.length_cons, List.length_nil]; omega, by
     rw [← hacc]; simp⟩, by simp only; omega, ?_⟩
    try simp only [TrimX, QE, Nat.reduceLT, reduceIte, Nat.reduceEqDiff, Nat.reduceAdd, Nat.reduceLeDiff, Nat.reduceMul, Nat.reduceBEq, QXFFaP2, hw, S_mapI, List.map_append, List.map_cons, List.map_nil]
    try simp [okBlk]
  ·have hk1 : k = n := by simp at h; omega
   rw [hk1] at hacc
   simp only [Nat.sub_self, numbers, List.filter_nil, List.append_nil] at hacc
   (repeat (first | simp only [↓QA, QB, Nat.reduceLT, reduceIte, Nat.reduceEqDiff, Nat.reduceAdd, Nat.reduceLeDiff, Nat.reduceMul, Nat.reduceBEq, QXFFaP2, hacc, ints] | refine rd0 rfl ?_))
def toldB (must never : Bool) : Int := if must then 1 else if never then 2 else 0
theorem told_ok (must never : Bool) : Pure T 106 [.bool must, .bool never] (.int .i64 (toldB must never)) := by
 refine pure_fn (af := a106) rfl (by simp [a106]) dd ?_
 cases must
 ·cases never
  all_goals (repeat (first | simp only [↓QA, QB, Nat.reduceLT, reduceIte, Nat.reduceEqDiff, Nat.reduceAdd, Nat.reduceLeDiff, Nat.reduceMul, Nat.reduceBEq, QXFFaP2, a106, toldB, Bool.false_eq_true] | refine rd0 rfl ?_))
 ·(repeat (first | simp only [↓QA, QB, Nat.reduceLT, reduceIte, Nat.reduceEqDiff, Nat.reduceAdd, Nat.reduceLeDiff, Nat.reduceMul, Nat.reduceBEq, QXFFaP2, a106, toldB] | refine rd0 rfl ?_))
theorem fine_ok : Pure T 77 [] (.int .i64 0) := by
 refine pure_fn (af := a77) rfl (by simp [a77]) datas_nil ?_
 (repeat (first | simp only [↓QA, QB, Nat.reduceLT, reduceIte, Nat.reduceEqDiff, Nat.reduceAdd, Nat.reduceLeDiff, Nat.reduceMul, Nat.reduceBEq, QXFFaP2, a77] | refine rd0 rfl ?_))
end Go.Am.Room
set_option maxRecDepth 4000
namespace Go.Am.Room
def QXFFaP3 := And.intro @encFarm_eq (And.intro @farmCells_eq (And.intro @encPlot_eq (And.intro @encLook_eq (And.intro @encSpan_eq (And.intro @S_mapPlot (And.intro @S_mapLook (And.intro @S_mapSpan (And.intro @T_sapp (And.intro @T_sapp0 (And.intro @List.length_append.{0} (And.intro @arrA_len (And.intro @arrA_take (And.intro @arrA_drop (And.intro @S_arrA (And.intro @arrA_cell (And.intro @V_min2 (And.intro @Nat.mul_one (@Int.toNat_natCast))))))))))))))))))
theorem V_slc (n sz id off : Nat) (k k' : IntKind) (lo hi : Int) : vSlicea n sz (.ptr id off) (some (.int k lo)) (some (.int k' hi)) = if 0 ≤ lo ∧ lo ≤ hi ∧ hi ≤ n then some (.ref id (off + lo.toNat * sz) (hi.toNat - lo.toNat) sz) else none := by simp only [vSlicea, vBound, intOf]
theorem pts_min (r : Nat → Int) (a d : Nat) : pts r (min a d) d = pts r a d := by
 by_cases h : a ≤ d
 ·rw [Nat.min_eq_left h]
 ·rw [Nat.min_eq_right (by omega), pts_self, pts_lt r (by omega)]
theorem full_gen (x : AV) (r : Nat → Int) (a d : Nat) (hr : ∀ i, 0 ≤ r i ∧ r i ≤ 2) (hd : d ≤ 7) (σ : St) :
  wp T a97.body (argsEnv 0 [x, .agg (arrA 7 r), .int .i64 a, .int .i64 d]) σ (BaseK a97.results σ (.int .i64 (pts r a d))) := by
 rw [← pts_min]
 have hm : min (a : Int) (d : Int) = ((min a d : Nat) : Int) := by omega
 obtain ⟨A, hA⟩ : ∃ A, min a d = A := ⟨_, rfl⟩
 rw [hA] at hm ⊢
 have hAd : A ≤ d := by omega
 have c1 : (0 : Int) ≤ (A : Int) ∧ (A : Int) ≤ (d : Int) ∧ (d : Int) ≤ ((7 : Nat) : Int) := ⟨by omega, by omega, by omega⟩
 (repeat (first | simp only [↓QA, QB, Nat.reduceLT, reduceIte, Nat.reduceEqDiff, Nat.reduceAdd, Nat.reduceLeDiff, Nat.reduceMul, Nat.reduceBEq, QXFFaP3, V_slc, a97, hm, c1] | refine rd0 rfl ?_))
 refine loopE (S := Nat) 0 (fun k => k ≤ d - A) (fun k => d - A - k) (fun k => [(8, .int .i64 (pts r A (A + k))), (15, .ref σ.length (0 + A) (d - A) 1), (16, .int .i64 ((d - A : Nat) : Int)), (17, .int .i64 k)]) (fun _ => σ ++ [.cells (arrA 7 r)]) (Nat.zero_le _) (by simp) ?_ fun k hk => ?_
 ·try simp only [TrimX, QE, Nat.reduceLT, reduceIte, Nat.reduceEqDiff, Nat.reduceAdd, Nat.reduceLeDiff, Nat.reduceMul, Nat.reduceBEq, QXFFaP3, V_slc, Nat.add_zero, pts_self]
  try simp
 ·(repeat (first | simp only [↓QA, QB, Nat.reduceLT, reduceIte, Nat.reduceEqDiff, Nat.reduceAdd, Nat.reduceLeDiff, Nat.reduceMul, Nat.reduceBEq, QXFFaP3, V_slc, L97_0] | refine rd0 rfl ?_))
  refine iteP_intro (fun h => ?_) fun h => ?_
  ·have hk1 : k < d - A := by
    have h0 : (k : Int) < ((d - A : Nat) : Int) := by simpa using h
    omega
   have hw := wrapN hk1 (by omega)
   have hi7 : A + k < 7 := by omega
   have hget := arrA_get 7 r hi7
   have c2 : (0 : Int) ≤ (k : Int) ∧ (k : Int) < ((d - A : Nat) : Int) ∧ 1 = 1 := ⟨by omega, by omega, rfl⟩
   have hb := pts_bd hr A (A + k)
   have hs := pts_step r (show A ≤ A + k by omega)
   have hrk := hr (A + k)
   obtain ⟨P, hP⟩ : ∃ P, pts r A (A + k) = P := ⟨_, rfl⟩
   obtain ⟨R, hR⟩ : ∃ R, r (A + k) = R := ⟨_, rfl⟩
   rw [hP] at hb hs
   rw [hR] at hs hrk hget
   have w1 : IntKind.i64.wrap (1 + R) = 1 + R := wrap64 ⟨by omega, by omega⟩
   have w2 : IntKind.i64.wrap (P + (1 + R)) = P + (1 + R) := wrap64 ⟨by omega, by omega⟩
   rw [hP]
   (repeat (first | simp only [↓QA, QB, Nat.reduceLT, reduceIte, Nat.reduceEqDiff, Nat.reduceAdd, Nat.reduceLeDiff, Nat.reduceMul, Nat.reduceBEq, QXFFaP3, V_slc, c2, Nat.zero_add, hget, w1, w2, hw] | refine rd0 rfl ?_))
   refine ⟨k + 1, by omega, by omega, ?_⟩
   try simp only [TrimX, QE, Nat.reduceLT, reduceIte, Nat.reduceEqDiff, Nat.reduceAdd, Nat.reduceLeDiff, Nat.reduceMul, Nat.reduceBEq, QXFFaP3, V_slc, hw, show A + (k + 1) = A + k + 1 by omega, hs, Nat.zero_add, S_refK (Nat.lt_succ_self σ.length)]
   try simp [okBlk, arrA_ok]
  ·have hk1 : k = d - A := by
    have h0 : ¬ (k : Int) < ((d - A : Nat) : Int) := by simpa using h
    omega
   subst hk1
   rw [show A + (d - A) = d by omega]
   (repeat (first | simp only [↓QA, QB, Nat.reduceLT, reduceIte, Nat.reduceEqDiff, Nat.reduceAdd, Nat.reduceLeDiff, Nat.reduceMul, Nat.reduceBEq, QXFFaP3, V_slc] | refine rd0 rfl ?_))
   refine baseR [.cells (arrA 7 r)] (by first | rfl | simp) ?_
   try simp only [QS, QC, Nat.reduceLT, reduceIte, Nat.reduceEqDiff, Nat.reduceAdd, Nat.reduceLeDiff, Nat.reduceMul, Nat.reduceBEq, QXFFaP3, V_slc]
theorem full_same (x : AV) (r : Nat → Int) (a d : Nat) (hr : ∀ i, 0 ≤ r i ∧ r i ≤ 2) (hd : d ≤ 7) (σ : St) : Same T (.func 97 [] []) [x, .agg (arrA 7 r), .int .i64 a, .int .i64 d] σ (.int .i64 (pts r a d)) :=
 same_fn (af := a97) rfl (by simp [a97]) (full_gen x r a d hr hd σ)
theorem full_bound (x : AV) (r : Nat → Int) (a d : Nat) (hr : ∀ i, 0 ≤ r i ∧ r i ≤ 2) (hd : d ≤ 7) (σ : St) : Same T (.func 97 [x] []) [.agg (arrA 7 r), .int .i64 a, .int .i64 d] σ (.int .i64 (pts r a d)) :=
 same_fn (af := a97) rfl (by simp [a97]) (full_gen x r a d hr hd σ)
def setB (ds : List Int) : Nat := ds.foldl (fun s d => s ||| 2 ^ d.toNat) 0
theorem setB_app (ds : List Int) (d : Int) : setB (ds ++ [d]) = setB ds ||| 2 ^ d.toNat := by simp [setB]
theorem setB_bits : ∀ (ds : List Int) (s : Nat), (∀ d ∈ ds, 0 ≤ d) → ∀ i : Nat, (ds.foldl (fun s d => s ||| 2 ^ d.toNat) s).testBit i = (s.testBit i || ds.contains (i : Int))
 | [], s, _, i => by simp
 | d :: ds, s, h, i => by
  rw [List.foldl_cons, setB_bits ds _ (fun x hx => h x (by simp [hx])) i, Nat.testBit_or, Nat.testBit_two_pow, List.contains_cons, Bool.or_assoc]
  congr 2
  have := h d (by simp)
  rw [Bool.eq_iff_iff, decide_eq_true_eq, beq_iff_eq]
  omega
theorem setB_bit {ds : List Int} (h : ∀ d ∈ ds, 0 ≤ d) (i : Nat) : (setB ds).testBit i = ds.contains (i : Int) := by
 rw [setB, setB_bits ds 0 h i]; simp
theorem setB_lt {ds : List Int} {n : Nat} (h : ∀ d ∈ ds, 0 ≤ d ∧ d < n) : setB ds < 2 ^ n := by
 refine Nat.lt_pow_two_of_testBit _ fun i hi => ?_
 rw [setB_bit (fun d hd => (h d hd).1), Bool.eq_false_iff]
 intro hc
 rw [List.contains_iff_mem] at hc
 have := h _ hc
 omega
theorem setB_zero {ds : List Int} (h : ∀ d ∈ ds, 0 ≤ d) : setB ds = 0 ↔ ds = [] := by
 constructor
 ·intro h0
  cases ds with
  | nil => rfl
  | cons d ds =>
   exfalso
   have hd := h d (by simp)
   have h1 := setB_bit h d.toNat
   rw [h0, Nat.zero_testBit, show ((d.toNat : Nat) : Int) = d by omega] at h1
   simp at h1
 ·rintro rfl; rfl
theorem numbers_range : ∀ (n : Nat) (a lo : Int) (k : Nat), a ≤ lo → lo + k ≤ a + n → (numbers a n).filter (fun x => decide (lo ≤ x) && decide (x < lo + k)) = numbers lo k
 | 0, a, lo, k, h1, h2 => by
  have : k = 0 := by omega
  subst this
  rfl
 | n + 1, a, lo, k, h1, h2 => by
  simp only [numbers, List.filter_cons]
  by_cases h : a = lo
  ·subst h
   cases k with
   | zero =>
    have hz : (decide (a ≤ a) && decide (a < a + ((0 : Nat) : Int))) = false := by simp
    rw [hz]
    simp only [Bool.false_eq_true, if_false, numbers]
    rw [List.filter_eq_nil_iff]
    intro x hx
    have := (numbers_mem _ _ _).1 hx
    rw [Bool.and_eq_true, decide_eq_true_eq, decide_eq_true_eq]
    omega
   | succ k =>
    have hz : (decide (a ≤ a) && decide (a < a + ((k + 1 : Nat) : Int))) = true := by
     rw [Bool.and_eq_true, decide_eq_true_eq, decide_eq_true_eq]; omega
    rw [hz]
    simp only [if_true, numbers]
    congr 1
    rw [← numbers_range n (a + 1) (a + 1) k (Int.le_refl _) (by omega)]
    refine List.filter_congr fun x hx => ?_
    have := (numbers_mem _ _ _).1 hx
    rw [Bool.eq_iff_iff]
    simp
    omega
  ·have hz : (decide (lo ≤ a) && decide (a < lo + (k : Int))) = false := by simp; omega
   rw [hz]
   simp only [Bool.false_eq_true, if_false]
   exact numbers_range n (a + 1) lo k (by omega) (by omega)
theorem lst_setB {lo : Int} {k n : Nat} (ok : Int → Bool) (h0 : 0 ≤ lo) (h1 : lo + k ≤ n) : lst n (setB ((numbers lo k).filter ok)) = (numbers lo k).filter ok := by
 have hn : ∀ d ∈ (numbers lo k).filter ok, 0 ≤ d := fun d hd => by
  have := (numbers_mem _ _ _).1 (List.mem_filter.1 hd).1
  omega
 rw [lst]
 have e : (numbers 0 n).filter (fun i => decide (setB ((numbers lo k).filter ok) / 2 ^ i.toNat % 2 = 1)) = ((numbers 0 n).filter (fun x => decide (lo ≤ x) && decide (x < lo + k))).filter ok := by
  rw [List.filter_filter]
  refine List.filter_congr fun x hx => ?_
  have hx0 := (numbers_mem _ _ _).1 hx
  rw [← bit_div, setB_bit hn, show ((x.toNat : Nat) : Int) = x by omega, Bool.eq_iff_iff, List.contains_iff_mem, List.mem_filter, numbers_mem]
  simp
  constructor
  ·rintro ⟨⟨a, b⟩, c⟩; exact ⟨c, a, b⟩
  ·rintro ⟨c, a, b⟩; exact ⟨⟨a, b⟩, c⟩
 rw [e, numbers_range n 0 lo k h0 (by omega)]
theorem lst_flowers {v : Farm} (hv : Vd v) {p : Nat} (hp : p < v.plots.length) (rain but : List Int) : lst v.rain.length (setB (flowersOf v p rain but)) = flowersOf v p rain but := by
 have := (pl_ok hv hp).1
 rw [flowersOf, flower_at hp, waysIn]
 exact lst_setB _ this.1 (by omega)
def leafs : List Span → List Int → List (List Int)
 | [], l => [l]
 | s :: rs, l => (waysIn s).flatMap fun n => leafs rs (l ++ [n])
theorem leafs_to {rs : List Span} : ∀ k, k ≤ rs.length → (weatherTo rs k).flatMap (leafs (rs.drop k)) = leafs rs []
 | 0, _ => by simp [weatherTo]
 | k + 1, h => by
  have hk : k < rs.length := by omega
  rw [← leafs_to k (by omega), weatherTo_succ hk, List.flatMap_assoc]
  congr 1
  funext l
  rw [List.drop_eq_getElem_cons hk, leafs, ext, List.flatMap_map]
theorem flatMap_one {α : Type} : ∀ l : List α, (l.flatMap fun x => [x]) = l
 | [] => rfl
 | x :: l => by rw [List.flatMap_cons, flatMap_one l]; rfl
theorem leafs_weather (v : Farm) : leafs v.rain [] = weather v := by
 rw [← leafs_to v.rain.length (Nat.le_refl _), List.drop_length]
 exact flatMap_one _
theorem leafs_pre : ∀ (rs : List Span) (l c : List Int), c ∈ leafs rs l → ∃ t, c = l ++ t
 | [], l, c, h => by simp only [leafs, List.mem_singleton] at h; exact ⟨[], by simp [h]⟩
 | s :: rs, l, c, h => by
  simp only [leafs, List.mem_flatMap] at h
  obtain ⟨n, _, hc⟩ := h
  obtain ⟨t, rfl⟩ := leafs_pre rs _ c hc
  exact ⟨n :: t, by simp⟩
theorem numbers_lt : ∀ (n : Nat) (a : Int), (numbers a n).Pairwise (· ≠ ·)
 | 0, a => List.Pairwise.nil
 | n + 1, a => by
  simp only [numbers]
  refine List.Pairwise.cons (fun x hx => ?_) (numbers_lt n (a + 1))
  have := (numbers_mem _ _ _).1 hx
  omega
theorem leafs_ne : ∀ (rs : List Span) (l : List Int), (leafs rs l).Pairwise (· ≠ ·)
 | [], l => by simp [leafs]
 | s :: rs, l => by
  simp only [leafs]
  rw [List.pairwise_flatMap]
  refine ⟨fun n _ => leafs_ne rs _, List.Pairwise.imp ?_ (numbers_lt _ _)⟩
  intro n m hnm x hx y hy e
  obtain ⟨t, rfl⟩ := leafs_pre _ _ _ hx
  obtain ⟨u, hu⟩ := leafs_pre _ _ _ hy
  have e2 := e.trans hu
  rw [List.append_assoc, List.append_assoc] at e2
  have := List.append_cancel_left e2
  simp at this
  exact hnm this.1
def onceF {A X : Type} [DecidableEq A] (f : A → X → X × Bool) (a : A) (s : Option A × X) : (Option A × X) × Bool := if s.1 = some a then (s, true) else ((some a, (f a s.2).1), (f a s.2).2)
theorem iterF_once {A X : Type} [DecidableEq A] (f : A → X → X × Bool) : ∀ (l : List A) (o : Option A) (x : X), l.Pairwise (· ≠ ·) → (∀ a ∈ l, o ≠ some a) → (iterF (onceF f) l (o, x)).1.2 = (iterF f l x).1 ∧ (iterF (onceF f) l (o, x)).2 = (iterF f l x).2
 | [], o, x, _, _ => ⟨rfl, rfl⟩
 | a :: l, o, x, h, ho => by
  have h0 := ho a (by simp)
  obtain ⟨h1, h2⟩ := List.pairwise_cons.1 h
  have ih := iterF_once f l (some a) (f a x).1 h2 fun b hb e => h1 b hb (by simpa using e)
  simp only [iterF, onceF, h0, if_false]
  split
  ·exact ih
  ·exact ⟨rfl, rfl⟩
end Go.Am.Room
set_option maxRecDepth 4000
namespace Go.Am.Room
def QXFFaP4 := And.intro @encFarm_eq (And.intro @farmCells_eq (And.intro @encPlot_eq (And.intro @encLook_eq (And.intro @encSpan_eq (And.intro @S_mapPlot (And.intro @S_mapLook (And.intro @S_mapSpan (And.intro @T_sapp (And.intro @T_sapp0 (And.intro @List.length_append.{0} (And.intro @arrA_len (And.intro @arrA_take (And.intro @arrA_drop (And.intro @S_arrA (And.intro @arrA_cell (And.intro @V_min2 (And.intro @Nat.mul_one (@Int.toNat_natCast))))))))))))))))))
def db (v : Farm) (b m : Nat) : List AV := farmCells v ++ [.int .i64 b, .map m]
theorem db_0 (v : Farm) (b m : Nat) : (db v b m)[0]? = some (.lit (v.rain.map encSpan) false none) := by simp [db, farmCells]
theorem db_1 (v : Farm) (b m : Nat) : (db v b m)[1]? = some (.int .i64 v.full) := by simp [db, farmCells]
theorem db_2 (v : Farm) (b m : Nat) : (db v b m)[2]? = some (.int .i64 v.ripe) := by simp [db, farmCells]
theorem db_3 (v : Farm) (b m : Nat) : (db v b m)[3]? = some (.int .i64 v.way.lo) := by simp [db, farmCells]
theorem db_4 (v : Farm) (b m : Nat) : (db v b m)[4]? = some (.int .i64 v.way.hi) := by simp [db, farmCells]
theorem db_5 (v : Farm) (b m : Nat) : (db v b m)[5]? = some (.lit (v.plots.map encPlot) false none) := by simp [db, farmCells]
theorem db_6 (v : Farm) (b m : Nat) : (db v b m)[6]? = some (.lit (v.looks.map encLook) false none) := by simp [db, farmCells]
theorem db_7 (v : Farm) (b m : Nat) : (db v b m)[7]? = some (.int .i64 b) := by simp [db, farmCells]
theorem db_8 (v : Farm) (b m : Nat) : (db v b m)[8]? = some (.map m) := by simp [db, farmCells]
theorem db_ok (v : Farm) (b : Nat) {m k : Nat} (h : m < k) : okVs k (db v b m) := by
 have := okVs_up (m := k) _ (data_farm v).1
 refine okVs_app this ?_
 simp [okVs, okV, h]
def flArr (v : Farm) (c bl : List Int) (k : Nat) (q : Nat) : Int := if q < k then (setB (flowersOf v q c bl) : Int) else 0
def flGo (v : Farm) (c bl : List Int) : Nat → Nat → Nat × Bool
 | 0, p => (p, true)
 | n + 1, p => if (flowersOf v p c bl).isEmpty then (p, false) else flGo v c bl n (p + 1)
theorem flGo_all (v : Farm) (c bl : List Int) : ∀ n p, (flGo v c bl n p).2 = ((List.range n).all fun i => !(flowersOf v (p + i) c bl).isEmpty) ∧ ((flGo v c bl n p).2 = true → (flGo v c bl n p).1 = p + n)
 | 0, p => ⟨rfl, fun _ => rfl⟩
 | n + 1, p => by
  obtain ⟨h1, h2⟩ := flGo_all v c bl n (p + 1)
  have hr : (List.range (n + 1)).all (fun i => !(flowersOf v (p + i) c bl).isEmpty) = (!(flowersOf v p c bl).isEmpty && (List.range n).all fun i => !(flowersOf v (p + 1 + i) c bl).isEmpty) := by
   rw [List.range_succ_eq_map, List.all_cons, List.all_map]
   have e : ((fun i => !(flowersOf v (p + i) c bl).isEmpty) ∘ Nat.succ) = fun i => !(flowersOf v (p + 1 + i) c bl).isEmpty := by
    funext i
    simp only [Function.comp, show p + Nat.succ i = p + 1 + i by omega]
   rw [e]
   rfl
  simp only [flGo]
  split
  ·rename_i h
   rw [hr, h]
   exact ⟨rfl, fun h => by cases h⟩
  ·rename_i h
   rw [hr, Bool.not_eq_true] at *
   rw [h, h1]
   refine ⟨rfl, fun h => ?_⟩
   rw [h2 (by rw [h1]; exact h)]
   omega
theorem flArr_next {v : Farm} {c bl : List Int} {k : Nat} : updF (flArr v c bl k) k (setB (flowersOf v k c bl)) = flArr v c bl (k + 1) := by
 funext i
 simp only [updF, flArr]
 by_cases h : i = k
 ·subst h; simp
 ·simp only [h, if_false]
  by_cases h2 : i < k
  ·rw [if_pos h2, if_pos (by omega)]
  ·rw [if_neg h2, if_neg (by omega)]
theorem flArr_same {v : Farm} {c bl : List Int} {k : Nat} : updF (flArr v c bl k) k 0 = flArr v c bl k := by
 funext i
 simp only [updF]
 by_cases h : i = k
 ·subst h; simp [flArr]
 ·simp only [h, if_false]
theorem updF_updF (f : Nat → Int) (k : Nat) (a b : Int) : updF (updF f k a) k b = updF f k b := by
 funext i
 simp only [updF]
 split <;> rfl
theorem flUp_false {v : Farm} {p : Int} {c bl : List Int} {d : Int} {k : Nat} (hk : k < v.looks.length) (h : lookOk p bl c d k v.looks[k] = false) : flowerOk v p c bl d = false := by
 simp only [flowerOk]
 rw [Bool.eq_false_iff]
 intro ha
 have := List.all_eq_true.1 ha k (by simpa using hk)
 rw [List.getElem?_eq_getElem hk] at this
 simp only at this
 rw [h] at this
 cases this
theorem flowers_same (v : Farm) (hv : Vd v) (b m p : Nat) (bl c : List Int) (hb : ButIs b bl) (hc : RainOk v c) (σ : St) (hp : cellsAt σ p = some (db v b m)) :
  Same T (.func 102 [] []) [.ptr p 0, .agg (arrA 7 (rl c))] σ (.tuple [.agg (arrA 4 (flArr v c bl (flGo v c bl v.plots.length 0).1)), .bool (flGo v c bl v.plots.length 0).2]) := by
 refine same_fn (af := a102) rfl (by simp [a102]) ?_
 have hno := hv.npl
 have hnr := hv.nra
 have hnl := hv.nlk
 have hpl := cells_lt hp
 have h0 := fun τ => cells_app hp τ
 have hbd := rain_bd hv hc
 have hp2 : p < σ.length + 2 := by omega
 have hp3 : p < σ.length + 3 := by omega
 obtain ⟨R, hR⟩ : ∃ R, flGo v c bl v.plots.length 0 = R := ⟨_, rfl⟩
 rw [hR]
 have hz : [AV.int .i64 0, .int .i64 0, .int .i64 0, .int .i64 0] = arrA 4 (flArr v c bl 0) := by simp [arrA, flArr, List.range_succ]
 obtain ⟨N, hN⟩ : ∃ N, σ.length = N := ⟨_, rfl⟩
 (repeat (first | simp only [↓QA, QB, Nat.reduceLT, reduceIte, Nat.reduceEqDiff, Nat.reduceAdd, Nat.reduceLeDiff, Nat.reduceMul, Nat.reduceBEq, QXFFaP4, db_0, db_1, db_2, db_3, db_4, db_5, db_6, db_7, db_8, a102, h0, hz] | refine rd0 rfl ?_))
 refine loopE (S := Nat) 0 (fun k => k ≤ v.plots.length ∧ flGo v c bl (v.plots.length - k) k = R) (fun k => v.plots.length - k)
  (fun k => [(0, .ptr p 0), (3, .ptr σ.length 0), (4, .ptr (σ.length + 1) 0), (6, .func 97 [.ptr p 0] []), (19, .lit (v.plots.map encPlot) false none), (20, .int .i64 v.plots.length), (21, .int .i64 k)])
  (fun k => σ ++ [.cells (arrA 7 (rl c)), .cells (arrA 4 (flArr v c bl k))]) ⟨Nat.zero_le _, by simpa using hR⟩ (by simp) ?_ fun k hk => ?_
 ·try simp only [TrimX, QE, Nat.reduceLT, reduceIte, Nat.reduceEqDiff, Nat.reduceAdd, Nat.reduceLeDiff, Nat.reduceMul, Nat.reduceBEq, QXFFaP4, db_0, db_1, db_2, db_3, db_4, db_5, db_6, db_7, db_8, hp2, hp3]
  try simp
 ·obtain ⟨hk, hq⟩ := hk
  (repeat (first | simp only [↓QA, QB, Nat.reduceLT, reduceIte, Nat.reduceEqDiff, Nat.reduceAdd, Nat.reduceLeDiff, Nat.reduceMul, Nat.reduceBEq, QXFFaP4, db_0, db_1, db_2, db_3, db_4, db_5, db_6, db_7, db_8, L102_0] | refine rd0 rfl ?_))
  refine iteP_intro (fun hd => ?_) fun hd => ?_
  ·have hk1 : k < v.plots.length := by simpa using hd
   have hw := wrapN hk1 (by omega)
   have hplk := (pl_ok hv hk1).1
   have hfb := flowers_bd hv hk1 c bl
   have hfe : flowersOf v k c bl = (numbers v.plots[k].flower.lo (v.plots[k].flower.hi + 1 - v.plots[k].flower.lo).toNat).filter (flowerOk v k c bl) := by rw [flowersOf, flower_at hk1]; rfl
   rw [show v.plots.length - k = (v.plots.length - (k + 1)) + 1 by omega] at hq
   simp only [flGo] at hq
   obtain ⟨y, hy⟩ : ∃ y, v.plots[k] = y := ⟨_, rfl⟩
   rw [hy] at hplk hfe
   obtain ⟨F, hF⟩ : ∃ F, flowersOf v k c bl = F := ⟨_, rfl⟩
   have hnx := @flArr_next v c bl k
   rw [hF] at hq hfe hfb hnx
   obtain ⟨L, hL⟩ : ∃ L : Nat, y.flower.lo = (L : Int) := ⟨y.flower.lo.toNat, by omega⟩
   obtain ⟨H, hH⟩ : ∃ H : Nat, y.flower.hi = (H : Int) := ⟨y.flower.hi.toNat, by omega⟩
   rw [hL, hH] at hfe hplk
   have i4 : (0 : Int) ≤ (k : Int) ∧ (k : Int) < ((4 : Nat) : Int) := ⟨by omega, by omega⟩
   have c4 : k + 1 ≤ 4 := by omega
   have hk4 : k < 4 := by omega
   (repeat (first | simp only [↓QA, QB, Nat.reduceLT, reduceIte, Nat.reduceEqDiff, Nat.reduceAdd, Nat.reduceLeDiff, Nat.reduceMul, Nat.reduceBEq, QXFFaP4, db_0, db_1, db_2, db_3, db_4, db_5, db_6, db_7, db_8, hk1, hy] | refine rd0 rfl ?_))
   refine loopE (S := Nat × List Int) (L, []) (fun a => L ≤ a.1 ∧ a.1 ≤ H + 1 ∧ a.2 ++ (numbers (a.1 : Int) ((H : Int) + 1 - a.1).toNat).filter (flowerOk v k c bl) = F) (fun a => H + 1 - a.1)
    (fun a => [(0, .ptr p 0), (3, .ptr σ.length 0), (4, .ptr (σ.length + 1) 0), (6, .func 97 [.ptr p 0] []), (7, .int .i64 k), (8, .ptr (σ.length + 2) 0), (9, .int .i64 a.1), (19, .lit (v.plots.map encPlot) false none), (20, .int .i64 v.plots.length), (21, .int .i64 k)])
    (fun a => σ ++ [.cells (arrA 7 (rl c)), .cells (arrA 4 (updF (flArr v c bl k) k (setB a.2))), .cells [.str y.name, .int .i64 y.flower.lo, .int .i64 y.flower.hi, .int .i64 y.hands]]) ⟨Nat.le_refl _, by simp only; omega, by rw [hfe]; rfl⟩ ?_ ?_ fun a ha => ?_
   ·have : (setB [] : Int) = 0 := rfl
    simp only [this, flArr_same]
   ·try simp only [TrimX, QE, Nat.reduceLT, reduceIte, Nat.reduceEqDiff, Nat.reduceAdd, Nat.reduceLeDiff, Nat.reduceMul, Nat.reduceBEq, QXFFaP4, db_0, db_1, db_2, db_3, db_4, db_5, db_6, db_7, db_8, hp2, hp3, hL]
    try simp
   ·obtain ⟨d, acc⟩ := a
    obtain ⟨hd0, hd1, hacc⟩ := ha
    simp only at hd0 hd1 hacc
    have hadF : ∀ x ∈ acc, 0 ≤ x ∧ x < v.rain.length := fun x hx => hfb.2 x (by rw [← hacc]; simp [hx])
    (repeat (first | simp only [↓QA, QB, Nat.reduceLT, reduceIte, Nat.reduceEqDiff, Nat.reduceAdd, Nat.reduceLeDiff, Nat.reduceMul, Nat.reduceBEq, QXFFaP4, db_0, db_1, db_2, db_3, db_4, db_5, db_6, db_7, db_8, L102_2] | refine rd0 rfl ?_))
    refine iteP_intro (fun h => ?_) fun h => ?_
    ·have hd2 : d ≤ H := by
      have h0 : (d : Int) ≤ y.flower.hi := by simpa using h
      omega
     have hwd := wrapN (show d < H + 1 by omega) (by omega)
     rw [ways_step (show (d : Int) ≤ (H : Int) by omega), List.filter_cons, show (d : Int) + 1 = ((d + 1 : Nat) : Int) by omega] at hacc
     (repeat (first | simp only [↓QA, QB, Nat.reduceLT, reduceIte, Nat.reduceEqDiff, Nat.reduceAdd, Nat.reduceLeDiff, Nat.reduceMul, Nat.reduceBEq, QXFFaP4, db_0, db_1, db_2, db_3, db_4, db_5, db_6, db_7, db_8, h0] | refine rd0 rfl ?_))
     refine loopE (S := Nat) 0 (fun i => i ≤ v.looks.length ∧ flowerUpTo v k c bl d i = true) (fun i => v.looks.length - i)
      (fun i => [(0, .ptr p 0), (3, .ptr σ.length 0), (4, .ptr (σ.length + 1) 0), (6, .func 97 [.ptr p 0] []), (7, .int .i64 k), (8, .ptr (σ.length + 2) 0), (9, .int .i64 d), (19, .lit (v.plots.map encPlot) false none), (20, .int .i64 v.plots.length), (21, .int .i64 k), (40, .lit (v.looks.map encLook) false none), (41, .int .i64 v.looks.length), (42, .int .i64 i)])
      (fun i => σ ++ [.cells (arrA 7 (rl c)), .cells (arrA 4 (updF (flArr v c bl k) k (setB acc))), .cells [.str y.name, .int .i64 y.flower.lo, .int .i64 y.flower.hi, .int .i64 y.hands]]) ⟨Nat.zero_le _, rfl⟩ (by simp) ?_ fun i hi => ?_
     ·try simp only [TrimX, QE, Nat.reduceLT, reduceIte, Nat.reduceEqDiff, Nat.reduceAdd, Nat.reduceLeDiff, Nat.reduceMul, Nat.reduceBEq, QXFFaP4, db_0, db_1, db_2, db_3, db_4, db_5, db_6, db_7, db_8, hp2, hp3]
      try simp
     ·obtain ⟨hi, hup⟩ := hi
      (repeat (first | simp only [↓QA, QB, Nat.reduceLT, reduceIte, Nat.reduceEqDiff, Nat.reduceAdd, Nat.reduceLeDiff, Nat.reduceMul, Nat.reduceBEq, QXFFaP4, db_0, db_1, db_2, db_3, db_4, db_5, db_6, db_7, db_8, L102_4] | refine rd0 rfl ?_))
      refine iteP_intro (fun h2 => ?_) fun h2 => ?_
      ·have hi1 : i < v.looks.length := by simpa using h2
       have hwi := wrapN hi1 (by omega)
       have hsu := flowerUpTo_succ hi1 k c bl d
       have hfa := @flUp_false v k c bl d i hi1
       have hlx := hv.lk _ (List.getElem_mem hi1)
       rw [hup, Bool.true_and] at hsu
       obtain ⟨x, hx⟩ : ∃ x, v.looks[i] = x := ⟨_, rfl⟩
       rw [hx] at hsu hlx hfa
       have hlo : lookOk k bl c d i x = (!(x.plot == (k : Int)) || bl.contains (i : Int) || ptsL c d x.day == x.points) := by
        simp only [lookOk]
        congr 3
       obtain ⟨D, hD⟩ : ∃ D : Nat, x.day = (D : Int) := ⟨x.day.toNat, by omega⟩
       have hpe : ptsL c d x.day = pts (rl c) d D := by rw [ptsL, hD, Int.toNat_natCast, Int.toNat_natCast]
       rw [hpe] at hlo
       have hfu := fun τ => full_bound (.ptr p 0) (rl c) d D hbd (by omega) τ
       obtain ⟨Z, hZ⟩ : ∃ Z, pts (rl c) d D = Z := ⟨_, rfl⟩
       rw [hZ] at hlo
       simp only [hZ] at hfu
       have vs := V_shr b i (by omega)
       have va := V_and1 (b / 2 ^ i) (Nat.lt_of_le_of_lt (Nat.div_le_self _ _) hb.lt)
       have hbi := hb.bit i (by omega)
       (repeat (first | simp only [↓QA, QB, Nat.reduceLT, reduceIte, Nat.reduceEqDiff, Nat.reduceAdd, Nat.reduceLeDiff, Nat.reduceMul, Nat.reduceBEq, QXFFaP4, db_0, db_1, db_2, db_3, db_4, db_5, db_6, db_7, db_8, hi1, hx] | refine rd0 rfl ?_))
       refine rK_dreg1 [.cells [.int .i64 0, .int .i64 0, .int .i64 0]] rfl ?_
       (repeat (first | simp only [↓QA, QB, Nat.reduceLT, reduceIte, Nat.reduceEqDiff, Nat.reduceAdd, Nat.reduceLeDiff, Nat.reduceMul, Nat.reduceBEq, QXFFaP4, db_0, db_1, db_2, db_3, db_4, db_5, db_6, db_7, db_8, hD] | refine rd0 rfl ?_))
       refine callD_same (hfu _) ?_
       (repeat (first | simp only [↓QA, QB, Nat.reduceLT, reduceIte, Nat.reduceEqDiff, Nat.reduceAdd, Nat.reduceLeDiff, Nat.reduceMul, Nat.reduceBEq, QXFFaP4, db_0, db_1, db_2, db_3, db_4, db_5, db_6, db_7, db_8, hD] | refine rd0 rfl ?_))
       cases hl : (x.plot == (k : Int))
       ·have hlk : lookOk k bl c d i x = true := by rw [hlo, hl]; rfl
        rw [hlk] at hsu
        (repeat (first | simp only [↓QA, QB, Nat.reduceLT, reduceIte, Nat.reduceEqDiff, Nat.reduceAdd, Nat.reduceLeDiff, Nat.reduceMul, Nat.reduceBEq, QXFFaP4, db_0, db_1, db_2, db_3, db_4, db_5, db_6, db_7, db_8, hl, hwi] | refine rd0 rfl ?_))
        refine ⟨i + 1, ⟨by omega, hsu⟩, by omega, ?_⟩
        try simp only [TrimX, QE, Nat.reduceLT, reduceIte, Nat.reduceEqDiff, Nat.reduceAdd, Nat.reduceLeDiff, Nat.reduceMul, Nat.reduceBEq, QXFFaP4, db_0, db_1, db_2, db_3, db_4, db_5, db_6, db_7, db_8, hp2, hp3, hwi]
        try simp [okBlk, okVs, okV]
       ·cases hbc : bl.contains (i : Int)
        ·rw [hbc, Bool.not_false] at hbi
         rw [hl, hbc] at hlo
         simp only [Bool.not_true, Bool.false_or] at hlo
         have hxz : (x.points == Z) = (Z == x.points) := by rw [Bool.eq_iff_iff, beq_iff_eq, beq_iff_eq]; exact eq_comm
         (repeat (first | simp only [↓QA, QB, Nat.reduceLT, reduceIte, Nat.reduceEqDiff, Nat.reduceAdd, Nat.reduceLeDiff, Nat.reduceMul, Nat.reduceBEq, QXFFaP4, db_0, db_1, db_2, db_3, db_4, db_5, db_6, db_7, db_8, hl, h0, vs, va, hbi, hxz] | refine rd0 rfl ?_))
         cases hzx : (Z == x.points)
         ·rw [hzx] at hlo
          rw [hfa hlo] at hacc
          simp only [Bool.false_eq_true, if_false] at hacc
          (repeat (first | simp only [↓QA, QB, Nat.reduceLT, reduceIte, Nat.reduceEqDiff, Nat.reduceAdd, Nat.reduceLeDiff, Nat.reduceMul, Nat.reduceBEq, QXFFaP4, db_0, db_1, db_2, db_3, db_4, db_5, db_6, db_7, db_8, hwd] | refine rd0 rfl ?_))
          refine ⟨(d + 1, acc), ⟨by simp only; omega, by simp only; omega, hacc⟩, by simp only; omega, ?_⟩
          try simp only [TrimX, QE, Nat.reduceLT, reduceIte, Nat.reduceEqDiff, Nat.reduceAdd, Nat.reduceLeDiff, Nat.reduceMul, Nat.reduceBEq, QXFFaP4, db_0, db_1, db_2, db_3, db_4, db_5, db_6, db_7, db_8, hp2, hp3, hwd]
          try simp [okBlk, okVs, okV]
         ·rw [hzx] at hlo
          rw [hlo] at hsu
          (repeat (first | simp only [↓QA, QB, Nat.reduceLT, reduceIte, Nat.reduceEqDiff, Nat.reduceAdd, Nat.reduceLeDiff, Nat.reduceMul, Nat.reduceBEq, QXFFaP4, db_0, db_1, db_2, db_3, db_4, db_5, db_6, db_7, db_8, hwi] | refine rd0 rfl ?_))
          refine ⟨i + 1, ⟨by omega, hsu⟩, by omega, ?_⟩
          try simp only [TrimX, QE, Nat.reduceLT, reduceIte, Nat.reduceEqDiff, Nat.reduceAdd, Nat.reduceLeDiff, Nat.reduceMul, Nat.reduceBEq, QXFFaP4, db_0, db_1, db_2, db_3, db_4, db_5, db_6, db_7, db_8, hp2, hp3, hwi]
          try simp [okBlk, okVs, okV]
        ·rw [hbc, Bool.not_true] at hbi
         have hlk : lookOk k bl c d i x = true := by rw [hlo, hl, hbc]; rfl
         rw [hlk] at hsu
         (repeat (first | simp only [↓QA, QB, Nat.reduceLT, reduceIte, Nat.reduceEqDiff, Nat.reduceAdd, Nat.reduceLeDiff, Nat.reduceMul, Nat.reduceBEq, QXFFaP4, db_0, db_1, db_2, db_3, db_4, db_5, db_6, db_7, db_8, hl, h0, vs, va, hbi, hwi] | refine rd0 rfl ?_))
         refine ⟨i + 1, ⟨by omega, hsu⟩, by omega, ?_⟩
         try simp only [TrimX, QE, Nat.reduceLT, reduceIte, Nat.reduceEqDiff, Nat.reduceAdd, Nat.reduceLeDiff, Nat.reduceMul, Nat.reduceBEq, QXFFaP4, db_0, db_1, db_2, db_3, db_4, db_5, db_6, db_7, db_8, hp2, hp3, hwi]
         try simp [okBlk, okVs, okV]
      ·have hi1 : i = v.looks.length := by simp at h2; omega
       rw [hi1] at hup
       have hok : flowerOk v k c bl d = true := hup
       rw [hok] at hacc
       simp only [if_true] at hacc
       have hsl : setB acc < 2 ^ 7 := setB_lt fun x hx => by have := hadF x hx; omega
       have h2d : 2 ^ d ≤ 2 ^ 7 := Nat.pow_le_pow_right (by omega) (by omega)
       have vsh := V_shl1 d (by omega)
       have vor := V_or (setB acc) (2 ^ d) (by omega) (by omega)
       have hge := arrA_get 4 (updF (flArr v c bl k) k (setB acc)) hk4
       have hup2 : updF (flArr v c bl k) k (setB acc) k = (setB acc : Int) := by simp [updF]
       rw [hup2] at hge
       have hst := arrA_set 4 (updF (flArr v c bl k) k (setB acc)) ((setB acc ||| 2 ^ d : Nat) : Int) hk4
       rw [updF_updF] at hst
       have hsa : setB (acc ++ [(d : Int)]) = setB acc ||| 2 ^ d := by rw [setB_app, Int.toNat_natCast]
       (repeat (first | simp only [↓QA, QB, Nat.reduceLT, reduceIte, Nat.reduceEqDiff, Nat.reduceAdd, Nat.reduceLeDiff, Nat.reduceMul, Nat.reduceBEq, QXFFaP4, db_0, db_1, db_2, db_3, db_4, db_5, db_6, db_7, db_8, i4, c4, Nat.zero_add, hge, vsh, vor, hst, hwd] | refine rd0 rfl ?_))
       refine ⟨(d + 1, acc ++ [(d : Int)]), ⟨by simp only; omega, by simp only; omega, by rw [← hacc]; simp⟩, by simp only; omega, ?_⟩
       try simp only [TrimX, QE, Nat.reduceLT, reduceIte, Nat.reduceEqDiff, Nat.reduceAdd, Nat.reduceLeDiff, Nat.reduceMul, Nat.reduceBEq, QXFFaP4, db_0, db_1, db_2, db_3, db_4, db_5, db_6, db_7, db_8, hp2, hp3, hwd, hsa]
       try simp [okBlk, okVs, okV, arrA_ok]
    ·have hd2 : d = H + 1 := by
      have h0 : ¬ (d : Int) ≤ y.flower.hi := by simpa using h
      omega
     rw [ways_end (show ¬ (d : Int) ≤ (H : Int) by omega)] at hacc
     simp only [List.filter_nil, List.append_nil] at hacc
     subst hacc
     have hge := arrA_get 4 (updF (flArr v c bl k) k (setB acc)) hk4
     have hup2 : updF (flArr v c bl k) k (setB acc) k = (setB acc : Int) := by simp [updF]
     rw [hup2] at hge
     have hsz := setB_zero (fun x hx => (hadF x hx).1)
     cases hz0 : ((setB acc : Int) == 0)
     ·have hz0' : setB acc ≠ 0 := by intro e; rw [e] at hz0; cases hz0
      have hne : acc ≠ [] := fun e => hz0' (hsz.2 e)
      have hie : acc.isEmpty = false := by cases acc with
       | nil => exact absurd rfl hne
       | cons a b => rfl
      rw [hie] at hq
      simp only [Bool.false_eq_true, if_false] at hq
      (repeat (first | simp only [↓QA, QB, Nat.reduceLT, reduceIte, Nat.reduceEqDiff, Nat.reduceAdd, Nat.reduceLeDiff, Nat.reduceMul, Nat.reduceBEq, QXFFaP4, db_0, db_1, db_2, db_3, db_4, db_5, db_6, db_7, db_8, i4, Nat.zero_add, hge, hz0, hw] | refine rd0 rfl ?_))
      refine ⟨k + 1, ⟨by omega, hq⟩, by omega, ?_⟩
      try simp only [TrimX, QE, Nat.reduceLT, reduceIte, Nat.reduceEqDiff, Nat.reduceAdd, Nat.reduceLeDiff, Nat.reduceMul, Nat.reduceBEq, QXFFaP4, db_0, db_1, db_2, db_3, db_4, db_5, db_6, db_7, db_8, hp2, hp3, hw, hnx]
      try simp [okBlk, okVs, okV, arrA_ok]
     ·have hz0' : setB acc = 0 := by
       have : (setB acc : Int) = 0 := by simpa using hz0
       omega
      have hne : acc = [] := hsz.1 hz0'
      rw [hne] at hq
      simp only [List.isEmpty_nil, if_true] at hq
      subst hq
      have hzz : updF (flArr v c bl k) k (setB acc) = flArr v c bl k := by rw [hz0']; exact flArr_same
      simp only [hzz] at hge
      (repeat (first | simp only [↓QA, QB, Nat.reduceLT, reduceIte, Nat.reduceEqDiff, Nat.reduceAdd, Nat.reduceLeDiff, Nat.reduceMul, Nat.reduceBEq, QXFFaP4, db_0, db_1, db_2, db_3, db_4, db_5, db_6, db_7, db_8, i4, Nat.zero_add, hge, hz0, hzz] | refine rd0 rfl ?_))
      refine baseR [.cells (arrA 7 (rl c)), .cells (arrA 4 (flArr v c bl k)), .cells [.str y.name, .int .i64 y.flower.lo, .int .i64 y.flower.hi, .int .i64 y.hands]] (by first | rfl | simp) ?_
      try simp only [QS, QC, Nat.reduceLT, reduceIte, Nat.reduceEqDiff, Nat.reduceAdd, Nat.reduceLeDiff, Nat.reduceMul, Nat.reduceBEq, QXFFaP4, db_0, db_1, db_2, db_3, db_4, db_5, db_6, db_7, db_8]
  ·have hk1 : k = v.plots.length := by simp at hd; omega
   subst hk1
   rw [Nat.sub_self] at hq
   simp only [flGo] at hq
   subst hq
   (repeat (first | simp only [↓QA, QB, Nat.reduceLT, reduceIte, Nat.reduceEqDiff, Nat.reduceAdd, Nat.reduceLeDiff, Nat.reduceMul, Nat.reduceBEq, QXFFaP4, db_0, db_1, db_2, db_3, db_4, db_5, db_6, db_7, db_8] | refine rd0 rfl ?_))
   refine baseR [.cells (arrA 7 (rl c)), .cells (arrA 4 (flArr v c bl v.plots.length))] (by first | rfl | simp) ?_
   try simp only [QS, QC, Nat.reduceLT, reduceIte, Nat.reduceEqDiff, Nat.reduceAdd, Nat.reduceLeDiff, Nat.reduceMul, Nat.reduceBEq, QXFFaP4, db_0, db_1, db_2, db_3, db_4, db_5, db_6, db_7, db_8]
structure ObjAt {X : Type} (S : X → St) (obj : List AV) (p N : Nat) : Prop where
 len : ∀ x, (S x).length = N
 at0 : ∀ x, cellsAt (S x) p = some obj
 pl : p < N
def outS {X : Type} (Z ZD : X → St) (r : X × Bool) : St := if r.2 = true then Z r.1 else ZD r.1
def YieldsS {A X : Type} (Z ZD : X → St) (id : Nat) (args : A → List AV) (P : A → Prop) (f : A → X → X × Bool) : Prop :=
 ∀ t, P t → ∀ x τ, Run T (.callv (.yield id) (args t) (Z x ++ τ)) fun o => o.v = .bool (f t x).2 ∧ ∃ τ', o.σ = outS Z ZD (f t x) ++ (τ ++ τ')
theorem range_ofS {X : Type} {S : X → St} {obj : List AV} {p N : Nat} (hS : ObjAt S obj p N) (U UD : X → St) (n : Nat) (hU : ∀ x, (U x).length = n) (hUD : ∀ x, (UD x).length = n)
  (J : AJump) (e : Env) (k : Nat) (ps : List Nat) (a bb : ACode) (g : FuncId) (ek : Env.get e k = .func g [] [.ptr (N + n) 0]) (r : X × Bool) (x : X)
  (hrun : Run T (.call g [.yield (N + n + 1), .ptr (N + n) 0] (S x ++ (U x ++ [.cells [.ptr p 0], .loop .ready none e ps a bb]))) fun o => ∃ τ', o.σ = outS (fun x => S x ++ (U x ++ [.cells [.ptr p 0], .loop .ready none e ps a bb])) (fun x => S x ++ (UD x ++ [.cells [.ptr p 0], .loop .done (some J) e ps a bb])) r ++ τ') (K : KJ)
  (hT : ∀ τ, r.2 = true → K none e (S r.1 ++ (U r.1 ++ (.cells [.ptr p 0] :: .dead :: τ))))
  (hD : ∀ τ, r.2 = false → K (some J) e (S r.1 ++ (UD r.1 ++ (.cells [.ptr p 0] :: .dead :: τ)))) :
  rK (K := ⟨K⟩) T (.rangeFunc (.t k) ps a bb) e (S x ++ (U x ++ [.cells [.ptr p 0]])) := by
 have hlen : (S x ++ (U x ++ [ABlk.cells [.ptr p 0]])).length = N + n + 1 := by simp [hS.len, hU]; omega
 have hout : ∀ (A W : St) (lp : ABlk) (τ' : St), A.length = N → W.length = n → (A ++ (W ++ [ABlk.cells [.ptr p 0], lp]) ++ τ')[N + n + 1]? = some lp ∧ (A ++ (W ++ [ABlk.cells [.ptr p 0], lp]) ++ τ').set (N + n + 1) .dead = A ++ (W ++ (.cells [.ptr p 0] :: .dead :: τ')) := by
  intro A W lp τ' hA hW
  have h1 : N + n + 1 = (A ++ W).length + 1 := by simp [hA, hW]
  have h2 : A ++ (W ++ [ABlk.cells [.ptr p 0], lp]) ++ τ' = (A ++ W) ++ (.cells [.ptr p 0] :: lp :: τ') := by simp
  rw [h1, h2]
  constructor
  ·rw [st_get]; rfl
  ·rw [st_set]; simp
 refine rK_range (by rw [q_evt, ek]) (by
  rw [hlen, List.append_assoc (S x), List.append_assoc (U x)]
  exact hrun) fun o ho => ?_
 obtain ⟨τ', hσ⟩ := ho
 rw [hlen, hσ]
 cases hr2 : r.2
 ·have hD' := hD τ' hr2
  obtain ⟨g1, g2⟩ := hout (S r.1) (UD r.1) (.loop .done (some J) e ps a bb) τ' (hS.len _) (hUD _)
  simp only [outS, hr2, Bool.false_eq_true, if_false]
  rw [g1, g2]
  exact ⟨_, _, _, _, _, _, rfl, by simp, hD'⟩
 ·have hT' := hT τ' hr2
  obtain ⟨g1, g2⟩ := hout (S r.1) (U r.1) (.loop .ready none e ps a bb) τ' (hS.len _) (hU _)
  simp only [outS, hr2, if_true]
  rw [g1, g2]
  exact ⟨_, _, _, _, _, _, rfl, by simp, hT'⟩
theorem yields_ofS {X A : Type} {S : X → St} {obj : List AV} {p N : Nat} (hS : ObjAt S obj p N) (U UD : X → St) (n : Nat) (hU : ∀ x, (U x).length = n) (hUD : ∀ x, (UD x).length = n) (J : AJump) (e : Env) (ps : List Nat) (args : A → List AV) (hps : ∀ t, ps.length = (args t).length) (a bb : ACode) {P : A → Prop} {f : A → X → X × Bool}
  (h : ∀ t, P t → ∀ x τ, wp T a (bindPs e ps (args t)) (S x ++ (U x ++ (.cells [.ptr p 0] :: .loop .ready none e ps a bb :: τ))) (fun j e' σ' => j = none ∧ ∃ τ1, σ' = S x ++ (U x ++ (.cells [.ptr p 0] :: .loop .ready none e ps a bb :: (τ ++ τ1))) ∧
   wp T bb e' (S x ++ (U x ++ (.cells [.ptr p 0] :: .loop .busy none e ps a bb :: (τ ++ τ1)))) (fun j e'' σ'' => ((f t x).2 = true ∧ j = none ∧ ∃ τ', σ'' = S (f t x).1 ++ (U (f t x).1 ++ (.cells [.ptr p 0] :: .loop .busy none e ps a bb :: (τ ++ τ')))) ∨
    ((f t x).2 = false ∧ j = some J ∧ ∃ τ', σ'' = S (f t x).1 ++ (UD (f t x).1 ++ (.cells [.ptr p 0] :: .loop .busy none e ps a bb :: (τ ++ τ'))))))) :
  YieldsS (fun x => S x ++ (U x ++ [.cells [.ptr p 0], .loop .ready none e ps a bb])) (fun x => S x ++ (UD x ++ [.cells [.ptr p 0], .loop .done (some J) e ps a bb])) (N + n + 1) args P f := by
 intro t ht x τ
 have hget : ∀ (A W : St) (lp : ABlk) (υ : St), A.length = N → W.length = n → (A ++ (W ++ (ABlk.cells [.ptr p 0] :: lp :: υ)))[N + n + 1]? = some lp := by
  intro A W lp υ hA hW
  have h1 : N + n + 1 = (A ++ W).length + 1 := by simp [hA, hW]
  rw [h1, ← List.append_assoc, st_get]; rfl
 have hset : ∀ (A W : St) (lp l2 : ABlk) (υ : St), A.length = N → W.length = n → (A ++ (W ++ (ABlk.cells [.ptr p 0] :: lp :: υ))).set (N + n + 1) l2 = A ++ (W ++ (ABlk.cells [.ptr p 0] :: l2 :: υ)) := by
  intro A W lp l2 υ hA hW
  have h1 : N + n + 1 = (A ++ W).length + 1 := by simp [hA, hW]
  rw [h1, ← List.append_assoc, st_set]
  simp
 obtain ⟨r, hr⟩ : ∃ r, f t x = r := ⟨_, rfl⟩
 have h := h t ht x τ
 rw [hr] at h ⊢
 have hst : (fun x => S x ++ (U x ++ [ABlk.cells [.ptr p 0], .loop .ready none e ps a bb])) x ++ τ = S x ++ (U x ++ (.cells [.ptr p 0] :: .loop .ready none e ps a bb :: τ)) := by simp
 rw [hst]
 refine .round (env := e) (ps := ps) (a := a) (b := bb)
  (R := fun o => o.j = none ∧ ∃ τ1, o.σ = S x ++ (U x ++ (.cells [.ptr p 0] :: .loop .ready none e ps a bb :: (τ ++ τ1))) ∧ wp T bb o.env (S x ++ (U x ++ (.cells [.ptr p 0] :: .loop .busy none e ps a bb :: (τ ++ τ1)))) (fun j e'' σ'' => (r.2 = true ∧ j = none ∧ ∃ τ', σ'' = S r.1 ++ (U r.1 ++ (.cells [.ptr p 0] :: .loop .busy none e ps a bb :: (τ ++ τ')))) ∨
    (r.2 = false ∧ j = some J ∧ ∃ τ', σ'' = S r.1 ++ (UD r.1 ++ (.cells [.ptr p 0] :: .loop .busy none e ps a bb :: (τ ++ τ'))))))
  (S := fun o => (r.2 = true ∧ o.j = none ∧ ∃ τ', o.σ = S r.1 ++ (U r.1 ++ (.cells [.ptr p 0] :: .loop .busy none e ps a bb :: (τ ++ τ')))) ∨ (r.2 = false ∧ o.j = some J ∧ ∃ τ', o.σ = S r.1 ++ (UD r.1 ++ (.cells [.ptr p 0] :: .loop .busy none e ps a bb :: (τ ++ τ'))))) (hget _ _ _ _ (hS.len _) (hU _)) (by rw [hps t]) (run_wp h fun o ho => ho) ?_ ?_ ?_
 ·rintro o ⟨hj, τ1, hσ, _⟩
  exact ⟨hj, by rw [hσ]; exact hget _ _ _ _ (hS.len _) (hU _)⟩
 ·rintro o ⟨_, τ1, hσ, hw⟩
  rw [hσ, hset _ _ _ _ _ (hS.len _) (hU _)]
  exact run_wp hw fun o ho => ho
 ·rintro o (⟨hr2, hj, τ', hσ⟩ | ⟨hr2, hj, τ', hσ⟩)
  ·rw [hσ, hj, hget _ _ _ _ (hS.len _) (hU _), hset _ _ _ _ _ (hS.len _) (hU _)]
   refine ⟨rfl, by rw [hr2]; rfl, τ', ?_⟩
   simp [outS, hr2]
  ·rw [hσ, hj, hget _ _ _ _ (hS.len _) (hUD _), hset _ _ _ _ _ (hS.len _) (hUD _)]
   refine ⟨rfl, by rw [hr2]; rfl, τ', ?_⟩
   simp [outS, hr2]
end Go.Am.Room
set_option maxRecDepth 8000
namespace Go.Am.Room
def QXFFaP5 := And.intro @encSpan_eq (And.intro @S_mapSpan (And.intro @List.length_append.{0} (And.intro @arrA_len (And.intro @arrA_take (And.intro @arrA_drop (And.intro @S_arrA (And.intro @arrA_cell (And.intro @Nat.mul_one (And.intro @Int.toNat_natCast (And.intro @db_0 (And.intro @db_1 (And.intro @db_2 (And.intro @db_3 (And.intro @db_4 (And.intro @db_5 (And.intro @db_6 (And.intro @db_7 (And.intro @db_8 (And.intro @q_loopNone (And.intro @q_loopSome (And.intro @C_yield (@K_yield))))))))))))))))))))))
theorem rl_app (l : List Int) (n : Int) : rl (l ++ [n]) = updF (rl l) l.length n := by
 funext i
 simp only [rl, updF]
 by_cases h : i = l.length
 ·subst h; simp
 ·rw [if_neg h]
  by_cases h2 : i < l.length
  ·rw [List.getElem?_append_left h2]
  ·rw [List.getElem?_eq_none (by simp; omega), List.getElem?_eq_none (by omega)]
theorem rl_upd0 (l : List Int) : updF (rl l) l.length 0 = rl l := by
 funext i
 simp only [updF]
 split
 ·rename_i h; subst h; simp [rl]
 ·rfl
theorem rl_inj {a b : List Int} (h1 : a.length = b.length) (h2 : a.length ≤ 7) : ((List.range 7).all fun i => rl a i == rl b i) = decide (b = a) := by
 rw [Bool.eq_iff_iff, List.all_eq_true, decide_eq_true_eq]
 constructor
 ·intro h
  refine List.ext_getElem h1.symm fun i hi1 hi2 => ?_
  have := h i (by simp; omega)
  rw [beq_iff_eq, rl_at (by omega), rl_at (by omega)] at this
  exact this.symm
 ·rintro rfl i _
  simp
theorem once_mem {A X : Type} [DecidableEq A] (f : A → X → X × Bool) : ∀ (az : List A) (o : Option A) (x : X) (u : A), (iterF (onceF f) az (o, x)).1.1 = some u → o = some u ∨ u ∈ az
 | [], o, x, u, h => .inl h
 | a :: az, o, x, u, h => by
  simp only [iterF, onceF] at h
  by_cases ho : o = some a
  ·simp only [ho, if_true] at h
   rcases once_mem f az (some a) x u h with h | h
   ·exact .inl (ho.trans h)
   ·exact .inr (by simp [h])
  ·simp only [ho, if_false] at h
   split at h
   ·rcases once_mem f az (some a) _ u h with h | h
    ·simp at h; exact .inr (by simp [h])
    ·exact .inr (by simp [h])
   ·simp at h; exact .inr (by simp [h])
theorem leafs_len : ∀ (rs : List Span) (l c : List Int), c ∈ leafs rs l → c.length = l.length + rs.length
 | [], l, c, h => by simp only [leafs, List.mem_singleton] at h; simp [h]
 | s :: rs, l, c, h => by
  simp only [leafs, List.mem_flatMap] at h
  obtain ⟨n, _, hc⟩ := h
  have := leafs_len rs _ c hc
  simp at this ⊢
  omega
def seven : List SK := List.replicate 7 .i
theorem seven_len : [SK.i, .i, .i, .i, .i, .i, .i] = List.replicate 7 .i := rfl
structure WFam {X : Type} (Z : X → St) (v : Farm) (b m p q N : Nat) : Prop where
 len : ∀ x, (Z x).length = N
 atp : ∀ x τ, cellsAt (Z x ++ τ) p = some (db v b m)
 atq : ∀ x τ, cellsAt (Z x ++ τ) q = some [.ptr p 0]
namespace WFam
variable {X : Type} {Z : X → St} {v : Farm} {b m p q N : Nat}
theorem base (h : WFam Z v b m p q N) (x : X) (τ : St) (k : Nat) : cellsAt (Z x ++ τ) (N + k) = cellsAt τ k := by rw [← h.len x]; exact M_base _ _ _
theorem base0 (h : WFam Z v b m p q N) (x : X) (τ : St) : cellsAt (Z x ++ τ) N = cellsAt τ 0 := h.base x τ 0
theorem bset (h : WFam Z v b m p q N) (x : X) (τ : St) (k : Nat) (y : ABlk) : (Z x ++ τ).set (N + k) y = Z x ++ τ.set k y := by rw [← h.len x]; exact st_set _ _ _ _
theorem bset0 (h : WFam Z v b m p q N) (x : X) (τ : St) (y : ABlk) : (Z x ++ τ).set N y = Z x ++ τ.set 0 y := h.bset x τ 0 y
end WFam
def nextF (q N : Nat) : AV := .func 110 [] [.ptr q 0, .ptr (N + 3) 0, .ptr (N + 1) 0, .ptr (N + 2) 0, .ptr N 0, .ptr (N + 4) 0]
theorem nextF_eq (q N : Nat) : nextF q N = .func 110 [] [.ptr q 0, .ptr (N + 3) 0, .ptr (N + 1) 0, .ptr (N + 2) 0, .ptr N 0, .ptr (N + 4) 0] := by simp only [nextF]
def nextB (id q N : Nat) (o : Option (List Int)) (A : Nat → Int) : St := [.cells [.yield id], .cells (arrA 7 A), .cells (arrA 7 (rl (o.getD []))), .cells [.bool o.isNone], .cells [nextF q N]]
theorem nextB_eq (id q N : Nat) (o : Option (List Int)) (A : Nat → Int) (τ : St) : nextB id q N o A ++ τ = .cells [.yield id] :: .cells (arrA 7 A) :: .cells (arrA 7 (rl (o.getD []))) :: .cells [.bool o.isNone] :: .cells [nextF q N] :: τ := by simp [nextB]
def NextR {X : Type} (Z ZD : X → St) (id q N : Nat) (l : List Int) (r : (Option (List Int) × X) × Bool) (o : Out) : Prop :=
 o.v = .bool r.2 ∧ ∃ A τ', o.σ = outS Z ZD (r.1.2, r.2) ++ (nextB id q N r.1.1 A ++ τ') ∧ (r.2 = true → A = rl l)
def NextI {X : Type} (Z : X → St) (f : List Int → X → X × Bool) (v : Farm) (q id N : Nat) (l : List Int) (s : Span) (rs : List Span) (R : (Option (List Int) × X) × Bool) (k : Nat) (e : Env) (σ : St) : Prop :=
 Env.get e 0 = .int .i64 l.length ∧ Env.get e 1 = .ptr q 0 ∧ Env.get e 3 = .ptr (N + 1) 0 ∧ Env.get e 6 = .ptr (N + 4) 0 ∧ ∃ n o x c τ, Env.get e 9 = .int .i64 n ∧ s.lo ≤ n ∧ n ≤ s.hi + 1 ∧ k = (s.hi + 1 - n).toNat ∧ (∀ u, o = some u → u.length = v.rain.length) ∧
   σ = Z x ++ (nextB id q N o (updF (rl l) l.length c) ++ τ) ∧ iterF (onceF f) ((numbers n k).flatMap fun n => leafs rs (l ++ [n])) (o, x) = R
theorem next_run {X : Type} {Z ZD : X → St} {v : Farm} {b m p q id N : Nat} (hR : WFam Z v b m p q N) (f : List Int → X → X × Bool) (hy : YieldsS Z ZD id (fun t => [.agg (arrA 7 (rl t))]) (RainOk v) f) (hv : Vd v) :
  ∀ (rs : List Span) (l : List Int) (o : Option (List Int)) (x : X) (τ : St), rs = v.rain.drop l.length → l.length ≤ v.rain.length → (∀ i (h : i < v.rain.length), i < l.length → v.rain[i].lo ≤ rl l i ∧ rl l i ≤ v.rain[i].hi) → (∀ u, o = some u → u.length = v.rain.length) →
   Run T (.callv (nextF q N) [.int .i64 l.length] (Z x ++ (nextB id q N o (rl l) ++ τ))) (NextR Z ZD id q N l (iterF (onceF f) (leafs rs l) (o, x)))
 | [], l, o, x, τ, hrs, hl, hbd, ho => by
  have hl2 : l.length = v.rain.length := by
   have := congrArg List.length hrs
   simp at this
   omega
  have hro : RainOk v l := ⟨hl2, fun i h => hbd i h (by omega)⟩
  have hnr := hv.nra
  simp only [leafs, iterF_one, nextF_eq]
  refine .callf (.call (af := a110) rfl (by simp [a110]) (run_wp (K := fun j e σ' => (j = none ∨ j = some .ret) ∧ NextR Z ZD id q N l (onceF f l (o, x)) ⟨none, [], σ', Env.get e 8⟩) ?_ fun o ho => ho) fun w hw => ⟨hw.1, _, rfl, .inl hw.2⟩)
  have hE : ((l.length : Int) == (v.rain.length : Int)) = true := by rw [hl2]; simp
  rw [nextB_eq]
  cases o with
  | none =>
   have hon : onceF f l (none, x) = ((some l, (f l x).1), (f l x).2) := by simp [onceF]
   rw [hon]
   have hcall := hy l hro x
   obtain ⟨r, hr⟩ : ∃ r, f l x = r := ⟨_, rfl⟩
   rw [hr] at hcall ⊢
   (repeat (first | simp only [↓QA, QB, Nat.reduceLT, reduceIte, Nat.reduceEqDiff, Nat.reduceAdd, Nat.reduceLeDiff, Nat.reduceMul, Nat.reduceBEq, QXFFaP5, hR.base, hR.base0, hR.bset, hR.bset0, hR.atp, hR.atq, seven, seven_len, a110, hE, Option.isNone_none, Option.getD_none] | refine rd0 rfl ?_))
   refine .mono (hcall _) fun w hw => ?_
   obtain ⟨hw1, τ', hw2⟩ := hw
   rw [hw1, hw2]
   (repeat (first | simp only [↓QA, QB, Nat.reduceLT, reduceIte, Nat.reduceEqDiff, Nat.reduceAdd, Nat.reduceLeDiff, Nat.reduceMul, Nat.reduceBEq, QXFFaP5, hR.base, hR.base0, hR.bset, hR.bset0, hR.atp, hR.atq, seven, seven_len] | refine rd0 rfl ?_))
   exact ⟨rfl, rl l, τ ++ τ', by simp [nextB], fun _ => rfl⟩
  | some u =>
   have hul := ho u rfl
   have heq : eqCells (List.replicate 7 .i) (arrA 7 (rl l)) (arrA 7 (rl u)) = some (decide (u = l)) := by
    rw [arrA_eq, rl_inj (by omega) (by omega)]
   by_cases hu : u = l
   ·subst hu
    have hon : onceF f u (some u, x) = ((some u, x), true) := by simp [onceF]
    rw [hon]
    have hdt : decide (u = u) = true := by simp
    rw [hdt] at heq
    (repeat (first | simp only [↓QA, QB, Nat.reduceLT, reduceIte, Nat.reduceEqDiff, Nat.reduceAdd, Nat.reduceLeDiff, Nat.reduceMul, Nat.reduceBEq, QXFFaP5, hR.base, hR.base0, hR.bset, hR.bset0, hR.atp, hR.atq, seven, seven_len, a110, hE, heq, Option.isNone_some, Option.getD_some] | refine rd0 rfl ?_))
    exact ⟨rfl, rl u, τ, by simp [nextB, outS], fun _ => rfl⟩
   ·have hon : onceF f l (some u, x) = ((some l, (f l x).1), (f l x).2) := by simp [onceF, hu]
    rw [hon]
    have hdt : decide (u = l) = false := by simpa using hu
    rw [hdt] at heq
    have hcall := hy l hro x
    obtain ⟨r, hr⟩ : ∃ r, f l x = r := ⟨_, rfl⟩
    rw [hr] at hcall ⊢
    (repeat (first | simp only [↓QA, QB, Nat.reduceLT, reduceIte, Nat.reduceEqDiff, Nat.reduceAdd, Nat.reduceLeDiff, Nat.reduceMul, Nat.reduceBEq, QXFFaP5, hR.base, hR.base0, hR.bset, hR.bset0, hR.atp, hR.atq, seven, seven_len, a110, hE, heq, Option.isNone_some, Option.getD_some] | refine rd0 rfl ?_))
    refine .mono (hcall _) fun w hw => ?_
    obtain ⟨hw1, τ', hw2⟩ := hw
    rw [hw1, hw2]
    (repeat (first | simp only [↓QA, QB, Nat.reduceLT, reduceIte, Nat.reduceEqDiff, Nat.reduceAdd, Nat.reduceLeDiff, Nat.reduceMul, Nat.reduceBEq, QXFFaP5, hR.base, hR.base0, hR.bset, hR.bset0, hR.atp, hR.atq, seven, seven_len] | refine rd0 rfl ?_))
    exact ⟨rfl, rl l, τ ++ τ', by simp [nextB], fun _ => rfl⟩
 | s :: rs, l, o, x, τ, hrs, hl, hbd, ho => by
  have hlt : l.length < v.rain.length := by
   have := congrArg List.length hrs
   simp at this
   omega
  have hdr := List.drop_eq_getElem_cons hlt
  rw [← hrs] at hdr
  have hs : v.rain[l.length] = s := by have := (List.cons.inj hdr).1; exact this.symm
  have hrs2 : rs = v.rain.drop (l.length + 1) := (List.cons.inj hdr).2
  have hra := hv.ra _ (List.getElem_mem hlt)
  rw [hs] at hra
  have hnr := hv.nra
  have hE : ((l.length : Int) == (v.rain.length : Int)) = false := by simp; omega
  have hlen7 : l.length < 7 := by omega
  have i7 : (0 : Int) ≤ (l.length : Int) ∧ (l.length : Int) < ((7 : Nat) : Int) := ⟨by omega, by omega⟩
  have c7 : l.length + 1 ≤ 7 := by omega
  have hwd : IntKind.i64.wrap ((l.length : Int) + 1) = ((l.length + 1 : Nat) : Int) := wrapN hlt (by omega)
  have ih := fun (n : Int) (hn : s.lo ≤ n ∧ n ≤ s.hi) (o : Option (List Int)) (x : X) (τ : St) (ho : ∀ u, o = some u → u.length = v.rain.length) => next_run hR f hy hv rs (l ++ [n]) o x τ (by rw [hrs2]; simp) (by simp; omega) (fun i h hi => by
   rw [rl_app]
   simp only [updF]
   by_cases e : i = l.length
   ·subst e
    rw [if_pos rfl, hs]
    exact hn
   ·rw [if_neg e]
    exact hbd i h (by simp at hi; omega)) ho
  obtain ⟨R, hRR⟩ : ∃ R, iterF (onceF f) (leafs (s :: rs) l) (o, x) = R := ⟨_, rfl⟩
  rw [hRR]
  simp only [leafs, waysIn] at hRR
  simp only [nextF_eq]
  refine .callf (.call (af := a110) rfl (by simp [a110]) (run_wp (K := fun j e σ' => (j = none ∨ j = some .ret) ∧ NextR Z ZD id q N l R ⟨none, [], σ', Env.get e 8⟩) ?_ fun o ho => ho) fun w hw => ⟨hw.1, _, rfl, .inl hw.2⟩)
  rw [nextB_eq]
  (repeat (first | simp only [↓QA, QB, Nat.reduceLT, reduceIte, Nat.reduceEqDiff, Nat.reduceAdd, Nat.reduceLeDiff, Nat.reduceMul, Nat.reduceBEq, QXFFaP5, hR.base, hR.base0, hR.bset, hR.bset0, hR.atp, hR.atq, seven, seven_len, a110, hE, hlt, hs] | refine rd0 rfl ?_))
  refine loopK (NextI Z f v q id N l s rs R) ?_ (s.hi + 1 - s.lo).toNat _ _ ?_
  ·rintro k e σ ⟨e0, e1, e3, e6, n, o, x, c, τ, e9, hn0, hn1, hk, ho, rfl, hq⟩
   subst hk
   have hst := arrA_set 7 (updF (rl l) l.length c) n hlen7
   rw [updF_updF, ← rl_app l n] at hst
   have hst0 := arrA_set 7 (updF (rl l) l.length c) 0 hlen7
   rw [updF_updF, rl_upd0] at hst0
   rw [nextB_eq]
   (repeat (first | simp only [↓QA, QB, Nat.reduceLT, reduceIte, Nat.reduceEqDiff, Nat.reduceAdd, Nat.reduceLeDiff, Nat.reduceMul, Nat.reduceBEq, QXFFaP5, hR.base, hR.base0, hR.bset, hR.bset0, hR.atp, hR.atq, seven, seven_len, L110_0, e0, e1, e3, e6, e9, hlt, hs] | refine rd0 rfl ?_))
   refine iteP_intro (fun h => ?_) fun h => ?_
   ·have hn2 : n ≤ s.hi := by simpa using h
    have hwn : IntKind.i64.wrap (n + 1) = n + 1 := wrap64 ⟨by omega, by omega⟩
    rw [ways_step hn2, List.flatMap_cons, iterF_app] at hq
    have hc := ih n ⟨hn0, hn2⟩ o x τ ho
    simp only [nextB_eq, List.length_append, List.length_cons, List.length_nil, Nat.zero_add] at hc
    obtain ⟨r, hr⟩ : ∃ r, iterF (onceF f) (leafs rs (l ++ [n])) (o, x) = r := ⟨_, rfl⟩
    rw [hr] at hq hc
    (repeat (first | simp only [↓QA, QB, Nat.reduceLT, reduceIte, Nat.reduceEqDiff, Nat.reduceAdd, Nat.reduceLeDiff, Nat.reduceMul, Nat.reduceBEq, QXFFaP5, hR.base, hR.base0, hR.bset, hR.bset0, hR.atp, hR.atq, seven, seven_len, e0, e1, e3, e6, e9, i7, c7, Nat.zero_add, hst, hwd] | refine rd0 rfl ?_))
    refine .mono hc fun w hw => ?_
    obtain ⟨hw1, A, τ', hw2, hw3⟩ := hw
    rw [hw1, hw2]
    cases hr2 : r.2
    ·rw [hr2] at hq
     simp only [Bool.false_eq_true, if_false] at hq
     (repeat (first | simp only [↓QA, QB, Nat.reduceLT, reduceIte, Nat.reduceEqDiff, Nat.reduceAdd, Nat.reduceLeDiff, Nat.reduceMul, Nat.reduceBEq, QXFFaP5, hR.base, hR.base0, hR.bset, hR.bset0, hR.atp, hR.atq, seven, seven_len, e0, e1, e3, e6, e9] | refine rd0 rfl ?_))
     rw [← hq]
     exact ⟨rfl, A, τ', by simp [outS], fun h => by cases h⟩
    ·rw [hr2] at hq
     simp only [if_true] at hq
     have hA := hw3 hr2
     rw [hA]
     simp only [outS, if_true]
     rw [nextB_eq]
     have hlr : l.length + 1 + rs.length = v.rain.length := by rw [hrs2]; simp; omega
     (repeat (first | simp only [↓QA, QB, Nat.reduceLT, reduceIte, Nat.reduceEqDiff, Nat.reduceAdd, Nat.reduceLeDiff, Nat.reduceMul, Nat.reduceBEq, QXFFaP5, hR.base, hR.base0, hR.bset, hR.bset0, hR.atp, hR.atq, seven, seven_len, e0, e1, e3, e6, e9, hwn] | refine rd0 rfl ?_))
     refine ⟨(s.hi + 1 - (n + 1)).toNat, by omega, ?_, ?_, ?_, ?_, n + 1, r.1.1, r.1.2, n, τ', ?_, by omega, by omega, rfl, fun u hu => ?_, ?_, hq⟩
     ·try simp only [TrimX, QE, Nat.reduceLT, reduceIte, Nat.reduceEqDiff, Nat.reduceAdd, Nat.reduceLeDiff, Nat.reduceMul, Nat.reduceBEq, QXFFaP5, hR.base, hR.base0, hR.bset, hR.bset0, hR.atp, hR.atq, seven, seven_len, e0]
     ·try simp only [TrimX, QE, Nat.reduceLT, reduceIte, Nat.reduceEqDiff, Nat.reduceAdd, Nat.reduceLeDiff, Nat.reduceMul, Nat.reduceBEq, QXFFaP5, hR.base, hR.base0, hR.bset, hR.bset0, hR.atp, hR.atq, seven, seven_len, e1]
     ·try simp only [TrimX, QE, Nat.reduceLT, reduceIte, Nat.reduceEqDiff, Nat.reduceAdd, Nat.reduceLeDiff, Nat.reduceMul, Nat.reduceBEq, QXFFaP5, hR.base, hR.base0, hR.bset, hR.bset0, hR.atp, hR.atq, seven, seven_len, e3]
     ·try simp only [TrimX, QE, Nat.reduceLT, reduceIte, Nat.reduceEqDiff, Nat.reduceAdd, Nat.reduceLeDiff, Nat.reduceMul, Nat.reduceBEq, QXFFaP5, hR.base, hR.base0, hR.bset, hR.bset0, hR.atp, hR.atq, seven, seven_len, e6]
     ·try simp only [TrimX, QE, Nat.reduceLT, reduceIte, Nat.reduceEqDiff, Nat.reduceAdd, Nat.reduceLeDiff, Nat.reduceMul, Nat.reduceBEq, QXFFaP5, hR.base, hR.base0, hR.bset, hR.bset0, hR.atp, hR.atq, seven, seven_len]
     ·rw [← hr] at hu
      rcases once_mem f _ o x u hu with h | h
      ·exact ho u h
      ·have := leafs_len _ _ _ h
       simp at this
       omega
     ·rw [nextB_eq, rl_app]
   ·have hn2 : ¬ n ≤ s.hi := by simpa using h
    rw [ways_end hn2, List.flatMap_nil] at hq
    simp only [iterF] at hq
    (repeat (first | simp only [↓QA, QB, Nat.reduceLT, reduceIte, Nat.reduceEqDiff, Nat.reduceAdd, Nat.reduceLeDiff, Nat.reduceMul, Nat.reduceBEq, QXFFaP5, hR.base, hR.base0, hR.bset, hR.bset0, hR.atp, hR.atq, seven, seven_len, e0, e1, e3, e6, e9, i7, c7, Nat.zero_add, hst0] | refine rd0 rfl ?_))
    rw [← hq]
    exact ⟨rfl, rl l, τ, by simp [outS, nextB], fun _ => rfl⟩
  ·refine ⟨?_, ?_, ?_, ?_, s.lo, o, x, 0, τ, ?_, Int.le_refl _, by omega, rfl, ho, ?_, hRR⟩
   ·try simp only [TrimX, QE, Nat.reduceLT, reduceIte, Nat.reduceEqDiff, Nat.reduceAdd, Nat.reduceLeDiff, Nat.reduceMul, Nat.reduceBEq, QXFFaP5, hR.base, hR.base0, hR.bset, hR.bset0, hR.atp, hR.atq, seven, seven_len]
   ·try simp only [TrimX, QE, Nat.reduceLT, reduceIte, Nat.reduceEqDiff, Nat.reduceAdd, Nat.reduceLeDiff, Nat.reduceMul, Nat.reduceBEq, QXFFaP5, hR.base, hR.base0, hR.bset, hR.bset0, hR.atp, hR.atq, seven, seven_len]
   ·try simp only [TrimX, QE, Nat.reduceLT, reduceIte, Nat.reduceEqDiff, Nat.reduceAdd, Nat.reduceLeDiff, Nat.reduceMul, Nat.reduceBEq, QXFFaP5, hR.base, hR.base0, hR.bset, hR.bset0, hR.atp, hR.atq, seven, seven_len]
   ·try simp only [TrimX, QE, Nat.reduceLT, reduceIte, Nat.reduceEqDiff, Nat.reduceAdd, Nat.reduceLeDiff, Nat.reduceMul, Nat.reduceBEq, QXFFaP5, hR.base, hR.base0, hR.bset, hR.bset0, hR.atp, hR.atq, seven, seven_len]
   ·try simp only [TrimX, QE, Nat.reduceLT, reduceIte, Nat.reduceEqDiff, Nat.reduceAdd, Nat.reduceLeDiff, Nat.reduceMul, Nat.reduceBEq, QXFFaP5, hR.base, hR.base0, hR.bset, hR.bset0, hR.atp, hR.atq, seven, seven_len]
   ·rw [nextB_eq, rl_upd0]
theorem weather1_run {X : Type} {Z ZD : X → St} {v : Farm} {b m p q id N : Nat} (hR : WFam Z v b m p q N) (f : List Int → X → X × Bool) (hy : YieldsS Z ZD id (fun t => [.agg (arrA 7 (rl t))]) (RainOk v) f) (hv : Vd v) (x : X) :
  Run T (.call 109 [.yield id, .ptr q 0] (Z x)) fun o => ∃ τ', o.σ = outS Z ZD (iterF f (leafs v.rain []) x) ++ τ' := by
 have hn := next_run hR f hy hv v.rain [] none x [] (by simp) (by simp) (fun i h hi => by simp at hi) (fun u hu => by cases hu)
 have hl := hR.len x
 have hz : [AV.int .i64 0, .int .i64 0, .int .i64 0, .int .i64 0, .int .i64 0, .int .i64 0, .int .i64 0] = arrA 7 (rl []) := by simp [arrA, rl, List.range_succ]
 obtain ⟨ho1, ho2⟩ := iterF_once f (leafs v.rain []) none x (leafs_ne _ _) (fun a _ h => by cases h)
 have hend : ∀ w, NextR Z ZD id q N [] (iterF (onceF f) (leafs v.rain []) (none, x)) w → ∃ τ', w.σ = outS Z ZD (iterF f (leafs v.rain []) x) ++ τ' := by
  rintro w ⟨_, A, τ', h2, _⟩
  refine ⟨nextB id q N (iterF (onceF f) (leafs v.rain []) (none, x)).1.1 A ++ τ', ?_⟩
  rw [h2, show ((iterF (onceF f) (leafs v.rain []) (none, x)).1.2, (iterF (onceF f) (leafs v.rain []) (none, x)).2) = iterF f (leafs v.rain []) x from Prod.ext ho1 ho2]
 rw [nextB_eq, nextF_eq] at hn
 simp only [List.length_nil, Option.getD_none, Option.isNone_none] at hn
 refine .call (af := a109) rfl (by simp [a109]) (run_wp (K := fun j e σ' => (j = none ∨ j = some .ret) ∧ ∃ τ', σ' = outS Z ZD (iterF f (leafs v.rain []) x) ++ τ') ?_ fun o ho => ho) fun o ho => ⟨ho.1, _, rfl, .inl ho.2⟩
 (repeat (first | simp only [↓QA, QB, Nat.reduceLT, reduceIte, Nat.reduceEqDiff, Nat.reduceAdd, Nat.reduceLeDiff, Nat.reduceMul, Nat.reduceBEq, QXFFaP5, hR.base, hR.base0, hR.bset, hR.bset0, hR.atp, hR.atq, seven, seven_len, a109, hl, hz] | refine rd0 rfl ?_))
 refine .mono hn fun w hw => ?_
 have := hend w hw
 (repeat (first | simp only [↓QA, QB, Nat.reduceLT, reduceIte, Nat.reduceEqDiff, Nat.reduceAdd, Nat.reduceLeDiff, Nat.reduceMul, Nat.reduceBEq, QXFFaP5, hR.base, hR.base0, hR.bset, hR.bset0, hR.atp, hR.atq, seven, seven_len] | refine rd0 rfl ?_))
 exact this
end Go.Am.Room
namespace Go.Am.Room
def eqT (t u : Truth) : Bool := (List.range 7).all fun i => rl t.rain i == rl u.rain i
def putT (t : Truth) : List Truth → List Truth
 | [] => [t]
 | u :: us => if eqT t u = true then t :: us else u :: putT t us
def tKey (t : Truth) : AV := .agg (arrA 7 (rl t.rain))
def tVal (t : Truth) : AV := .agg (arrA 4 (fun q => (setB (flAt t q) : Int)))
def kvT (t : Truth) : AV × AV := (tKey t, tVal t)
theorem key_eq (t u : Truth) : eqSh (.agg (List.replicate 7 .i)) (tKey t) (tKey u) = some (eqT t u) := by
 have := arrA_eq 7 (rl t.rain) (rl u.rain)
 simp only [tKey, eqSh, this, eqT]
theorem setKey_put (t : Truth) : ∀ ts : List Truth, setKey (.agg (List.replicate 7 .i)) (tKey t) (tVal t) (ts.map kvT) = some ((putT t ts).map kvT)
 | [] => rfl
 | u :: us => by
  have ih := setKey_put t us
  simp only [List.map_cons, setKey, kvT, key_eq, putT] at ih ⊢
  cases h : eqT t u
  ·simp only [Bool.false_eq_true, if_false, List.map_cons, kvT]
   simp only [ih, Option.map_some]
  ·simp only [if_true, List.map_cons, kvT]
theorem putT_new {t : Truth} : ∀ {ts : List Truth}, (∀ u ∈ ts, eqT t u = false) → putT t ts = ts ++ [t]
 | [], _ => rfl
 | u :: us, h => by
  simp only [putT, h u (by simp), Bool.false_eq_true, if_false, List.cons_append]
  rw [putT_new fun w hw => h w (by simp [hw])]
def addT (v : Farm) (bl c : List Int) (ts : List Truth) : List Truth := match truthOf v bl c with | some t => putT t ts | none => ts
theorem truthOf_rain {v : Farm} {bl c : List Int} {t : Truth} (h : truthOf v bl c = some t) : t.rain = c := by
 simp only [truthOf] at h
 split at h
 ·simp only [Option.some.injEq] at h; subst h; rfl
 ·cases h
theorem add_all {v : Farm} {bl : List Int} {G : Nat} (hG : G ≤ 7) : ∀ (cs : List (List Int)) (acc : List Truth), cs.Pairwise (· ≠ ·) → (∀ c ∈ cs, c.length = G) → (∀ u ∈ acc, u.rain.length = G ∧ u.rain ∉ cs) →
  cs.foldl (fun ts c => addT v bl c ts) acc = acc ++ cs.filterMap (truthOf v bl)
 | [], acc, _, _, _ => by simp
 | c :: cs, acc, hp, hl, ha => by
  obtain ⟨h1, h2⟩ := List.pairwise_cons.1 hp
  rw [List.foldl_cons, List.filterMap_cons]
  cases ht : truthOf v bl c with
  | none =>
   simp only [addT, ht]
   exact add_all hG cs acc h2 (fun c hc => hl c (by simp [hc])) fun u hu => ⟨(ha u hu).1, fun h => (ha u hu).2 (by simp [h])⟩
  | some t =>
   have hr := truthOf_rain ht
   have hcl := hl c (by simp)
   have hnew : putT t acc = acc ++ [t] := putT_new fun u hu => by
    obtain ⟨q1, q2⟩ := ha u hu
    rw [eqT, rl_inj (by rw [hr, hcl, q1]) (by rw [hr, hcl]; exact hG), hr]
    simp only [decide_eq_false_iff_not]
    intro e
    exact q2 (by simp [e])
   have e : addT v bl c acc = acc ++ [t] := by simp only [addT, ht, hnew]
   rw [e, add_all hG cs (acc ++ [t]) h2 (fun c hc => hl c (by simp [hc])) fun u hu => ?_]
   ·simp
   ·rcases List.mem_append.1 hu with hu | hu
    ·exact ⟨(ha u hu).1, fun h => (ha u hu).2 (by simp [h])⟩
    ·simp only [List.mem_singleton] at hu
     subst hu
     rw [hr]
     exact ⟨hcl, fun h => h1 c h rfl⟩
theorem add_weather {v : Farm} (hv : Vd v) (bl : List Int) : (leafs v.rain []).foldl (fun ts c => addT v bl c ts) [] = truths v bl := by
 rw [add_all (G := v.rain.length) hv.nra.2 _ _ (leafs_ne _ _) (fun c hc => by have := leafs_len _ _ _ hc; simpa using this) (by simp), leafs_weather]
 rfl
theorem data_key (t : Truth) : Data (tKey t) := data_agg (datas_arrA 7 _)
theorem data_val (t : Truth) : Data (tVal t) := data_agg (datas_arrA 4 _)
theorem known_ok (ts : List Truth) (k : Nat) : okBlk k (.map (ts.map kvT)) := by
 simp only [okBlk]
 intro q hq
 obtain ⟨t, _, rfl⟩ := List.mem_map.1 hq
 exact ⟨ok_data (data_key t) k, ok_data (data_val t) k⟩
theorem put_map (σ τ : St) (F : ABlk) (ts : List Truth) (t : Truth) : vMapset (.agg (List.replicate 7 .i)) (σ ++ (F :: .map (ts.map kvT) :: τ)) (.map (σ.length + 1)) (tKey t) (tVal t) = some (σ ++ (F :: .map ((putT t ts).map kvT) :: τ)) := by
 have h1 : (σ ++ (F :: .map (ts.map kvT) :: τ))[σ.length + 1]? = some (.map (ts.map kvT)) := by rw [st_get]; rfl
 have h2 : (σ ++ (F :: .map (ts.map kvT) :: τ)).set (σ.length + 1) (.map ((putT t ts).map kvT)) = σ ++ (F :: .map ((putT t ts).map kvT) :: τ) := by rw [st_set]; rfl
 simp only [vMapset, key_eq, h1, setKey_put, Option.map_some, h2, Option.isSome_some]
 simp
theorem flArr_val (v : Farm) (c bl : List Int) : (fun q => (setB (flAt ⟨c, flTo v c bl v.plots.length⟩ q) : Int)) = flArr v c bl v.plots.length := by
 funext q
 simp only [flAt, flTo, flArr]
 by_cases h : q < v.plots.length
 ·simp [h]
 ·simp [h, setB]
theorem flGo_truth (v : Farm) (c bl : List Int) : ((flGo v c bl v.plots.length 0).2 = true → truthOf v bl c = some ⟨c, flTo v c bl v.plots.length⟩ ∧ (flGo v c bl v.plots.length 0).1 = v.plots.length) ∧ ((flGo v c bl v.plots.length 0).2 = false → truthOf v bl c = none) := by
 obtain ⟨h1, h2⟩ := flGo_all v c bl v.plots.length 0
 have e : allFl v c bl v.plots.length = (flGo v c bl v.plots.length 0).2 := by
  rw [h1, allFl, flTo, List.all_map]
  congr 1
  funext i
  simp
 rw [truthOf_eq, e]
 constructor
 ·intro h
  rw [if_pos h]
  exact ⟨rfl, by rw [h2 h]; omega⟩
 ·intro h
  rw [h]
  rfl
end Go.Am.Room
set_option maxRecDepth 8000
namespace Go.Am.Room
def QXFFaP6 := And.intro @encFarm_eq (And.intro @farmCells_eq (And.intro @encPlot_eq (And.intro @encLook_eq (And.intro @encSpan_eq (And.intro @S_mapPlot (And.intro @S_mapLook (And.intro @S_mapSpan (And.intro @List.length_append.{0} (And.intro @arrA_len (And.intro @arrA_take (And.intro @arrA_drop (And.intro @S_arrA (And.intro @arrA_cell (And.intro @Nat.mul_one (And.intro @Int.toNat_natCast (And.intro @db_0 (And.intro @db_1 (And.intro @db_2 (And.intro @db_3 (And.intro @db_4 (And.intro @db_5 (And.intro @db_6 (And.intro @db_7 (And.intro @db_8 (And.intro @C_yield (And.intro @K_yield (@seven_len)))))))))))))))))))))))))))
def lookS (σ : St) (v : Farm) (b : Nat) (ts : List Truth) : St := σ ++ [.cells (farmCells v), .map (ts.map kvT), .cells (db v b (σ.length + 1))]
theorem lookS_eq (σ : St) (v : Farm) (b : Nat) (ts : List Truth) (τ : St) : lookS σ v b ts ++ τ = σ ++ (.cells (farmCells v) :: .map (ts.map kvT) :: .cells (db v b (σ.length + 1)) :: τ) := by simp [lookS]
theorem lookS_at (σ : St) (v : Farm) (b : Nat) : ObjAt (lookS σ v b) (db v b (σ.length + 1)) (σ.length + 2) (σ.length + 3) :=
 ⟨fun ts => by simp [lookS], fun ts => by rw [lookS, M_base]; rfl, by omega⟩
theorem weather_does (σ : St) (p : Nat) : Does T (.func 101 [] []) [.ptr p 0] σ (.func 109 [] [.ptr σ.length 0]) (σ ++ [.cells [.ptr p 0]]) := by
 refine .callf (.call (af := a101) rfl (by simp [a101]) (run_wp (K := fun j e σ1 => (j = none ∨ j = some .ret) ∧ Env.get e 2 = .func 109 [] [.ptr σ.length 0] ∧ σ1 = σ ++ [.cells [.ptr p 0]]) ?_ fun o ho => ho) fun o ho => ?_)
 ·(repeat (first | simp only [↓QA, QB, Nat.reduceLT, reduceIte, Nat.reduceEqDiff, Nat.reduceAdd, Nat.reduceLeDiff, Nat.reduceMul, Nat.reduceBEq, QXFFaP6, a101] | refine rd0 rfl ?_))
  try simp
 ·exact ⟨ho.1, _, rfl, .inl ⟨ho.2.1, ho.2.2⟩⟩
theorem look_yields (σ : St) (v : Farm) (b : Nat) (bl : List Int) (hv : Vd v) (hb : ButIs b bl) (e : Env) (e5 : Env.get e 5 = .ptr (σ.length + 3) 0) :
  YieldsS (fun ts => lookS σ v b ts ++ ([.cells [.ptr (σ.length + 2) 0]] ++ [.cells [.ptr (σ.length + 2) 0], .loop .ready none e [16] (.reg [⟨(some 6), .alloc [(.int .i64 0), (.int .i64 0), (.int .i64 0), (.int .i64 0), (.int .i64 0), (.int .i64 0), (.int .i64 0)], none⟩, ⟨none, .store 7 (.t 6) (.t 16), none⟩]) F86_0]))
   (fun ts => lookS σ v b ts ++ ([.cells [.ptr (σ.length + 2) 0]] ++ [.cells [.ptr (σ.length + 2) 0], .loop .done (some .ret) e [16] (.reg [⟨(some 6), .alloc [(.int .i64 0), (.int .i64 0), (.int .i64 0), (.int .i64 0), (.int .i64 0), (.int .i64 0), (.int .i64 0)], none⟩, ⟨none, .store 7 (.t 6) (.t 16), none⟩]) F86_0]))
   (σ.length + 3 + 1 + 1) (fun t => [.agg (arrA 7 (rl t))]) (RainOk v) (fun c ts => (addT v bl c ts, true)) := by
 refine yields_ofS (lookS_at σ v b) (fun _ => [.cells [.ptr (σ.length + 2) 0]]) (fun _ => [.cells [.ptr (σ.length + 2) 0]]) 1 (fun _ => rfl) (fun _ => rfl) .ret e [16] (fun t => [.agg (arrA 7 (rl t))]) (fun _ => rfl) _ _ ?_
 intro c hc ts τ
 simp only [bindPs, Env.put]
 rw [lookS_eq]
 (repeat (first | simp only [↓QA, QB, Nat.reduceLT, reduceIte, Nat.reduceEqDiff, Nat.reduceAdd, Nat.reduceLeDiff, Nat.reduceMul, Nat.reduceBEq, QXFFaP6] | refine rd0 rfl ?_))
 refine ⟨[.cells (arrA 7 (rl c))], by simp [lookS, farmCells_eq], ?_⟩
 rw [lookS_eq]
 obtain ⟨hg1, hg2⟩ := flGo_truth v c bl
 have hfl := fun σ' hp => flowers_same v hv b (σ.length + 1) (σ.length + 2) bl c hb hc σ' hp
 obtain ⟨r, hr⟩ : ∃ r, flGo v c bl v.plots.length 0 = r := ⟨_, rfl⟩
 rw [hr] at hg1 hg2
 simp only [hr] at hfl
 have hp : ∀ (a0 a1 : ABlk) (τ : St), cellsAt (σ ++ (a0 :: a1 :: .cells (db v b (σ.length + 1)) :: τ)) (σ.length + 2) = some (db v b (σ.length + 1)) := fun a0 a1 τ => by rw [M_base]; rfl
 (repeat (first | simp only [↓QA, QB, Nat.reduceLT, reduceIte, Nat.reduceEqDiff, Nat.reduceAdd, Nat.reduceLeDiff, Nat.reduceMul, Nat.reduceBEq, QXFFaP6, F86_0, e5] | refine rd0 rfl ?_))
 refine callK_same (hfl _ (hp _ _ _)) ?_
 cases hr2 : r.2
 ·have ht := hg2 hr2
  have ha : addT v bl c ts = ts := by simp only [addT, ht]
  (repeat (first | simp only [↓QA, QB, Nat.reduceLT, reduceIte, Nat.reduceEqDiff, Nat.reduceAdd, Nat.reduceLeDiff, Nat.reduceMul, Nat.reduceBEq, QXFFaP6] | refine rd0 rfl ?_))
  refine .inl ⟨[.cells (arrA 7 (rl c)), .cells (arrA 4 (flArr v c bl r.1))], ?_⟩
  rw [ha]
  simp [lookS, farmCells_eq]
 ·obtain ⟨ht, hr1⟩ := hg1 hr2
  have ha : addT v bl c ts = putT ⟨c, flTo v c bl v.plots.length⟩ ts := by simp only [addT, ht]
  have hpm : ∀ (F : ABlk) (τ : St), vMapset (.agg (List.replicate 7 .i)) (σ ++ (F :: .map (ts.map kvT) :: τ)) (.map (σ.length + 1)) (.agg (arrA 7 (rl c))) (.agg (arrA 4 (flArr v c bl v.plots.length))) = some (σ ++ (F :: .map ((putT ⟨c, flTo v c bl v.plots.length⟩ ts).map kvT) :: τ)) := fun F τ => by
   have := put_map σ τ F ts ⟨c, flTo v c bl v.plots.length⟩
   simp only [tVal, flArr_val, tKey] at this
   exact this
  rw [hr1]
  (repeat (first | simp only [↓QA, QB, Nat.reduceLT, reduceIte, Nat.reduceEqDiff, Nat.reduceAdd, Nat.reduceLeDiff, Nat.reduceMul, Nat.reduceBEq, QXFFaP6, e5, hpm] | refine rd0 rfl ?_))
  refine .inl ⟨[.cells (arrA 7 (rl c)), .cells (arrA 4 (flArr v c bl v.plots.length))], ?_⟩
  rw [ha]
  simp [lookS, farmCells_eq]
end Go.Am.Room
set_option maxRecDepth 8000
namespace Go.Am.Room
def QXFFaP7 := And.intro @encFarm_eq (And.intro @farmCells_eq (And.intro @encPlot_eq (And.intro @encLook_eq (And.intro @encSpan_eq (And.intro @S_mapPlot (And.intro @S_mapLook (And.intro @S_mapSpan (And.intro @List.length_append.{0} (And.intro @Nat.mul_one (@Int.toNat_natCast))))))))))
theorem look_range (σ : St) (v : Farm) (b : Nat) (bl : List Int) (hv : Vd v) (hb : ButIs b bl) (e : Env) (e5 : Env.get e 5 = .ptr (σ.length + 3) 0) (e15 : Env.get e 15 = .func 109 [] [.ptr (σ.length + 3 + 1) 0]) (K : KJ) (σ0 : St)
  (hσ : σ0 = lookS σ v b [] ++ ([.cells [.ptr (σ.length + 2) 0]] ++ [.cells [.ptr (σ.length + 2) 0]])) (hT : ∀ τ, K none e (lookS σ v b (truths v bl) ++ (.cells [.ptr (σ.length + 2) 0] :: τ))) :
  rK (K := ⟨K⟩) T (.rangeFunc (.t 15) [16] (.reg [⟨(some 6), .alloc [(.int .i64 0), (.int .i64 0), (.int .i64 0), (.int .i64 0), (.int .i64 0), (.int .i64 0), (.int .i64 0)], none⟩, ⟨none, .store 7 (.t 6) (.t 16), none⟩]) F86_0) e σ0 := by
 subst hσ
 have hy := look_yields σ v b bl hv hb e e5
 have hW : WFam (fun ts => lookS σ v b ts ++ ([.cells [.ptr (σ.length + 2) 0]] ++ [.cells [.ptr (σ.length + 2) 0], .loop .ready none e [16] (.reg [⟨(some 6), .alloc [(.int .i64 0), (.int .i64 0), (.int .i64 0), (.int .i64 0), (.int .i64 0), (.int .i64 0), (.int .i64 0)], none⟩, ⟨none, .store 7 (.t 6) (.t 16), none⟩]) F86_0])) v b (σ.length + 1) (σ.length + 2) (σ.length + 3 + 1) (σ.length + 3 + 1 + 2) := by
  refine ⟨fun ts => by simp [lookS], fun ts τ => ?_, fun ts τ => ?_⟩
  ·rw [List.append_assoc, lookS_eq, M_base]; rfl
  ·rw [List.append_assoc, lookS_eq, show σ.length + 3 + 1 = σ.length + 4 from rfl, M_base]; rfl
 have hrun := weather1_run hW (fun c ts => (addT v bl c ts, true)) hy hv []
 have hit : iterF (fun c ts => (addT v bl c ts, true)) (leafs v.rain []) [] = (truths v bl, true) := by
  rw [iterF_go (fun _ _ => rfl)]
  simp only
  rw [add_weather hv]
 rw [hit] at hrun
 exact range_ofS (lookS_at σ v b) (fun _ => [.cells [.ptr (σ.length + 2) 0]]) (fun _ => [.cells [.ptr (σ.length + 2) 0]]) 1 (fun _ => rfl) (fun _ => rfl) .ret e 15 [16] _ _ _ e15 (truths v bl, true) [] hrun K (fun τ _ => hT _) (fun τ h => by cases h)
theorem look_does (σ : St) (v : Farm) (b : Nat) (bl : List Int) (hv : Vd v) (hb : ButIs b bl) : Does T (.func 86 [] []) [encFarm v, .int .i64 b] σ (.ptr (σ.length + 2) 0) (lookS σ v b (truths v bl)) := by
 have hlen : ∀ ts, (lookS σ v b ts).length = σ.length + 3 := fun ts => by simp [lookS]
 refine .callf (.call (af := a86) rfl (by simp [a86]) (Run.trim (R := fun o => o.j = some .ret ∧ Env.get o.env 4 = .ptr (σ.length + 2) 0 ∧ ∃ τ, o.σ = lookS σ v b (truths v bl) ++ τ)
   (Q := fun o => o.j = some .ret ∧ Env.get o.env 4 = .ptr (σ.length + 2) 0 ∧ o.σ = lookS σ v b (truths v bl)) (run_wp (K := fun j e σ1 => j = some .ret ∧ Env.get e 4 = .ptr (σ.length + 2) 0 ∧ ∃ τ, σ1 = lookS σ v b (truths v bl) ++ τ) ?_ fun o ho => ho) fun o ho => ?_) fun o ho => ?_)
 ·(repeat (first | simp only [↓QA, QB, Nat.reduceLT, reduceIte, Nat.reduceEqDiff, Nat.reduceAdd, Nat.reduceLeDiff, Nat.reduceMul, Nat.reduceBEq, QXFFaP7, a86] | refine rd0 rfl ?_))
  refine callK_do (weather_does _ _) ?_
  (repeat (first | simp only [↓QA, QB, Nat.reduceLT, reduceIte, Nat.reduceEqDiff, Nat.reduceAdd, Nat.reduceLeDiff, Nat.reduceMul, Nat.reduceBEq, QXFFaP7] | refine rd0 rfl ?_))
  refine look_range σ v b bl hv hb _ ?_ ?_ _ _ ?_ fun τ => ?_
  ·try simp only [TrimX, QE, Nat.reduceLT, reduceIte, Nat.reduceEqDiff, Nat.reduceAdd, Nat.reduceLeDiff, Nat.reduceMul, Nat.reduceBEq, QXFFaP7]
  ·try simp only [TrimX, QE, Nat.reduceLT, reduceIte, Nat.reduceEqDiff, Nat.reduceAdd, Nat.reduceLeDiff, Nat.reduceMul, Nat.reduceBEq, QXFFaP7]
   try simp
  ·simp [lookS, db, farmCells_eq]
  ·rw [lookS_eq]
   (repeat (first | simp only [↓QA, QB, Nat.reduceLT, reduceIte, Nat.reduceEqDiff, Nat.reduceAdd, Nat.reduceLeDiff, Nat.reduceMul, Nat.reduceBEq, QXFFaP7] | refine rd0 rfl ?_))
   exact ⟨.cells [.ptr (σ.length + 2) 0] :: τ, by simp [lookS, farmCells_eq]⟩
 ·obtain ⟨hj, h4, τ, hs⟩ := ho
  refine ⟨[(4, .ptr (σ.length + 2) 0)], σ.length + 3, ⟨by omega, by rw [hs]; simp [hlen], fun q hq => ?_, fun i hi => ?_⟩, hj, by simp [Env.get], ?_⟩
  ·simp only [List.mem_singleton] at hq
   subst hq
   exact ⟨h4.symm, by simp [okV]⟩
  ·rw [hs]
   by_cases h : i < σ.length
   ·refine .inl ⟨h, .inl ?_⟩
    rw [lookS_eq, List.getElem?_append_left h]
   ·refine .inr ?_
    obtain ⟨k, rfl⟩ : ∃ k, i = σ.length + k := ⟨i - σ.length, by omega⟩
    rw [lookS_eq, st_get]
    have hk : k < 3 := by omega
    match k, hk with
    | 0, _ => exact ⟨_, rfl, okVs_up _ (data_farm v).1⟩
    | 1, _ => exact ⟨_, rfl, known_ok _ _⟩
    | 2, _ => exact ⟨_, rfl, db_ok v b (by omega)⟩
  ·simp only
   rw [hs, ← hlen (truths v bl), List.take_left]
 ·exact ⟨.inr ho.1, _, rfl, .inl ⟨ho.2.1, ho.2.2⟩⟩
end Go.Am.Room
set_option maxRecDepth 8000
namespace Go.Am.Room
def QXFFaP8 := And.intro @encFarm_eq (And.intro @farmCells_eq (And.intro @encPlot_eq (And.intro @encLook_eq (And.intro @encSpan_eq (And.intro @S_mapPlot (And.intro @S_mapLook (And.intro @S_mapSpan (And.intro @List.length_append.{0} (And.intro @Nat.mul_one (And.intro @Int.toNat_natCast (And.intro @T_sapp (And.intro @T_sapp0 (And.intro @db_0 (And.intro @db_1 (And.intro @db_2 (And.intro @db_3 (And.intro @db_4 (And.intro @db_5 (And.intro @db_6 (And.intro @db_7 (@db_8)))))))))))))))))))))
def untilE : List Int → Int
 | a :: m :: rest => if inR a 0 m then untilE rest else 7
 | _ => 0
def litI (ns : List Int) : AV := .lit (ns.map (.int .i64)) true none
theorem litI_eq (ns : List Int) : litI ns = .lit (ns.map (.int .i64)) true none := by simp only [litI]
theorem until_does (ns : List Int) (σ : St) : Does T (.func 71 [] []) [litI ns] σ (.func 96 [] [.ptr σ.length 0]) (σ ++ [.cells [litI ns]]) := by
 refine .callf (.call (af := a71) rfl (by simp [a71]) (run_wp (K := fun j e σ1 => (j = none ∨ j = some .ret) ∧ Env.get e 2 = .func 96 [] [.ptr σ.length 0] ∧ σ1 = σ ++ [.cells [litI ns]]) ?_ fun o ho => ho) fun o ho => ⟨ho.1, _, rfl, .inl ⟨ho.2.1, ho.2.2⟩⟩)
 (repeat (first | simp only [↓QA, QB, Nat.reduceLT, reduceIte, Nat.reduceEqDiff, Nat.reduceAdd, Nat.reduceLeDiff, Nat.reduceMul, Nat.reduceBEq, QXFFaP8, a71, litI_eq] | refine rd0 rfl ?_))
 try simp
theorem until1_same (ns : List Int) (hn : ns.length ≤ 100) (q : Nat) (σ : St) (hq : cellsAt σ q = some [litI ns]) : Same T (.func 96 [] [.ptr q 0]) [] σ (.int .i64 (untilE ns)) := by
 refine same_fn (af := a96) rfl (by simp [a96]) ?_
 obtain ⟨R, hR⟩ : ∃ R, untilE ns = R := ⟨_, rfl⟩
 have hql := cells_lt hq
 rw [hR]
 rw [litI_eq] at hq
 (repeat (first | simp only [↓QA, QB, Nat.reduceLT, reduceIte, Nat.reduceEqDiff, Nat.reduceAdd, Nat.reduceLeDiff, Nat.reduceMul, Nat.reduceBEq, QXFFaP8, a96] | refine rd0 rfl ?_))
 refine loopE (S := Nat) 0 (fun i => untilE (ns.drop i) = R ∧ i ≤ ns.length) (fun i => ns.length - i) (fun i => [(0, .ptr q 0), (2, .int .i64 i)]) (fun _ => σ) ⟨by simpa using hR, Nat.zero_le _⟩ rfl ?_ fun i hi => ?_
 ·try simp only [TrimX, QE, Nat.reduceLT, reduceIte, Nat.reduceEqDiff, Nat.reduceAdd, Nat.reduceLeDiff, Nat.reduceMul, Nat.reduceBEq, QXFFaP8]
  try simp
 ·obtain ⟨hi, hil⟩ := hi
  have hw1 : IntKind.i64.wrap ((i : Int) + 1) = ((i + 1 : Nat) : Int) := by rw [wrap64 ⟨by omega, by omega⟩]; omega
  have hw2 : IntKind.i64.wrap ((i : Int) + 2) = ((i + 2 : Nat) : Int) := by rw [wrap64 ⟨by omega, by omega⟩]; omega
  (repeat (first | simp only [↓QA, QB, Nat.reduceLT, reduceIte, Nat.reduceEqDiff, Nat.reduceAdd, Nat.reduceLeDiff, Nat.reduceMul, Nat.reduceBEq, QXFFaP8, L96_0, hq, hw1] | refine rd0 rfl ?_))
  refine iteP_intro (fun h => ?_) fun h => ?_
  ·have hi2 : i + 1 < ns.length := by
    have h0 : ((i + 1 : Nat) : Int) < (ns.length : Int) := by simpa using h
    omega
   have hi1 : i < ns.length := by omega
   rw [List.drop_eq_getElem_cons hi1, List.drop_eq_getElem_cons hi2, untilE] at hi
   (repeat (first | simp only [↓QA, QB, Nat.reduceLT, reduceIte, Nat.reduceEqDiff, Nat.reduceAdd, Nat.reduceLeDiff, Nat.reduceMul, Nat.reduceBEq, QXFFaP8, hq, hw1, hi1, hi2] | refine rd0 rfl ?_))
   ((first | refine callK_v (beyond_ok 0 ns[i + 1] [ns[i]] (by simp)) (by simp [clr, clrs, ints]) (by simp [okV, okVs]) ?_ | refine callD_v (beyond_ok 0 ns[i + 1] [ns[i]] (by simp)) (by simp [clr, clrs, ints]) (by simp [okV, okVs]) ?_); (repeat (first | simp only [↓QA, QB, Nat.reduceLT, reduceIte, Nat.reduceEqDiff, Nat.reduceAdd, Nat.reduceLeDiff, Nat.reduceMul, Nat.reduceBEq, QXFFaP8, beyond1, hq, hw1, hi1, hi2] | refine rd0 rfl ?_)))
   cases hb : inR ns[i] 0 ns[i + 1]
   ·rw [hb] at hi
    simp only [Bool.false_eq_true, if_false] at hi
    subst hi
    (repeat (first | simp only [↓QA, QB, Nat.reduceLT, reduceIte, Nat.reduceEqDiff, Nat.reduceAdd, Nat.reduceLeDiff, Nat.reduceMul, Nat.reduceBEq, QXFFaP8] | refine rd0 rfl ?_))
    refine baseR [] (by first | rfl | simp) ?_
    try simp only [QS, QC, Nat.reduceLT, reduceIte, Nat.reduceEqDiff, Nat.reduceAdd, Nat.reduceLeDiff, Nat.reduceMul, Nat.reduceBEq, QXFFaP8]
   ·rw [hb] at hi
    simp only [if_true] at hi
    (repeat (first | simp only [↓QA, QB, Nat.reduceLT, reduceIte, Nat.reduceEqDiff, Nat.reduceAdd, Nat.reduceLeDiff, Nat.reduceMul, Nat.reduceBEq, QXFFaP8, hw2] | refine rd0 rfl ?_))
    refine ⟨i + 2, ⟨hi, by omega⟩, by omega, ?_⟩
    try simp only [TrimX, QE, Nat.reduceLT, reduceIte, Nat.reduceEqDiff, Nat.reduceAdd, Nat.reduceLeDiff, Nat.reduceMul, Nat.reduceBEq, QXFFaP8, hw2, hql]
    try simp
  ·have hi2 : ¬ i + 1 < ns.length := by
    have h0 : ¬ ((i + 1 : Nat) : Int) < (ns.length : Int) := by simpa using h
    omega
   have hz : untilE (ns.drop i) = 0 := by
    rcases Nat.lt_or_ge i ns.length with hlt | hge
    ·rw [List.drop_eq_getElem_cons hlt, List.drop_eq_nil_of_le (by omega)]; rfl
    ·rw [List.drop_eq_nil_of_le hge]; rfl
   rw [hz] at hi
   subst hi
   (repeat (first | simp only [↓QA, QB, Nat.reduceLT, reduceIte, Nat.reduceEqDiff, Nat.reduceAdd, Nat.reduceLeDiff, Nat.reduceMul, Nat.reduceBEq, QXFFaP8] | refine rd0 rfl ?_))
   refine baseR [] (by first | rfl | simp) ?_
   try simp only [QS, QC, Nat.reduceLT, reduceIte, Nat.reduceEqDiff, Nat.reduceAdd, Nat.reduceLeDiff, Nat.reduceMul, Nat.reduceBEq, QXFFaP8]
def nobody : Int := -1099511627776
def askErr (v : Farm) (plot eo : Int) : Int := if (check v).2.2 = 0 then (if plot ≠ nobody ∧ inR plot 0 ((v.plots.length : Int) - 1) = false then 4 else eo) else (check v).2.2
theorem look_len (σ τ : St) (v : Farm) (b : Nat) (ts : List Truth) (m : Nat) (hm : m = σ.length + 1) : lenAV 2 (σ ++ (.cells (farmCells v) :: .map (ts.map kvT) :: τ)) (.map m) = some ts.length := by
 subst hm
 have : (σ ++ (ABlk.cells (farmCells v) :: .map (ts.map kvT) :: τ))[σ.length + 1]? = some (.map (ts.map kvT)) := by rw [st_get]; rfl
 simp only [lenAV, this, List.length_map]
def EnterQ (E : Int) (σ σ' : St) (a b : AV) (σ1 : St) : Prop := (E ≠ 0 ∧ a = .nilPtr ∧ b = .int .i64 E ∧ ∃ τ, σ1 = σ ++ τ) ∨ (E = 0 ∧ a = .ptr (σ.length + 3) 0 ∧ b = .int .i64 0 ∧ σ1 = σ')
theorem enter_run (v : Farm) (hf : Fits v) (plot eo : Int) (F : AV) (σ : St) (hF : ∀ τ, Same T F [] (σ ++ τ) (.int .i64 eo)) :
  Run T (.callv (.func 70 [] []) [encFarm v, .int .i64 plot, F] σ) fun o =>
   (errKnown v (askErr v plot eo) ≠ 0 ∧ o.v = .tuple [.nilPtr, .int .i64 (errKnown v (askErr v plot eo))] ∧ o.σ = σ) ∨
   (errKnown v (askErr v plot eo) = 0 ∧ o.v = .tuple [.ptr (σ.length + 3) 0, .int .i64 0] ∧ o.σ = lookS (σ ++ [.cells (farmCells v)]) v 0 (truths v [])) := by
 have hfp := hf.plots
 obtain ⟨E, hE⟩ : ∃ E, errKnown v (askErr v plot eo) = E := ⟨_, rfl⟩
 rw [hE]
 refine .callf (.call (af := a70) rfl (by simp [a70]) (run_wp (K := fun j e σ1 => (j = none ∨ j = some .ret) ∧ EnterQ E σ (lookS (σ ++ [.cells (farmCells v)]) v 0 (truths v [])) (Env.get e 6) (Env.get e 7) σ1) ?_ fun o ho => ho) fun o ho => ?_)
 ·have hws : IntKind.i64.wrap ((v.plots.length : Int) - 1) = (v.plots.length : Int) - 1 := wrap64 ⟨by omega, by omega⟩
  (repeat (first | simp only [↓QA, QB, Nat.reduceLT, reduceIte, Nat.reduceEqDiff, Nat.reduceAdd, Nat.reduceLeDiff, Nat.reduceMul, Nat.reduceBEq, QXFFaP8, a70] | refine rd0 rfl ?_))
  ((first | refine callK_d (check_ok v hf) rfl dd ?_ | refine callD_d (check_ok v hf) rfl dd ?_); (repeat (first | simp only [↓QA, QB, Nat.reduceLT, reduceIte, Nat.reduceEqDiff, Nat.reduceAdd, Nat.reduceLeDiff, Nat.reduceMul, Nat.reduceBEq, QXFFaP8, enc3] | refine rd0 rfl ?_)))
  cases h0 : ((check v).2.2 == 0)
  ·have h0' : (check v).2.2 ≠ 0 := by simpa using h0
   have : E = (check v).2.2 := by rw [← hE, askErr, if_neg h0', errKnown, if_neg h0']
   (repeat (first | simp only [↓QA, QB, Nat.reduceLT, reduceIte, Nat.reduceEqDiff, Nat.reduceAdd, Nat.reduceLeDiff, Nat.reduceMul, Nat.reduceBEq, QXFFaP8, h0] | refine rd0 rfl ?_))
   exact .inl ⟨by rw [this]; exact h0', rfl, by rw [this], _, rfl⟩
  ·have h0' : (check v).2.2 = 0 := by simpa using h0
   have hv := vd_of_check h0'
   (repeat (first | simp only [↓QA, QB, Nat.reduceLT, reduceIte, Nat.reduceEqDiff, Nat.reduceAdd, Nat.reduceLeDiff, Nat.reduceMul, Nat.reduceBEq, QXFFaP8, h0] | refine rd0 rfl ?_))
   by_cases hb : plot ≠ nobody ∧ inR plot 0 ((v.plots.length : Int) - 1) = false
   ·have : E = 4 := by rw [← hE, askErr, if_pos h0', if_pos hb]; rfl
    have h1 : (plot == -1099511627776) = false := by have := hb.1; simpa [nobody] using this
    (repeat (first | simp only [↓QA, QB, Nat.reduceLT, reduceIte, Nat.reduceEqDiff, Nat.reduceAdd, Nat.reduceLeDiff, Nat.reduceMul, Nat.reduceBEq, QXFFaP8, h1, hws] | refine rd0 rfl ?_))
    ((first | refine callK_v (beyond_ok 0 ((v.plots.length : Int) - 1) [plot] (by simp)) (by simp [clr, clrs, ints]) (by simp [okV, okVs]) ?_ | refine callD_v (beyond_ok 0 ((v.plots.length : Int) - 1) [plot] (by simp)) (by simp [clr, clrs, ints]) (by simp [okV, okVs]) ?_); (repeat (first | simp only [↓QA, QB, Nat.reduceLT, reduceIte, Nat.reduceEqDiff, Nat.reduceAdd, Nat.reduceLeDiff, Nat.reduceMul, Nat.reduceBEq, QXFFaP8, beyond1, hb.2, h1] | refine rd0 rfl ?_)))
    exact .inl ⟨by omega, rfl, by rw [this], _, rfl⟩
   have ha : askErr v plot eo = eo := by rw [askErr, if_pos h0', if_neg hb]
   cases h1 : (plot == -1099511627776)
   case' true =>
    (repeat (first | simp only [↓QA, QB, Nat.reduceLT, reduceIte, Nat.reduceEqDiff, Nat.reduceAdd, Nat.reduceLeDiff, Nat.reduceMul, Nat.reduceBEq, QXFFaP8, h1] | refine rd0 rfl ?_))
   case' false =>
    have h1' : plot ≠ nobody := by simpa [nobody] using h1
    have h2 : inR plot 0 ((v.plots.length : Int) - 1) = true := by
     cases h : inR plot 0 ((v.plots.length : Int) - 1)
     ·exact absurd ⟨h1', h⟩ hb
     ·rfl
    (repeat (first | simp only [↓QA, QB, Nat.reduceLT, reduceIte, Nat.reduceEqDiff, Nat.reduceAdd, Nat.reduceLeDiff, Nat.reduceMul, Nat.reduceBEq, QXFFaP8, h1, hws] | refine rd0 rfl ?_))
    ((first | refine callK_v (beyond_ok 0 ((v.plots.length : Int) - 1) [plot] (by simp)) (by simp [clr, clrs, ints]) (by simp [okV, okVs]) ?_ | refine callD_v (beyond_ok 0 ((v.plots.length : Int) - 1) [plot] (by simp)) (by simp [clr, clrs, ints]) (by simp [okV, okVs]) ?_); (repeat (first | simp only [↓QA, QB, Nat.reduceLT, reduceIte, Nat.reduceEqDiff, Nat.reduceAdd, Nat.reduceLeDiff, Nat.reduceMul, Nat.reduceBEq, QXFFaP8, beyond1, h2, h1] | refine rd0 rfl ?_)))
   all_goals
    rw [ha] at hE
    refine callK_same (hF _) ?_
    cases h3 : (eo == 0)
    ·have h3' : eo ≠ 0 := by simpa using h3
     have : E = eo := by rw [← hE, errKnown, if_neg h3']
     (repeat (first | simp only [↓QA, QB, Nat.reduceLT, reduceIte, Nat.reduceEqDiff, Nat.reduceAdd, Nat.reduceLeDiff, Nat.reduceMul, Nat.reduceBEq, QXFFaP8, h3] | refine rd0 rfl ?_))
     exact .inl ⟨by rw [this]; exact h3', rfl, by rw [this], _, rfl⟩
    ·have h3' : eo = 0 := by simpa using h3
     subst h3'
     have hlk := fun σ' => look_does σ' v 0 [] hv but0
     (repeat (first | simp only [↓QA, QB, Nat.reduceLT, reduceIte, Nat.reduceEqDiff, Nat.reduceAdd, Nat.reduceLeDiff, Nat.reduceMul, Nat.reduceBEq, QXFFaP8, h3] | refine rd0 rfl ?_))
     refine callK_do (hlk _) ?_
     rw [lookS]
     have hn1 : σ.length + 1 + 2 = σ.length + 3 := rfl
     have hn2 : σ.length + 1 + 1 = σ.length + 2 := rfl
     have hll := look_len (σ ++ [.cells (farmCells v)]) [.cells (db v 0 (σ.length + 1 + 1))] v 0 (truths v []) (σ.length + 1 + 1) (by simp)
     simp only [farmCells_eq, List.append_assoc, List.cons_append, List.nil_append, hn2] at hll
     cases hg : (((truths v []).length : Int) == 0)
     ·have hne : (truths v []).isEmpty = false := by
       cases h : truths v [] with
       | nil => rw [h] at hg; cases hg
       | cons a b => rfl
      have : E = 0 := by rw [← hE, errKnown, if_pos rfl, hne]; rfl
      (repeat (first | simp only [↓QA, QB, Nat.reduceLT, reduceIte, Nat.reduceEqDiff, Nat.reduceAdd, Nat.reduceLeDiff, Nat.reduceMul, Nat.reduceBEq, QXFFaP8, hn1, hn2, hll, hg] | refine rd0 rfl ?_))
      exact .inr ⟨this, rfl, rfl, by simp [lookS, farmCells_eq]⟩
     ·have hne : (truths v []).isEmpty = true := by
       cases h : truths v [] with
       | nil => rfl
       | cons a b => rw [h] at hg; simp at hg; omega
      have : E = 8 := by rw [← hE, errKnown, if_pos rfl, hne]; rfl
      (repeat (first | simp only [↓QA, QB, Nat.reduceLT, reduceIte, Nat.reduceEqDiff, Nat.reduceAdd, Nat.reduceLeDiff, Nat.reduceMul, Nat.reduceBEq, QXFFaP8, hn1, hn2, hll, hg] | refine rd0 rfl ?_))
      exact .inl ⟨by omega, rfl, by rw [this], _, rfl⟩
 ·obtain ⟨hj, hq⟩ := ho
  rcases hq with ⟨h1, h2, h3, τ, h4⟩ | ⟨h1, h2, h3, h4⟩
  ·refine ⟨hj, .tuple [.nilPtr, .int .i64 E], ?_, ?_⟩
   ·show some (AV.tuple [_, _]) = _
    rw [h2, h3]
   ·refine .inr ⟨20, .tuple [.nilPtr, .int .i64 E], .tuple [.nilPtr, .int .i64 E], by simp [snap, snaps], .inl rfl, fun i hi => .inl ?_, by rw [h4]; simp, .inl ⟨h1, rfl, by simp [h4]⟩⟩
    rw [h4, List.getElem?_append_left hi]
  ·refine ⟨hj, .tuple [.ptr (σ.length + 3) 0, .int .i64 0], ?_, .inl (.inr ⟨h1, rfl, h4⟩)⟩
   show some (AV.tuple [_, _]) = _
   rw [h2, h3]
def vMrange (σ : St) : AV → Option (AV × St)
 | .map id => match σ[id]? with | some (.map es) => some (.ptr σ.length 0, σ ++ [.miter id es.length (List.range es.length) none]) | _ => none
 | _ => none
def vEntry (σ : St) : AV → Option AV
 | .ptr id 0 =>
  match σ[id]? with
  | some (.miter m n _ (some i)) =>
   match σ[m]? with
   | some (.map es) => if es.length = n then (es[i]?).map fun p => .tuple [p.1, p.2] else none
   | _ => none
  | _ => none
 | _ => none
theorem A_mrange (x : AOpd) (e : Env) (σ : St) : aop (.mrange x) e σ = vMrange σ (x.ev e) := by
 simp only [aop, vMrange]; cases x.ev e <;> rfl
theorem W_mrange (x : AOpd) (d : Option Nat) (os : List AOper) (e : Env) (σ : St) (K : Env → St → Prop) : wpOps T (⟨d, .mrange x, none⟩ :: os) e σ K = bO (K := ⟨fun v σ' => wpOps T os (Env.put e d v) σ' K⟩) (aop (.mrange x) e σ) := by simp only [wpOps, wpOp, bO]
theorem V_mrange {σ : St} {m : Nat} {es : List (AV × AV)} (h : σ[m]? = some (.map es)) : vMrange σ (.map m) = some (.ptr σ.length 0, σ ++ [.miter m es.length (List.range es.length) none]) := by simp only [vMrange, h]
theorem A_entry (x : AOpd) (e : Env) (σ : St) : aop (.entry x) e σ = (vEntry σ (x.ev e)).map (·, σ) := by
 simp only [aop, vEntry]
 cases x.ev e <;> try rfl
 rename_i id off
 cases off with
 | succ o => rfl
 | zero =>
  simp only
  cases σ[id]? with
  | none => rfl
  | some b =>
   cases b <;> try rfl
   rename_i m n left last
   cases last with
   | none => rfl
   | some i =>
    simp only
    cases σ[m]? with
    | none => rfl
    | some b =>
     cases b <;> try rfl
     rename_i es
     simp only
     by_cases h : es.length = n
     ·simp only [h, if_true]
      cases es[i]? <;> rfl
     ·simp only [h, if_false]
      rfl
theorem W_entry (x : AOpd) (d : Option Nat) (os : List AOper) (e : Env) (σ : St) (K : Env → St → Prop) : wpOps T (⟨d, .entry x, none⟩ :: os) e σ K = bO (K := ⟨fun v σ' => wpOps T os (Env.put e d v) σ' K⟩) (aop (.entry x) e σ) := by simp only [wpOps, wpOp, bO]
theorem V_entry {σ : St} {id m n i : Nat} {left : List Nat} {es : List (AV × AV)} {k v : AV} (h1 : σ[id]? = some (.miter m n left (some i))) (h2 : σ[m]? = some (.map es)) (h3 : es.length = n) (h4 : es[i]? = some (k, v)) : vEntry σ (.ptr id 0) = some (.tuple [k, v]) := by
 simp only [vEntry, h1, h2, h3, h4, if_true, Option.map_some]
section
variable {S A : Type} (ts : List A) (kv : A → AV × AV) (m N : Nat) (P : List A → S → Prop) (IE : S → Env) (B : S → St)
def MapK (t : A) (done : List A) (s : S) (left : List Nat) (i : Nat) (K : KJ) : KJ :=
 BackK (S := Bool × S) (fun a => a.1 = false ∧ P (t :: done) a.2) (fun a => if a.1 = true then 1 else 0) (fun a => IE a.2) (fun a => B a.2 ++ [.miter m ts.length left (some i)]) (true, s) K
def mapB (d d2 x j : Nat) (body : ACode) : ACode := .seq (.reg [⟨some d, .mnext (.t x), none⟩, ⟨some d2, .ext (.t d) 0, none⟩]) (.seq (.cond (.t d2) .skip (.jump (.exit j))) body)
theorem mapX {d d2 x j : Nat} {body : ACode} {K : KJ} (hN : ∀ s, (B s).length = N) (hm : ∀ s, (B s)[m]? = some (.map (ts.map kv))) (hx : ∀ s, Env.get (IE s) x = .ptr N 0)
  (step : ∀ done s t i left, P done s → t ∈ ts → ts[i]? = some t → wp T body ((d2, .bool true) :: (d, .tuple [.bool true, (kv t).1, (kv t).2]) :: IE s) (B s ++ [.miter m ts.length left (some i)]) (MapK ts m P IE B t done s left i K))
  (fin : ∀ done s left last, P done s → (∀ t, t ∈ done ↔ t ∈ ts) → K (some (.exit j)) ((d2, .bool false) :: (d, .tuple [.bool false]) :: IE s) (B s ++ [.miter m ts.length left last])) :
  ∀ n left last done s, left.length = n → (∀ t ∈ done, t ∈ ts) → (∀ i t, ts[i]? = some t → i ∈ left ∨ t ∈ done) → P done s →
   RunK T (.loop (mapB d d2 x j body)) (IE s) (B s ++ [.miter m ts.length left last]) K := by
 intro n
 induction n using Nat.strongRecOn with
 | _ n ih =>
  intro left last done s hl hdone hcov hP
  have hml : m < N := by
   have := hm s
   rw [← hN s]
   by_cases h : m < (B s).length
   ·exact h
   ·rw [List.getElem?_eq_none (by omega)] at this; cases this
  have hmap : ∀ (b : ABlk), (B s ++ [b])[m]? = some (.map (ts.map kv)) := fun b => by
   rw [List.getElem?_append_left (by rw [hN]; exact hml)]; exact hm s
  have hit : ∀ (b : ABlk), (B s ++ [b])[N]? = some b := fun b => by
   rw [List.getElem?_append_right (by rw [hN]; exact Nat.le_refl _), hN, Nat.sub_self]; rfl
  have hset : ∀ (b c : ABlk), (B s ++ [b]).set N c = B s ++ [c] := fun b c => by
   rw [List.set_append_right _ _ (by rw [hN]; exact Nat.le_refl _), hN, Nat.sub_self]; rfl
  have hgx : AOpd.ev (IE s) (.t x) = .ptr N 0 := by rw [q_evt]; exact hx s
  have h1 : Run T (.code (mapB d d2 x j body) (IE s) (B s ++ [.miter m ts.length left last])) fun o =>
    (o.j = none ∧ ∃ i t s', i ∈ left ∧ ts[i]? = some t ∧ P (t :: done) s' ∧ o.env = IE s' ∧ o.σ = B s' ++ [.miter m ts.length (left.filter (· ≠ i)) (some i)]) ∨ (o.j ≠ none ∧ K o.j o.env o.σ) := by
   refine .seq (R := fun o => o.j = none ∧ ((left = [] ∧ o.env = (d2, .bool false) :: (d, .tuple [.bool false]) :: IE s ∧ o.σ = B s ++ [.miter m ts.length left last]) ∨
     ∃ i t, i ∈ left ∧ ts[i]? = some t ∧ o.env = (d2, .bool true) :: (d, .tuple [.bool true, (kv t).1, (kv t).2]) :: IE s ∧ o.σ = B s ++ [.miter m ts.length (left.filter (· ≠ i)) (some i)]))
    (.reg (.stepm (x := .t x) rfl rfl hgx (hit _) (hmap _) (by simp) (fun h0 => ?_) fun i k v hi hk => ?_)) (fun o ho _ => ?_) (fun o ho hj => absurd ho.1 hj)
   ·refine .step (v := .bool false) (σ' := B s ++ [.miter m ts.length left last]) rfl (by simp [aop, AOpd.ev, Env.put, Env.get]) (.nil ⟨rfl, .inl ⟨h0, rfl, rfl⟩⟩)
   ·rw [hset]
    rw [List.getElem?_map] at hk
    cases ht : ts[i]? with
    | none => rw [ht] at hk; cases hk
    | some t =>
     rw [ht] at hk
     simp only [Option.map_some, Option.some.injEq] at hk
     refine .step (v := .bool true) (σ' := B s ++ [.miter m ts.length (left.filter (· ≠ i)) (some i)]) rfl (by simp [aop, AOpd.ev, Env.put, Env.get]) (.nil ⟨rfl, .inr ⟨i, t, hi, ht, ?_, rfl⟩⟩)
     rw [hk]
     rfl
   ·obtain ⟨hj, ⟨h0, he, hs⟩ | ⟨i, t, hi, ht, he, hs⟩⟩ := ho
    ·rw [he, hs]
     refine .seq (R := fun o => o.j = some (.exit j) ∧ K o.j o.env o.σ) (.cond false (by simp [AOpd.ev, Env.get]) (.jump ⟨rfl, ?_⟩)) (fun o ho hn => by rw [ho.1] at hn; cases hn) fun o ho hj => .inr ⟨hj, ho.2⟩
     refine fin done s left last hP fun t => ⟨hdone t, fun htm => ?_⟩
     obtain ⟨i, hi, rfl⟩ := List.getElem_of_mem htm
     rcases hcov i ts[i] (List.getElem?_eq_getElem hi) with h | h
     ·rw [h0] at h; cases h
     ·exact h
    ·rw [he, hs]
     refine .seq (R := fun o => o.j = none ∧ o.env = (d2, .bool true) :: (d, .tuple [.bool true, (kv t).1, (kv t).2]) :: IE s ∧ o.σ = B s ++ [.miter m ts.length (left.filter (· ≠ i)) (some i)]) (.cond true (by simp [AOpd.ev, Env.get]) (.skip ⟨rfl, rfl, rfl⟩)) (fun o ho _ => ?_) fun o ho hj => absurd ho.1 hj
     rw [ho.2.1, ho.2.2]
     have hst := step done s t i (left.filter (· ≠ i)) hP (List.mem_of_getElem? ht) ht
     refine .trim2 (run_wp hst fun o ho => ho) fun o ho => ?_
     cases hj : o.j with
     | none =>
      rw [hj, MapK, T_back] at ho
      obtain ⟨⟨b, s'⟩, ⟨h1, h2⟩, _, h3⟩ := ho
      exact .inr ⟨_, _, trims_of h3, .inl ⟨rfl, i, t, s', hi, ht, h2, rfl, rfl⟩⟩
     | some j =>
      rw [hj, MapK, T_out] at ho
      exact .inl (.inr ⟨by simp, ho⟩)
  refine .loop h1 (fun o ho hj => ?_) fun o ho hj => ?_
  ·rcases ho with ⟨_, i, t, s', hi, ht, hP', q3, q4⟩ | ⟨q1, _⟩
   ·rw [q3, q4]
    refine ih (left.filter (· ≠ i)).length ?_ _ _ (t :: done) s' rfl ?_ ?_ hP'
    ·rw [← hl]
     refine List.length_filter_lt_length_iff_exists.2 ⟨i, hi, by simp⟩
    ·intro u hu
     rcases List.mem_cons.1 hu with rfl | hu
     ·exact List.mem_of_getElem? ht
     ·exact hdone u hu
    ·intro k u hk
     by_cases e : k = i
     ·subst e
      rw [ht] at hk
      cases hk
      exact .inr (by simp)
     ·rcases hcov k u hk with h | h
      ·exact .inl (by rw [List.mem_filter]; exact ⟨h, by simpa using e⟩)
      ·exact .inr (List.mem_cons_of_mem _ h)
   ·exact absurd hj q1
  ·rcases ho with ⟨q, _⟩ | ⟨_, q⟩
   ·exact absurd q hj
   ·exact q
theorem mapE {d d2 x j : Nat} {body : ACode} {e : Env} {σ : St} {K : KJ} (s0 : S) (hN : ∀ s, (B s).length = N) (hm : ∀ s, (B s)[m]? = some (.map (ts.map kv))) (hx : ∀ s, Env.get (IE s) x = .ptr N 0)
  (hP : P [] s0) (hσ : σ = B s0 ++ [.miter m ts.length (List.range ts.length) none]) (hE : EqW e (IE s0))
  (step : ∀ done s t i left, P done s → t ∈ ts → ts[i]? = some t → wp T body ((d2, .bool true) :: (d, .tuple [.bool true, (kv t).1, (kv t).2]) :: IE s) (B s ++ [.miter m ts.length left (some i)]) (MapK ts m P IE B t done s left i K))
  (fin : ∀ done s left last, P done s → (∀ t, t ∈ done ↔ t ∈ ts) → K (some (.exit j)) ((d2, .bool false) :: (d, .tuple [.bool false]) :: IE s) (B s ++ [.miter m ts.length left last])) :
  rK (K := ⟨K⟩) T (.loop (mapB d d2 x j body)) e σ := by
 subst hσ
 refine .weak (eqW_spec hE) (mapX ts kv m N P IE B hN hm hx step fin _ _ _ [] s0 rfl (by simp) (fun i t ht => .inl ?_) hP)
 rw [List.mem_range]
 by_cases h : i < ts.length
 ·exact h
 ·rw [List.getElem?_eq_none (by omega)] at ht; cases ht
end
end Go.Am.Room
set_option maxRecDepth 8000
namespace Go.Am.Room
def QXFFaP9 := And.intro @encFarm_eq (And.intro @farmCells_eq (And.intro @encPlot_eq (And.intro @encLook_eq (And.intro @encSpan_eq (And.intro @S_mapPlot (And.intro @S_mapLook (And.intro @S_mapSpan (And.intro @List.length_append.{0} (And.intro @Nat.mul_one (And.intro @Int.toNat_natCast (And.intro @T_sapp (And.intro @T_sapp0 (And.intro @db_0 (And.intro @db_1 (And.intro @db_2 (And.intro @db_3 (And.intro @db_4 (And.intro @db_5 (And.intro @db_6 (And.intro @db_7 (And.intro @db_8 (And.intro @A_mrange (And.intro @W_mrange (And.intro @A_entry (And.intro @W_entry (And.intro @arrA_len (And.intro @arrA_take (And.intro @arrA_drop (And.intro @S_arrA (And.intro @arrA_cell (And.intro @V_min2 (@V_max2))))))))))))))))))))))))))))))))
def mmIs (z s : Span) (l : List Int) : Prop := (l = [] → s = z) ∧ (l ≠ [] → s.lo ∈ l ∧ s.hi ∈ l ∧ ∀ x ∈ l, s.lo ≤ x ∧ x ≤ s.hi)
def mm (s : Span) (x : Int) : Span := ⟨min s.lo x, max s.hi x⟩
theorem mm_step {z s : Span} {l : List Int} {x : Int} (h : mmIs z s l) (hx : x ≤ z.lo ∧ z.hi ≤ x) : mmIs z (mm s x) (x :: l) := by
 refine ⟨fun h => (by cases h), fun _ => ?_⟩
 by_cases hl : l = []
 ·have := h.1 hl
  subst this
  subst hl
  have e1 : min s.lo x = x := by omega
  have e2 : max s.hi x = x := by omega
  simp only [mm, e1, e2]
  refine ⟨by simp, by simp, fun y hy => ?_⟩
  simp at hy
  omega
 ·obtain ⟨a, b, c⟩ := h.2 hl
  simp only [mm]
  refine ⟨?_, ?_, fun y hy => ?_⟩
  ·by_cases h1 : s.lo ≤ x
   ·rw [show min s.lo x = s.lo by omega]; exact List.mem_cons_of_mem _ a
   ·rw [show min s.lo x = x by omega]; simp
  ·by_cases h1 : x ≤ s.hi
   ·rw [show max s.hi x = s.hi by omega]; exact List.mem_cons_of_mem _ b
   ·rw [show max s.hi x = x by omega]; simp
  ·rcases List.mem_cons.1 hy with rfl | hy
   ·omega
   ·have := c y hy; omega
theorem mm_congr {z s : Span} {l k : List Int} (h : mmIs z s l) (hk : ∀ x, x ∈ l ↔ x ∈ k) : mmIs z s k := by
 have hn : l = [] ↔ k = [] := by
  constructor
  ·intro e
   cases k with
   | nil => rfl
   | cons a b => have := (hk a).2 (by simp); rw [e] at this; cases this
  ·intro e
   cases l with
   | nil => rfl
   | cons a b => have := (hk a).1 (by simp); rw [e] at this; cases this
 refine ⟨fun e => h.1 (hn.2 e), fun e => ?_⟩
 obtain ⟨a, b, c⟩ := h.2 fun e2 => e (hn.1 e2)
 exact ⟨(hk _).1 a, (hk _).1 b, fun x hx => c x ((hk x).2 hx)⟩
theorem mm_span {z s : Span} {l : List Int} (h : mmIs z s l) (hl : l ≠ []) : s = spanL l := by
 obtain ⟨a, b, c⟩ := h.2 hl
 obtain ⟨d, e, f⟩ := spanL_spec hl
 have h1 := c _ d
 have h2 := c _ e
 have h3 := f _ a
 have h4 := f _ b
 cases s
 cases hs : spanL l
 rw [hs] at h1 h2 h3 h4
 simp only at h1 h2 h3 h4
 congr <;> omega
theorem mm_nil (z : Span) : mmIs z z [] := ⟨fun _ => rfl, fun h => absurd rfl h⟩
structure KOk (v : Farm) (t : Truth) : Prop where
 tok : TOk v t
 lst : ∀ p, p < v.plots.length → lst v.rain.length (setB (flAt t p)) = flAt t p
theorem kok_of {v : Farm} (hv : Vd v) {but : List Int} {t : Truth} (h : t ∈ truths v but) : KOk v t := by
 refine ⟨tok_of hv h, fun p hp => ?_⟩
 have e : flAt t p = flowersOf v p t.rain but := by simp [flAt, (mem_truths.1 h).2.1, hp]
 rw [e]
 exact lst_flowers hv hp _ _
structure KnownAt (σ : St) (v : Farm) (b m p : Nat) (ts : List Truth) : Prop where
 obj : cellsAt σ p = some (db v b m)
 map : σ[m]? = some (.map (ts.map kvT))
theorem KnownAt.pl {σ : St} {v : Farm} {b m p : Nat} {ts : List Truth} (h : KnownAt σ v b m p ts) : p < σ.length := cells_lt h.obj
theorem KnownAt.ml {σ : St} {v : Farm} {b m p : Nat} {ts : List Truth} (h : KnownAt σ v b m p ts) : m < σ.length := by
 by_cases hm : m < σ.length
 ·exact hm
 ·have := h.map; rw [List.getElem?_eq_none (by omega)] at this; cases this
theorem KnownAt.map1 {σ : St} {v : Farm} {b m p : Nat} {ts : List Truth} (h : KnownAt σ v b m p ts) (τ : St) : (σ ++ τ)[m]? = some (.map (ts.map kvT)) := by rw [List.getElem?_append_left h.ml]; exact h.map
theorem known_entry {σ : St} {v : Farm} {b m p : Nat} {ts : List Truth} (h : KnownAt σ v b m p ts) {t : Truth} {i : Nat} (ht : ts[i]? = some t) (left : List Nat) (a : ABlk) (τ : St) :
  vEntry (σ ++ (a :: .miter m ts.length left (some i) :: τ)) (.ptr (σ.length + 1) 0) = some (.tuple [tKey t, tVal t]) := by
 refine V_entry (es := ts.map kvT) (by rw [st_get]; rfl) (h.map1 _) (by simp) ?_
 rw [List.getElem?_map, ht]
 rfl
theorem grown_same (v : Farm) (hv : Vd v) (ts : List Truth) (hts : ∀ t ∈ ts, KOk v t) (hne : ts ≠ []) (b m p : Nat) (σ : St) (hK : KnownAt σ v b m p ts) (P d : Nat) (hP : P < v.plots.length) (hd : d ≤ v.rain.length) :
  Same T (.func 72 [] []) [.ptr p 0, .int .i64 P, .int .i64 d] σ (encSpan (fullS ts P d)) := by
 refine same_fn (af := a72) rfl (by simp [a72]) ?_
 have hnr := hv.nra
 have hnp := hv.npl
 have hpl := hK.pl
 have hml := hK.ml
 have h0 := fun τ => cells_app hK.obj τ
 have hmr := fun τ => V_mrange (hK.map1 τ)
 simp only [List.length_map] at hmr
 have hp2 : p < σ.length + 2 := by omega
 have hm2 : m < σ.length + 2 := by omega
 have i4 : (0 : Int) ≤ (P : Int) ∧ (P : Int) < ((4 : Nat) : Int) := ⟨by omega, by omega⟩
 (repeat (first | simp only [↓QA, QB, Nat.reduceLT, reduceIte, Nat.reduceEqDiff, Nat.reduceAdd, Nat.reduceLeDiff, Nat.reduceMul, Nat.reduceBEq, QXFFaP9, a72, h0, hmr] | refine rd0 rfl ?_))
 refine mapE (S := Span) ts kvT m (σ.length + 1) (fun done s => mmIs ⟨31, -1⟩ s (fullIn done P d)) (fun _ => [(0, .ptr p 0), (1, .int .i64 P), (2, .int .i64 d), (6, .ptr σ.length 0), (17, .ptr (σ.length + 1) 0)])
  (fun s => σ ++ [.cells [.int .i64 s.lo, .int .i64 s.hi]]) ⟨31, -1⟩ (fun s => by simp) (fun s => hK.map1 _) (fun s => by simp [Env.get]) (mm_nil _) (by simp) ?_ (fun done s t i left hs ht hti => ?_) fun done s left last hs hdone => ?_
 ·try simp only [TrimX, QE, Nat.reduceLT, reduceIte, Nat.reduceEqDiff, Nat.reduceAdd, Nat.reduceLeDiff, Nat.reduceMul, Nat.reduceBEq, QXFFaP9]
  try simp
 ·have hent := known_entry hK hti left
  unfold MapK
  obtain ⟨htk, hlst⟩ := hts t ht
  have hfl := htk.fl P hP
  have hlst := hlst P hP
  have hsb : setB (flAt t P) < 2 ^ 7 := setB_lt fun x hx => by have := hfl.2.2 x hx; omega
  have hge := arrA_get 4 (fun q => (setB (flAt t q) : Int)) (show P < 4 by omega)
  have hnum := numbers_ok (setB (flAt t P)) v.rain.length (by omega) (by omega)
  rw [hlst] at hnum
  have hfull := fun (H : Nat) (τ : St) => full_same (.ptr p 0) (rl t.rain) H d (rain_bd hv htk.rain) (by omega) τ
  have hst : ∀ x, x ∈ fullIn (t :: done) P d ↔ x ∈ (flAt t P).map (ptsT t d) ∨ x ∈ fullIn done P d := fun x => by
   rw [fullIn, List.flatMap_cons, List.mem_append]; rfl
  obtain ⟨F, hF⟩ : ∃ F, flAt t P = F := ⟨_, rfl⟩
  rw [hF] at hfl hnum hst
  simp only [hF] at hge
  obtain ⟨bb, hbb⟩ : ∃ bb : Nat, setB F = bb := ⟨_, rfl⟩
  rw [hbb] at hnum
  simp only [hbb] at hge
  (repeat (first | simp only [↓QA, QB, Nat.reduceLT, reduceIte, Nat.reduceEqDiff, Nat.reduceAdd, Nat.reduceLeDiff, Nat.reduceMul, Nat.reduceBEq, QXFFaP9, hent, h0, kvT, tKey, tVal, i4, Nat.zero_add, hge] | refine rd0 rfl ?_))
  ((first | refine callK_d (hnum) rfl dd ?_ | refine callD_d (hnum) rfl dd ?_); (repeat (first | simp only [↓QA, QB, Nat.reduceLT, reduceIte, Nat.reduceEqDiff, Nat.reduceAdd, Nat.reduceLeDiff, Nat.reduceMul, Nat.reduceBEq, QXFFaP9, hent, h0, kvT, tKey, tVal, i4, Nat.zero_add, hge, ints] | refine rd0 rfl ?_)))
  refine loopE (S := Nat × Span) (0, s) (fun a => a.1 ≤ F.length ∧ mmIs ⟨31, -1⟩ a.2 ((F.take a.1).map (ptsT t d) ++ fullIn done P d)) (fun a => F.length - a.1)
   (fun a => [(0, .ptr p 0), (1, .int .i64 P), (2, .int .i64 d), (6, .ptr σ.length 0), (7, .ptr (σ.length + 2) 0), (17, .ptr (σ.length + 1) 0), (32, ints F), (33, .int .i64 F.length), (34, .int .i64 a.1)])
   (fun a => σ ++ [.cells [.int .i64 a.2.lo, .int .i64 a.2.hi], .miter m ts.length left (some i), .cells (arrA 7 (rl t.rain)), .cells (arrA 4 (fun q => (setB (flAt t q) : Int)))]) ⟨Nat.zero_le _, by simpa using hs⟩ (by simp) ?_ fun a ha => ?_
  ·try simp only [TrimX, QE, Nat.reduceLT, reduceIte, Nat.reduceEqDiff, Nat.reduceAdd, Nat.reduceLeDiff, Nat.reduceMul, Nat.reduceBEq, QXFFaP9, ints]
   try simp
  ·obtain ⟨k, s⟩ := a
   obtain ⟨hk, hmm⟩ := ha
   simp only at hk hmm
   (repeat (first | simp only [↓QA, QB, Nat.reduceLT, reduceIte, Nat.reduceEqDiff, Nat.reduceAdd, Nat.reduceLeDiff, Nat.reduceMul, Nat.reduceBEq, QXFFaP9, L72_2, ints] | refine rd0 rfl ?_))
   refine iteP_intro (fun h => ?_) fun h => ?_
   ·have hk1 : k < F.length := by simpa using h
    have hwk := wrapN hk1 (by omega)
    have hm := hfl.2.2 _ (List.getElem_mem hk1)
    obtain ⟨H, hH⟩ : ∃ H : Nat, F[k] = (H : Int) := ⟨F[k].toNat, by omega⟩
    have hfu := hfull H
    have hx : pts (rl t.rain) H d = ptsT t d H := by simp [ptsT, ptsL]
    have hxb := ptsT_bd hv htk hd (H : Int)
    rw [hx] at hfu
    obtain ⟨x, hxe⟩ : ∃ x, ptsT t d H = x := ⟨_, rfl⟩
    rw [hxe] at hxb
    simp only [hxe] at hfu
    have hnx : mmIs ⟨31, -1⟩ (mm s x) ((F.take (k + 1)).map (ptsT t d) ++ fullIn done P d) := by
     refine mm_congr (mm_step hmm (by simp only; omega)) fun y => ?_
     rw [List.take_succ_eq_append_getElem hk1, List.map_append, List.map_cons, List.map_nil, hH, hxe]
     simp only [List.mem_cons, List.mem_append, List.not_mem_nil, or_false]
     constructor
     ·rintro (h | h | h)
      ·exact .inl (.inr h)
      ·exact .inl (.inl h)
      ·exact .inr h
     ·rintro ((h | h) | h)
      ·exact .inr (.inl h)
      ·exact .inl h
      ·exact .inr (.inr h)
    (repeat (first | simp only [↓QA, QB, Nat.reduceLT, reduceIte, Nat.reduceEqDiff, Nat.reduceAdd, Nat.reduceLeDiff, Nat.reduceMul, Nat.reduceBEq, QXFFaP9, hk1, hH, ints] | refine rd0 rfl ?_))
    refine callK_same (hfu _) ?_
    (repeat (first | simp only [↓QA, QB, Nat.reduceLT, reduceIte, Nat.reduceEqDiff, Nat.reduceAdd, Nat.reduceLeDiff, Nat.reduceMul, Nat.reduceBEq, QXFFaP9, hwk] | refine rd0 rfl ?_))
    refine ⟨(k + 1, mm s x), ⟨by simp only; omega, hnx⟩, by simp only; omega, ?_⟩
    try simp only [TrimX, QE, Nat.reduceLT, reduceIte, Nat.reduceEqDiff, Nat.reduceAdd, Nat.reduceLeDiff, Nat.reduceMul, Nat.reduceBEq, QXFFaP9, hwk, ints, mm, hp2]
    try simp [okBlk, okVs, okV, arrA_ok]
    try omega
   ·have hk1 : k = F.length := by simp at h; omega
    rw [hk1, List.take_length] at hmm
    (repeat (first | simp only [↓QA, QB, Nat.reduceLT, reduceIte, Nat.reduceEqDiff, Nat.reduceAdd, Nat.reduceLeDiff, Nat.reduceMul, Nat.reduceBEq, QXFFaP9] | refine rd0 rfl ?_))
    refine ⟨(false, s), ⟨rfl, mm_congr hmm fun x => ?_⟩, by simp, ?_⟩
    ·rw [hst, List.mem_append]
    ·try simp only [TrimX, QE, Nat.reduceLT, reduceIte, Nat.reduceEqDiff, Nat.reduceAdd, Nat.reduceLeDiff, Nat.reduceMul, Nat.reduceBEq, QXFFaP9, hp2]
     try simp [okBlk, okVs, okV]
     try omega
 ·have hsp : fullS ts P d = s := by
   have hc : mmIs ⟨31, -1⟩ s (fullIn ts P d) := mm_congr hs fun x => by simp only [fullIn, List.mem_flatMap, hdone]
   exact (mm_span hc (fullIn_ne (fun t ht => (hts t ht).tok) hne hP d)).symm
  rw [hsp]
  (repeat (first | simp only [↓QA, QB, Nat.reduceLT, reduceIte, Nat.reduceEqDiff, Nat.reduceAdd, Nat.reduceLeDiff, Nat.reduceMul, Nat.reduceBEq, QXFFaP9] | refine rd0 rfl ?_))
  refine baseR [.cells [.int .i64 s.lo, .int .i64 s.hi], .miter m ts.length left last] (by first | rfl | simp) ?_
  try simp only [QS, QC, Nat.reduceLT, reduceIte, Nat.reduceEqDiff, Nat.reduceAdd, Nat.reduceLeDiff, Nat.reduceMul, Nat.reduceBEq, QXFFaP9]
end Go.Am.Room
set_option maxRecDepth 8000
namespace Go.Am.Room
def QXFFaPA := And.intro @encFarm_eq (And.intro @farmCells_eq (And.intro @encPlot_eq (And.intro @encLook_eq (And.intro @encSpan_eq (And.intro @S_mapPlot (And.intro @S_mapLook (And.intro @S_mapSpan (And.intro @List.length_append.{0} (And.intro @Nat.mul_one (And.intro @Int.toNat_natCast (And.intro @T_sapp (And.intro @T_sapp0 (And.intro @db_0 (And.intro @db_1 (And.intro @db_2 (And.intro @db_3 (And.intro @db_4 (And.intro @db_5 (And.intro @db_6 (And.intro @db_7 (And.intro @db_8 (And.intro @A_mrange (And.intro @W_mrange (And.intro @A_entry (And.intro @W_entry (And.intro @arrA_len (And.intro @arrA_take (And.intro @arrA_drop (And.intro @S_arrA (And.intro @arrA_cell (And.intro @V_min2 (@V_max2))))))))))))))))))))))))))))))))
theorem enter_err {v : Farm} (hf : Fits v) {plot eo : Int} {F : AV} {σ : St} (hF : ∀ τ, Same T F [] (σ ++ τ) (.int .i64 eo)) {E : Int} (hE : errKnown v (askErr v plot eo) = E) (h0 : E ≠ 0) : Same T (.func 70 [] []) [encFarm v, .int .i64 plot, F] σ (.tuple [.nilPtr, .int .i64 E]) := by
 subst hE
 refine .mono (enter_run v hf plot eo F σ hF) fun o ho => ?_
 rcases ho with h | h
 ·exact h.2
 ·exact absurd h.1 h0
theorem enter_ok {v : Farm} (hf : Fits v) {plot eo : Int} {F : AV} {σ : St} (hF : ∀ τ, Same T F [] (σ ++ τ) (.int .i64 eo)) (hE : errKnown v (askErr v plot eo) = 0) : Does T (.func 70 [] []) [encFarm v, .int .i64 plot, F] σ (.tuple [.ptr (σ.length + 3) 0, .int .i64 0]) (lookS (σ ++ [.cells (farmCells v)]) v 0 (truths v [])) := by
 refine .mono (enter_run v hf plot eo F σ hF) fun o ho => ?_
 rcases ho with h | h
 ·exact absurd hE h.1
 ·exact h.2
theorem inR_max (n k : Int) (hk : k < 9223372036854775807) : inR (max n (-1099511627775)) 0 k = inR n 0 k := by
 rw [Bool.eq_iff_iff, inR_iff, inR_iff]; omega
theorem ask_plot (v : Farm) (hf : Fits v) (n : Int) (eo : Int) : askErr v (max n (-1099511627775)) eo = if (check v).2.2 = 0 then (if inR n 0 ((v.plots.length : Int) - 1) then eo else 4) else (check v).2.2 := by
 have hfp := hf.plots
 have hn : max n (-1099511627775) ≠ nobody := by unfold nobody; omega
 rw [askErr, inR_max n _ (by omega)]
 congr 1
 cases inR n 0 ((v.plots.length : Int) - 1)
 ·simp [hn]
 ·simp
theorem until2 (d G : Int) : untilE [d, G] = if inR d 0 G then 0 else 7 := rfl
theorem ask_grown (v : Farm) (hf : Fits v) (n d : Int) : errKnown v (askErr v (max n (-1099511627775)) (untilE [d, (v.rain.length : Int)])) = grownErr v n d := by
 rw [grownErr]
 congr 1
 rw [ask_plot v hf, until2, within, errAsk]
 by_cases h : (check v).2.2 = 0
 ·simp only [h, if_true]
  by_cases h2 : inR n 0 ((v.plots.length : Int) - 1) = true
  ·rw [if_pos h2, if_pos h2]; rfl
  ·rw [if_neg h2, if_neg h2]; rfl
 ·simp [h]
theorem ask_fine (v : Farm) (hf : Fits v) (n : Int) : errKnown v (askErr v (max n (-1099511627775)) 0) = plotErr v n := by
 rw [plotErr]
 congr 1
 rw [ask_plot v hf, errAsk]
theorem ask_nobody (v : Farm) (eo : Int) : askErr v (-1099511627776) eo = if (check v).2.2 = 0 then eo else (check v).2.2 := by
 simp [askErr, nobody]
theorem ask_rain (v : Farm) (d : Int) : errKnown v (askErr v (-1099511627776) (untilE [d, (v.rain.length : Int) - 1])) = rainErr v d := by
 rw [rainErr, ask_nobody]
 rfl
theorem ask_early (v : Farm) (d h : Int) : errKnown v (askErr v (-1099511627776) (untilE [d, (v.rain.length : Int), h, 400])) = earlyErr v d h := by
 rw [earlyErr]
 congr 1
 rw [ask_nobody]
 have : untilE [d, (v.rain.length : Int), h, 400] = if inR d 0 (v.rain.length : Int) then (if inR h 0 400 then 0 else 7) else 7 := rfl
 rw [this, within, within]
 by_cases hc : (check v).2.2 = 0
 ·simp only [hc, if_true, endOf]
  by_cases h2 : inR d 0 (v.rain.length : Int) = true
  ·simp [h2]
  ·simp [h2]
 ·simp [hc]
theorem pgrown_ok (v : Farm) (n d : Int) (hf : Fits v) : Pure T 17 [encFarm v, .int .i64 n, .int .i64 d] (encSE (grownOf v n d)) := by
 refine pure_fn (af := a17) rfl (by simp [a17]) dd ?_
 obtain ⟨E, hE⟩ : ∃ E, grownErr v n d = E := ⟨_, rfl⟩
 have hask := ask_grown v hf n d
 rw [hE] at hask
 have hun := fun σ => until_does [d, (v.rain.length : Int)] σ
 have hu1 := fun (q : Nat) (σ : St) hq => until1_same [d, (v.rain.length : Int)] (by simp) q σ hq
 simp only [litI_eq, List.map_cons, List.map_nil] at hun hu1
 (repeat (first | simp only [↓QA, QB, Nat.reduceLT, reduceIte, Nat.reduceEqDiff, Nat.reduceAdd, Nat.reduceLeDiff, Nat.reduceMul, Nat.reduceBEq, QXFFaPA, a17] | refine rd0 rfl ?_))
 refine callD_do (hun _) ?_
 (repeat (first | simp only [↓QA, QB, Nat.reduceLT, reduceIte, Nat.reduceEqDiff, Nat.reduceAdd, Nat.reduceLeDiff, Nat.reduceMul, Nat.reduceBEq, QXFFaPA] | refine rd0 rfl ?_))
 by_cases h0' : E = 0
 ·subst h0'
  have hE2 := hE
  obtain ⟨hw, hne⟩ := errKnown_ok hE2
  obtain ⟨ha, hd0, hd1⟩ := within_ok hw
  obtain ⟨hv, hn0, hn1⟩ := errAsk_ok ha
  have hm : grownOf v n d = (fullS (truths v []) n.toNat d.toNat, 0) := by rw [grownOf, hE, if_pos rfl]
  rw [hm]
  simp only [endOf] at hd1
  obtain ⟨N, rfl⟩ : ∃ N : Nat, n = N := ⟨n.toNat, by omega⟩
  obtain ⟨D, rfl⟩ : ∃ D : Nat, d = D := ⟨d.toNat, by omega⟩
  rw [Int.toNat_natCast, Int.toNat_natCast]
  have hen := enter_ok hf (plot := max (N : Int) (-1099511627775)) (eo := untilE [(D : Int), (v.rain.length : Int)]) (F := .func 96 [] [.ptr 2 0]) (σ := [.cells (farmCells v), .cells [.int .i64 0, .int .i64 0], .cells [.lit [.int .i64 D, .int .i64 v.rain.length] true none]]) (fun τ => hu1 _ _ rfl) hask
  have hgr := grown_same v hv (truths v []) (fun t ht => kok_of hv ht) hne 0 5 6 (lookS ([.cells (farmCells v), .cells [.int .i64 0, .int .i64 0], .cells [.lit [.int .i64 D, .int .i64 v.rain.length] true none]] ++ [.cells (farmCells v)]) v 0 (truths v [])) ⟨rfl, rfl⟩ N D (by omega) (by omega)
  try simp only [↓QA, QB, Nat.reduceLT, reduceIte, Nat.reduceEqDiff, Nat.reduceAdd, Nat.reduceLeDiff, Nat.reduceMul, Nat.reduceBEq, QXFFaPA, lookS, List.cons_append, List.nil_append, List.length_cons, List.length_nil] at hen
  try simp only [↓QA, QB, Nat.reduceLT, reduceIte, Nat.reduceEqDiff, Nat.reduceAdd, Nat.reduceLeDiff, Nat.reduceMul, Nat.reduceBEq, QXFFaPA, lookS, List.cons_append, List.nil_append, List.length_cons, List.length_nil] at hgr
  refine callD_do hen ?_
  (repeat (first | simp only [↓QA, QB, Nat.reduceLT, reduceIte, Nat.reduceEqDiff, Nat.reduceAdd, Nat.reduceLeDiff, Nat.reduceMul, Nat.reduceBEq, QXFFaPA] | refine rd0 rfl ?_))
  refine callK_same hgr ?_
  (repeat (first | simp only [↓QA, QB, Nat.reduceLT, reduceIte, Nat.reduceEqDiff, Nat.reduceAdd, Nat.reduceLeDiff, Nat.reduceMul, Nat.reduceBEq, QXFFaPA, encSE] | refine rd0 rfl ?_))
 ·have hm : grownOf v n d = (⟨0, 0⟩, E) := by rw [grownOf, hE, if_neg h0']
  have hg : (E == 0) = false := by simpa using h0'
  rw [hm]
  refine callD_same (enter_err hf (fun τ => hu1 _ _ rfl) hask h0') ?_
  (repeat (first | simp only [↓QA, QB, Nat.reduceLT, reduceIte, Nat.reduceEqDiff, Nat.reduceAdd, Nat.reduceLeDiff, Nat.reduceMul, Nat.reduceBEq, QXFFaPA, hg, encSE] | refine rd0 rfl ?_))
theorem prained_ok (v : Farm) (d : Int) (hf : Fits v) : Pure T 29 [encFarm v, .int .i64 d] (encSE (rainedOf v d)) := by
 refine pure_fn (af := a29) rfl (by simp [a29]) dd ?_
 have hfr := hf.rain
 have hwe : IntKind.i64.wrap ((v.rain.length : Int) - 1) = (v.rain.length : Int) - 1 := wrap64 ⟨by omega, by omega⟩
 obtain ⟨E, hE⟩ : ∃ E, rainErr v d = E := ⟨_, rfl⟩
 have hask := ask_rain v d
 rw [hE] at hask
 obtain ⟨G1, hG1⟩ : ∃ G1, (v.rain.length : Int) - 1 = G1 := ⟨_, rfl⟩
 rw [hG1] at hask hwe
 have hun := fun σ => until_does [d, G1] σ
 have hu1 := fun (q : Nat) (σ : St) hq => until1_same [d, G1] (by simp) q σ hq
 simp only [litI_eq, List.map_cons, List.map_nil] at hun hu1
 (repeat (first | simp only [↓QA, QB, Nat.reduceLT, reduceIte, Nat.reduceEqDiff, Nat.reduceAdd, Nat.reduceLeDiff, Nat.reduceMul, Nat.reduceBEq, QXFFaPA, a29, hG1, hwe] | refine rd0 rfl ?_))
 refine callD_do (hun _) ?_
 (repeat (first | simp only [↓QA, QB, Nat.reduceLT, reduceIte, Nat.reduceEqDiff, Nat.reduceAdd, Nat.reduceLeDiff, Nat.reduceMul, Nat.reduceBEq, QXFFaPA] | refine rd0 rfl ?_))
 by_cases h0' : E = 0
 ·subst h0'
  have hE2 := hE
  obtain ⟨hw, hne⟩ := errKnown_ok hE2
  obtain ⟨ha, hd0, hd1⟩ := within_ok hw
  have hv := vd_of_check ha
  have hnr := hv.nra
  have hm : rainedOf v d = (spanL (rainedIn (truths v []) d.toNat), 0) := by rw [rainedOf, hE, if_pos rfl]
  rw [hm]
  simp only [endOf] at hd1
  obtain ⟨D, rfl⟩ : ∃ D : Nat, d = D := ⟨d.toNat, by omega⟩
  rw [Int.toNat_natCast]
  have hen := enter_ok hf (plot := -1099511627776) (eo := untilE [(D : Int), G1]) (F := .func 96 [] [.ptr 2 0]) (σ := [.cells (farmCells v), .cells [.int .i64 0, .int .i64 0], .cells [.lit [.int .i64 D, .int .i64 G1] true none]]) (fun τ => hu1 _ _ rfl) hask
  try simp only [↓QA, QB, Nat.reduceLT, reduceIte, Nat.reduceEqDiff, Nat.reduceAdd, Nat.reduceLeDiff, Nat.reduceMul, Nat.reduceBEq, QXFFaPA, lookS, List.cons_append, List.nil_append, List.length_cons, List.length_nil] at hen
  refine callD_do hen ?_
  have htsk : ∀ t ∈ truths v [], TOk v t := fun t ht => tok_of hv ht
  obtain ⟨ts, hts⟩ : ∃ ts, truths v [] = ts := ⟨_, rfl⟩
  rw [hts] at hne ⊢
  simp only [hts] at htsk
  obtain ⟨σ, hσ⟩ : ∃ σ : St, [ABlk.cells (farmCells v), .cells [.int .i64 0, .int .i64 0], .cells [.lit [.int .i64 D, .int .i64 G1] true none], .cells (farmCells v), .cells (farmCells v), .map (ts.map kvT), .cells (db v 0 5)] = σ := ⟨_, rfl⟩
  have hmr : vMrange [ABlk.cells (farmCells v), .cells [.int .i64 2, .int .i64 0], .cells [.lit [.int .i64 D, .int .i64 G1] true none], .cells (farmCells v), .cells (farmCells v), .map (ts.map kvT), .cells (db v 0 5)] (.map 5) = some (.ptr 7 0, [ABlk.cells (farmCells v), .cells [.int .i64 2, .int .i64 0], .cells [.lit [.int .i64 D, .int .i64 G1] true none], .cells (farmCells v), .cells (farmCells v), .map (ts.map kvT), .cells (db v 0 5), .miter 5 ts.length (List.range ts.length) none]) := by
   have := V_mrange (σ := [ABlk.cells (farmCells v), .cells [.int .i64 2, .int .i64 0], .cells [.lit [.int .i64 D, .int .i64 G1] true none], .cells (farmCells v), .cells (farmCells v), .map (ts.map kvT), .cells (db v 0 5)]) (m := 5) (es := ts.map kvT) rfl
   simpa using this
  simp only [farmCells_eq] at hmr
  (repeat (first | simp only [↓QA, QB, Nat.reduceLT, reduceIte, Nat.reduceEqDiff, Nat.reduceAdd, Nat.reduceLeDiff, Nat.reduceMul, Nat.reduceBEq, QXFFaPA, hmr] | refine rd0 rfl ?_))
  refine mapE (S := Span) ts kvT 5 7 (fun done s => mmIs ⟨2, 0⟩ s (rainedIn done D)) (fun _ => [(1, .int .i64 D), (4, .ptr 1 0), (29, .ptr 7 0)])
   (fun s => [.cells (farmCells v), .cells [.int .i64 s.lo, .int .i64 s.hi], .cells [.lit [.int .i64 D, .int .i64 G1] true none], .cells (farmCells v), .cells (farmCells v), .map (ts.map kvT), .cells (db v 0 5)]) ⟨2, 0⟩ (fun s => rfl) (fun s => rfl) (fun s => by simp [Env.get]) (mm_nil _) (by simp [farmCells_eq]) ?_ (fun done s t i left hs ht hti => ?_) fun done s left last hs hdone => ?_
  ·try simp only [TrimX, QE, Nat.reduceLT, reduceIte, Nat.reduceEqDiff, Nat.reduceAdd, Nat.reduceLeDiff, Nat.reduceMul, Nat.reduceBEq, QXFFaPA]
   try simp
  ·have htk := htsk t ht
   have hent : ∀ τ, vEntry (.cells (farmCells v) :: .cells [.int .i64 s.lo, .int .i64 s.hi] :: .cells [.lit [.int .i64 D, .int .i64 G1] true none] :: .cells (farmCells v) :: .cells (farmCells v) :: .map (ts.map kvT) :: .cells (db v 0 5) :: .miter 5 ts.length left (some i) :: τ) (.ptr 7 0) = some (.tuple [tKey t, tVal t]) := fun τ => by
    refine V_entry (es := ts.map kvT) rfl rfl (by simp) ?_
    rw [List.getElem?_map, hti]; rfl
   simp only [farmCells_eq] at hent
   unfold MapK
   have hge := arrA_get 7 (rl t.rain) (show D < 7 by omega)
   have hrb := rain_bd hv htk.rain D
   obtain ⟨x, hx⟩ : ∃ x, rl t.rain D = x := ⟨_, rfl⟩
   rw [hx] at hge hrb
   have i7 : (0 : Int) ≤ (D : Int) ∧ (D : Int) < ((7 : Nat) : Int) := ⟨by omega, by omega⟩
   have hnx : mmIs ⟨2, 0⟩ (mm s x) (rainedIn (t :: done) D) := by
    rw [rainedIn, List.map_cons, hx]
    exact mm_step hs (by simp only; omega)
   (repeat (first | simp only [↓QA, QB, Nat.reduceLT, reduceIte, Nat.reduceEqDiff, Nat.reduceAdd, Nat.reduceLeDiff, Nat.reduceMul, Nat.reduceBEq, QXFFaPA, hent, kvT, tKey, tVal, i7, Nat.zero_add, hge, List.cons_append, List.nil_append] | refine rd0 rfl ?_))
   refine ⟨(false, mm s x), ⟨rfl, hnx⟩, by simp, ?_⟩
   try simp only [TrimX, QE, Nat.reduceLT, reduceIte, Nat.reduceEqDiff, Nat.reduceAdd, Nat.reduceLeDiff, Nat.reduceMul, Nat.reduceBEq, QXFFaPA, mm, List.cons_append, List.nil_append]
   try simp [okBlk, okVs, okV]
  ·have hsp : spanL (rainedIn ts D) = s := by
    have hc : mmIs ⟨2, 0⟩ s (rainedIn ts D) := mm_congr hs fun x => by simp only [rainedIn, List.mem_map, hdone]
    refine (mm_span hc ?_).symm
    cases ts with
    | nil => exact absurd rfl hne
    | cons a b => simp [rainedIn]
   rw [hsp]
   (repeat (first | simp only [↓QA, QB, Nat.reduceLT, reduceIte, Nat.reduceEqDiff, Nat.reduceAdd, Nat.reduceLeDiff, Nat.reduceMul, Nat.reduceBEq, QXFFaPA, encSE] | refine rd0 rfl ?_))
   try try simp only [QS, QC, Nat.reduceLT, reduceIte, Nat.reduceEqDiff, Nat.reduceAdd, Nat.reduceLeDiff, Nat.reduceMul, Nat.reduceBEq, QXFFaPA]
 ·have hm : rainedOf v d = (⟨0, 0⟩, E) := by rw [rainedOf, hE, if_neg h0']
  have hg : (E == 0) = false := by simpa using h0'
  rw [hm]
  refine callD_same (enter_err hf (fun τ => hu1 _ _ rfl) hask h0') ?_
  (repeat (first | simp only [↓QA, QB, Nat.reduceLT, reduceIte, Nat.reduceEqDiff, Nat.reduceAdd, Nat.reduceLeDiff, Nat.reduceMul, Nat.reduceBEq, QXFFaPA, hg, encSE] | refine rd0 rfl ?_))
end Go.Am.Room
set_option maxRecDepth 8000
namespace Go.Am.Room
def QXFFaPB := And.intro @encFarm_eq (And.intro @farmCells_eq (And.intro @encPlot_eq (And.intro @encLook_eq (And.intro @encSpan_eq (And.intro @S_mapPlot (And.intro @S_mapLook (And.intro @S_mapSpan (And.intro @List.length_append.{0} (And.intro @Nat.mul_one (And.intro @Int.toNat_natCast (And.intro @T_sapp (And.intro @T_sapp0 (And.intro @db_0 (And.intro @db_1 (And.intro @db_2 (And.intro @db_3 (And.intro @db_4 (And.intro @db_5 (And.intro @db_6 (And.intro @db_7 (And.intro @db_8 (And.intro @A_mrange (And.intro @W_mrange (And.intro @A_entry (And.intro @W_entry (And.intro @arrA_len (And.intro @arrA_take (And.intro @arrA_drop (And.intro @S_arrA (And.intro @arrA_cell (And.intro @V_min2 (@V_max2))))))))))))))))))))))))))))))))
theorem fine_same (σ : St) : Same T (.func 77 [] []) [] σ (.int .i64 0) := same_pure fine_ok rfl trivial
theorem isFl_cons (t : Truth) (l : List Truth) (p : Nat) (d : Int) : isFl (t :: l) p d = ((flAt t p).contains d || isFl l p d) := by simp [isFl]
theorem isFl_congr {l k : List Truth} (h : ∀ t, t ∈ l ↔ t ∈ k) (p : Nat) (d : Int) : isFl l p d = isFl k p d := by
 rw [Bool.eq_iff_iff, isFl, isFl, List.any_eq_true, List.any_eq_true]
 constructor
 ·rintro ⟨t, a, b⟩; exact ⟨t, (h t).1 a, b⟩
 ·rintro ⟨t, a, b⟩; exact ⟨t, (h t).2 a, b⟩
theorem pflowered_ok (v : Farm) (n : Int) (hf : Fits v) : Pure T 19 [encFarm v, .int .i64 n] (encLE (floweredOf v n)) := by
 refine pure_fn (af := a19) rfl (by simp [a19]) dd ?_
 obtain ⟨E, hE⟩ : ∃ E, plotErr v n = E := ⟨_, rfl⟩
 have hask := ask_fine v hf n
 rw [hE] at hask
 (repeat (first | simp only [↓QA, QB, Nat.reduceLT, reduceIte, Nat.reduceEqDiff, Nat.reduceAdd, Nat.reduceLeDiff, Nat.reduceMul, Nat.reduceBEq, QXFFaPB, a19] | refine rd0 rfl ?_))
 by_cases h0' : E = 0
 ·subst h0'
  have hE2 := hE
  obtain ⟨hw, hne⟩ := errKnown_ok hE2
  obtain ⟨hv, hn0, hn1⟩ := errAsk_ok hw
  have hnr := hv.nra
  have hnp := hv.npl
  have hm : floweredOf v n = (floweredIn v (truths v []) n.toNat, 0) := by rw [floweredOf, hE, if_pos rfl]
  rw [hm]
  obtain ⟨N, rfl⟩ : ∃ N : Nat, n = N := ⟨n.toNat, by omega⟩
  rw [Int.toNat_natCast]
  have hen := enter_ok hf (plot := max (N : Int) (-1099511627775)) (eo := 0) (F := .func 77 [] []) (σ := [.cells (farmCells v)]) (fun τ => fine_same _) hask
  try simp only [↓QA, QB, Nat.reduceLT, reduceIte, Nat.reduceEqDiff, Nat.reduceAdd, Nat.reduceLeDiff, Nat.reduceMul, Nat.reduceBEq, QXFFaPB, lookS, List.cons_append, List.nil_append, List.length_cons, List.length_nil] at hen
  refine callK_do hen ?_
  have htsk : ∀ t ∈ truths v [], TOk v t := fun t ht => tok_of hv ht
  obtain ⟨ts, hts⟩ : ∃ ts, truths v [] = ts := ⟨_, rfl⟩
  rw [hts] at hne ⊢
  simp only [hts] at htsk
  have hmr : vMrange [ABlk.cells (farmCells v), .cells (farmCells v), .cells (farmCells v), .map (ts.map kvT), .cells (db v 0 3)] (.map 3) = some (.ptr 5 0, [ABlk.cells (farmCells v), .cells (farmCells v), .cells (farmCells v), .map (ts.map kvT), .cells (db v 0 3), .miter 3 ts.length (List.range ts.length) none]) := by
   have := V_mrange (σ := [ABlk.cells (farmCells v), .cells (farmCells v), .cells (farmCells v), .map (ts.map kvT), .cells (db v 0 3)]) (m := 3) (es := ts.map kvT) rfl
   simpa using this
  simp only [farmCells_eq] at hmr
  (repeat (first | simp only [↓QA, QB, Nat.reduceLT, reduceIte, Nat.reduceEqDiff, Nat.reduceAdd, Nat.reduceLeDiff, Nat.reduceMul, Nat.reduceBEq, QXFFaPB, hmr] | refine rd0 rfl ?_))
  refine mapE (S := Nat) ts kvT 3 5 (fun done s => s < 2 ^ 7 ∧ ∀ i : Nat, s.testBit i = isFl done N (i : Int)) (fun s => [(1, .int .i64 N), (2, .ptr 0 0), (8, .int .i64 s), (25, .ptr 5 0)])
   (fun s => [.cells (farmCells v), .cells (farmCells v), .cells (farmCells v), .map (ts.map kvT), .cells (db v 0 3)]) 0 (fun s => rfl) (fun s => rfl) (fun s => by simp [Env.get]) ⟨by omega, fun i => by simp [isFl]⟩ (by simp [farmCells_eq]) ?_ (fun done s t i left hs ht hti => ?_) fun done s left last hs hdone => ?_
  ·try simp only [TrimX, QE, Nat.reduceLT, reduceIte, Nat.reduceEqDiff, Nat.reduceAdd, Nat.reduceLeDiff, Nat.reduceMul, Nat.reduceBEq, QXFFaPB]
   try simp
  ·obtain ⟨hs1, hs2⟩ := hs
   have htk := htsk t ht
   have hfl := htk.fl N (by omega)
   have hent : ∀ τ, vEntry (.cells (farmCells v) :: .cells (farmCells v) :: .cells (farmCells v) :: .map (ts.map kvT) :: .cells (db v 0 3) :: .miter 3 ts.length left (some i) :: τ) (.ptr 5 0) = some (.tuple [tKey t, tVal t]) := fun τ => by
    refine V_entry (es := ts.map kvT) rfl rfl (by simp) ?_
    rw [List.getElem?_map, hti]; rfl
   simp only [farmCells_eq] at hent
   unfold MapK
   have hge := arrA_get 4 (fun q => (setB (flAt t q) : Int)) (show N < 4 by omega)
   have hsb : setB (flAt t N) < 2 ^ 7 := setB_lt fun x hx => by have := hfl.2.2 x hx; omega
   have hbit := fun i => setB_bit (fun x hx => (hfl.2.2 x hx).1) i
   have vor := V_or s (setB (flAt t N)) (by omega) (by omega)
   have i4 : (0 : Int) ≤ (N : Int) ∧ (N : Int) < ((4 : Nat) : Int) := ⟨by omega, by omega⟩
   have hnx : s ||| setB (flAt t N) < 2 ^ 7 ∧ ∀ i : Nat, (s ||| setB (flAt t N)).testBit i = isFl (t :: done) N (i : Int) := by
    refine ⟨Nat.or_lt_two_pow hs1 hsb, fun i => ?_⟩
    rw [Nat.testBit_or, hs2, hbit, isFl_cons, Bool.or_comm]
   (repeat (first | simp only [↓QA, QB, Nat.reduceLT, reduceIte, Nat.reduceEqDiff, Nat.reduceAdd, Nat.reduceLeDiff, Nat.reduceMul, Nat.reduceBEq, QXFFaPB, hent, kvT, tKey, tVal, i4, Nat.zero_add, hge, vor, List.cons_append, List.nil_append] | refine rd0 rfl ?_))
   refine ⟨(false, s ||| setB (flAt t N)), ⟨rfl, hnx⟩, by simp, ?_⟩
   try simp only [TrimX, QE, Nat.reduceLT, reduceIte, Nat.reduceEqDiff, Nat.reduceAdd, Nat.reduceLeDiff, Nat.reduceMul, Nat.reduceBEq, QXFFaPB, List.cons_append, List.nil_append]
   try simp [okBlk, okVs, okV]
  ·obtain ⟨hs1, hs2⟩ := hs
   have hsp : lst v.rain.length s = floweredIn v ts N := by
    rw [lst, floweredIn]
    refine List.filter_congr fun x hx => ?_
    have hx0 := (numbers_mem _ _ _).1 hx
    rw [← bit_div, hs2, show ((x.toNat : Nat) : Int) = x by omega, isFl_congr hdone]
   have hnum := numbers_ok s v.rain.length (by omega) (by omega)
   rw [hsp] at hnum
   obtain ⟨F, hF⟩ : ∃ F, floweredIn v ts N = F := ⟨_, rfl⟩
   rw [hF] at hnum ⊢
   (repeat (first | simp only [↓QA, QB, Nat.reduceLT, reduceIte, Nat.reduceEqDiff, Nat.reduceAdd, Nat.reduceLeDiff, Nat.reduceMul, Nat.reduceBEq, QXFFaPB, encLE] | refine rd0 rfl ?_))
   ((first | refine callK_d (hnum) rfl dd ?_ | refine callD_d (hnum) rfl dd ?_); (repeat (first | simp only [↓QA, QB, Nat.reduceLT, reduceIte, Nat.reduceEqDiff, Nat.reduceAdd, Nat.reduceLeDiff, Nat.reduceMul, Nat.reduceBEq, QXFFaPB, encLE] | refine rd0 rfl ?_)))
   try try simp only [QS, QC, Nat.reduceLT, reduceIte, Nat.reduceEqDiff, Nat.reduceAdd, Nat.reduceLeDiff, Nat.reduceMul, Nat.reduceBEq, QXFFaPB]
 ·have hm : floweredOf v n = ([], E) := by rw [floweredOf, hE, if_neg h0']
  have hg : (E == 0) = false := by simpa using h0'
  rw [hm]
  refine callK_same (enter_err hf (fun τ => fine_same _) hask h0') ?_
  (repeat (first | simp only [↓QA, QB, Nat.reduceLT, reduceIte, Nat.reduceEqDiff, Nat.reduceAdd, Nat.reduceLeDiff, Nat.reduceMul, Nat.reduceBEq, QXFFaPB, hg, encLE] | refine rd0 rfl ?_))
  try rfl
def cutS (v : Farm) (s : Span) (some : Bool) : Int :=
 if toldB (decide (v.full ≤ s.lo)) (decide (s.hi < v.full)) = 2 then 2 else if toldB (decide (s.hi + v.way.hi ≤ v.ripe)) (decide (v.ripe < s.lo + v.way.lo)) = 2 then 2
 else if toldB (decide (v.full ≤ s.lo)) (decide (s.hi < v.full)) = 1 ∧ toldB (decide (s.hi + v.way.hi ≤ v.ripe)) (decide (v.ripe < s.lo + v.way.lo)) = 1 then 1 else if some then 0 else 2
def canB (v : Farm) (n : Int) : Bool := decide (v.full ≤ n) && decide (n + v.way.lo ≤ v.ripe)
theorem cut_good {v : Farm} (hv : Vd v) {ts : List Truth} (hts : ∀ t ∈ ts, TOk v t) (hne : ts ≠ []) {P d : Nat} (hP : P < v.plots.length) (hd : d ≤ v.rain.length) :
  goodOf v ts P d = cutS v (fullS ts P d) ((fullIn ts P d).any (canB v)) := by
 have hfn := fullIn_ne hts hne hP d
 obtain ⟨h1, h2, h3⟩ := spanL_spec hfn
 have hwy := hv.way
 have hgne : goodsIn v ts P d ≠ [] := by
  rw [goodsIn]
  cases hfi : fullIn ts P d with
  | nil => exact absurd hfi hfn
  | cons a b =>
   have : waysIn v.way ≠ [] := List.ne_nil_of_mem (waysIn_mem.2 ⟨Int.le_refl _, hwy.2.1⟩)
   simp [goodsOf, this]
 have hall : goodOf v ts P d = 1 ↔ ∀ n ∈ fullIn ts P d, ∀ w, v.way.lo ≤ w → w ≤ v.way.hi → v.full ≤ n ∧ n + w ≤ v.ripe := by
  rw [goodOf, settled_one]
  simp only [goodsIn, goodsOf, List.mem_flatMap, List.mem_map, waysIn_mem]
  constructor
  ·intro h n hn w hw0 hw1
   have := h (goodAt v n w) ⟨n, hn, w, ⟨hw0, hw1⟩, rfl⟩
   simpa [goodAt] using this
  ·rintro h _ ⟨n, hn, w, ⟨hw0, hw1⟩, rfl⟩
   have := h n hn w hw0 hw1
   simpa [goodAt] using this
 have hnone : goodOf v ts P d = 2 ↔ ∀ n ∈ fullIn ts P d, ∀ w, v.way.lo ≤ w → w ≤ v.way.hi → ¬ (v.full ≤ n ∧ n + w ≤ v.ripe) := by
  rw [goodOf, settled_two]
  simp only [goodsIn, goodsOf, List.mem_flatMap, List.mem_map, waysIn_mem]
  constructor
  ·rintro ⟨_, h⟩ n hn w hw0 hw1 hc
   have := h (goodAt v n w) ⟨n, hn, w, ⟨hw0, hw1⟩, rfl⟩
   simp [goodAt, hc.1, hc.2] at this
  ·intro h
   refine ⟨hgne, ?_⟩
   rintro _ ⟨n, hn, w, ⟨hw0, hw1⟩, rfl⟩
   have := h n hn w hw0 hw1
   rw [id, Bool.eq_false_iff]
   intro hc
   simp [goodAt] at hc
   exact this hc
 have hcases := settled_cases ((goodsIn v ts P d).filter id).length (goodsIn v ts P d).length
 have hg : goodOf v ts P d = settled ((goodsIn v ts P d).filter id).length (goodsIn v ts P d).length := rfl
 rw [← hg] at hcases
 have hany : (fullIn ts P d).any (canB v) = true ↔ ∃ n ∈ fullIn ts P d, v.full ≤ n ∧ n + v.way.lo ≤ v.ripe := by
  simp [List.any_eq_true, canB]
 have hS : spanL (fullIn ts P d) = fullS ts P d := rfl
 rw [hS] at h1 h2 h3
 obtain ⟨s, hs⟩ : ∃ s, fullS ts P d = s := ⟨_, rfl⟩
 rw [hs] at h1 h2 h3 ⊢
 simp only [cutS, toldB]
 by_cases a1 : v.full ≤ s.lo
 ·by_cases a2 : s.hi + v.way.hi ≤ v.ripe
  ·have : goodOf v ts P d = 1 := hall.2 fun n hn w hw0 hw1 => by have := h3 n hn; omega
   simp [a1, a2, this]
  ·by_cases a3 : v.ripe < s.lo + v.way.lo
   ·have : goodOf v ts P d = 2 := hnone.2 fun n hn w hw0 hw1 => by have := h3 n hn; omega
    simp [a1, a2, a3, this]
   ·have hn1 : goodOf v ts P d ≠ 1 := fun e => by have := hall.1 e _ h2 _ (hwy.2.1) (Int.le_refl _); omega
    have hn2 : goodOf v ts P d ≠ 2 := fun e => hnone.1 e _ h1 _ (Int.le_refl _) hwy.2.1 ⟨a1, by omega⟩
    have h0 : goodOf v ts P d = 0 := by rcases hcases with h | h | h <;> first | exact h | exact absurd h hn1 | exact absurd h hn2
    have : (fullIn ts P d).any (canB v) = true := hany.2 ⟨_, h1, a1, by omega⟩
    simp [a1, a2, a3, h0, this]
 ·by_cases a4 : s.hi < v.full
  ·have : goodOf v ts P d = 2 := hnone.2 fun n hn w hw0 hw1 => by have := h3 n hn; omega
   simp [a1, a4, this]
  ·have hn1 : goodOf v ts P d ≠ 1 := fun e => by have := hall.1 e _ h1 _ (Int.le_refl _) hwy.2.1; omega
   by_cases hc : (fullIn ts P d).any (canB v) = true
   ·obtain ⟨n, hn, c1, c2⟩ := hany.1 hc
    have hn2 : goodOf v ts P d ≠ 2 := fun e => hnone.1 e n hn _ (Int.le_refl _) hwy.2.1 ⟨c1, c2⟩
    have h0 : goodOf v ts P d = 0 := by rcases hcases with h | h | h <;> first | exact h | exact absurd h hn1 | exact absurd h hn2
    have hnn := h3 n hn
    have a3 : ¬ v.ripe < s.lo + v.way.lo := by omega
    by_cases a2 : s.hi + v.way.hi ≤ v.ripe
    ·simp [a1, a4, a2, h0, hc]
    ·simp [a1, a4, a2, a3, h0, hc]
   ·have h2' : goodOf v ts P d = 2 := hnone.2 fun n hn w hw0 hw1 hcc => hc (hany.2 ⟨n, hn, hcc.1, by omega⟩)
    have hcf : (fullIn ts P d).any (canB v) = false := by simpa using hc
    rw [h2', hcf]
    by_cases a2 : s.hi + v.way.hi ≤ v.ripe
    ·simp [a1, a4, a2]
    ·by_cases a3 : v.ripe < s.lo + v.way.lo
     ·simp [a1, a4, a2, a3]
     ·simp [a1, a4, a2, a3]
end Go.Am.Room
set_option maxRecDepth 8000
namespace Go.Am.Room
def QXFFaPC := And.intro @encFarm_eq (And.intro @farmCells_eq (And.intro @encPlot_eq (And.intro @encLook_eq (And.intro @encSpan_eq (And.intro @S_mapPlot (And.intro @S_mapLook (And.intro @S_mapSpan (And.intro @List.length_append.{0} (And.intro @Nat.mul_one (And.intro @Int.toNat_natCast (And.intro @T_sapp (And.intro @T_sapp0 (And.intro @db_0 (And.intro @db_1 (And.intro @db_2 (And.intro @db_3 (And.intro @db_4 (And.intro @db_5 (And.intro @db_6 (And.intro @db_7 (And.intro @db_8 (And.intro @A_mrange (And.intro @W_mrange (And.intro @A_entry (And.intro @W_entry (And.intro @arrA_len (And.intro @arrA_take (And.intro @arrA_drop (And.intro @S_arrA (And.intro @arrA_cell (And.intro @V_min2 (@V_max2))))))))))))))))))))))))))))))))
def ruleIds : List Nat := [105, 107]
def encRule (i : Nat) : AV := .agg [.func i [] []]
theorem encRule_eq (i : Nat) : encRule i = .agg [.func i [] []] := by simp only [encRule]
theorem data_rule (i : Nat) : Data (encRule i) := ⟨by simp [encRule, okV, okVs], by simp [encRule, clr, clrs]⟩
theorem S_mapRule (σ : St) (m d : Nat) (l : List Nat) : snapMs σ m d (l.map encRule) = some (l.map encRule) := S_datas (datas_map data_rule l) σ m d
theorem rules_ok : Pure T 98 [] (.lit (ruleIds.map encRule) false none) := by
 refine pure_fn (af := a98) rfl (by simp [a98]) datas_nil ?_
 (repeat (first | simp only [↓QA, QB, Nat.reduceLT, reduceIte, Nat.reduceEqDiff, Nat.reduceAdd, Nat.reduceLeDiff, Nat.reduceMul, Nat.reduceBEq, QXFFaPC, a98, ruleIds, encRule_eq, List.map_cons, List.map_nil] | refine rd0 rfl ?_))
 try simp [snapM, snapMs, snap, snaps, clr, clrs]
def rule1 (v : Farm) (s : Span) : Int := toldB (decide (v.full ≤ s.lo)) (decide (s.hi < v.full))
def rule2 (v : Farm) (s : Span) : Int := toldB (decide (s.hi + v.way.hi ≤ v.ripe)) (decide (v.ripe < s.lo + v.way.lo))
theorem rule1_same (v : Farm) (b m p : Nat) (s : Span) (σ : St) (hp : cellsAt σ p = some (db v b m)) : Same T (.func 105 [] []) [.ptr p 0, encSpan s] σ (.int .i64 (rule1 v s)) := by
 refine same_fn (af := a105) rfl (by simp [a105]) ?_
 have h0 := fun τ => cells_app hp τ
 (repeat (first | simp only [↓QA, QB, Nat.reduceLT, reduceIte, Nat.reduceEqDiff, Nat.reduceAdd, Nat.reduceLeDiff, Nat.reduceMul, Nat.reduceBEq, QXFFaPC, a105, h0] | refine rd0 rfl ?_))
 ((first | refine callK_d (told_ok (decide (v.full ≤ s.lo)) (decide (s.hi < v.full))) rfl dd ?_ | refine callD_d (told_ok (decide (v.full ≤ s.lo)) (decide (s.hi < v.full))) rfl dd ?_); (repeat (first | simp only [↓QA, QB, Nat.reduceLT, reduceIte, Nat.reduceEqDiff, Nat.reduceAdd, Nat.reduceLeDiff, Nat.reduceMul, Nat.reduceBEq, QXFFaPC, h0] | refine rd0 rfl ?_)))
 refine baseR [.cells [.int .i64 s.lo, .int .i64 s.hi]] (by first | rfl | simp) ?_
 try simp only [QS, QC, Nat.reduceLT, reduceIte, Nat.reduceEqDiff, Nat.reduceAdd, Nat.reduceLeDiff, Nat.reduceMul, Nat.reduceBEq, QXFFaPC, rule1]
theorem rule2_same (v : Farm) (hv : Vd v) (b m p : Nat) (s : Span) (hs : 0 ≤ s.lo ∧ s.lo ≤ s.hi ∧ s.hi ≤ 21) (σ : St) (hp : cellsAt σ p = some (db v b m)) : Same T (.func 107 [] []) [.ptr p 0, encSpan s] σ (.int .i64 (rule2 v s)) := by
 refine same_fn (af := a107) rfl (by simp [a107]) ?_
 have h0 := fun τ => cells_app hp τ
 have hwy := hv.way
 have w1 : IntKind.i64.wrap (s.hi + v.way.hi) = s.hi + v.way.hi := wrap64 ⟨by omega, by omega⟩
 have w2 : IntKind.i64.wrap (s.lo + v.way.lo) = s.lo + v.way.lo := wrap64 ⟨by omega, by omega⟩
 (repeat (first | simp only [↓QA, QB, Nat.reduceLT, reduceIte, Nat.reduceEqDiff, Nat.reduceAdd, Nat.reduceLeDiff, Nat.reduceMul, Nat.reduceBEq, QXFFaPC, a107, h0, w1, w2] | refine rd0 rfl ?_))
 ((first | refine callK_d (told_ok (decide (s.hi + v.way.hi ≤ v.ripe)) (decide (v.ripe < s.lo + v.way.lo))) rfl dd ?_ | refine callD_d (told_ok (decide (s.hi + v.way.hi ≤ v.ripe)) (decide (v.ripe < s.lo + v.way.lo))) rfl dd ?_); (repeat (first | simp only [↓QA, QB, Nat.reduceLT, reduceIte, Nat.reduceEqDiff, Nat.reduceAdd, Nat.reduceLeDiff, Nat.reduceMul, Nat.reduceBEq, QXFFaPC, h0] | refine rd0 rfl ?_)))
 refine baseR [.cells [.int .i64 s.lo, .int .i64 s.hi]] (by first | rfl | simp) ?_
 try simp only [QS, QC, Nat.reduceLT, reduceIte, Nat.reduceEqDiff, Nat.reduceAdd, Nat.reduceLeDiff, Nat.reduceMul, Nat.reduceBEq, QXFFaPC, rule2]
theorem toldB_cases (a b : Bool) : toldB a b = 0 ∨ toldB a b = 1 ∨ toldB a b = 2 := by cases a <;> cases b <;> simp [toldB]
set_option maxHeartbeats 1000000 in
theorem cut_same (v : Farm) (hv : Vd v) (ts : List Truth) (hts : ∀ t ∈ ts, KOk v t) (hne : ts ≠ []) (b m p : Nat) (σ : St) (hK : KnownAt σ v b m p ts) (P d : Nat) (hP : P < v.plots.length) (hd : d ≤ v.rain.length) :
  Same T (.func 80 [] []) [.ptr p 0, .int .i64 P, .int .i64 d] σ (.int .i64 (goodOf v ts P d)) := by
 refine same_fn (af := a80) rfl (by simp [a80]) ?_
 have hnr := hv.nra
 have hnp := hv.npl
 have hwy := hv.way
 have hpl := hK.pl
 have hml := hK.ml
 have h0 := fun τ => cells_app hK.obj τ
 have hmr := fun τ => V_mrange (hK.map1 τ)
 simp only [List.length_map] at hmr
 have hp1 : p < σ.length + 1 := by omega
 have hp2 : p < σ.length + 2 := by omega
 have hm2 : m < σ.length + 2 := by omega
 have i4 : (0 : Int) ≤ (P : Int) ∧ (P : Int) < ((4 : Nat) : Int) := ⟨by omega, by omega⟩
 have hgr := grown_same v hv ts hts hne b m p σ hK P d hP hd
 have hgood := cut_good hv (fun t ht => (hts t ht).tok) hne hP hd
 have hsb := fullS_bd hv (fun t ht => (hts t ht).tok) hne hP hd
 obtain ⟨s, hs⟩ : ∃ s, fullS ts P d = s := ⟨_, rfl⟩
 rw [hs] at hgr hgood hsb
 obtain ⟨G, hG⟩ : ∃ G, goodOf v ts P d = G := ⟨_, rfl⟩
 rw [hG] at hgood ⊢
 have hr1 := fun τ => rule1_same v b m p s (σ ++ τ) (h0 τ)
 have hr2 := fun τ => rule2_same v hv b m p s hsb (σ ++ τ) (h0 τ)
 obtain ⟨K1, hK1⟩ : ∃ K1, rule1 v s = K1 := ⟨_, rfl⟩
 obtain ⟨K2, hK2⟩ : ∃ K2, rule2 v s = K2 := ⟨_, rfl⟩
 have c1 : K1 = 0 ∨ K1 = 1 ∨ K1 = 2 := by rw [← hK1]; exact toldB_cases _ _
 have c2 : K2 = 0 ∨ K2 = 1 ∨ K2 = 2 := by rw [← hK2]; exact toldB_cases _ _
 have hgd : G = if K1 = 2 then 2 else if K2 = 2 then 2 else if K1 = 1 ∧ K2 = 1 then 1 else if (fullIn ts P d).any (canB v) then 0 else 2 := by
  rw [hgood, ← hK1, ← hK2]; rfl
 simp only [hK1] at hr1
 simp only [hK2] at hr2
 have hrl : (ruleIds.map encRule).length = 2 := rfl
 have hrl2 : ruleIds.length = 2 := rfl
 (repeat (first | simp only [↓QA, QB, Nat.reduceLT, reduceIte, Nat.reduceEqDiff, Nat.reduceAdd, Nat.reduceLeDiff, Nat.reduceMul, Nat.reduceBEq, QXFFaPC, a80] | refine rd0 rfl ?_))
 refine callK_same hgr ?_
 (repeat (first | simp only [↓QA, QB, Nat.reduceLT, reduceIte, Nat.reduceEqDiff, Nat.reduceAdd, Nat.reduceLeDiff, Nat.reduceMul, Nat.reduceBEq, QXFFaPC] | refine rd0 rfl ?_))
 refine callK_d rules_ok rfl datas_nil ?_
 (repeat (first | simp only [↓QA, QB, Nat.reduceLT, reduceIte, Nat.reduceEqDiff, Nat.reduceAdd, Nat.reduceLeDiff, Nat.reduceMul, Nat.reduceBEq, QXFFaPC, hrl, hrl2] | refine rd0 rfl ?_))
 refine loopE (S := Nat × Bool) (0, true) (fun a => a.1 ≤ 2 ∧ (a.1 = 0 → a.2 = true) ∧ (1 ≤ a.1 → K1 ≠ 2) ∧ (a.1 = 1 → a.2 = (K1 == 1)) ∧ (2 ≤ a.1 → K2 ≠ 2 ∧ a.2 = ((K1 == 1) && (K2 == 1)))) (fun a => 2 - a.1)
  (fun a => [(0, .ptr p 0), (1, .int .i64 P), (2, .int .i64 d), (7, .ptr σ.length 0), (8, .bool a.2), (20, .lit (ruleIds.map encRule) false none), (21, .int .i64 2), (22, .int .i64 a.1)])
  (fun a => σ ++ [.cells [.int .i64 s.lo, .int .i64 s.hi]]) ⟨by omega, fun _ => rfl, fun h => absurd h (by simp), fun h => by simp at h, fun h => absurd h (by simp)⟩ (by simp) ?_ fun a ha => ?_
 ·try simp only [TrimX, QE, Nat.reduceLT, reduceIte, Nat.reduceEqDiff, Nat.reduceAdd, Nat.reduceLeDiff, Nat.reduceMul, Nat.reduceBEq, QXFFaPC]
  try simp
 ·obtain ⟨k, bb⟩ := a
  obtain ⟨hk, q0, q1, q2, q3⟩ := ha
  simp only at hk q0 q1 q2 q3
  (repeat (first | simp only [↓QA, QB, Nat.reduceLT, reduceIte, Nat.reduceEqDiff, Nat.reduceAdd, Nat.reduceLeDiff, Nat.reduceMul, Nat.reduceBEq, QXFFaPC, L80_0] | refine rd0 rfl ?_))
  refine iteP_intro (fun h => ?_) fun h => ?_
  ·have hk2 : k = 0 ∨ k = 1 := by
    have h0 : (k : Int) < 2 := by simpa using h
    omega
   have hw := wrapN (show k < 2 by omega) (by omega)
   have hlk : k < ruleIds.length := by rw [hrl2]; omega
   obtain ⟨id, hid, X, hcall, hX⟩ : ∃ id, ruleIds[k] = id ∧ ∃ X, (∀ τ, Same T (.func id [] []) [.ptr p 0, encSpan s] (σ ++ τ) (.int .i64 X)) ∧ ((k = 0 ∧ X = K1) ∨ (k = 1 ∧ X = K2)) := by
    rcases hk2 with rfl | rfl
    ·exact ⟨_, rfl, K1, hr1, .inl ⟨rfl, rfl⟩⟩
    ·exact ⟨_, rfl, K2, hr2, .inr ⟨rfl, rfl⟩⟩
   have hcl : cellsOk 1 (.agg [.func id [] []]) = true := by simp [cellsOk, AV.cells, AV.cell]
   (repeat (first | simp only [↓QA, QB, Nat.reduceLT, reduceIte, Nat.reduceEqDiff, Nat.reduceAdd, Nat.reduceLeDiff, Nat.reduceMul, Nat.reduceBEq, QXFFaPC, hlk, hid, hcl, encRule_eq] | refine rd0 rfl ?_))
   refine callK_same (hcall _) ?_
   cases hx2 : (X == 2)
   ·have hx2' : X ≠ 2 := by simpa using hx2
    cases hx0 : (X == 0)
    ·have hx0' : X ≠ 0 := by simpa using hx0
     (repeat (first | simp only [↓QA, QB, Nat.reduceLT, reduceIte, Nat.reduceEqDiff, Nat.reduceAdd, Nat.reduceLeDiff, Nat.reduceMul, Nat.reduceBEq, QXFFaPC, hx2, hx0, hw] | refine rd0 rfl ?_))
     refine ⟨(k + 1, bb), ⟨by simp only; omega, fun h => by simp at h, ?_, ?_, ?_⟩, by simp only; omega, ?_⟩
     ·intro _
      rcases hX with ⟨e1, e2⟩ | ⟨e1, e2⟩
      ·rw [← e2]; exact hx2'
      ·exact q1 (by omega)
     ·intro e
      simp only at e
      have e0 : k = 0 := by omega
      have hb := q0 e0
      rcases hX with ⟨e1, e2⟩ | ⟨e1, e2⟩
      ·simp only [hb]
       have : K1 = 1 := by omega
       simp [this]
      ·omega
     ·intro e
      simp only at e
      rcases hX with ⟨e1, e2⟩ | ⟨e1, e2⟩
      ·omega
      ·refine ⟨by rw [← e2]; exact hx2', ?_⟩
       simp only [q2 e1]
       have : K2 = 1 := by omega
       simp [this]
     ·try simp only [TrimX, QE, Nat.reduceLT, reduceIte, Nat.reduceEqDiff, Nat.reduceAdd, Nat.reduceLeDiff, Nat.reduceMul, Nat.reduceBEq, QXFFaPC, hw, hp1, S_mapRule]
      try simp [okBlk, okVs, okV]
    ·have hx0' : X = 0 := by simpa using hx0
     (repeat (first | simp only [↓QA, QB, Nat.reduceLT, reduceIte, Nat.reduceEqDiff, Nat.reduceAdd, Nat.reduceLeDiff, Nat.reduceMul, Nat.reduceBEq, QXFFaPC, hx2, hx0, hw] | refine rd0 rfl ?_))
     refine ⟨(k + 1, false), ⟨by simp only; omega, fun h => by simp at h, ?_, ?_, ?_⟩, by simp only; omega, ?_⟩
     ·intro _
      rcases hX with ⟨e1, e2⟩ | ⟨e1, e2⟩
      ·rw [← e2]; exact hx2'
      ·exact q1 (by omega)
     ·intro e
      simp only at e
      rcases hX with ⟨e1, e2⟩ | ⟨e1, e2⟩
      ·have : K1 = 0 := by omega
       simp [this]
      ·omega
     ·intro e
      simp only at e
      rcases hX with ⟨e1, e2⟩ | ⟨e1, e2⟩
      ·omega
      ·refine ⟨by rw [← e2]; exact hx2', ?_⟩
       have : K2 = 0 := by omega
       simp [this]
     ·try simp only [TrimX, QE, Nat.reduceLT, reduceIte, Nat.reduceEqDiff, Nat.reduceAdd, Nat.reduceLeDiff, Nat.reduceMul, Nat.reduceBEq, QXFFaPC, hw, hp1, S_mapRule]
      try simp [okBlk, okVs, okV]
   ·have hx2' : X = 2 := by simpa using hx2
    have hG2 : G = 2 := by
     rcases hX with ⟨e1, e2⟩ | ⟨e1, e2⟩
     ·rw [hgd, if_pos (by omega)]
     ·rw [hgd]
      split
      ·rfl
      ·rw [if_pos (by omega)]
    rw [hG2]
    (repeat (first | simp only [↓QA, QB, Nat.reduceLT, reduceIte, Nat.reduceEqDiff, Nat.reduceAdd, Nat.reduceLeDiff, Nat.reduceMul, Nat.reduceBEq, QXFFaPC, hx2] | refine rd0 rfl ?_))
    refine baseR [.cells [.int .i64 s.lo, .int .i64 s.hi], .cells [.func id [] []]] (by first | rfl | simp) ?_
    try simp only [QS, QC, Nat.reduceLT, reduceIte, Nat.reduceEqDiff, Nat.reduceAdd, Nat.reduceLeDiff, Nat.reduceMul, Nat.reduceBEq, QXFFaPC]
  ·have hk2 : k = 2 := by
    have h0 : ¬ (k : Int) < 2 := by simpa using h
    omega
   obtain ⟨q4, q5⟩ := q3 (by omega)
   have q6 := q1 (by omega)
   clear q0 q1 q2 q3
   cases bb
   ·have h11 : ¬ (K1 = 1 ∧ K2 = 1) := by
     rintro ⟨e1, e2⟩
     rw [e1, e2] at q5
     simp at q5
    rw [if_neg q6, if_neg q4, if_neg h11] at hgd
    (repeat (first | simp only [↓QA, QB, Nat.reduceLT, reduceIte, Nat.reduceEqDiff, Nat.reduceAdd, Nat.reduceLeDiff, Nat.reduceMul, Nat.reduceBEq, QXFFaPC, h0, hmr] | refine rd0 rfl ?_))
    refine mapE (S := Unit) ts kvT m (σ.length + 1) (fun done _ => ∀ n ∈ fullIn done P d, canB v n = false) (fun _ => [(0, .ptr p 0), (1, .int .i64 P), (2, .int .i64 d), (41, .ptr (σ.length + 1) 0)])
     (fun _ => σ ++ [.cells [.int .i64 s.lo, .int .i64 s.hi]]) () (fun s => by simp) (fun s => hK.map1 _) (fun s => by simp [Env.get]) (fun n hn => by simp [fullIn] at hn) (by simp) ?_ (fun done _ t i left hcan ht hti => ?_) fun done _ left last hcan hdone => ?_
    ·try simp only [TrimX, QE, Nat.reduceLT, reduceIte, Nat.reduceEqDiff, Nat.reduceAdd, Nat.reduceLeDiff, Nat.reduceMul, Nat.reduceBEq, QXFFaPC]
     try simp
    ·have hent := known_entry hK hti left
     unfold MapK
     obtain ⟨htk, hlst⟩ := hts t ht
     have hfl := htk.fl P hP
     have hlst := hlst P hP
     have hsb2 : setB (flAt t P) < 2 ^ 7 := setB_lt fun x hx => by have := hfl.2.2 x hx; omega
     have hge := arrA_get 4 (fun q => (setB (flAt t q) : Int)) (show P < 4 by omega)
     have hnum := numbers_ok (setB (flAt t P)) v.rain.length (by omega) (by omega)
     rw [hlst] at hnum
     have hfull := fun (H : Nat) (τ : St) => full_same (.ptr p 0) (rl t.rain) H d (rain_bd hv htk.rain) (by omega) τ
     have hmem : ∀ x ∈ flAt t P, (∃ y ∈ fullIn ts P d, y = ptsT t d x) := fun x hx => ⟨_, by simp only [fullIn, List.mem_flatMap, List.mem_map]; exact ⟨t, ht, x, hx, rfl⟩, rfl⟩
     have hst : ∀ x, x ∈ fullIn (t :: done) P d → x ∈ (flAt t P).map (ptsT t d) ∨ x ∈ fullIn done P d := fun x => by
      rw [fullIn, List.flatMap_cons, List.mem_append]; exact id
     obtain ⟨F, hF⟩ : ∃ F, flAt t P = F := ⟨_, rfl⟩
     rw [hF] at hfl hnum hst hmem
     simp only [hF] at hge
     obtain ⟨bb, hbb⟩ : ∃ bb : Nat, setB F = bb := ⟨_, rfl⟩
     rw [hbb] at hnum
     simp only [hbb] at hge
     (repeat (first | simp only [↓QA, QB, Nat.reduceLT, reduceIte, Nat.reduceEqDiff, Nat.reduceAdd, Nat.reduceLeDiff, Nat.reduceMul, Nat.reduceBEq, QXFFaPC, hent, h0, kvT, tKey, tVal, i4, Nat.zero_add, hge] | refine rd0 rfl ?_))
     ((first | refine callK_d (hnum) rfl dd ?_ | refine callD_d (hnum) rfl dd ?_); (repeat (first | simp only [↓QA, QB, Nat.reduceLT, reduceIte, Nat.reduceEqDiff, Nat.reduceAdd, Nat.reduceLeDiff, Nat.reduceMul, Nat.reduceBEq, QXFFaPC, hent, h0, kvT, tKey, tVal, i4, Nat.zero_add, hge, ints] | refine rd0 rfl ?_)))
     refine loopE (S := Nat) 0 (fun k => k ≤ F.length ∧ ∀ x ∈ (F.take k).map (ptsT t d), canB v x = false) (fun k => F.length - k)
      (fun k => [(0, .ptr p 0), (1, .int .i64 P), (2, .int .i64 d), (11, .ptr (σ.length + 2) 0), (41, .ptr (σ.length + 1) 0), (56, ints F), (57, .int .i64 F.length), (58, .int .i64 k)])
      (fun k => σ ++ [.cells [.int .i64 s.lo, .int .i64 s.hi], .miter m ts.length left (some i), .cells (arrA 7 (rl t.rain)), .cells (arrA 4 (fun q => (setB (flAt t q) : Int)))]) ⟨Nat.zero_le _, by simp⟩ (by simp) ?_ fun k hk => ?_
     ·try simp only [TrimX, QE, Nat.reduceLT, reduceIte, Nat.reduceEqDiff, Nat.reduceAdd, Nat.reduceLeDiff, Nat.reduceMul, Nat.reduceBEq, QXFFaPC, ints]
      try simp
     ·obtain ⟨hk, hmm⟩ := hk
      (repeat (first | simp only [↓QA, QB, Nat.reduceLT, reduceIte, Nat.reduceEqDiff, Nat.reduceAdd, Nat.reduceLeDiff, Nat.reduceMul, Nat.reduceBEq, QXFFaPC, L80_5, ints] | refine rd0 rfl ?_))
      refine iteP_intro (fun h => ?_) fun h => ?_
      ·have hk1 : k < F.length := by simpa using h
       have hwk := wrapN hk1 (by omega)
       have hm := hfl.2.2 _ (List.getElem_mem hk1)
       have hme := hmem _ (List.getElem_mem hk1)
       obtain ⟨H, hH⟩ : ∃ H : Nat, F[k] = (H : Int) := ⟨F[k].toNat, by omega⟩
       rw [hH] at hme
       have hfu := hfull H
       have hx : pts (rl t.rain) H d = ptsT t d H := by simp [ptsT, ptsL]
       have hxb := ptsT_bd hv htk hd (H : Int)
       rw [hx] at hfu
       obtain ⟨x, hxe⟩ : ∃ x, ptsT t d H = x := ⟨_, rfl⟩
       rw [hxe] at hxb hme
       simp only [hxe] at hfu
       have hnx : canB v x = false → ∀ y ∈ (F.take (k + 1)).map (ptsT t d), canB v y = false := fun hc y hy => by
        rw [List.take_succ_eq_append_getElem hk1, List.map_append, List.map_cons, List.map_nil, hH, hxe] at hy
        rcases List.mem_append.1 hy with hy | hy
        ·exact hmm y hy
        ·simp at hy; rw [hy]; exact hc
       have hwx : IntKind.i64.wrap (x + v.way.lo) = x + v.way.lo := wrap64 ⟨by omega, by omega⟩
       have hcb : canB v x = (decide (v.full ≤ x) && decide (x + v.way.lo ≤ v.ripe)) := rfl
       (repeat (first | simp only [↓QA, QB, Nat.reduceLT, reduceIte, Nat.reduceEqDiff, Nat.reduceAdd, Nat.reduceLeDiff, Nat.reduceMul, Nat.reduceBEq, QXFFaPC, hk1, hH, ints] | refine rd0 rfl ?_))
       refine callK_same (hfu _) ?_
       (repeat (first | simp only [↓QA, QB, Nat.reduceLT, reduceIte, Nat.reduceEqDiff, Nat.reduceAdd, Nat.reduceLeDiff, Nat.reduceMul, Nat.reduceBEq, QXFFaPC, h0] | refine rd0 rfl ?_))
       cases h5 : decide (v.full ≤ x)
       ·have hc : canB v x = false := by rw [hcb, h5]; rfl
        (repeat (first | simp only [↓QA, QB, Nat.reduceLT, reduceIte, Nat.reduceEqDiff, Nat.reduceAdd, Nat.reduceLeDiff, Nat.reduceMul, Nat.reduceBEq, QXFFaPC, h5, h0, hwk] | refine rd0 rfl ?_))
        refine ⟨k + 1, ⟨by omega, hnx hc⟩, by omega, ?_⟩
        try simp only [TrimX, QE, Nat.reduceLT, reduceIte, Nat.reduceEqDiff, Nat.reduceAdd, Nat.reduceLeDiff, Nat.reduceMul, Nat.reduceBEq, QXFFaPC, hwk, ints, hp2]
        try simp [okBlk, okVs, okV, arrA_ok]
        try omega
       ·cases h6 : decide (x + v.way.lo ≤ v.ripe)
        ·have hc : canB v x = false := by rw [hcb, h5, h6]; rfl
         (repeat (first | simp only [↓QA, QB, Nat.reduceLT, reduceIte, Nat.reduceEqDiff, Nat.reduceAdd, Nat.reduceLeDiff, Nat.reduceMul, Nat.reduceBEq, QXFFaPC, h5, h0, hwx, h6, hwk] | refine rd0 rfl ?_))
         refine ⟨k + 1, ⟨by omega, hnx hc⟩, by omega, ?_⟩
         try simp only [TrimX, QE, Nat.reduceLT, reduceIte, Nat.reduceEqDiff, Nat.reduceAdd, Nat.reduceLeDiff, Nat.reduceMul, Nat.reduceBEq, QXFFaPC, hwk, ints, hp2]
         try simp [okBlk, okVs, okV, arrA_ok]
         try omega
        ·have hc : canB v x = true := by rw [hcb, h5, h6]; rfl
         have hany : (fullIn ts P d).any (canB v) = true := by
          obtain ⟨y, hy, rfl⟩ := hme
          exact List.any_eq_true.2 ⟨_, hy, hc⟩
         have hG0 : G = 0 := by rw [hgd, hany]; rfl
         rw [hG0]
         (repeat (first | simp only [↓QA, QB, Nat.reduceLT, reduceIte, Nat.reduceEqDiff, Nat.reduceAdd, Nat.reduceLeDiff, Nat.reduceMul, Nat.reduceBEq, QXFFaPC, h5, h0, hwx, h6] | refine rd0 rfl ?_))
         refine baseR [.cells [.int .i64 s.lo, .int .i64 s.hi], .miter m ts.length left (some i), .cells (arrA 7 (rl t.rain)), .cells (arrA 4 (fun q => (setB (flAt t q) : Int)))] (by first | rfl | simp) ?_
         try simp only [QS, QC, Nat.reduceLT, reduceIte, Nat.reduceEqDiff, Nat.reduceAdd, Nat.reduceLeDiff, Nat.reduceMul, Nat.reduceBEq, QXFFaPC]
      ·have hk1 : k = F.length := by simp at h; omega
       rw [hk1, List.take_length] at hmm
       (repeat (first | simp only [↓QA, QB, Nat.reduceLT, reduceIte, Nat.reduceEqDiff, Nat.reduceAdd, Nat.reduceLeDiff, Nat.reduceMul, Nat.reduceBEq, QXFFaPC] | refine rd0 rfl ?_))
       refine ⟨(false, ()), ⟨rfl, fun x hx => ?_⟩, by simp, ?_⟩
       ·rcases hst x hx with h | h
        ·exact hmm x h
        ·exact hcan x h
       ·try simp only [TrimX, QE, Nat.reduceLT, reduceIte, Nat.reduceEqDiff, Nat.reduceAdd, Nat.reduceLeDiff, Nat.reduceMul, Nat.reduceBEq, QXFFaPC, hp2]
        try simp [okBlk, okVs, okV]
        try omega
    ·have hany : (fullIn ts P d).any (canB v) = false := by
      rw [Bool.eq_false_iff]
      intro hc
      obtain ⟨n, hn, hcn⟩ := List.any_eq_true.1 hc
      have : n ∈ fullIn done P d := by simp only [fullIn, List.mem_flatMap, hdone] at hn ⊢; exact hn
      rw [hcan n this] at hcn
      cases hcn
     have hG2 : G = 2 := by rw [hgd, hany]; rfl
     rw [hG2]
     (repeat (first | simp only [↓QA, QB, Nat.reduceLT, reduceIte, Nat.reduceEqDiff, Nat.reduceAdd, Nat.reduceLeDiff, Nat.reduceMul, Nat.reduceBEq, QXFFaPC] | refine rd0 rfl ?_))
     refine baseR [.cells [.int .i64 s.lo, .int .i64 s.hi], .miter m ts.length left last] (by first | rfl | simp) ?_
     try simp only [QS, QC, Nat.reduceLT, reduceIte, Nat.reduceEqDiff, Nat.reduceAdd, Nat.reduceLeDiff, Nat.reduceMul, Nat.reduceBEq, QXFFaPC]
   ·have h11 : K1 = 1 ∧ K2 = 1 := by
     have := q5.symm
     simpa using this
    have hG1 : G = 1 := by rw [hgd, if_neg q6, if_neg q4, if_pos h11]
    rw [hG1]
    (repeat (first | simp only [↓QA, QB, Nat.reduceLT, reduceIte, Nat.reduceEqDiff, Nat.reduceAdd, Nat.reduceLeDiff, Nat.reduceMul, Nat.reduceBEq, QXFFaPC] | refine rd0 rfl ?_))
    refine baseR [.cells [.int .i64 s.lo, .int .i64 s.hi]] (by first | rfl | simp) ?_
    try simp only [QS, QC, Nat.reduceLT, reduceIte, Nat.reduceEqDiff, Nat.reduceAdd, Nat.reduceLeDiff, Nat.reduceMul, Nat.reduceBEq, QXFFaPC]
end Go.Am.Room
set_option maxRecDepth 8000
namespace Go.Am.Room
def QXFFaPD := And.intro @encFarm_eq (And.intro @farmCells_eq (And.intro @encPlot_eq (And.intro @encLook_eq (And.intro @encSpan_eq (And.intro @S_mapPlot (And.intro @S_mapLook (And.intro @S_mapSpan (And.intro @List.length_append.{0} (And.intro @Nat.mul_one (And.intro @Int.toNat_natCast (And.intro @T_sapp (And.intro @T_sapp0 (And.intro @db_0 (And.intro @db_1 (And.intro @db_2 (And.intro @db_3 (And.intro @db_4 (And.intro @db_5 (And.intro @db_6 (And.intro @db_7 (And.intro @db_8 (And.intro @V_min2 (@V_max2)))))))))))))))))))))))
theorem pcut_ok (v : Farm) (n d : Int) (hf : Fits v) : Pure T 23 [encFarm v, .int .i64 n, .int .i64 d] (encIE (cutOf v n d)) := by
 refine pure_fn (af := a23) rfl (by simp [a23]) dd ?_
 obtain ⟨E, hE⟩ : ∃ E, grownErr v n d = E := ⟨_, rfl⟩
 have hask := ask_grown v hf n d
 rw [hE] at hask
 have hun := fun σ => until_does [d, (v.rain.length : Int)] σ
 have hu1 := fun (q : Nat) (σ : St) hq => until1_same [d, (v.rain.length : Int)] (by simp) q σ hq
 simp only [litI_eq, List.map_cons, List.map_nil] at hun hu1
 (repeat (first | simp only [↓QA, QB, Nat.reduceLT, reduceIte, Nat.reduceEqDiff, Nat.reduceAdd, Nat.reduceLeDiff, Nat.reduceMul, Nat.reduceBEq, QXFFaPD, a23] | refine rd0 rfl ?_))
 refine callD_do (hun _) ?_
 (repeat (first | simp only [↓QA, QB, Nat.reduceLT, reduceIte, Nat.reduceEqDiff, Nat.reduceAdd, Nat.reduceLeDiff, Nat.reduceMul, Nat.reduceBEq, QXFFaPD] | refine rd0 rfl ?_))
 by_cases h0' : E = 0
 ·subst h0'
  have hE2 := hE
  obtain ⟨hw, hne⟩ := errKnown_ok hE2
  obtain ⟨ha, hd0, hd1⟩ := within_ok hw
  obtain ⟨hv, hn0, hn1⟩ := errAsk_ok ha
  have hm : cutOf v n d = (goodOf v (truths v []) n.toNat d.toNat, 0) := by rw [cutOf, hE, if_pos rfl]
  rw [hm]
  simp only [endOf] at hd1
  obtain ⟨N, rfl⟩ : ∃ N : Nat, n = N := ⟨n.toNat, by omega⟩
  obtain ⟨D, rfl⟩ : ∃ D : Nat, d = D := ⟨d.toNat, by omega⟩
  rw [Int.toNat_natCast, Int.toNat_natCast]
  have hen := enter_ok hf (plot := max (N : Int) (-1099511627775)) (eo := untilE [(D : Int), (v.rain.length : Int)]) (F := .func 96 [] [.ptr 1 0]) (σ := [.cells (farmCells v), .cells [.lit [.int .i64 D, .int .i64 v.rain.length] true none]]) (fun τ => hu1 _ _ rfl) hask
  have hgr := cut_same v hv (truths v []) (fun t ht => kok_of hv ht) hne 0 4 5 (lookS ([.cells (farmCells v), .cells [.lit [.int .i64 D, .int .i64 v.rain.length] true none]] ++ [.cells (farmCells v)]) v 0 (truths v [])) ⟨rfl, rfl⟩ N D (by omega) (by omega)
  try simp only [↓QA, QB, Nat.reduceLT, reduceIte, Nat.reduceEqDiff, Nat.reduceAdd, Nat.reduceLeDiff, Nat.reduceMul, Nat.reduceBEq, QXFFaPD, lookS, List.cons_append, List.nil_append, List.length_cons, List.length_nil] at hen
  try simp only [↓QA, QB, Nat.reduceLT, reduceIte, Nat.reduceEqDiff, Nat.reduceAdd, Nat.reduceLeDiff, Nat.reduceMul, Nat.reduceBEq, QXFFaPD, lookS, List.cons_append, List.nil_append, List.length_cons, List.length_nil] at hgr
  refine callD_do hen ?_
  (repeat (first | simp only [↓QA, QB, Nat.reduceLT, reduceIte, Nat.reduceEqDiff, Nat.reduceAdd, Nat.reduceLeDiff, Nat.reduceMul, Nat.reduceBEq, QXFFaPD] | refine rd0 rfl ?_))
  refine callK_same hgr ?_
  (repeat (first | simp only [↓QA, QB, Nat.reduceLT, reduceIte, Nat.reduceEqDiff, Nat.reduceAdd, Nat.reduceLeDiff, Nat.reduceMul, Nat.reduceBEq, QXFFaPD, encIE] | refine rd0 rfl ?_))
 ·have hm : cutOf v n d = (0, E) := by rw [cutOf, hE, if_neg h0']
  have hg : (E == 0) = false := by simpa using h0'
  rw [hm]
  refine callD_same (enter_err hf (fun τ => hu1 _ _ rfl) hask h0') ?_
  (repeat (first | simp only [↓QA, QB, Nat.reduceLT, reduceIte, Nat.reduceEqDiff, Nat.reduceAdd, Nat.reduceLeDiff, Nat.reduceMul, Nat.reduceBEq, QXFFaPD, hg, encIE] | refine rd0 rfl ?_))
theorem pdays_ok (v : Farm) (n : Int) (hf : Fits v) : Pure T 25 [encFarm v, .int .i64 n] (encLLE (daysOf v n)) := by
 refine pure_fn (af := a25) rfl (by simp [a25]) dd ?_
 obtain ⟨E, hE⟩ : ∃ E, plotErr v n = E := ⟨_, rfl⟩
 have hask := ask_fine v hf n
 rw [hE] at hask
 (repeat (first | simp only [↓QA, QB, Nat.reduceLT, reduceIte, Nat.reduceEqDiff, Nat.reduceAdd, Nat.reduceLeDiff, Nat.reduceMul, Nat.reduceBEq, QXFFaPD, a25] | refine rd0 rfl ?_))
 by_cases h0' : E = 0
 ·subst h0'
  have hE2 := hE
  obtain ⟨hw, hne⟩ := errKnown_ok hE2
  obtain ⟨hv, hn0, hn1⟩ := errAsk_ok hw
  have hnr := hv.nra
  have hm : daysOf v n = (sureDays v (truths v []) n.toNat, mayDays v (truths v []) n.toNat, 0) := by rw [daysOf, hE, if_pos rfl]
  rw [hm]
  obtain ⟨N, rfl⟩ : ∃ N : Nat, n = N := ⟨n.toNat, by omega⟩
  rw [Int.toNat_natCast]
  have hen := enter_ok hf (plot := max (N : Int) (-1099511627775)) (eo := 0) (F := .func 77 [] []) (σ := [.cells (farmCells v)]) (fun τ => fine_same _) hask
  have hgo := fun (D : Nat) (hD : D ≤ v.rain.length) (τ : St) => cut_same v hv (truths v []) (fun t ht => kok_of hv ht) hne 0 3 4 ([.cells (farmCells v), .cells (farmCells v), .cells (farmCells v), .map ((truths v []).map kvT), .cells (db v 0 3)] ++ τ) ⟨rfl, rfl⟩ N D (by omega) hD
  try simp only [↓QA, QB, Nat.reduceLT, reduceIte, Nat.reduceEqDiff, Nat.reduceAdd, Nat.reduceLeDiff, Nat.reduceMul, Nat.reduceBEq, QXFFaPD, lookS, List.cons_append, List.nil_append, List.length_cons, List.length_nil] at hen
  refine callK_do hen ?_
  obtain ⟨ts, hts⟩ : ∃ ts, truths v [] = ts := ⟨_, rfl⟩
  rw [hts] at hne ⊢
  simp only [hts, farmCells_eq, List.cons_append, List.nil_append] at hgo
  obtain ⟨G, hG⟩ : ∃ G, v.rain.length = G := ⟨_, rfl⟩
  obtain ⟨R1, hR1⟩ : ∃ R, sureDays v ts N = R := ⟨_, rfl⟩
  obtain ⟨R2, hR2⟩ : ∃ R, mayDays v ts N = R := ⟨_, rfl⟩
  obtain ⟨p1, hp1⟩ : ∃ p : Int → Bool, (fun d => goodOf v ts N d.toNat == 1) = p := ⟨_, rfl⟩
  obtain ⟨p2, hp2⟩ : ∃ p : Int → Bool, (fun d => !(goodOf v ts N d.toNat == 2)) = p := ⟨_, rfl⟩
  have hR1' : (numbers 0 (G + 1)).filter p1 = R1 := by rw [← hR1, ← hG, ← hp1]; rfl
  have hR2' : (numbers 0 (G + 1)).filter p2 = R2 := by rw [← hR2, ← hG, ← hp2]; rfl
  have hl1 : R1.length ≤ 8 := by rw [← hR1']; exact Nat.le_trans (List.length_filter_le _ _) (by rw [numbers_len]; omega)
  have hl2 : R2.length ≤ 8 := by rw [← hR2']; exact Nat.le_trans (List.length_filter_le _ _) (by rw [numbers_len]; omega)
  rw [hR1, hR2]
  rw [hG] at hgo
  have hwG : IntKind.i64.wrap ((G : Int) + 1) = ((G + 1 : Nat) : Int) := by rw [wrap64 ⟨by omega, by omega⟩]; omega
  (repeat (first | simp only [↓QA, QB, Nat.reduceLT, reduceIte, Nat.reduceEqDiff, Nat.reduceAdd, Nat.reduceLeDiff, Nat.reduceMul, Nat.reduceBEq, QXFFaPD, hG, hwG] | refine rd0 rfl ?_))
  refine ghostK 4 1 [] rfl ?_
  refine ghostK 5 1 [] rfl ?_
  refine loopE (S := Nat × List Int × Bool × List Int × Bool) (0, [], false, [], false) (fun a => a.1 ≤ G + 1 ∧ a.2.1 ++ (numbers (a.1 : Int) (G + 1 - a.1)).filter p1 = R1 ∧ a.2.2.2.1 ++ (numbers (a.1 : Int) (G + 1 - a.1)).filter p2 = R2) (fun a => G + 1 - a.1)
   (fun a => [(1, .int .i64 N), (4, .lit (a.2.1.map (.int .i64)) false (some 5)), (5, .lit (a.2.2.2.1.map (.int .i64)) false (some 6)), (7, .ptr 4 0), (23, .int .i64 ((G + 1 : Nat) : Int)), (24, .int .i64 a.1)])
   (fun a => [.cells (farmCells v), .cells (farmCells v), .cells (farmCells v), .map (ts.map kvT), .cells (db v 0 3), .tok 1 a.2.1.length a.2.2.1, .tok 1 a.2.2.2.1.length a.2.2.2.2]) ⟨Nat.zero_le _, by simpa using hR1', by simpa using hR2'⟩ (by simp [farmCells_eq]) ?_ fun a ha => ?_
  ·try simp only [TrimX, QE, Nat.reduceLT, reduceIte, Nat.reduceEqDiff, Nat.reduceAdd, Nat.reduceLeDiff, Nat.reduceMul, Nat.reduceBEq, QXFFaPD]
   try simp
  ·obtain ⟨d, ac1, ex1, ac2, ex2⟩ := a
   obtain ⟨hd, hc1, hc2⟩ := ha
   simp only at hd hc1 hc2
   (repeat (first | simp only [↓QA, QB, Nat.reduceLT, reduceIte, Nat.reduceEqDiff, Nat.reduceAdd, Nat.reduceLeDiff, Nat.reduceMul, Nat.reduceBEq, QXFFaPD, L25_0] | refine rd0 rfl ?_))
   refine iteP_intro (fun h => ?_) fun h => ?_
   ·have hd1 : d < G + 1 := by
     have h0 : (d : Int) < ((G + 1 : Nat) : Int) := by simpa using h
     omega
    have hw := wrapN hd1 (by omega)
    rw [show G + 1 - d = (G + 1 - (d + 1)) + 1 by omega] at hc1 hc2
    simp only [numbers, List.filter_cons] at hc1 hc2
    rw [show ((d : Int) + 1) = ((d + 1 : Nat) : Int) by omega] at hc1 hc2
    have ha1 : ac1.length ≤ 8 := by
     have := congrArg List.length hc1
     simp only [List.length_append] at this
     omega
    have ha2 : ac2.length ≤ 8 := by
     have := congrArg List.length hc2
     simp only [List.length_append] at this
     omega
    have hgd := hgo d (by omega)
    have e1 : p1 (d : Int) = (goodOf v ts N d == 1) := by rw [← hp1]; simp only [Int.toNat_natCast]
    have e2 : p2 (d : Int) = !(goodOf v ts N d == 2) := by rw [← hp2]; simp only [Int.toNat_natCast]
    obtain ⟨g, hg⟩ : ∃ g, goodOf v ts N d = g := ⟨_, rfl⟩
    rw [hg] at e1 e2
    simp only [hg] at hgd
    rw [e1] at hc1
    rw [e2] at hc2
    have hap1 := fun (b0 b1 b2 b3 b4 : ABlk) (τ : St) => append_intT (σ := b0 :: b1 :: b2 :: b3 :: b4 :: .tok 1 ac1.length ex1 :: τ) (l := ac1) (a := (d : Int)) (ex := ex1) (t := 5) (by omega) rfl
    have hap2 := fun (b0 b1 b2 b3 b4 b5 : ABlk) (τ : St) => append_intT (σ := b0 :: b1 :: b2 :: b3 :: b4 :: b5 :: .tok 1 ac2.length ex2 :: τ) (l := ac2) (a := (d : Int)) (ex := ex2) (t := 6) (by omega) rfl
    (repeat (first | simp only [↓QA, QB, Nat.reduceLT, reduceIte, Nat.reduceEqDiff, Nat.reduceAdd, Nat.reduceLeDiff, Nat.reduceMul, Nat.reduceBEq, QXFFaPD] | refine rd0 rfl ?_))
    refine callK_same (hgd _) ?_
    cases h1 : (g == 1)
    ·rw [h1] at hc1
     simp only [Bool.false_eq_true, if_false] at hc1
     cases h2 : (g == 2)
     ·rw [h2] at hc2
      simp only [Bool.not_false, if_true] at hc2
      (repeat (first | simp only [↓QA, QB, Nat.reduceLT, reduceIte, Nat.reduceEqDiff, Nat.reduceAdd, Nat.reduceLeDiff, Nat.reduceMul, Nat.reduceBEq, QXFFaPD, h1, h2, hap2, hw] | refine rd0 rfl ?_))
      refine ⟨(d + 1, ac1, ex1, ac2 ++ [(d : Int)], true), ⟨by simp only; omega, hc1, by rw [← hc2]; simp⟩, by simp only; omega, ?_⟩
      try simp only [TrimX, QE, Nat.reduceLT, reduceIte, Nat.reduceEqDiff, Nat.reduceAdd, Nat.reduceLeDiff, Nat.reduceMul, Nat.reduceBEq, QXFFaPD, hw, S_mapI, List.map_append, List.map_cons, List.map_nil]
      try simp [okBlk]
     ·rw [h2] at hc2
      simp only [Bool.not_true, Bool.false_eq_true, if_false] at hc2
      (repeat (first | simp only [↓QA, QB, Nat.reduceLT, reduceIte, Nat.reduceEqDiff, Nat.reduceAdd, Nat.reduceLeDiff, Nat.reduceMul, Nat.reduceBEq, QXFFaPD, h1, h2, hw] | refine rd0 rfl ?_))
      refine ⟨(d + 1, ac1, ex1, ac2, ex2), ⟨by simp only; omega, hc1, hc2⟩, by simp only; omega, ?_⟩
      try simp only [TrimX, QE, Nat.reduceLT, reduceIte, Nat.reduceEqDiff, Nat.reduceAdd, Nat.reduceLeDiff, Nat.reduceMul, Nat.reduceBEq, QXFFaPD, hw]
      try simp [okBlk]
    ·rw [h1] at hc1
     simp only [if_true] at hc1
     have hg1 : g = 1 := by simpa using h1
     have h2 : (g == 2) = false := by rw [hg1]; rfl
     rw [h2] at hc2
     simp only [Bool.not_false, if_true] at hc2
     (repeat (first | simp only [↓QA, QB, Nat.reduceLT, reduceIte, Nat.reduceEqDiff, Nat.reduceAdd, Nat.reduceLeDiff, Nat.reduceMul, Nat.reduceBEq, QXFFaPD, h1, hap1] | refine rd0 rfl ?_))
     (repeat (first | simp only [↓QA, QB, Nat.reduceLT, reduceIte, Nat.reduceEqDiff, Nat.reduceAdd, Nat.reduceLeDiff, Nat.reduceMul, Nat.reduceBEq, QXFFaPD, h2, hap2, hw] | refine rd0 rfl ?_))
     refine ⟨(d + 1, ac1 ++ [(d : Int)], true, ac2 ++ [(d : Int)], true), ⟨by simp only; omega, by rw [← hc1]; simp, by rw [← hc2]; simp⟩, by simp only; omega, ?_⟩
     try simp only [TrimX, QE, Nat.reduceLT, reduceIte, Nat.reduceEqDiff, Nat.reduceAdd, Nat.reduceLeDiff, Nat.reduceMul, Nat.reduceBEq, QXFFaPD, hw, S_mapI, List.map_append, List.map_cons, List.map_nil]
     try simp [okBlk]
   ·have hd1 : d = G + 1 := by
     have h0 : ¬ (d : Int) < ((G + 1 : Nat) : Int) := by simpa using h
     omega
    rw [hd1, Nat.sub_self] at hc1 hc2
    simp only [numbers, List.filter_nil, List.append_nil] at hc1 hc2
    subst hc1
    subst hc2
    (repeat (first | simp only [↓QA, QB, Nat.reduceLT, reduceIte, Nat.reduceEqDiff, Nat.reduceAdd, Nat.reduceLeDiff, Nat.reduceMul, Nat.reduceBEq, QXFFaPD, encLLE] | refine rd0 rfl ?_))
    try try simp only [QS, QC, Nat.reduceLT, reduceIte, Nat.reduceEqDiff, Nat.reduceAdd, Nat.reduceLeDiff, Nat.reduceMul, Nat.reduceBEq, QXFFaPD]
 ·have hm : daysOf v n = ([], [], E) := by rw [daysOf, hE, if_neg h0']
  have hg : (E == 0) = false := by simpa using h0'
  rw [hm]
  refine callK_same (enter_err hf (fun τ => fine_same _) hask h0') ?_
  (repeat (first | simp only [↓QA, QB, Nat.reduceLT, reduceIte, Nat.reduceEqDiff, Nat.reduceAdd, Nat.reduceLeDiff, Nat.reduceMul, Nat.reduceBEq, QXFFaPD, hg, encLLE] | refine rd0 rfl ?_))
  try rfl
theorem lastTo_up (q : Nat → Bool) (k : Nat) : lastTo q (k + 1) = if q k = true then (k : Int) else lastTo q k := rfl
theorem lastTo_bd (q : Nat → Bool) : ∀ k, -1 ≤ lastTo q k ∧ lastTo q k < k
 | 0 => by simp [lastTo]
 | k + 1 => by
  have := lastTo_bd q k
  simp only [lastTo]
  split <;> omega
theorem plast_ok (v : Farm) (n : Int) (hf : Fits v) : Pure T 27 [encFarm v, .int .i64 n] (encIE (lastOf v n)) := by
 refine pure_fn (af := a27) rfl (by simp [a27]) dd ?_
 obtain ⟨E, hE⟩ : ∃ E, plotErr v n = E := ⟨_, rfl⟩
 have hask := ask_fine v hf n
 rw [hE] at hask
 (repeat (first | simp only [↓QA, QB, Nat.reduceLT, reduceIte, Nat.reduceEqDiff, Nat.reduceAdd, Nat.reduceLeDiff, Nat.reduceMul, Nat.reduceBEq, QXFFaPD, a27] | refine rd0 rfl ?_))
 by_cases h0' : E = 0
 ·subst h0'
  have hE2 := hE
  obtain ⟨hw, hne⟩ := errKnown_ok hE2
  obtain ⟨hv, hn0, hn1⟩ := errAsk_ok hw
  have hnr := hv.nra
  have hwy := hv.way
  have hm : lastOf v n = if lastIn v (truths v []) n.toNat = -1 then (0, 9) else (lastIn v (truths v []) n.toNat, 0) := by rw [lastOf, hE, if_pos rfl]
  rw [hm]
  obtain ⟨N, rfl⟩ : ∃ N : Nat, n = N := ⟨n.toNat, by omega⟩
  rw [Int.toNat_natCast]
  have hen := enter_ok hf (plot := max (N : Int) (-1099511627775)) (eo := 0) (F := .func 77 [] []) (σ := [.cells (farmCells v)]) (fun τ => fine_same _) hask
  have hgo := fun (D : Nat) (hD : D ≤ v.rain.length) (τ : St) => grown_same v hv (truths v []) (fun t ht => kok_of hv ht) hne 0 3 4 ([.cells (farmCells v), .cells (farmCells v), .cells (farmCells v), .map ((truths v []).map kvT), .cells (db v 0 3)] ++ τ) ⟨rfl, rfl⟩ N D (by omega) hD
  have hsb := fun (D : Nat) (hD : D ≤ v.rain.length) => fullS_bd hv (fun t ht => tok_of hv (but := []) ht) hne (show N < v.plots.length by omega) hD
  try simp only [↓QA, QB, Nat.reduceLT, reduceIte, Nat.reduceEqDiff, Nat.reduceAdd, Nat.reduceLeDiff, Nat.reduceMul, Nat.reduceBEq, QXFFaPD, lookS, List.cons_append, List.nil_append, List.length_cons, List.length_nil] at hen
  refine callK_do hen ?_
  obtain ⟨ts, hts⟩ : ∃ ts, truths v [] = ts := ⟨_, rfl⟩
  rw [hts] at hne ⊢
  simp only [hts, farmCells_eq, List.cons_append, List.nil_append] at hgo
  simp only [hts] at hsb
  obtain ⟨G, hG⟩ : ∃ G, v.rain.length = G := ⟨_, rfl⟩
  obtain ⟨L, hL⟩ : ∃ L, lastIn v ts N = L := ⟨_, rfl⟩
  have hL' : lastTo (greenB v ts N) (G + 1) = L := by rw [← hL, ← hG]; rfl
  have hLb := lastTo_bd (greenB v ts N) (G + 1)
  rw [hL'] at hLb
  rw [hL]
  rw [hG] at hgo hsb
  have hwG : IntKind.i64.wrap ((G : Int) + 1) = ((G + 1 : Nat) : Int) := by rw [wrap64 ⟨by omega, by omega⟩]; omega
  (repeat (first | simp only [↓QA, QB, Nat.reduceLT, reduceIte, Nat.reduceEqDiff, Nat.reduceAdd, Nat.reduceLeDiff, Nat.reduceMul, Nat.reduceBEq, QXFFaPD, hG, hwG] | refine rd0 rfl ?_))
  refine loopE (S := Nat) 0 (fun k => k ≤ G + 1) (fun k => G + 1 - k)
   (fun k => [(1, .int .i64 N), (2, .ptr 0 0), (6, .ptr 4 0), (8, .int .i64 (lastTo (greenB v ts N) k)), (23, .int .i64 ((G + 1 : Nat) : Int)), (24, .int .i64 k)])
   (fun _ => [.cells (farmCells v), .cells (farmCells v), .cells (farmCells v), .map (ts.map kvT), .cells (db v 0 3)]) (Nat.zero_le _) (by simp [farmCells_eq]) ?_ fun d hd => ?_
  ·try simp only [TrimX, QE, Nat.reduceLT, reduceIte, Nat.reduceEqDiff, Nat.reduceAdd, Nat.reduceLeDiff, Nat.reduceMul, Nat.reduceBEq, QXFFaPD]
   try simp [lastTo]
  ·(repeat (first | simp only [↓QA, QB, Nat.reduceLT, reduceIte, Nat.reduceEqDiff, Nat.reduceAdd, Nat.reduceLeDiff, Nat.reduceMul, Nat.reduceBEq, QXFFaPD, L27_0] | refine rd0 rfl ?_))
   refine iteP_intro (fun h => ?_) fun h => ?_
   ·have hd1 : d < G + 1 := by
     have h0 : (d : Int) < ((G + 1 : Nat) : Int) := by simpa using h
     omega
    have hw := wrapN hd1 (by omega)
    have hgd := hgo d (by omega)
    have hb := hsb d (by omega)
    have hup := lastTo_up (greenB v ts N) d
    have hge : greenB v ts N d = decide ((fullS ts N d).hi + v.way.hi ≤ v.ripe) := rfl
    rw [hge] at hup
    obtain ⟨s, hs⟩ : ∃ s, fullS ts N d = s := ⟨_, rfl⟩
    simp only [hs] at hgd hb hup
    have hwx : IntKind.i64.wrap (s.hi + v.way.hi) = s.hi + v.way.hi := wrap64 ⟨by omega, by omega⟩
    (repeat (first | simp only [↓QA, QB, Nat.reduceLT, reduceIte, Nat.reduceEqDiff, Nat.reduceAdd, Nat.reduceLeDiff, Nat.reduceMul, Nat.reduceBEq, QXFFaPD] | refine rd0 rfl ?_))
    refine callD_same (hgd _) ?_
    cases h5 : decide (s.hi + v.way.hi ≤ v.ripe)
    ·rw [h5] at hup
     simp only [Bool.false_eq_true, if_false] at hup
     (repeat (first | simp only [↓QA, QB, Nat.reduceLT, reduceIte, Nat.reduceEqDiff, Nat.reduceAdd, Nat.reduceLeDiff, Nat.reduceMul, Nat.reduceBEq, QXFFaPD, hwx, h5, hw] | refine rd0 rfl ?_))
     refine ⟨d + 1, by omega, by omega, ?_⟩
     try simp only [TrimX, QE, Nat.reduceLT, reduceIte, Nat.reduceEqDiff, Nat.reduceAdd, Nat.reduceLeDiff, Nat.reduceMul, Nat.reduceBEq, QXFFaPD, hw, hup]
     try simp [okBlk]
    ·rw [h5] at hup
     simp only [if_true] at hup
     (repeat (first | simp only [↓QA, QB, Nat.reduceLT, reduceIte, Nat.reduceEqDiff, Nat.reduceAdd, Nat.reduceLeDiff, Nat.reduceMul, Nat.reduceBEq, QXFFaPD, hwx, h5, hw] | refine rd0 rfl ?_))
     refine ⟨d + 1, by omega, by omega, ?_⟩
     try simp only [TrimX, QE, Nat.reduceLT, reduceIte, Nat.reduceEqDiff, Nat.reduceAdd, Nat.reduceLeDiff, Nat.reduceMul, Nat.reduceBEq, QXFFaPD, hw, hup]
     try simp [okBlk]
   ·have hd1 : d = G + 1 := by
     have h0 : ¬ (d : Int) < ((G + 1 : Nat) : Int) := by simpa using h
     omega
    subst hd1
    rw [hL']
    by_cases h9 : L = -1
    ·subst h9
     rw [if_pos rfl]
     (repeat (first | simp only [↓QA, QB, Nat.reduceLT, reduceIte, Nat.reduceEqDiff, Nat.reduceAdd, Nat.reduceLeDiff, Nat.reduceMul, Nat.reduceBEq, QXFFaPD, show decide ((-1 : Int) < 0) = true from rfl, encIE] | refine rd0 rfl ?_))
    ·have hlt : decide (L < 0) = false := by simp; omega
     rw [if_neg h9]
     (repeat (first | simp only [↓QA, QB, Nat.reduceLT, reduceIte, Nat.reduceEqDiff, Nat.reduceAdd, Nat.reduceLeDiff, Nat.reduceMul, Nat.reduceBEq, QXFFaPD, hlt, encIE] | refine rd0 rfl ?_))
 ·have hm : lastOf v n = (0, E) := by rw [lastOf, hE, if_neg h0']
  have hg : (E == 0) = false := by simpa using h0'
  rw [hm]
  refine callK_same (enter_err hf (fun τ => fine_same _) hask h0') ?_
  (repeat (first | simp only [↓QA, QB, Nat.reduceLT, reduceIte, Nat.reduceEqDiff, Nat.reduceAdd, Nat.reduceLeDiff, Nat.reduceMul, Nat.reduceBEq, QXFFaPD, hg, encIE] | refine rd0 rfl ?_))
end Go.Am.Room
