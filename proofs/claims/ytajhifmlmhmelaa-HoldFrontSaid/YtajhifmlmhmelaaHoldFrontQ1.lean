/- A part of the proof of HoldFront: an abstract machine, or what functions come to on it. -/
import Derived.Test.YtajhifmlmhmelaaAllQ6
import Derived.ChangeArms
import Derived.SizedLaws
import Derived.ChangeBears
import Derived.ChangeShapes
import Derived.WideShapes
import Derived.ProofKit
import Derived.OpenShut
import Derived.Lib.Strings
import Derived.Laws.RangeAny
set_option linter.unusedVariables false
set_option linter.unusedSimpArgs false
set_option linter.defProp false
namespace Go.Am
open Go.ChangeShapes Go.WideShapes Go.ChangeAt Go.RowKit
variable {P : Program} {hh : String → Bool} {H : Type} {enc : TypeId × Value → H} {w : World} {sp : Nat → Bool} {held : Bool}
def mkV (P : Program) (t : TypeId) (cs : List AV) : AV := match P.underlying t with
 | some (.struct _) => .agg cs
 | some (.array _ _) => .agg cs
 | _ => cs.headD .undef
def Typ (P : Program) : Nat → TypeId → List AV → Prop
 | 0, _, _ => False
 | n + 1, t, cs =>
  match P.underlying t with
  | some .bool => ∃ b, cs = [.bool b]
  | some (.int k) => ∃ m, cs = [.int k m] ∧ (Lit.int k m).wf = true
  | some .string => ∃ s : ByteArray, cs = [.str s] ∧ s.size ≤ maxLen
  | some (.slice e) => ∃ ys : List (List AV), cs = [.lit (ys.map (mkV P e)) false none] ∧ (ys.length ≤ maxLen ∧ ys.length * P.bytesOf e ≤ reachBytes) ∧ ∀ y ∈ ys, Typ P n e y
  | some (.struct fs) => ∃ parts : List (List AV), cs = parts.flatten ∧ parts.length = fs.toList.length ∧ ∀ (i : Nat) f p, fs.toList[i]? = some f → parts[i]? = some p → Typ P n f.type p
  | some (.array k e) => ∃ parts : List (List AV), cs = parts.flatten ∧ parts.length = k ∧ ∀ p ∈ parts, Typ P n e p
  | _ => False
def okTy (P : Program) : Nat → TypeId → Bool
 | 0, _ => false
 | n + 1, t =>
  match P.underlying t with
  | some .bool | some (.int _) | some .string => true
  | some (.slice e) => decide (0 < P.cellsOf e) && okTy P n e
  | some (.struct fs) => fs.toList.all fun f => okTy P n f.type
  | some (.array _ e) => okTy P n e
  | _ => false
theorem mkV_cells {n : Nat} {t : TypeId} {cs : List AV} (h : Typ P n t cs) : (mkV P t cs).cells = cs := by
 cases n with
 | zero => exact h.elim
 | succ n =>
  simp only [Typ] at h
  unfold mkV
  split at h
  ·rename_i hu; rw [hu]; obtain ⟨b, rfl⟩ := h; rfl
  ·rename_i hu; rw [hu]; obtain ⟨b, rfl, _⟩ := h; rfl
  ·rename_i hu; rw [hu]; obtain ⟨b, rfl, _⟩ := h; rfl
  ·rename_i hu; rw [hu]; obtain ⟨b, rfl, _⟩ := h; rfl
  ·rename_i hu; rw [hu]; rfl
  ·rename_i hu; rw [hu]; rfl
  ·exact h.elim
theorem addr_add {a : Addr} {v : Value} (h : w.cell? a = some v) (n : Nat) : a.add n = ⟨a.block, a.off + n, none⟩ := by
 have hs : a.spot = none := by
  unfold World.cell? at h
  split at h
  ·split at h
   ·cases h
   ·rename_i hs; simpa using hs
  ·cases h
 obtain ⟨b, o, s⟩ := a
 simp only at hs
 subst hs
 unfold Addr.add
 split
 ·rename_i h0; simp [h0]
 ·rfl
theorem cell_lt {b o : Nat} {v : Value} (h : w.cell? ⟨b, o, none⟩ = some v) : ∃ L, limW w b = some L ∧ o < L := by
 unfold World.cell? at h
 split at h
 ·rename_i c T fr hb
  refine ⟨c.size, by simp only at hb; simp [limW, hb], ?_⟩
  simp at h
  exact (Array.getElem?_eq_some_iff.1 h).1
 ·cases h
theorem fields {G : Gh} {n : Nat} {cs : List Value} : ∀ (fl : List Field) (o : Nat), (∀ (j : Nat) f, fl[j]? = some f → f.offset = o + ((fl.take j).map fun f => P.cellsOf f.type).sum) → cs.length = o + (fl.map fun f => P.cellsOf f.type).sum →
  (∀ f ∈ fl, ∃ az, Typ P n f.type az ∧ RelL G w az ((cs.drop f.offset).take (P.cellsOf f.type))) →
  ∃ parts : List (List AV), parts.length = fl.length ∧ (∀ (i : Nat) f p, fl[i]? = some f → parts[i]? = some p → Typ P n f.type p) ∧ RelL G w parts.flatten (cs.drop o)
 | [], o, _, hl, _ => ⟨[], rfl, by simp, by
   have : cs.drop o = [] := List.drop_of_length_le (by simp at hl; omega)
   rw [this]; exact .nil⟩
 | f :: fl, o, ho, hl, ht => by
  have h0 := ho 0 f rfl
  simp only [List.take_zero, List.map_nil, List.sum_nil, Nat.add_zero] at h0
  simp only [List.map_cons, List.sum_cons] at hl
  obtain ⟨az, h1, h2⟩ := ht f (by simp)
  obtain ⟨parts, q1, q2, q3⟩ := fields fl (o + P.cellsOf f.type) (fun j g hj => by
   have := ho (j + 1) g (by simpa using hj)
   simp only [List.take_succ_cons, List.map_cons, List.sum_cons] at this
   omega) (by omega) fun g hg => ht g (List.mem_cons_of_mem _ hg)
  refine ⟨az :: parts, by simp [q1], fun i g p e1 e2 => ?_, ?_⟩
  ·cases i with
   | zero => simp at e1 e2; subst e1; subst e2; exact h1
   | succ i => exact q2 i g p (by simpa using e1) (by simpa using e2)
  ·rw [List.flatten_cons]
   have e : cs.drop o = (cs.drop o).take (P.cellsOf f.type) ++ cs.drop (o + P.cellsOf f.type) := by
    rw [← List.drop_drop, List.take_append_drop]
   rw [e]
   rw [h0] at h2
   exact h2.app q3
theorem items {G : Gh} {m : Nat} {e : TypeId} {cs : List Value} : ∀ (n o : Nat), cs.length = o + n * P.cellsOf e →
  (∀ i, i < n → ∃ az, Typ P m e az ∧ RelL G w az ((cs.drop (o + i * P.cellsOf e)).take (P.cellsOf e))) → ∃ parts : List (List AV), parts.length = n ∧ (∀ p ∈ parts, Typ P m e p) ∧ RelL G w parts.flatten (cs.drop o)
 | 0, o, hl, _ => ⟨[], rfl, by simp, by
   have : cs.drop o = [] := List.drop_of_length_le (by simp at hl; omega)
   rw [this]; exact .nil⟩
 | n + 1, o, hl, ht => by
  obtain ⟨az, h1, h2⟩ := ht 0 (by omega)
  rw [Nat.zero_mul, Nat.add_zero] at h2
  rw [Nat.add_mul, Nat.one_mul] at hl
  obtain ⟨parts, q1, q2, q3⟩ := items (e := e) (cs := cs) (m := m) n (o + P.cellsOf e) (by omega) fun i hi => by
   obtain ⟨az, k1, k2⟩ := ht (i + 1) (by omega)
   rw [Nat.add_mul, Nat.one_mul, Nat.add_comm (i * _), ← Nat.add_assoc] at k2
   exact ⟨az, k1, k2⟩
  refine ⟨az :: parts, by simp [q1], fun p hp => ?_, ?_⟩
  ·rcases List.mem_cons.1 hp with rfl | hp
   ·exact h1
   ·exact q2 p hp
  ·rw [List.flatten_cons]
   have e1 : cs.drop o = (cs.drop o).take (P.cellsOf e) ++ cs.drop (o + P.cellsOf e) := by
    rw [← List.drop_drop, List.take_append_drop]
   rw [e1]
   exact h2.app q3
theorem choose_list {α : Type} {Q : Nat → α → Prop} : ∀ n, (∀ i, i < n → ∃ x, Q i x) → ∃ l : List α, l.length = n ∧ ∀ (i : Nat) x, l[i]? = some x → Q i x
 | 0, _ => ⟨[], rfl, by simp⟩
 | n + 1, h => by
  obtain ⟨l, h1, h2⟩ := choose_list n fun i hi => h i (by omega)
  obtain ⟨x, hx⟩ := h n (by omega)
  refine ⟨l ++ [x], by simp [h1], fun i y e => ?_⟩
  by_cases hi : i < l.length
  ·rw [List.getElem?_append_left hi] at e; exact h2 i y e
  ·rw [List.getElem?_append_right (by omega)] at e
   have : i - l.length = 0 := by
    by_cases h0 : i - l.length = 0
    ·exact h0
    ·rw [List.getElem?_eq_none (by simp; omega)] at e; cases e
   rw [this] at e
   simp at e
   subst e
   rw [show i = n by omega]; exact hx
theorem typ_of_trod (hl : laidOutB P = true) : ∀ (n m : Nat) (t : TypeId) (cs : List Value) (x : DataW H × List MemPlace), t < P.types.size → okTy P n t = true → DataW.trod enc P w 0 sp held m t cs = some x → (∀ k ∈ x.1.weights P t, k ≤ reachBytes) →
  ∃ az, Typ P n t az ∧ RelL (argG w) w az cs
 | 0, m, t, cs, x, _, ho, _, _ => by simp [okTy] at ho
 | n + 1, m, t, cs, x, ht, ho, h, hwt => by
  simp only [okTy] at ho
  split at ho
  ·rename_i hu
   obtain ⟨b, rfl, _⟩ := DataW.trod_bool hu h
   exact ⟨[.bool b], by simp only [Typ, hu]; exact ⟨b, rfl⟩, .one (.bool b)⟩
  ·rename_i k hu
   obtain ⟨b, rfl, _, hw⟩ := DataW.trod_int hu h
   exact ⟨[.int k b], by simp only [Typ, hu]; exact ⟨b, rfl, hw⟩, .one (.int k b)⟩
  ·rename_i hu
   obtain ⟨s, rfl, _, hs⟩ := DataW.trod_string hu h
   exact ⟨[.str s], by simp only [Typ, hu]; exact ⟨s, rfl, hs⟩, .one (.str s)⟩
  ·rename_i e hu
   simp only [Bool.and_eq_true, decide_eq_true_eq] at ho
   rcases DataW.trod_slice hu h with ⟨rfl, _⟩ | ⟨a, len, cap, elems, rest, m', _, rfl, hxe, _, hlc, hcm, hel, hei, _, _⟩
   ·refine ⟨[.lit [] false none], by simp only [Typ, hu]; exact ⟨[], rfl, ⟨by simp, by simp⟩, by simp⟩, .one (.nil ⟨Nat.le_refl _, (fun e => by cases e), (fun t e => by cases e)⟩ fun _ => rfl)⟩
   ·
    have hws : ∀ k ∈ x.1.weights P t, k ≤ reachBytes := hwt
    rw [hxe] at hws
    simp only [DataW.weights, hu, List.mem_cons, List.mem_append, List.length_map] at hws
    have hwl : len * P.bytesOf e ≤ reachBytes := by
     have h1 := hws _ (.inl rfl)
     rw [hel] at h1
     exact Nat.le_trans (Nat.mul_le_mul_right _ (Nat.le_add_right _ _)) h1
    have hwe : ∀ (d : DataW H), d ∈ elems.map (·.1) → ∀ k ∈ d.weights P e, k ≤ reachBytes := by
     have key : ∀ (l : List (DataW H)) (d : DataW H), d ∈ l → ∀ k ∈ d.weights P e, k ∈ DataW.weightsAll P e l := by
      intro l
      induction l with
      | nil => intro d hd; cases hd
      | cons a l ih =>
       intro d hd k hk
       simp only [DataW.weightsAll, List.mem_append]
       rcases List.mem_cons.1 hd with rfl | hd
       ·exact .inl hk
       ·exact .inr (ih d hd k hk)
     exact fun d hd k hk => hws k (.inr (.inl (key _ d hd k hk)))
    have hel2 : ∀ i, i < len → ∃ y, Typ P n e y ∧ ∃ vs, w.cells? 0 (a.add (i * P.cellsOf e)) (P.cellsOf e) = some vs ∧ RelL (argG w) w y vs := by
     intro i hi
     have h1 := hei i hi
     rw [List.getElem?_eq_getElem (by omega), Option.bind_eq_some_iff] at h1
     obtain ⟨vs, q1, q2⟩ := h1
     obtain ⟨y, q3, q4⟩ := typ_of_trod hl n m' e vs _ (kid_slice hl ht hu) ho.2 q2 (hwe _ (List.mem_map.2 ⟨_, List.getElem_mem (by omega), rfl⟩))
     exact ⟨y, q3, vs, q1, q4⟩
    obtain ⟨ys, hyl, hys⟩ := choose_list len hel2
    refine ⟨[.lit (ys.map (mkV P e)) false none], by
     simp only [Typ, hu]
     refine ⟨ys, rfl, ⟨by omega, by rw [hyl]; exact hwl⟩, fun y hy => ?_⟩
     obtain ⟨i, hi⟩ := List.getElem?_of_mem hy
     exact (hys i y hi).1, .one ?_⟩
    by_cases h0 : len = 0
    ·subst h0
     obtain rfl : ys = [] := List.eq_nil_of_length_eq_zero hyl
     exact .nil ⟨Nat.zero_le _, (fun e => by cases e), (fun t e => by cases e)⟩ fun e => by cases e
    ·
     have hcell : ∀ i j, i < len → j < P.cellsOf e → ∃ v, w.cell? ((a.add (i * P.cellsOf e)).add j) = some v := by
      intro i j hi hj
      obtain ⟨y, _, vs, q1, _⟩ := hel2 i hi
      simp only [World.cells?, Nat.zero_le, if_true] at q1
      have hlen := mapM_some_length q1
      have := mapM_some_get q1 j j (by simp [hj])
      rw [List.length_range] at hlen
      rw [List.getElem?_eq_getElem (by omega)] at this
      exact ⟨_, this⟩
     obtain ⟨v0, hv0⟩ := hcell 0 0 (by omega) ho.1
     rw [Nat.zero_mul] at hv0
     have ha0 : a.add 0 = a := by simp [Addr.add]
     rw [ha0, ha0] at hv0
     have hplain : ∀ i, a.add i = ⟨a.block, a.off + i, none⟩ := addr_add hv0
     have hae : a = ⟨a.block, a.off, none⟩ := by have := hplain 0; rw [ha0] at this; simpa using this
     have hplain2 : ∀ i j, (a.add i).add j = ⟨a.block, a.off + (i + j), none⟩ := by
      intro i j
      rw [hplain]
      unfold Addr.add
      split
      ·rename_i h; simp [h]
      ·simp [Nat.add_assoc]
     have hcell2 : ∀ i j, i < len → j < P.cellsOf e → ∃ v, w.cell? ⟨a.block, a.off + (i * P.cellsOf e + j), none⟩ = some v := by
      intro i j hi hj
      have := hcell i j hi hj
      rw [hplain2] at this
      exact this
     rw [hae, show len = (ys.map (mkV P e)).length by simp [hyl]]
     have hsz : ∀ (i : Nat) (x : AV), (ys.map (mkV P e))[i]? = some x → ∃ y, ys[i]? = some y ∧ x = mkV P e y ∧ x.cells = y := by
      intro i x hx
      rw [List.getElem?_map] at hx
      cases hy : ys[i]? with
      | none => rw [hy] at hx; cases hx
      | some y =>
       rw [hy] at hx
       simp at hx
       exact ⟨y, rfl, hx.symm, by rw [← hx, mkV_cells (hys i y hy).1]⟩
     have hvl : ∀ (i : Nat) y, ys[i]? = some y → y.length = P.cellsOf e := by
      intro i y hy
      obtain ⟨_, vs, q1, q2⟩ := hys i y hy
      rw [q2.1]
      simp only [World.cells?, Nat.zero_le, if_true] at q1
      rw [mapM_some_length q1, List.length_range]
     refine .lit (sz := P.cellsOf e) ⟨by simp; omega, (fun e => by cases e), (fun t e => by cases e)⟩ ⟨?_, (fun t e => by cases e), fun i x hx => ?_, fun k hk => ?_⟩ fun i x j c u hx hc hu2 => ?_
     ·obtain ⟨v, hv⟩ := hcell2 (len - 1) (P.cellsOf e - 1) (by omega) (by omega)
      obtain ⟨L, q1, q2⟩ := cell_lt hv
      refine ⟨L, q1, ?_⟩
      rw [List.length_map, hyl]
      have : (len - 1) * P.cellsOf e + P.cellsOf e = len * P.cellsOf e := by
       rw [← Nat.succ_mul]; congr 1; omega
      omega
     ·obtain ⟨y, q1, q2, q3⟩ := hsz i x hx
      rw [q3]; exact hvl i y q1
     ·rw [List.length_map, hyl] at hk
      have hd : k / P.cellsOf e < len := Nat.div_lt_of_lt_mul (by rw [Nat.mul_comm]; exact hk)
      have hm : k % P.cellsOf e < P.cellsOf e := Nat.mod_lt _ ho.1
      obtain ⟨v, hv⟩ := hcell2 _ _ hd hm
      have : k / P.cellsOf e * P.cellsOf e + k % P.cellsOf e = k := by rw [Nat.mul_comm]; exact Nat.div_add_mod _ _
      rw [this] at hv
      rw [hv]; rfl
     ·obtain ⟨y, q1, q2, q3⟩ := hsz i x hx
      rw [q3] at hc
      obtain ⟨_, vs, p1, p2⟩ := hys i y q1
      have hjl : j < P.cellsOf e := by
       rw [← hvl i y q1]
       exact (List.getElem?_eq_some_iff.1 hc).1
      simp only [World.cells?, Nat.zero_le, if_true] at p1
      have hg := mapM_some_get p1 j j (by simp [hjl])
      rw [hplain2] at hg
      rw [hu2] at hg
      exact p2.2 j c u hc hg.symm
  ·rename_i fs hu
   rw [List.all_eq_true] at ho
   obtain ⟨xs, m', _, hxe, hcl, hxl, hf⟩ := DataW.trod_struct hu h
   obtain ⟨k1, k2, k3⟩ := kid_struct hl ht hu
   obtain ⟨parts, q1, q2, q3⟩ := fields (P := P) (G := argG w) (w := w) (n := n) (cs := cs) fs.toList 0 (fun j f hj => by rw [k3 j f hj]; omega) (by rw [hcl, k2]; omega) fun f hfm => by
    obtain ⟨i, hi⟩ := List.getElem?_of_mem hfm
    have h1 := hf i f (by simpa using hi)
    have hil : i < xs.length := by rw [hxl]; have := (List.getElem?_eq_some_iff.1 hi).1; simpa using this
    rw [List.getElem?_eq_getElem hil] at h1
    have hd : (xs.map (·.1))[i]? = some xs[i].1 := by rw [List.getElem?_map, List.getElem?_eq_getElem hil]; rfl
    have hty : (fs.toList.map (·.type))[i]? = some f.type := by rw [List.getElem?_map, hi]; rfl
    refine typ_of_trod hl n m' f.type _ _ (k1 f hfm) (ho f hfm) h1 fun k hk => hwt k ?_
    rw [hxe]
    simp only [DataW.weights, hu]
    exact DataW.weights_mem_each hty hd k hk
   rw [List.drop_zero] at q3
   exact ⟨parts.flatten, by simp only [Typ, hu]; exact ⟨parts, rfl, q1, q2⟩, q3⟩
  ·rename_i k e hu
   obtain ⟨xs, m', _, hxe, hcl, hxl, hf⟩ := DataW.trod_array hu h
   obtain ⟨k1, k2⟩ := kid_array hl ht hu
   have hwe : ∀ (d : DataW H), d ∈ xs.map (·.1) → ∀ q ∈ d.weights P e, q ≤ reachBytes := by
    have key : ∀ (l : List (DataW H)) (d : DataW H), d ∈ l → ∀ q ∈ d.weights P e, q ∈ DataW.weightsAll P e l := by
     intro l
     induction l with
     | nil => intro d hd; cases hd
     | cons a l ih =>
      intro d hd q hq
      simp only [DataW.weightsAll, List.mem_append]
      rcases List.mem_cons.1 hd with rfl | hd
      ·exact .inl hq
      ·exact .inr (ih d hd q hq)
    intro d hd q hq
    refine hwt q ?_
    rw [hxe]
    simp only [DataW.weights, hu]
    exact key _ d hd q hq
   obtain ⟨parts, q1, q2, q3⟩ := items (P := P) (G := argG w) (w := w) (m := n) (e := e) (cs := cs) k 0 (by rw [hcl, k2]; omega) fun i hi => by
    have h1 := hf i hi
    have hil : i < xs.length := by omega
    rw [List.getElem?_eq_getElem hil] at h1
    rw [Nat.zero_add]
    exact typ_of_trod hl n m' e _ _ k1 ho h1 (hwe _ (List.mem_map.2 ⟨_, List.getElem_mem hil, rfl⟩))
   rw [List.drop_zero] at q3
   exact ⟨parts.flatten, by simp only [Typ, hu]; exact ⟨parts, rfl, q1, q2⟩, q3⟩
  ·cases ho
theorem arg_of_trod (hl : laidOutB P = true) (n : Nat) {t : TypeId} {v : Value} {d : DataW H} {ps : List MemPlace} (ht : t < P.types.size) (ho : okTy P n t = true) (hv : Value.okWide P w .any 0 t v) (h : DataW.Trod enc P w 0 sp held t v d ps) (hwt : ∀ k ∈ d.weights P t, k ≤ reachBytes) :
  ∃ az, Typ P n t az ∧ RelV (argG w) w (mkV P t az) v := by
 obtain ⟨m, hm⟩ := h
 obtain ⟨az, h1, h2⟩ := typ_of_trod hl n m t _ _ ht ho hm hwt
 refine ⟨az, h1, ?_⟩
 have hone : ∀ {a : AV}, az = [a] → (∀ cs, v ≠ .agg cs) → RelV (argG w) w a v := by
  rintro a rfl hx
  have hc : v.cells.toList = [v] := by cases v <;> first | rfl | exact absurd rfl (hx _)
  rw [hc] at h2
  exact h2.2 0 a v rfl rfl
 cases n with
 | zero => exact h1.elim
 | succ n =>
  unfold mkV
  simp only [Typ] at h1
  split at h1 <;> rename_i hu
  ·obtain ⟨b, rfl⟩ := h1
   rw [hu]
   obtain ⟨c, hc⟩ := okWide_bool hu hv
   exact hone rfl (by rw [hc]; intro cs e; cases e)
  ·obtain ⟨b, rfl, _⟩ := h1
   rw [hu]
   obtain ⟨c, hc⟩ := okWide_int hu hv
   exact hone rfl (by rw [hc]; intro cs e; cases e)
  ·obtain ⟨b, rfl, _⟩ := h1
   rw [hu]
   obtain ⟨c, hc⟩ := okWide_string hu hv
   exact hone rfl (by rw [hc]; intro cs e; cases e)
  ·obtain ⟨b, rfl, _⟩ := h1
   rw [hu]
   obtain ⟨_, _, _, hc⟩ := okWide_slice hu hv
   exact hone rfl (by rw [hc]; intro cs e; cases e)
  ·rw [hu]
   unfold Value.okWide at hv
   rw [hu] at hv
   obtain ⟨cs, rfl, _, _⟩ := hv
   refine .agg ?_ fun i a u e1 e2 => ?_
   ·have := h2.1; simpa [Value.cells] using this.symm
   ·exact h2.2 i a u e1 (by simpa [Value.cells] using e2)
  ·rw [hu]
   unfold Value.okWide at hv
   rw [hu] at hv
   obtain ⟨cs, rfl, _, _⟩ := hv
   refine .agg ?_ fun i a u e1 e2 => ?_
   ·have := h2.1; simpa [Value.cells] using this.symm
   ·exact h2.2 i a u e1 (by simpa [Value.cells] using e2)
  ·exact h1.elim
theorem relArgs_cons {G : Gh} {a : AV} {v : Value} {az : List AV} {vs : List Value} (h : RelV G w a v) (hs : RelArgs G w az vs.toArray) : RelArgs G w (a :: az) (v :: vs).toArray := by
 refine ⟨by have := hs.1; simp at this; simp [this], fun i x u e1 e2 => ?_⟩
 cases i with
 | zero => simp at e1 e2; subst e1; subst e2; exact h
 | succ i => exact hs.2 i x u (by simpa using e1) (by simpa using e2)
def Parts (P : Program) (n : Nat) : List TypeId → List AV → Prop
 | [], cs => cs = []
 | t :: ts, cs => ∃ a b, cs = a ++ b ∧ Typ P n t a ∧ Parts P n ts b
theorem parts_of {n : Nat} : ∀ (fl : List Field) (parts : List (List AV)), parts.length = fl.length → (∀ (i : Nat) f p, fl[i]? = some f → parts[i]? = some p → Typ P n f.type p) → Parts P n (fl.map Field.type) parts.flatten
 | [], parts, hl, _ => by rw [List.length_eq_zero_iff.1 hl]; rfl
 | f :: fl, [], hl, _ => by simp at hl
 | f :: fl, p :: parts, hl, h => ⟨p, parts.flatten, rfl, h 0 f p rfl rfl, parts_of fl parts (by simpa using hl) fun i g q e1 e2 => h (i + 1) g q (by simpa using e1) (by simpa using e2)⟩
theorem typ_struct {n : Nat} {t : TypeId} {fs : Array Field} {cs : List AV} (hu : P.underlying t = some (.struct fs)) (h : Typ P (n + 1) t cs) : Parts P n (fs.toList.map Field.type) cs := by
 simp only [Typ, hu] at h
 obtain ⟨parts, rfl, h1, h2⟩ := h
 exact parts_of fs.toList parts h1 h2
theorem typ_int {n : Nat} {t : TypeId} {k : IntKind} {cs : List AV} (hu : P.underlying t = some (.int k)) (h : Typ P (n + 1) t cs) : ∃ m, cs = [.int k m] ∧ (Lit.int k m).wf = true := by
 simp only [Typ, hu] at h; exact h
theorem typ_slice {n : Nat} {t e : TypeId} {cs : List AV} {α : Type} {f : α → AV} {Q : α → Prop} (hu : P.underlying t = some (.slice e)) (h : Typ P (n + 1) t cs) (hq : ∀ y, Typ P n e y → ∃ x, mkV P e y = f x ∧ Q x) : ∃ l : List α, cs = [.lit (l.map f) false none] ∧ (l.length < 9223372036854775808 ∧ l.length * P.bytesOf e ≤ reachBytes) ∧ ∀ x ∈ l, Q x := by
 simp only [Typ, hu] at h
 obtain ⟨ys, rfl, ⟨h1, h1b⟩, h2⟩ := h
 have key : ∀ ys : List (List AV), (∀ y ∈ ys, Typ P n e y) → ∃ l : List α, ys.map (mkV P e) = l.map f ∧ l.length = ys.length ∧ ∀ x ∈ l, Q x := by
  intro ys
  induction ys with
  | nil => intro _; exact ⟨[], rfl, rfl, by simp⟩
  | cons y ys ih =>
   intro hy
   obtain ⟨x, q1, q2⟩ := hq y (hy y (by simp))
   obtain ⟨l, q3, q4, q5⟩ := ih fun z hz => hy z (List.mem_cons_of_mem _ hz)
   exact ⟨x :: l, by simp [q1, q3], by simp [q4], fun z hz => by
    rcases List.mem_cons.1 hz with rfl | hz
    ·exact q2
    ·exact q5 z hz⟩
 obtain ⟨l, q1, q2, q3⟩ := key ys h2
 exact ⟨l, by rw [q1], ⟨by simp only [maxLen] at h1; omega, by rw [q2]; exact h1b⟩, q3⟩
theorem typ_array {n k : Nat} {t e : TypeId} {cs : List AV} (hu : P.underlying t = some (.array k e)) (h : Typ P (n + 1) t cs) : Parts P n (List.replicate k e) cs := by
 simp only [Typ, hu] at h
 obtain ⟨parts, rfl, rfl, h2⟩ := h
 have key : ∀ parts : List (List AV), (∀ p ∈ parts, Typ P n e p) → Parts P n (List.replicate parts.length e) parts.flatten := by
  intro parts
  induction parts with
  | nil => intro _; rfl
  | cons p parts ih => intro hp; exact ⟨p, parts.flatten, rfl, hp p (by simp), ih fun q hq => hp q (List.mem_cons_of_mem _ hq)⟩
 exact key parts h2
theorem mkV_array {k : Nat} {t e : TypeId} {cs : List AV} (hu : P.underlying t = some (.array k e)) : mkV P t cs = .agg cs := by simp [mkV, hu]
theorem mkV_struct {t : TypeId} {fs : Array Field} {cs : List AV} (hu : P.underlying t = some (.struct fs)) : mkV P t cs = .agg cs := by simp [mkV, hu]
theorem mkV_one {t : TypeId} {a : AV} (hu : ∀ fs, P.underlying t ≠ some (.struct fs)) (hu2 : ∀ k e, P.underlying t ≠ some (.array k e)) : mkV P t [a] = a := by
 unfold mkV
 split
 ·rename_i fs h; exact absurd h (hu fs)
 ·rename_i k e h; exact absurd h (hu2 k e)
 ·rfl
theorem wf_u8 {m : Int} (h : (Lit.int .u8 m).wf = true) : 0 ≤ m ∧ m < 256 := by
 simp [Lit.wf, IntKind.min, IntKind.max, IntKind.signed, IntKind.bits] at h
 omega
end Go.Am
namespace Go.Am
variable {T : FuncId → Option AFunc}
theorem V_rem (k : IntKind) (a b : Int) (h : b ≠ 0) : binAV .rem (.int k a) (.int k b) = some (.int k (a.tmod b)) := by simp [binAV, binInt, h]
theorem app_full {sz b : Nat} {σ : St} {xs ys : List AV} {tk t : Option Nat} {f : Bool} (h : AppOk sz b xs ys) (h0 : ys.length ≠ 0) :
  appendAV sz b σ (.lit xs true tk) (.lit ys f t) = some (.lit (xs ++ ys) false (some σ.length), σ ++ [.tok sz (xs.length + ys.length) true]) := by
 obtain ⟨h1, h2, h3, h4⟩ := h
 simp [appendAV, view, sized, h0, h1, h2, h3, h4]
theorem app_nil {sz b : Nat} {σ : St} {xs : List AV} {tk t : Option Nat} {f f' : Bool} : appendAV sz b σ (.lit xs f' tk) (.lit [] f t) = some (.lit xs f' tk, σ) := by
 simp [appendAV, view]
end Go.Am
namespace Go.Am
variable {T : FuncId → Option AFunc}
theorem V_idxI {α : Type} {sz : Nat} {enc : α → AV} {l : List α} {i : Int} {t : Option Nat} (h0 : 0 ≤ i) (h : i.toNat < l.length) (hs : ∀ x, (enc x).cells.length = sz) : vIdx sz (l.map enc) i t = some (.lptr (l.map enc) i.toNat 0 t) := by
 simp [vIdx, List.getElem?_map, h, hs, h0]
def intss (l : List (List Int)) : AV := .lit (l.map ints) false none
theorem data_intss (l : List (List Int)) : Data (intss l) := data_list data_ints l
end Go.Am
namespace Go.Am
variable {T : FuncId → Option AFunc}
theorem V_take {α : Type} {sz : Nat} {enc : α → AV} {l : List α} {i : Nat} {σ : St} {t : Option Nat} (hi : i ≤ l.length) (hs : ∀ x, (enc x).cells.length = sz) : vSlicev sz σ (.lit (l.map enc) false t) none (some (.int .i64 (i : Int))) none = some (.lit ((l.take i).map enc) false t) := by
 have hc : cutFits sz (l.map enc) 0 (i : Int) = true := by
  unfold cutFits
  by_cases h0 : i = 0
  ·subst h0; simp
  ·cases l with
   | nil => simp at hi; omega
   | cons x l => simp [hs]
 simp only [vSlicev, lenAV, vBound, Option.map_none, intOf, sliceAV]
 rw [if_pos ⟨by omega, by omega, by simp; omega, hc⟩]
 simp [List.map_take]
end Go.Am
namespace Go.Am
instance (l : List (List Int)) : Dat (intss l) := ⟨data_intss l⟩
end Go.Am
namespace Go.Am.Room
theorem in_ok (n lo hi : Int) : Pure T 62 [.int .i64 n, .int .i64 lo, .int .i64 hi] (.bool (inR n lo hi)) := by
 refine pure_fn (af := a62) rfl (by simp [a62]) dd ?_
 (repeat (first | simp only [↓QA, QB, Nat.reduceLT, reduceIte, Nat.reduceEqDiff, Nat.reduceAdd, Nat.reduceLeDiff, Nat.reduceMul, Nat.reduceBEq, a62] | refine rd0 rfl ?_))
 refine iteP_intro (fun h => ?_) fun h => ?_
 all_goals
  (repeat (first | simp only [↓QA, QB, Nat.reduceLT, reduceIte, Nat.reduceEqDiff, Nat.reduceAdd, Nat.reduceLeDiff, Nat.reduceMul, Nat.reduceBEq, h] | refine rd0 rfl ?_))
  simp [inR, h]
theorem ends_ok (s : Span) (lo hi : Int) : Pure T 92 [encSpan s, .int .i64 lo, .int .i64 hi] (.int .i64 (ends s lo hi)) := by
 refine pure_fn (af := a92) rfl (by simp [a92]) dd ?_
 (repeat (first | simp only [↓QA, QB, Nat.reduceLT, reduceIte, Nat.reduceEqDiff, Nat.reduceAdd, Nat.reduceLeDiff, Nat.reduceMul, Nat.reduceBEq, a92, encSpan_eq] | refine rd0 rfl ?_))
 refine callK_d (in_ok _ _ _) rfl dd ?_
 (repeat (first | simp only [↓QA, QB, Nat.reduceLT, reduceIte, Nat.reduceEqDiff, Nat.reduceAdd, Nat.reduceLeDiff, Nat.reduceMul, Nat.reduceBEq] | refine rd0 rfl ?_))
 cases h1 : inR s.lo lo hi
 ·(repeat (first | simp only [↓QA, QB, Nat.reduceLT, reduceIte, Nat.reduceEqDiff, Nat.reduceAdd, Nat.reduceLeDiff, Nat.reduceMul, Nat.reduceBEq] | refine rd0 rfl ?_))
  simp [ends, h1]
 ·(repeat (first | simp only [↓QA, QB, Nat.reduceLT, reduceIte, Nat.reduceEqDiff, Nat.reduceAdd, Nat.reduceLeDiff, Nat.reduceMul, Nat.reduceBEq] | refine rd0 rfl ?_))
  refine callK_d (in_ok _ _ _) rfl dd ?_
  (repeat (first | simp only [↓QA, QB, Nat.reduceLT, reduceIte, Nat.reduceEqDiff, Nat.reduceAdd, Nat.reduceLeDiff, Nat.reduceMul, Nat.reduceBEq] | refine rd0 rfl ?_))
  cases h2 : inR s.hi lo hi
  ·(repeat (first | simp only [↓QA, QB, Nat.reduceLT, reduceIte, Nat.reduceEqDiff, Nat.reduceAdd, Nat.reduceLeDiff, Nat.reduceMul, Nat.reduceBEq] | refine rd0 rfl ?_))
   simp [ends, h1, h2]
  ·(repeat (first | simp only [↓QA, QB, Nat.reduceLT, reduceIte, Nat.reduceEqDiff, Nat.reduceAdd, Nat.reduceLeDiff, Nat.reduceMul, Nat.reduceBEq] | refine rd0 rfl ?_))
   refine iteP_intro (fun h => ?_) fun h => ?_
   all_goals
    (repeat (first | simp only [↓QA, QB, Nat.reduceLT, reduceIte, Nat.reduceEqDiff, Nat.reduceAdd, Nat.reduceLeDiff, Nat.reduceMul, Nat.reduceBEq, h] | refine rd0 rfl ?_))
    simp [ends, h1, h2]
    simpa using h
theorem has_ok (l : List Int) (n : Int) (hl : l.length < 9223372036854775808) : Pure T 41 [ints l, .int .i64 n] (.bool (l.contains n)) := by
 refine pure_fn (af := a41) rfl (by simp [a41]) dd ?_
 (repeat (first | simp only [↓QA, QB, Nat.reduceLT, reduceIte, Nat.reduceEqDiff, Nat.reduceAdd, Nat.reduceLeDiff, Nat.reduceMul, Nat.reduceBEq, a41] | refine rd0 rfl ?_))
 refine loopE (S := Nat) 0 (· ≤ l.length) (fun k => l.length - k) (fun k => [(0, ints l), (1, .int .i64 n), (5, .bool ((l.take k).contains n)), (6, .int .i64 k)]) (fun _ => []) (Nat.zero_le _) rfl ?_ fun k hk => ?_
 ·try simp only [TrimX, QE, Nat.reduceLT, reduceIte, Nat.reduceEqDiff, Nat.reduceAdd, Nat.reduceLeDiff, Nat.reduceMul, Nat.reduceBEq]
  try simp
 ·(repeat (first | simp only [↓QA, QB, Nat.reduceLT, reduceIte, Nat.reduceEqDiff, Nat.reduceAdd, Nat.reduceLeDiff, Nat.reduceMul, Nat.reduceBEq, L41_0] | refine rd0 rfl ?_))
  refine iteP_intro (fun h => ?_) fun h => ?_
  ·have hk1 : k < l.length := by simpa using h
   (repeat (first | simp only [↓QA, QB, Nat.reduceLT, reduceIte, Nat.reduceEqDiff, Nat.reduceAdd, Nat.reduceLeDiff, Nat.reduceMul, Nat.reduceBEq] | refine rd0 rfl ?_))
   refine iteP_intro (fun h2 => ?_) fun h2 => ?_
   all_goals
    (repeat (first | simp only [↓QA, QB, Nat.reduceLT, reduceIte, Nat.reduceEqDiff, Nat.reduceAdd, Nat.reduceLeDiff, Nat.reduceMul, Nat.reduceBEq, h2, hk1] | refine rd0 rfl ?_))
    refine ⟨k + 1, by omega, by omega, ?_⟩
    try simp only [TrimX, QE, Nat.reduceLT, reduceIte, Nat.reduceEqDiff, Nat.reduceAdd, Nat.reduceLeDiff, Nat.reduceMul, Nat.reduceBEq, wrapN hk1 hl]
    simp only [List.take_succ_eq_append_getElem hk1, List.contains_append, h2]
    simp
    try (rw [Bool.eq_iff_iff]; simp; exact eq_comm)
  ·have : k = l.length := by simp at h; omega
   (repeat (first | simp only [↓QA, QB, Nat.reduceLT, reduceIte, Nat.reduceEqDiff, Nat.reduceAdd, Nat.reduceLeDiff, Nat.reduceMul, Nat.reduceBEq] | refine rd0 rfl ?_))
   simp [this]
theorem allCells_ints (l : List (List Int)) : allCells 1 (l.map ints) = true := L_allM 1 ints l fun x => C_lit _ _ _
open Go
variable {P : Program}
def IsStruct (P : Program) (t : TypeId) (ts : List TypeId) : Prop := ∃ fs, P.underlying t = some (.struct fs) ∧ fs.toList.map Field.type = ts
theorem typ_st {n : Nat} {t : TypeId} {ts : List TypeId} {cs : List AV} (hu : IsStruct P t ts) (h : Typ P (n + 1) t cs) : mkV P t cs = .agg cs ∧ Parts P n ts cs := by
 obtain ⟨fs, h1, h2⟩ := hu
 have := typ_struct h1 h
 rw [h2] at this
 exact ⟨mkV_struct h1, this⟩
theorem mkV_ne {t : TypeId} {a : AV} {d : TypeDesc} (hu : P.underlying t = some d) (hd : ∀ fs, d ≠ .struct fs := by intro fs h; cases h) (hd2 : ∀ k e, d ≠ .array k e := by intro k e h; cases h) : mkV P t [a] = a := mkV_one (by rw [hu]; intro fs e; cases e; exact hd _ rfl) (by rw [hu]; intro k e h; cases h; exact hd2 _ _ rfl)
theorem tc_span {n : Nat} {i t : TypeId} {cs : List AV} (hi : P.underlying i = some (.int .i64)) (hs : IsStruct P t [i, i]) (h : Typ P (n + 2) t cs) : ∃ s : Span, cs = [.int .i64 s.lo, .int .i64 s.hi] := by
 obtain ⟨_, a, b, rfl, h1, c, d, rfl, h2, rfl⟩ := typ_st hs h
 obtain ⟨x, rfl, _⟩ := typ_int hi h1
 obtain ⟨y, rfl, _⟩ := typ_int hi h2
 exact ⟨⟨x, y⟩, rfl⟩
theorem tc_int {n : Nat} {t : TypeId} {cs : List AV} (hi : P.underlying t = some (.int .i64)) (h : Typ P (n + 1) t cs) : ∃ x : Int, mkV P t cs = .int .i64 x ∧ True := by
 obtain ⟨x, rfl, _⟩ := typ_int hi h
 exact ⟨x, mkV_ne hi, trivial⟩
theorem tc_ints {n : Nat} {t i : TypeId} {cs : List AV} (hi : P.underlying i = some (.int .i64)) (hs : P.underlying t = some (.slice i)) (h : Typ P (n + 2) t cs) : ∃ l : List Int, mkV P t cs = Go.Am.ints l ∧ cs = [Go.Am.ints l] ∧ l.length < 9223372036854775808 := by
 obtain ⟨l, rfl, ⟨h1, _⟩, _⟩ := typ_slice (f := fun x : Int => AV.int .i64 x) hs h fun y hy => tc_int hi hy
 exact ⟨l, mkV_ne hs, rfl, h1⟩
theorem tc_a2 {n : Nat} {t i : TypeId} {cs : List AV} (hi : P.underlying i = some (.int .u8)) (hs : P.underlying t = some (.array 2 i)) (h : Typ P (n + 2) t cs) : ∃ x y : Int, mkV P t cs = .agg [.int .u8 x, .int .u8 y] ∧ (0 ≤ x ∧ x < 256) ∧ (0 ≤ y ∧ y < 256) := by
 have e := mkV_array (cs := cs) hs
 obtain ⟨a, b, rfl, h1, c, d, rfl, h2, rfl⟩ := typ_array hs h
 obtain ⟨x, rfl, hx⟩ := typ_int hi h1
 obtain ⟨y, rfl, hy⟩ := typ_int hi h2
 exact ⟨x, y, e, wf_u8 hx, wf_u8 hy⟩
end Go.Am.Room
namespace Go.Am.Room
def courseOf (s : Ship) (h : Nat) (start : Int) (c : Bool) : List Int := (List.range (s.heat.length + 1)).map (marksAt s h start c)
def course (s : Ship) (h : Nat) (start : Int) (bl : List Int) : List Int := courseOf s h start (cooled bl h)
open Go
variable {P : Program}
structure Tys (P : Program) : Prop where
 int : P.underlying 3 = some (.int .i64)
 u8 : P.underlying 5 = some (.int .u8)
 ints : P.underlying 22 = some (.slice 3)
 holds : P.underlying 23 = some (.slice 76)
 lines : P.underlying 24 = some (.slice 49)
 ship : IsStruct P 26 [3, 3, 3, 22, 3, 23, 24]
 span : IsStruct P 31 [3, 3]
 line : IsStruct P 49 [3, 3, 3]
 u8s : P.underlying 52 = some (.slice 5)
 a2 : P.underlying 74 = some (.array 2 5)
 hold : IsStruct P 76 [31, 3, 31]
 a4 : P.underlying 78 = some (.array 4 5)
 lineB : P.bytesOf 49 = 24
theorem ty_hold {n : Nat} {cs : List AV} (T : Tys P) (h : Typ P (n + 3) 76 cs) : ∃ s : Hold, mkV P 76 cs = encHold s ∧ True := by
 obtain ⟨e, a, b, rfl, h1, c, d, rfl, h2, c2, d2, rfl, h3, rfl⟩ := typ_st T.hold h
 obtain ⟨x, rfl⟩ := tc_span T.int T.span h1
 obtain ⟨y, rfl, _⟩ := typ_int T.int h2
 obtain ⟨z, rfl⟩ := tc_span T.int T.span h3
 exact ⟨⟨x, y, z⟩, e, trivial⟩
theorem ty_line {n : Nat} {cs : List AV} (T : Tys P) (h : Typ P (n + 2) 49 cs) : ∃ s : Line, mkV P 49 cs = encLine s ∧ True := by
 obtain ⟨e, a, b, rfl, h1, c, d, rfl, h2, c2, d2, rfl, h3, rfl⟩ := typ_st T.line h
 obtain ⟨x, rfl, _⟩ := typ_int T.int h1
 obtain ⟨y, rfl, _⟩ := typ_int T.int h2
 obtain ⟨z, rfl, _⟩ := typ_int T.int h3
 exact ⟨⟨x, y, z⟩, e, trivial⟩
theorem ty_a2 {n : Nat} {cs : List AV} (T : Tys P) (h : Typ P (n + 2) 74 cs) : ∃ x y : Int, mkV P 74 cs = .agg [.int .u8 x, .int .u8 y] ∧ (0 ≤ x ∧ x < 256) ∧ (0 ≤ y ∧ y < 256) := tc_a2 T.u8 T.a2 h
theorem ty_shipB {n : Nat} {cs : List AV} (T : Tys P) (h : Typ P (n + 5) 26 cs) : ∃ s : Ship, mkV P 26 cs = encShip s ∧ Fits s ∧ s.log.length * 24 ≤ 140737488351232 := by
 obtain ⟨e, a1, b1, rfl, h1, a2, b2, rfl, h2, a3, b3, rfl, h3, a4, b4, rfl, h4, a5, b5, rfl, h5, a6, b6, rfl, h6, a7, b7, rfl, h7, rfl⟩ := typ_st T.ship h
 obtain ⟨x1, rfl, _⟩ := typ_int T.int h1
 obtain ⟨x2, rfl, _⟩ := typ_int T.int h2
 obtain ⟨x3, rfl, _⟩ := typ_int T.int h3
 obtain ⟨x4, _, rfl, l4⟩ := tc_ints T.int T.ints h4
 obtain ⟨x5, rfl, _⟩ := typ_int T.int h5
 obtain ⟨x6, rfl, ⟨l6, _⟩, _⟩ := typ_slice T.holds h6 fun y hy => ty_hold T hy
 obtain ⟨x7, rfl, ⟨l7, b7⟩, _⟩ := typ_slice T.lines h7 fun y hy => ty_line T hy
 exact ⟨⟨x1, x2, x3, x4, x5, x6, x7⟩, e, ⟨l4, l6, l7⟩, by rw [T.lineB] at b7; simpa [reachBytes] using b7⟩
theorem ty_ship {n : Nat} {cs : List AV} (T : Tys P) (h : Typ P (n + 5) 26 cs) : ∃ s : Ship, mkV P 26 cs = encShip s ∧ Fits s := by
 obtain ⟨r, h1, h2, _⟩ := ty_shipB T h
 exact ⟨r, h1, h2⟩
end Go.Am.Room
namespace Go.Am.Room
theorem firstBad_no {α : Type} {f : Nat → α → Int} : ∀ {l : List α} {i : Nat}, (∀ x ∈ l, ∀ k, f k x = 0) → firstBad f l i = none
 | [], _, _ => rfl
 | x :: xs, i, h => by
  simp only [firstBad]
  rw [if_pos (h x (by simp) i)]
  exact firstBad_no fun y hy => h y (by simp [hy])
theorem check_of_vd {s : Ship} (h : Vd s) : check s = (0, 0, 0) := by
 have h2 := h.nheat
 have h3 := h.nholds
 have h5 := h.nlog
 have g1 : firstBad heatErr s.heat 0 = none := firstBad_no fun n hn k => by simp [heatErr, isMarks, inR_iff.2 (h.heat n hn)]
 have g2 : firstBad (fun _ => holdErr) s.holds 0 = none := firstBad_no fun x hx k => (holdErr_iff x).2 (h.holds x hx)
 have g3 : firstBad (lineErr s) s.log 0 = none := firstBad_no fun x hx k => by
  have := h.log x hx
  have a : inR x.hold 0 ((s.holds.length : Int) - 1) = true := inR_iff.2 (by omega)
  simp [lineErr, a, isMarks, inR_iff.2 this.2.1, inR_iff.2 this.2.2]
 have a1 : isMarks s.cold = true := inR_iff.2 h.cold
 have a2 : inR s.heat.length 1 6 = true := inR_iff.2 (by omega)
 have a3 : inR s.frm 0 s.heat.length = true := inR_iff.2 h.frm
 have a4 : inR s.holds.length 1 4 = true := inR_iff.2 (by omega)
 have e5 : check5 s = (0, 0, 0) := by rw [check5, if_neg (by omega), g3]
 have e4 : check4 s = (0, 0, 0) := by rw [check4, if_neg (by simp [a4]), g2]; exact e5
 have e3 : check3 s = (0, 0, 0) := by rw [check3, if_neg (by simp [a3])]; exact e4
 have e2 : check2 s = (0, 0, 0) := by rw [check2, if_neg (by simp [a2]), g1]; exact e3
 rw [check, if_neg (by simp [a1, inR_iff.2 h.power, inR_iff.2 h.warm])]
 exact e2
end Go.Am.Room
set_option maxRecDepth 4000
namespace Go.Am.Room
def QXHHdC1 := And.intro @encShip_eq (And.intro @shipCells_eq (And.intro @encHold_eq (And.intro @encLine_eq (And.intro @encSpan_eq (And.intro @S_mapHold (@S_mapLine))))))
theorem rend_ok (s : Ship) : Pure T 63 [encShip s] (.int .i64 s.heat.length) := by
 refine pure_fn (af := a63) rfl (by simp [a63]) dd ?_
 (repeat (first | simp only [↓QA, QB, Nat.reduceLT, reduceIte, Nat.reduceEqDiff, Nat.reduceAdd, Nat.reduceLeDiff, Nat.reduceMul, Nat.reduceBEq, QXHHdC1, a63] | refine rd0 rfl ?_))
theorem rmarks_ok (n : Int) : Pure T 61 [.int .i64 n] (.bool (isMarks n)) := by
 refine pure_fn (af := a61) rfl (by simp [a61]) dd ?_
 (repeat (first | simp only [↓QA, QB, Nat.reduceLT, reduceIte, Nat.reduceEqDiff, Nat.reduceAdd, Nat.reduceLeDiff, Nat.reduceMul, Nat.reduceBEq, QXHHdC1, a61] | refine rd0 rfl ?_))
 ((first | refine callK_d (in_ok n 0 80) rfl dd ?_ | refine callD_d (in_ok n 0 80) rfl dd ?_); (repeat (first | simp only [↓QA, QB, Nat.reduceLT, reduceIte, Nat.reduceEqDiff, Nat.reduceAdd, Nat.reduceLeDiff, Nat.reduceMul, Nat.reduceBEq, QXHHdC1, isMarks] | refine rd0 rfl ?_)))
theorem rhold_ok (h : Hold) : Pure T 64 [encHold h] (.int .i64 (holdErr h)) := by
 refine pure_fn (af := a64) rfl (by simp [a64]) dd ?_
 (repeat (first | simp only [↓QA, QB, Nat.reduceLT, reduceIte, Nat.reduceEqDiff, Nat.reduceAdd, Nat.reduceLeDiff, Nat.reduceMul, Nat.reduceBEq, QXHHdC1, a64] | refine rd0 rfl ?_))
 ((first | refine callK_d (ends_ok h.start 0 80) rfl dd ?_ | refine callD_d (ends_ok h.start 0 80) rfl dd ?_); (repeat (first | simp only [↓QA, QB, Nat.reduceLT, reduceIte, Nat.reduceEqDiff, Nat.reduceAdd, Nat.reduceLeDiff, Nat.reduceMul, Nat.reduceBEq, QXHHdC1] | refine rd0 rfl ?_)))
 ((first | refine callK_d (ends_ok h.keep 0 80) rfl dd ?_ | refine callD_d (ends_ok h.keep 0 80) rfl dd ?_); (repeat (first | simp only [↓QA, QB, Nat.reduceLT, reduceIte, Nat.reduceEqDiff, Nat.reduceAdd, Nat.reduceLeDiff, Nat.reduceMul, Nat.reduceBEq, QXHHdC1] | refine rd0 rfl ?_)))
 cases h1 : (ends h.start 0 80 == 7)
 ·have h1' : ends h.start 0 80 ≠ 7 := by simpa using h1
  (repeat (first | simp only [↓QA, QB, Nat.reduceLT, reduceIte, Nat.reduceEqDiff, Nat.reduceAdd, Nat.reduceLeDiff, Nat.reduceMul, Nat.reduceBEq, QXHHdC1, h1] | refine rd0 rfl ?_))
  cases h2 : (ends h.keep 0 80 == 7)
  ·have h2' : ends h.keep 0 80 ≠ 7 := by simpa using h2
   (repeat (first | simp only [↓QA, QB, Nat.reduceLT, reduceIte, Nat.reduceEqDiff, Nat.reduceAdd, Nat.reduceLeDiff, Nat.reduceMul, Nat.reduceBEq, QXHHdC1, h2] | refine rd0 rfl ?_))
   ((first | refine callK_d (in_ok h.duct 0 2) rfl dd ?_ | refine callD_d (in_ok h.duct 0 2) rfl dd ?_); (repeat (first | simp only [↓QA, QB, Nat.reduceLT, reduceIte, Nat.reduceEqDiff, Nat.reduceAdd, Nat.reduceLeDiff, Nat.reduceMul, Nat.reduceBEq, QXHHdC1] | refine rd0 rfl ?_)))
   cases h3 : inR h.duct 0 2
   ·(repeat (first | simp only [↓QA, QB, Nat.reduceLT, reduceIte, Nat.reduceEqDiff, Nat.reduceAdd, Nat.reduceLeDiff, Nat.reduceMul, Nat.reduceBEq, QXHHdC1] | refine rd0 rfl ?_))
    simp [holdErr, h3]
   ·(repeat (first | simp only [↓QA, QB, Nat.reduceLT, reduceIte, Nat.reduceEqDiff, Nat.reduceAdd, Nat.reduceLeDiff, Nat.reduceMul, Nat.reduceBEq, QXHHdC1] | refine rd0 rfl ?_))
    cases h4 : (ends h.start 0 80 == 0)
    ·have h4' : ends h.start 0 80 ≠ 0 := by simpa using h4
     (repeat (first | simp only [↓QA, QB, Nat.reduceLT, reduceIte, Nat.reduceEqDiff, Nat.reduceAdd, Nat.reduceLeDiff, Nat.reduceMul, Nat.reduceBEq, QXHHdC1, h4] | refine rd0 rfl ?_))
     simp [holdErr, h1', h2', h3, h4']
    ·have h4' : ends h.start 0 80 = 0 := by simpa using h4
     (repeat (first | simp only [↓QA, QB, Nat.reduceLT, reduceIte, Nat.reduceEqDiff, Nat.reduceAdd, Nat.reduceLeDiff, Nat.reduceMul, Nat.reduceBEq, QXHHdC1, h4] | refine rd0 rfl ?_))
     simp [holdErr, h2', h3, h4']
  ·have h2' : ends h.keep 0 80 = 7 := by simpa using h2
   (repeat (first | simp only [↓QA, QB, Nat.reduceLT, reduceIte, Nat.reduceEqDiff, Nat.reduceAdd, Nat.reduceLeDiff, Nat.reduceMul, Nat.reduceBEq, QXHHdC1, h2] | refine rd0 rfl ?_))
   simp [holdErr, h2']
 ·have h1' : ends h.start 0 80 = 7 := by simpa using h1
  (repeat (first | simp only [↓QA, QB, Nat.reduceLT, reduceIte, Nat.reduceEqDiff, Nat.reduceAdd, Nat.reduceLeDiff, Nat.reduceMul, Nat.reduceBEq, QXHHdC1, h1] | refine rd0 rfl ?_))
  simp [holdErr, h1']
theorem refcheck_ok (s : Ship) (h : Fits s) : Pure T 17 [encShip s] (enc3 (check s)) := by
 refine pure_fn (af := a17) rfl (by simp [a17]) dd ?_
 have hfh := h.heat
 have hfo := h.holds
 have hfl := h.log
 (repeat (first | simp only [↓QA, QB, Nat.reduceLT, reduceIte, Nat.reduceEqDiff, Nat.reduceAdd, Nat.reduceLeDiff, Nat.reduceMul, Nat.reduceBEq, QXHHdC1, a17] | refine rd0 rfl ?_))
 ((first | refine callK_d (rmarks_ok s.cold) rfl dd ?_ | refine callD_d (rmarks_ok s.cold) rfl dd ?_); (repeat (first | simp only [↓QA, QB, Nat.reduceLT, reduceIte, Nat.reduceEqDiff, Nat.reduceAdd, Nat.reduceLeDiff, Nat.reduceMul, Nat.reduceBEq, QXHHdC1] | refine rd0 rfl ?_)))
 cases h1 : isMarks s.cold
 ·(repeat (first | simp only [↓QA, QB, Nat.reduceLT, reduceIte, Nat.reduceEqDiff, Nat.reduceAdd, Nat.reduceLeDiff, Nat.reduceMul, Nat.reduceBEq, QXHHdC1] | refine rd0 rfl ?_))
  simp [check, h1, enc3]
 ·(repeat (first | simp only [↓QA, QB, Nat.reduceLT, reduceIte, Nat.reduceEqDiff, Nat.reduceAdd, Nat.reduceLeDiff, Nat.reduceMul, Nat.reduceBEq, QXHHdC1] | refine rd0 rfl ?_))
  ((first | refine callK_d (in_ok s.power 1 9) rfl dd ?_ | refine callD_d (in_ok s.power 1 9) rfl dd ?_); (repeat (first | simp only [↓QA, QB, Nat.reduceLT, reduceIte, Nat.reduceEqDiff, Nat.reduceAdd, Nat.reduceLeDiff, Nat.reduceMul, Nat.reduceBEq, QXHHdC1] | refine rd0 rfl ?_)))
  cases h2 : inR s.power 1 9
  ·(repeat (first | simp only [↓QA, QB, Nat.reduceLT, reduceIte, Nat.reduceEqDiff, Nat.reduceAdd, Nat.reduceLeDiff, Nat.reduceMul, Nat.reduceBEq, QXHHdC1] | refine rd0 rfl ?_))
   simp [check, h2, enc3]
  ·(repeat (first | simp only [↓QA, QB, Nat.reduceLT, reduceIte, Nat.reduceEqDiff, Nat.reduceAdd, Nat.reduceLeDiff, Nat.reduceMul, Nat.reduceBEq, QXHHdC1] | refine rd0 rfl ?_))
   ((first | refine callK_d (in_ok s.warm 0 5) rfl dd ?_ | refine callD_d (in_ok s.warm 0 5) rfl dd ?_); (repeat (first | simp only [↓QA, QB, Nat.reduceLT, reduceIte, Nat.reduceEqDiff, Nat.reduceAdd, Nat.reduceLeDiff, Nat.reduceMul, Nat.reduceBEq, QXHHdC1] | refine rd0 rfl ?_)))
   cases h3 : inR s.warm 0 5
   ·(repeat (first | simp only [↓QA, QB, Nat.reduceLT, reduceIte, Nat.reduceEqDiff, Nat.reduceAdd, Nat.reduceLeDiff, Nat.reduceMul, Nat.reduceBEq, QXHHdC1] | refine rd0 rfl ?_))
    simp [check, h3, enc3]
   ·have hc : check s = check2 s := by simp [check, h1, h2, h3]
    rw [hc]
    (repeat (first | simp only [↓QA, QB, Nat.reduceLT, reduceIte, Nat.reduceEqDiff, Nat.reduceAdd, Nat.reduceLeDiff, Nat.reduceMul, Nat.reduceBEq, QXHHdC1] | refine rd0 rfl ?_))
    ((first | refine callK_d (in_ok s.heat.length 1 6) rfl dd ?_ | refine callD_d (in_ok s.heat.length 1 6) rfl dd ?_); (repeat (first | simp only [↓QA, QB, Nat.reduceLT, reduceIte, Nat.reduceEqDiff, Nat.reduceAdd, Nat.reduceLeDiff, Nat.reduceMul, Nat.reduceBEq, QXHHdC1] | refine rd0 rfl ?_)))
    cases h5 : inR s.heat.length 1 6
    ·(repeat (first | simp only [↓QA, QB, Nat.reduceLT, reduceIte, Nat.reduceEqDiff, Nat.reduceAdd, Nat.reduceLeDiff, Nat.reduceMul, Nat.reduceBEq, QXHHdC1] | refine rd0 rfl ?_))
     simp [check2, h5, enc3]
    ·have hc : check2 s = match firstBad heatErr s.heat 0 with | some (i, e) => (2, (i : Int), e) | none => check3 s := by simp only [check2, h5, Bool.true_eq_false, if_false]; rfl
     rw [hc]
     (repeat (first | simp only [↓QA, QB, Nat.reduceLT, reduceIte, Nat.reduceEqDiff, Nat.reduceAdd, Nat.reduceLeDiff, Nat.reduceMul, Nat.reduceBEq, QXHHdC1] | refine rd0 rfl ?_))
     refine loopE (S := Nat) 0 (fun k => k ≤ s.heat.length ∧ firstBad heatErr (s.heat.drop k) k = firstBad heatErr s.heat 0) (fun k => s.heat.length - k)
      (fun k => [(1, .ptr 0 0), (5, .int .i64 k)]) (fun _ => [.cells (shipCells s)]) ⟨Nat.zero_le _, by simp⟩ (by simp [shipCells, ints]) ?_ fun k hk => ?_
     ·try simp only [TrimX, QE, Nat.reduceLT, reduceIte, Nat.reduceEqDiff, Nat.reduceAdd, Nat.reduceLeDiff, Nat.reduceMul, Nat.reduceBEq, QXHHdC1]
      try simp
     ·obtain ⟨hk, hb⟩ := hk
      (repeat (first | simp only [↓QA, QB, Nat.reduceLT, reduceIte, Nat.reduceEqDiff, Nat.reduceAdd, Nat.reduceLeDiff, Nat.reduceMul, Nat.reduceBEq, QXHHdC1, L17_0] | refine rd0 rfl ?_))
      refine iteP_intro (fun hd => ?_) fun hd => ?_
      ·have hk1 : k < s.heat.length := by simpa using hd
       rw [firstBad_step hk1] at hb
       have hw := wrapN hk1 hfh
       (repeat (first | simp only [↓QA, QB, Nat.reduceLT, reduceIte, Nat.reduceEqDiff, Nat.reduceAdd, Nat.reduceLeDiff, Nat.reduceMul, Nat.reduceBEq, QXHHdC1, hk1] | refine rd0 rfl ?_))
       ((first | refine callK_d (rmarks_ok s.heat[k]) rfl dd ?_ | refine callD_d (rmarks_ok s.heat[k]) rfl dd ?_); (repeat (first | simp only [↓QA, QB, Nat.reduceLT, reduceIte, Nat.reduceEqDiff, Nat.reduceAdd, Nat.reduceLeDiff, Nat.reduceMul, Nat.reduceBEq, QXHHdC1, hk1] | refine rd0 rfl ?_)))
       have hre : heatErr k s.heat[k] = if isMarks s.heat[k] then 0 else 7 := rfl
       rw [hre] at hb
       cases hi : isMarks s.heat[k]
       ·(repeat (first | simp only [↓QA, QB, Nat.reduceLT, reduceIte, Nat.reduceEqDiff, Nat.reduceAdd, Nat.reduceLeDiff, Nat.reduceMul, Nat.reduceBEq, QXHHdC1, hk1] | refine rd0 rfl ?_))
        rw [← hb, hi]
        rfl
       ·(repeat (first | simp only [↓QA, QB, Nat.reduceLT, reduceIte, Nat.reduceEqDiff, Nat.reduceAdd, Nat.reduceLeDiff, Nat.reduceMul, Nat.reduceBEq, QXHHdC1, hk1, hw] | refine rd0 rfl ?_))
        refine ⟨k + 1, ⟨by omega, by rw [← hb, hi]; rfl⟩, by omega, ?_⟩
        try simp only [TrimX, QE, Nat.reduceLT, reduceIte, Nat.reduceEqDiff, Nat.reduceAdd, Nat.reduceLeDiff, Nat.reduceMul, Nat.reduceBEq, QXHHdC1, hw]
        try simp
      ·have hk1 : k = s.heat.length := by simp at hd; omega
       rw [firstBad_end hk1] at hb
       rw [← hb]
       (repeat (first | simp only [↓QA, QB, Nat.reduceLT, reduceIte, Nat.reduceEqDiff, Nat.reduceAdd, Nat.reduceLeDiff, Nat.reduceMul, Nat.reduceBEq, QXHHdC1] | refine rd0 rfl ?_))
       ((first | refine callK_d (rend_ok s) rfl dd ?_ | refine callD_d (rend_ok s) rfl dd ?_); (repeat (first | simp only [↓QA, QB, Nat.reduceLT, reduceIte, Nat.reduceEqDiff, Nat.reduceAdd, Nat.reduceLeDiff, Nat.reduceMul, Nat.reduceBEq, QXHHdC1] | refine rd0 rfl ?_)))
       ((first | refine callK_d (in_ok s.frm 0 s.heat.length) rfl dd ?_ | refine callD_d (in_ok s.frm 0 s.heat.length) rfl dd ?_); (repeat (first | simp only [↓QA, QB, Nat.reduceLT, reduceIte, Nat.reduceEqDiff, Nat.reduceAdd, Nat.reduceLeDiff, Nat.reduceMul, Nat.reduceBEq, QXHHdC1] | refine rd0 rfl ?_)))
       cases h6 : inR s.frm 0 s.heat.length
       ·(repeat (first | simp only [↓QA, QB, Nat.reduceLT, reduceIte, Nat.reduceEqDiff, Nat.reduceAdd, Nat.reduceLeDiff, Nat.reduceMul, Nat.reduceBEq, QXHHdC1] | refine rd0 rfl ?_))
        simp [check3, h6, enc3]
       ·have hc : check3 s = check4 s := by simp [check3, h6]
        rw [hc]
        (repeat (first | simp only [↓QA, QB, Nat.reduceLT, reduceIte, Nat.reduceEqDiff, Nat.reduceAdd, Nat.reduceLeDiff, Nat.reduceMul, Nat.reduceBEq, QXHHdC1] | refine rd0 rfl ?_))
        ((first | refine callK_d (in_ok s.holds.length 1 4) rfl dd ?_ | refine callD_d (in_ok s.holds.length 1 4) rfl dd ?_); (repeat (first | simp only [↓QA, QB, Nat.reduceLT, reduceIte, Nat.reduceEqDiff, Nat.reduceAdd, Nat.reduceLeDiff, Nat.reduceMul, Nat.reduceBEq, QXHHdC1] | refine rd0 rfl ?_)))
        cases h7 : inR s.holds.length 1 4
        ·(repeat (first | simp only [↓QA, QB, Nat.reduceLT, reduceIte, Nat.reduceEqDiff, Nat.reduceAdd, Nat.reduceLeDiff, Nat.reduceMul, Nat.reduceBEq, QXHHdC1] | refine rd0 rfl ?_))
         simp [check4, h7, enc3]
        ·have hc : check4 s = match firstBad (fun _ => holdErr) s.holds 0 with | some (i, e) => (4, (i : Int), e) | none => check5 s := by simp only [check4, h7, Bool.true_eq_false, if_false]; rfl
         rw [hc]
         (repeat (first | simp only [↓QA, QB, Nat.reduceLT, reduceIte, Nat.reduceEqDiff, Nat.reduceAdd, Nat.reduceLeDiff, Nat.reduceMul, Nat.reduceBEq, QXHHdC1] | refine rd0 rfl ?_))
         refine loopE (S := Nat) 0 (fun k => k ≤ s.holds.length ∧ firstBad (fun _ => holdErr) (s.holds.drop k) k = firstBad (fun _ => holdErr) s.holds 0) (fun k => s.holds.length - k)
          (fun k => [(1, .ptr 0 0), (6, .int .i64 k)]) (fun _ => [.cells (shipCells s)]) ⟨Nat.zero_le _, by simp⟩ (by simp [shipCells, ints]) ?_ fun j hj => ?_
         ·try simp only [TrimX, QE, Nat.reduceLT, reduceIte, Nat.reduceEqDiff, Nat.reduceAdd, Nat.reduceLeDiff, Nat.reduceMul, Nat.reduceBEq, QXHHdC1]
          try simp
         ·obtain ⟨hj, hbj⟩ := hj
          (repeat (first | simp only [↓QA, QB, Nat.reduceLT, reduceIte, Nat.reduceEqDiff, Nat.reduceAdd, Nat.reduceLeDiff, Nat.reduceMul, Nat.reduceBEq, QXHHdC1, L17_2] | refine rd0 rfl ?_))
          refine iteP_intro (fun hd2 => ?_) fun hd2 => ?_
          ·have hj1 : j < s.holds.length := by simpa using hd2
           rw [firstBad_step hj1] at hbj
           have hw2 := wrapN hj1 hfo
           have hho := rhold_ok s.holds[j]
           rw [encHold_eq] at hho
           (repeat (first | simp only [↓QA, QB, Nat.reduceLT, reduceIte, Nat.reduceEqDiff, Nat.reduceAdd, Nat.reduceLeDiff, Nat.reduceMul, Nat.reduceBEq, QXHHdC1, hj1] | refine rd0 rfl ?_))
           ((first | refine callK_d (hho) rfl dd ?_ | refine callD_d (hho) rfl dd ?_); (repeat (first | simp only [↓QA, QB, Nat.reduceLT, reduceIte, Nat.reduceEqDiff, Nat.reduceAdd, Nat.reduceLeDiff, Nat.reduceMul, Nat.reduceBEq, QXHHdC1, hj1] | refine rd0 rfl ?_)))
           cases hi : (holdErr s.holds[j] == 0)
           ·have hi' : holdErr s.holds[j] ≠ 0 := by simpa using hi
            rw [if_neg hi'] at hbj
            rw [← hbj]
            (repeat (first | simp only [↓QA, QB, Nat.reduceLT, reduceIte, Nat.reduceEqDiff, Nat.reduceAdd, Nat.reduceLeDiff, Nat.reduceMul, Nat.reduceBEq, QXHHdC1, hi, hj1] | refine rd0 rfl ?_))
            rfl
           ·have hi' : holdErr s.holds[j] = 0 := by simpa using hi
            rw [if_pos hi'] at hbj
            (repeat (first | simp only [↓QA, QB, Nat.reduceLT, reduceIte, Nat.reduceEqDiff, Nat.reduceAdd, Nat.reduceLeDiff, Nat.reduceMul, Nat.reduceBEq, QXHHdC1, hi, hj1, hw2] | refine rd0 rfl ?_))
            refine ⟨j + 1, ⟨by omega, hbj⟩, by omega, ?_⟩
            try simp only [TrimX, QE, Nat.reduceLT, reduceIte, Nat.reduceEqDiff, Nat.reduceAdd, Nat.reduceLeDiff, Nat.reduceMul, Nat.reduceBEq, QXHHdC1, hw2]
            try simp
          ·have hj1 : j = s.holds.length := by simp at hd2; omega
           rw [firstBad_end hj1] at hbj
           rw [← hbj]
           (repeat (first | simp only [↓QA, QB, Nat.reduceLT, reduceIte, Nat.reduceEqDiff, Nat.reduceAdd, Nat.reduceLeDiff, Nat.reduceMul, Nat.reduceBEq, QXHHdC1] | refine rd0 rfl ?_))
           cases h8 : decide (5 < (s.log.length : Int))
           ·have h8' : ¬ 5 < s.log.length := by simp at h8; omega
            have hc : check5 s = match firstBad (lineErr s) s.log 0 with | some (i, e) => (5, (i : Int), e) | none => (0, 0, 0) := by simp only [check5, h8', if_false]; rfl
            rw [hc]
            (repeat (first | simp only [↓QA, QB, Nat.reduceLT, reduceIte, Nat.reduceEqDiff, Nat.reduceAdd, Nat.reduceLeDiff, Nat.reduceMul, Nat.reduceBEq, QXHHdC1] | refine rd0 rfl ?_))
            refine loopE (S := Nat) 0 (fun k => k ≤ s.log.length ∧ firstBad (lineErr s) (s.log.drop k) k = firstBad (lineErr s) s.log 0) (fun k => s.log.length - k)
             (fun k => [(1, .ptr 0 0), (8, .int .i64 k)]) (fun _ => [.cells (shipCells s)]) ⟨Nat.zero_le _, by simp⟩ (by simp [shipCells, ints]) ?_ fun i hi => ?_
            ·try simp only [TrimX, QE, Nat.reduceLT, reduceIte, Nat.reduceEqDiff, Nat.reduceAdd, Nat.reduceLeDiff, Nat.reduceMul, Nat.reduceBEq, QXHHdC1]
             try simp
            ·obtain ⟨hi, hbi⟩ := hi
             (repeat (first | simp only [↓QA, QB, Nat.reduceLT, reduceIte, Nat.reduceEqDiff, Nat.reduceAdd, Nat.reduceLeDiff, Nat.reduceMul, Nat.reduceBEq, QXHHdC1, L17_4] | refine rd0 rfl ?_))
             refine iteP_intro (fun hd3 => ?_) fun hd3 => ?_
             ·have hi1 : i < s.log.length := by simpa using hd3
              rw [firstBad_step hi1] at hbi
              have hw3 := wrapN hi1 hfl
              have hws : IntKind.i64.wrap ((s.holds.length : Int) - 1) = (s.holds.length : Int) - 1 := wrap64 ⟨by omega, by omega⟩
              have hle : lineErr s i s.log[i] = if inR s.log[i].hold 0 ((s.holds.length : Int) - 1) = false then 4 else if inR s.log[i].watch 0 s.heat.length && isMarks s.log[i].marks then 0 else 7 := rfl
              rw [hle] at hbi
              (repeat (first | simp only [↓QA, QB, Nat.reduceLT, reduceIte, Nat.reduceEqDiff, Nat.reduceAdd, Nat.reduceLeDiff, Nat.reduceMul, Nat.reduceBEq, QXHHdC1, hi1, hws] | refine rd0 rfl ?_))
              ((first | refine callK_d (in_ok s.log[i].hold 0 ((s.holds.length : Int) - 1)) rfl dd ?_ | refine callD_d (in_ok s.log[i].hold 0 ((s.holds.length : Int) - 1)) rfl dd ?_); (repeat (first | simp only [↓QA, QB, Nat.reduceLT, reduceIte, Nat.reduceEqDiff, Nat.reduceAdd, Nat.reduceLeDiff, Nat.reduceMul, Nat.reduceBEq, QXHHdC1, hi1] | refine rd0 rfl ?_)))
              cases ha : inR s.log[i].hold 0 ((s.holds.length : Int) - 1)
              ·(repeat (first | simp only [↓QA, QB, Nat.reduceLT, reduceIte, Nat.reduceEqDiff, Nat.reduceAdd, Nat.reduceLeDiff, Nat.reduceMul, Nat.reduceBEq, QXHHdC1, hi1] | refine rd0 rfl ?_))
               rw [← hbi, ha]
               rfl
              ·(repeat (first | simp only [↓QA, QB, Nat.reduceLT, reduceIte, Nat.reduceEqDiff, Nat.reduceAdd, Nat.reduceLeDiff, Nat.reduceMul, Nat.reduceBEq, QXHHdC1, hi1] | refine rd0 rfl ?_))
               ((first | refine callK_d (rend_ok s) rfl dd ?_ | refine callD_d (rend_ok s) rfl dd ?_); (repeat (first | simp only [↓QA, QB, Nat.reduceLT, reduceIte, Nat.reduceEqDiff, Nat.reduceAdd, Nat.reduceLeDiff, Nat.reduceMul, Nat.reduceBEq, QXHHdC1, hi1] | refine rd0 rfl ?_)))
               ((first | refine callK_d (in_ok s.log[i].watch 0 s.heat.length) rfl dd ?_ | refine callD_d (in_ok s.log[i].watch 0 s.heat.length) rfl dd ?_); (repeat (first | simp only [↓QA, QB, Nat.reduceLT, reduceIte, Nat.reduceEqDiff, Nat.reduceAdd, Nat.reduceLeDiff, Nat.reduceMul, Nat.reduceBEq, QXHHdC1, hi1] | refine rd0 rfl ?_)))
               cases hb2 : inR s.log[i].watch 0 s.heat.length
               ·(repeat (first | simp only [↓QA, QB, Nat.reduceLT, reduceIte, Nat.reduceEqDiff, Nat.reduceAdd, Nat.reduceLeDiff, Nat.reduceMul, Nat.reduceBEq, QXHHdC1, hi1] | refine rd0 rfl ?_))
                rw [← hbi, ha, hb2]
                rfl
               ·(repeat (first | simp only [↓QA, QB, Nat.reduceLT, reduceIte, Nat.reduceEqDiff, Nat.reduceAdd, Nat.reduceLeDiff, Nat.reduceMul, Nat.reduceBEq, QXHHdC1, hi1] | refine rd0 rfl ?_))
                ((first | refine callK_d (rmarks_ok s.log[i].marks) rfl dd ?_ | refine callD_d (rmarks_ok s.log[i].marks) rfl dd ?_); (repeat (first | simp only [↓QA, QB, Nat.reduceLT, reduceIte, Nat.reduceEqDiff, Nat.reduceAdd, Nat.reduceLeDiff, Nat.reduceMul, Nat.reduceBEq, QXHHdC1, hi1] | refine rd0 rfl ?_)))
                cases hcm : isMarks s.log[i].marks
                ·(repeat (first | simp only [↓QA, QB, Nat.reduceLT, reduceIte, Nat.reduceEqDiff, Nat.reduceAdd, Nat.reduceLeDiff, Nat.reduceMul, Nat.reduceBEq, QXHHdC1, hi1] | refine rd0 rfl ?_))
                 rw [← hbi, ha, hb2, hcm]
                 rfl
                ·(repeat (first | simp only [↓QA, QB, Nat.reduceLT, reduceIte, Nat.reduceEqDiff, Nat.reduceAdd, Nat.reduceLeDiff, Nat.reduceMul, Nat.reduceBEq, QXHHdC1, hi1, hw3] | refine rd0 rfl ?_))
                 refine ⟨i + 1, ⟨by omega, by rw [← hbi, ha, hb2, hcm]; rfl⟩, by omega, ?_⟩
                 try simp only [TrimX, QE, Nat.reduceLT, reduceIte, Nat.reduceEqDiff, Nat.reduceAdd, Nat.reduceLeDiff, Nat.reduceMul, Nat.reduceBEq, QXHHdC1, hw3]
                 try simp
             ·have hi1 : i = s.log.length := by simp at hd3; omega
              rw [firstBad_end hi1] at hbi
              rw [← hbi]
              (repeat (first | simp only [↓QA, QB, Nat.reduceLT, reduceIte, Nat.reduceEqDiff, Nat.reduceAdd, Nat.reduceLeDiff, Nat.reduceMul, Nat.reduceBEq, QXHHdC1, enc3] | refine rd0 rfl ?_))
           ·have h8' : 5 < s.log.length := by simp at h8; omega
            (repeat (first | simp only [↓QA, QB, Nat.reduceLT, reduceIte, Nat.reduceEqDiff, Nat.reduceAdd, Nat.reduceLeDiff, Nat.reduceMul, Nat.reduceBEq, QXHHdC1] | refine rd0 rfl ?_))
            simp [check5, h8', enc3]
def app0 (sz : Nat) (σ : St) (xs : List AV) : AV × St := if xs.length = 0 then (.lit [] true none, σ) else (.lit xs false (some σ.length), σ ++ [.tok sz xs.length true])
theorem app0_eq {sz b : Nat} {σ : St} {xs : List AV} {f : Bool} {tk : Option Nat} (h : AppOk sz b [] xs) : appendAV sz b σ (.lit [] true none) (.lit xs f tk) = some ((app0 sz σ xs).1, (app0 sz σ xs).2) := by
 by_cases h0 : xs.length = 0
 ·have : xs = [] := List.length_eq_zero_iff.1 h0
  subst this
  rw [app_nil]; simp [app0]
 ·rw [app_full h h0]; simp [app0, h0]
theorem app0_more {sz b : Nat} {σ : St} {xs ys : List AV} {f : Bool} {tk : Option Nat} (h : AppOk sz b xs ys) (hy : ys.length ≠ 0) : appendAV sz b (app0 sz σ xs).2 (app0 sz σ xs).1 (.lit ys f tk) = some (.lit (xs ++ ys) false (some σ.length), σ ++ [.tok sz (xs.length + ys.length) true]) := by
 by_cases h0 : xs.length = 0
 ·have : xs = [] := List.length_eq_zero_iff.1 h0
  subst this
  simp only [app0, List.length_nil, if_true]
  rw [app_full h hy]
  simp
 ·simp only [app0, h0, if_false]
  rw [app_tok (ex := true) h hy (by simp)]
  simp
theorem allCells_lit {xs l : List AV} {f : Bool} {t : Option Nat} (h : allCells 1 xs = true) : allCells 1 (xs ++ [.lit l f t]) = true := by
 unfold allCells at *
 rw [List.all_append, h]
 rfl
theorem ok_datas {vs : List AV} (h : Datas vs) (m : Nat) : okVs m vs := okVs_up _ h.1
theorem mem_courses {s : Ship} {but clear : List Int} {h : Nat} (hh : h < s.holds.length) {c : Nat → Int} : c ∈ coursesIn s (truths s but) h clear ↔ ∃ t ∈ truths s but, ∃ n ∈ startsOf s h t.blocked but, c = marksAt s h n (cooled (restOf t.blocked clear) h) := by
 simp only [coursesIn, List.mem_flatMap, List.mem_map]
 constructor
 ·rintro ⟨t, ht, n, hn, rfl⟩
  rw [starts_at ht hh] at hn
  exact ⟨t, ht, n, hn, rfl⟩
 ·rintro ⟨t, ht, n, hn, rfl⟩
  exact ⟨t, ht, n, by rw [starts_at ht hh]; exact hn, rfl⟩
theorem foldl_join : ∀ (l : List Int) (s : Span), s.lo ≤ s.hi → (l.foldl join s).lo ≤ s.lo ∧ s.hi ≤ (l.foldl join s).hi ∧ (∀ x ∈ l, (l.foldl join s).lo ≤ x ∧ x ≤ (l.foldl join s).hi) ∧ ((l.foldl join s).lo = s.lo ∨ (l.foldl join s).lo ∈ l) ∧ ((l.foldl join s).hi = s.hi ∨ (l.foldl join s).hi ∈ l)
 | [], s, h => ⟨Int.le_refl _, Int.le_refl _, fun x hx => by simp at hx, .inl rfl, .inl rfl⟩
 | y :: l, s, h => by
  have hj : (join s y).lo ≤ (join s y).hi := by simp only [join]; omega
  obtain ⟨a, b, c, d, e⟩ := foldl_join l (join s y) hj
  simp only [List.foldl_cons]
  have h1 : (join s y).lo ≤ s.lo ∧ (join s y).lo ≤ y ∧ ((join s y).lo = s.lo ∨ (join s y).lo = y) := by simp only [join]; omega
  have h2 : s.hi ≤ (join s y).hi ∧ y ≤ (join s y).hi ∧ ((join s y).hi = s.hi ∨ (join s y).hi = y) := by simp only [join]; omega
  refine ⟨by omega, by omega, fun x hx => ?_, ?_, ?_⟩
  ·rcases List.mem_cons.1 hx with rfl | hx
   ·omega
   ·exact c x hx
  ·rcases d with d | d
   ·rcases h1.2.2 with h | h
    ·left; omega
    ·right; rw [d, h]; simp
   ·right; simp [d]
  ·rcases e with e | e
   ·rcases h2.2.2 with h | h
    ·left; omega
    ·right; rw [e, h]; simp
   ·right; simp [e]
theorem spanL_spec {l : List Int} (h : l ≠ []) : (spanL l).lo ∈ l ∧ (spanL l).hi ∈ l ∧ ∀ x ∈ l, (spanL l).lo ≤ x ∧ x ≤ (spanL l).hi := by
 cases l with
 | nil => exact absurd rfl h
 | cons x l =>
  obtain ⟨a, b, c, d, e⟩ := foldl_join l ⟨x, x⟩ (Int.le_refl _)
  simp only [spanL]
  refine ⟨?_, ?_, fun y hy => ?_⟩
  ·rcases d with d | d
   ·rw [d]; simp
   ·simp [d]
  ·rcases e with e | e
   ·rw [e]; simp
   ·simp [e]
  ·rcases List.mem_cons.1 hy with rfl | hy
   ·exact ⟨a, b⟩
   ·exact c y hy
theorem spanL_sub {l k : List Int} (hl : l ≠ []) (h : ∀ x ∈ l, x ∈ k) : (spanL k).lo ≤ (spanL l).lo ∧ (spanL l).hi ≤ (spanL k).hi := by
 have hk : k ≠ [] := by
  intro e; subst e
  exact absurd (h _ (spanL_spec hl).1) (by simp)
 have a := spanL_spec hl
 have b := spanL_spec hk
 exact ⟨(b.2.2 _ (h _ a.1)).1, (b.2.2 _ (h _ a.2.1)).2⟩
theorem spanL_eq {l k : List Int} (h : ∀ x, x ∈ l ↔ x ∈ k) : spanL l = spanL k := by
 by_cases hl : l = []
 ·subst hl
  have : k = [] := by
   cases k with
   | nil => rfl
   | cons y k => exact absurd ((h y).2 (by simp)) (by simp)
  rw [this]
 ·have hk : k ≠ [] := by
   intro e; subst e
   exact absurd ((h _).1 (spanL_spec hl).1) (by simp)
  have a := spanL_sub hl fun x hx => (h x).1 hx
  have b := spanL_sub hk fun x hx => (h x).2 hx
  obtain ⟨p, q⟩ : (spanL l).lo = (spanL k).lo ∧ (spanL l).hi = (spanL k).hi := ⟨by omega, by omega⟩
  generalize spanL l = x at *
  generalize spanL k = y at *
  cases x; cases y; simp only at p q; rw [p, q]
theorem filter_len {α : Type} {p : α → Bool} {l : List α} : (l.filter p).length = l.length ↔ ∀ x ∈ l, p x = true := by
 rw [List.length_filter_eq_length_iff]
theorem settled_one {α : Type} {p : α → Bool} {l : List α} : settled (l.filter p).length l.length = 1 ↔ ∀ x ∈ l, p x = true := by
 rw [← filter_len]
 unfold settled
 split
 ·rename_i h; simp [h]
 ·rename_i h
  split
  ·simp [h]
  ·simp [h]
theorem settled_two {α : Type} {p : α → Bool} {l : List α} : settled (l.filter p).length l.length = 2 ↔ l ≠ [] ∧ ∀ x ∈ l, p x = false := by
 unfold settled
 split
 ·rename_i h
  simp only [show ¬ (1 : Int) = 2 by omega, false_iff]
  rintro ⟨h1, h2⟩
  rw [filter_len] at h
  cases l with
  | nil => exact h1 rfl
  | cons x l =>
   have a := h x (by simp)
   have b := h2 x (by simp)
   rw [a] at b; cases b
 ·rename_i h
  split
  ·rename_i h0
   simp only [true_iff]
   refine ⟨fun e => ?_, fun x hx => ?_⟩
   ·subst e; simp at h
   ·have := List.eq_nil_of_length_eq_zero h0
    rw [List.filter_eq_nil_iff] at this
    simpa using this x hx
  ·rename_i h0
   simp only [show ¬ (0 : Int) = 2 by omega, false_iff]
   rintro ⟨h1, h2⟩
   apply h0
   rw [List.length_eq_zero_iff, List.filter_eq_nil_iff]
   intro x hx
   simp [h2 x hx]
theorem settled_cases (a b : Nat) : settled a b = 0 ∨ settled a b = 1 ∨ settled a b = 2 := by
 unfold settled; split
 ·simp
 ·split <;> simp
theorem settled_eq {α β : Type} {p : α → Bool} {q : β → Bool} {l : List α} {k : List β} (h1 : ∀ x ∈ l, ∃ y ∈ k, q y = p x) (h2 : ∀ y ∈ k, ∃ x ∈ l, p x = q y) : settled (l.filter p).length l.length = settled (k.filter q).length k.length := by
 have a : settled (l.filter p).length l.length = 1 ↔ settled (k.filter q).length k.length = 1 := by
  rw [settled_one, settled_one]
  constructor
  ·intro h y hy; obtain ⟨x, hx, e⟩ := h2 y hy; rw [← e]; exact h x hx
  ·intro h x hx; obtain ⟨y, hy, e⟩ := h1 x hx; rw [← e]; exact h y hy
 have b : settled (l.filter p).length l.length = 2 ↔ settled (k.filter q).length k.length = 2 := by
  rw [settled_two, settled_two]
  constructor
  ·rintro ⟨hn, h⟩
   refine ⟨fun e => ?_, fun y hy => ?_⟩
   ·subst e
    obtain ⟨x, hx⟩ := List.exists_mem_of_ne_nil l hn
    obtain ⟨y, hy, _⟩ := h1 x hx
    simp at hy
   ·obtain ⟨x, hx, e⟩ := h2 y hy; rw [← e]; exact h x hx
  ·rintro ⟨hn, h⟩
   refine ⟨fun e => ?_, fun x hx => ?_⟩
   ·subst e
    obtain ⟨y, hy⟩ := List.exists_mem_of_ne_nil k hn
    obtain ⟨x, hx, _⟩ := h2 y hy
    simp at hx
   ·obtain ⟨y, hy, e⟩ := h1 x hx; rw [← e]; exact h y hy
 rcases settled_cases (l.filter p).length l.length with h | h | h <;> rcases settled_cases (k.filter q).length k.length with h' | h' | h' <;> simp_all
end Go.Am.Room
set_option maxRecDepth 4000
namespace Go.Am.Room
def QXHHdC2 := And.intro @encShip_eq (And.intro @shipCells_eq (And.intro @encHold_eq (And.intro @encLine_eq (And.intro @encSpan_eq (And.intro @S_mapHold (@S_mapLine))))))
theorem rtowards_ok (a b n : Int) (h0 : -1000000 ≤ a ∧ a ≤ 1000000) (h1 : -1000000 ≤ n ∧ n ≤ 1000000) : Pure T 53 [.int .i64 a, .int .i64 b, .int .i64 n] (.int .i64 (towards a b n)) := by
 refine pure_fn (af := a53) rfl (by simp [a53]) dd ?_
 have w1 : IntKind.i64.wrap (a + n) = a + n := wrap64 ⟨by omega, by omega⟩
 have w2 : IntKind.i64.wrap (a - n) = a - n := wrap64 ⟨by omega, by omega⟩
 (repeat (first | simp only [↓QA, QB, Nat.reduceLT, reduceIte, Nat.reduceEqDiff, Nat.reduceAdd, Nat.reduceLeDiff, Nat.reduceMul, Nat.reduceBEq, QXHHdC2, a53, w1, w2] | refine rd0 rfl ?_))
 refine iteP_intro (fun h => ?_) fun h => ?_
 all_goals
  have h' := h
  simp only [decide_eq_true_eq, decide_eq_false_iff_not] at h'
  (repeat (first | simp only [↓QA, QB, Nat.reduceLT, reduceIte, Nat.reduceEqDiff, Nat.reduceAdd, Nat.reduceLeDiff, Nat.reduceMul, Nat.reduceBEq, QXHHdC2, h, w1, w2] | refine rd0 rfl ?_))
  simp [towards, h']
def cooledTo (bl : List Int) (k : Nat) : Bool := (List.range k).all fun i => !bl.contains (i : Int)
theorem cooledTo_succ (bl : List Int) (k : Nat) : cooledTo bl (k + 1) = (cooledTo bl k && !bl.contains (k : Int)) := by simp [cooledTo, List.range_succ, List.all_append]
theorem rcooled_ok (bl : List Int) (h : Nat) (hb : bl.length < 9223372036854775808) (hh : h ≤ 100) : Pure T 89 [ints bl, .int .i64 h] (.bool (cooled bl h)) := by
 refine pure_fn (af := a89) rfl (by simp [a89]) dd ?_
 (repeat (first | simp only [↓QA, QB, Nat.reduceLT, reduceIte, Nat.reduceEqDiff, Nat.reduceAdd, Nat.reduceLeDiff, Nat.reduceMul, Nat.reduceBEq, QXHHdC2, a89] | refine rd0 rfl ?_))
 refine loopE (S := Nat) 0 (fun k => k ≤ h + 1) (fun k => h + 1 - k) (fun k => [(0, ints bl), (1, .int .i64 h), (5, .bool (cooledTo bl k)), (6, .int .i64 k)]) (fun _ => []) (Nat.zero_le _) rfl ?_ fun k hk => ?_
 ·try simp only [TrimX, QE, Nat.reduceLT, reduceIte, Nat.reduceEqDiff, Nat.reduceAdd, Nat.reduceLeDiff, Nat.reduceMul, Nat.reduceBEq, QXHHdC2, cooledTo]
  try simp
 ·(repeat (first | simp only [↓QA, QB, Nat.reduceLT, reduceIte, Nat.reduceEqDiff, Nat.reduceAdd, Nat.reduceLeDiff, Nat.reduceMul, Nat.reduceBEq, QXHHdC2, L89_0] | refine rd0 rfl ?_))
  refine iteP_intro (fun hd => ?_) fun hd => ?_
  ·have hk1 : k ≤ h := by simp at hd; omega
   have hw : IntKind.i64.wrap ((k : Int) + 1) = ((k + 1 : Nat) : Int) := wrapN (show k < 200 by omega) (by omega)
   have hs := cooledTo_succ bl k
   cases hc : cooledTo bl k
   ·rw [hc, Bool.false_and] at hs
    (repeat (first | simp only [↓QA, QB, Nat.reduceLT, reduceIte, Nat.reduceEqDiff, Nat.reduceAdd, Nat.reduceLeDiff, Nat.reduceMul, Nat.reduceBEq, QXHHdC2, hw] | refine rd0 rfl ?_))
    refine ⟨k + 1, by omega, by omega, ?_⟩
    try simp only [TrimX, QE, Nat.reduceLT, reduceIte, Nat.reduceEqDiff, Nat.reduceAdd, Nat.reduceLeDiff, Nat.reduceMul, Nat.reduceBEq, QXHHdC2, hw, hs]
   ·rw [hc, Bool.true_and] at hs
    (repeat (first | simp only [↓QA, QB, Nat.reduceLT, reduceIte, Nat.reduceEqDiff, Nat.reduceAdd, Nat.reduceLeDiff, Nat.reduceMul, Nat.reduceBEq, QXHHdC2, hw] | refine rd0 rfl ?_))
    ((first | refine callK_d (has_ok bl k hb) rfl dd ?_ | refine callD_d (has_ok bl k hb) rfl dd ?_); (repeat (first | simp only [↓QA, QB, Nat.reduceLT, reduceIte, Nat.reduceEqDiff, Nat.reduceAdd, Nat.reduceLeDiff, Nat.reduceMul, Nat.reduceBEq, QXHHdC2, hw] | refine rd0 rfl ?_)))
    refine ⟨k + 1, by omega, by omega, ?_⟩
    try simp only [TrimX, QE, Nat.reduceLT, reduceIte, Nat.reduceEqDiff, Nat.reduceAdd, Nat.reduceLeDiff, Nat.reduceMul, Nat.reduceBEq, QXHHdC2, hw, hs]
  ·have hk1 : k = h + 1 := by simp at hd; omega
   subst hk1
   (repeat (first | simp only [↓QA, QB, Nat.reduceLT, reduceIte, Nat.reduceEqDiff, Nat.reduceAdd, Nat.reduceLeDiff, Nat.reduceMul, Nat.reduceBEq, QXHHdC2] | refine rd0 rfl ?_))
   rfl
theorem rcourse_ok (s : Ship) (hv : Vd s) (h : Nat) (hh : h ≤ 100) (n : Int) (hn : 0 ≤ n ∧ n ≤ 80) (bl : List Int) (hb : bl.length < 9223372036854775808) :
  Pure T 51 [encShip s, .int .i64 h, .int .i64 n, ints bl] (ints (course s h n bl)) := by
 have hnh := hv.nheat
 have hpw := hv.power
 have hcd := hv.cold
 have hwm := hv.warm
 refine pure_fn (af := a51) rfl (by simp [a51]) dd ?_
 obtain ⟨c, hc⟩ : ∃ c, cooled bl h = c := ⟨_, rfl⟩
 rw [show course s h n bl = (List.range (s.heat.length + 1)).map (marksAt s h n c) by rw [← hc]; rfl]
 (repeat (first | simp only [↓QA, QB, Nat.reduceLT, reduceIte, Nat.reduceEqDiff, Nat.reduceAdd, Nat.reduceLeDiff, Nat.reduceMul, Nat.reduceBEq, QXHHdC2, a51] | refine rd0 rfl ?_))
 refine ghostK 9 1 [.int .i64 n] rfl ?_
 refine loopE (S := Nat × Bool) (0, false) (fun k => k.1 ≤ s.heat.length) (fun k => s.heat.length - k.1)
  (fun k => [(1, .int .i64 h), (3, ints bl), (4, .ptr 0 0), (9, .lit (((List.range (k.1 + 1)).map (marksAt s h n c)).map (.int .i64)) false (some 1)), (10, .int .i64 k.1)])
  (fun k => [.cells (shipCells s), .tok 1 (k.1 + 1) k.2]) (Nat.zero_le _) (by simp [shipCells, ints]) ?_ fun k hk => ?_
 ·try simp only [TrimX, QE, Nat.reduceLT, reduceIte, Nat.reduceEqDiff, Nat.reduceAdd, Nat.reduceLeDiff, Nat.reduceMul, Nat.reduceBEq, QXHHdC2]
  try simp [marksAt]
 ·obtain ⟨k, ex⟩ := k
  simp only at hk
  obtain ⟨L, hL⟩ : ∃ L, (List.range (k + 1)).map (marksAt s h n c) = L := ⟨_, rfl⟩
  have hlen : L.length = k + 1 := by rw [← hL]; simp
  have hlt : k < L.length := by omega
  have hget : L[k] = marksAt s h n c k := by subst hL; simp
  have hsucc : (List.range (k + 1 + 1)).map (marksAt s h n c) = L ++ [marksAt s h n c (k + 1)] := by rw [List.range_succ, List.map_append, hL]; simp
  have hm := marks_bd hv (h := h) hn c k hk
  simp only [hL]
  (repeat (first | simp only [↓QA, QB, Nat.reduceLT, reduceIte, Nat.reduceEqDiff, Nat.reduceAdd, Nat.reduceLeDiff, Nat.reduceMul, Nat.reduceBEq, QXHHdC2, L51_0] | refine rd0 rfl ?_))
  ((first | refine callK_d (rend_ok s) rfl dd ?_ | refine callD_d (rend_ok s) rfl dd ?_); (repeat (first | simp only [↓QA, QB, Nat.reduceLT, reduceIte, Nat.reduceEqDiff, Nat.reduceAdd, Nat.reduceLeDiff, Nat.reduceMul, Nat.reduceBEq, QXHHdC2] | refine rd0 rfl ?_)))
  refine iteP_intro (fun hd => ?_) fun hd => ?_
  ·have hk1 : k < s.heat.length := by simpa using hd
   have hw := wrapN hk1 (by omega)
   have hap := fun a => append_at (σ := .cells (shipCells s) :: .tok 1 (k + 1) ex :: []) (t := 1) (ex := ex) (sz := 1) (b := 8) (xs := L.map (.int .i64)) (ys := [.int .i64 a]) (f := true) (tk := none) ⟨allCells_int L, by simp [allCells, AV.cells, AV.cell], by simp [room]; omega, by simp [room]; omega⟩ (by simp) (k + 1) (by simp [hlen]) rfl
   rw [shipCells_eq] at hap
   (repeat (first | simp only [↓QA, QB, Nat.reduceLT, reduceIte, Nat.reduceEqDiff, Nat.reduceAdd, Nat.reduceLeDiff, Nat.reduceMul, Nat.reduceBEq, QXHHdC2, hk1, hlt, hget] | refine rd0 rfl ?_))
   ((first | refine callK_d (rcooled_ok bl h hb hh) rfl dd ?_ | refine callD_d (rcooled_ok bl h hb hh) rfl dd ?_); (repeat (first | simp only [↓QA, QB, Nat.reduceLT, reduceIte, Nat.reduceEqDiff, Nat.reduceAdd, Nat.reduceLeDiff, Nat.reduceMul, Nat.reduceBEq, QXHHdC2, hk1, hlt, hget] | refine rd0 rfl ?_)))
   rw [hc]
   cases c
   ·have hmk : marksAt s h n false (k + 1) = towards (marksAt s h n false k) s.heat[k] s.warm := by simp [marksAt, hk1]
    rw [hmk] at hsucc
    (repeat (first | simp only [↓QA, QB, Nat.reduceLT, reduceIte, Nat.reduceEqDiff, Nat.reduceAdd, Nat.reduceLeDiff, Nat.reduceMul, Nat.reduceBEq, QXHHdC2, hk1, hlt, hget] | refine rd0 rfl ?_))
    ((first | refine callK_d (rtowards_ok (marksAt s h n false k) s.heat[k] s.warm (by omega) (by omega)) rfl dd ?_ | refine callD_d (rtowards_ok (marksAt s h n false k) s.heat[k] s.warm (by omega) (by omega)) rfl dd ?_); (repeat (first | simp only [↓QA, QB, Nat.reduceLT, reduceIte, Nat.reduceEqDiff, Nat.reduceAdd, Nat.reduceLeDiff, Nat.reduceMul, Nat.reduceBEq, QXHHdC2, hk1, hlt, hget, hap] | refine rd0 rfl ?_)))
    refine ⟨(k + 1, true), by simp only; omega, by simp only; omega, ?_⟩
    try simp only [TrimX, QE, Nat.reduceLT, reduceIte, Nat.reduceEqDiff, Nat.reduceAdd, Nat.reduceLeDiff, Nat.reduceMul, Nat.reduceBEq, QXHHdC2, hw, hsucc, List.map_append, List.map_cons, List.map_nil]
    try simp [okBlk]
   ·have hmk : marksAt s h n true (k + 1) = towards (marksAt s h n true k) s.cold (max 1 (s.power - h)) := by simp [marksAt]
    have hws : IntKind.i64.wrap (s.power - (h : Int)) = s.power - h := wrap64 ⟨by omega, by omega⟩
    rw [hmk] at hsucc
    (repeat (first | simp only [↓QA, QB, Nat.reduceLT, reduceIte, Nat.reduceEqDiff, Nat.reduceAdd, Nat.reduceLeDiff, Nat.reduceMul, Nat.reduceBEq, QXHHdC2, hk1, hlt, hget, hws] | refine rd0 rfl ?_))
    ((first | refine callK_d (rtowards_ok (marksAt s h n true k) s.cold (max 1 (s.power - h)) (by omega) (by omega)) rfl dd ?_ | refine callD_d (rtowards_ok (marksAt s h n true k) s.cold (max 1 (s.power - h)) (by omega) (by omega)) rfl dd ?_); (repeat (first | simp only [↓QA, QB, Nat.reduceLT, reduceIte, Nat.reduceEqDiff, Nat.reduceAdd, Nat.reduceLeDiff, Nat.reduceMul, Nat.reduceBEq, QXHHdC2, hk1, hlt, hget, hap] | refine rd0 rfl ?_)))
    refine ⟨(k + 1, true), by simp only; omega, by simp only; omega, ?_⟩
    try simp only [TrimX, QE, Nat.reduceLT, reduceIte, Nat.reduceEqDiff, Nat.reduceAdd, Nat.reduceLeDiff, Nat.reduceMul, Nat.reduceBEq, QXHHdC2, hw, hsucc, List.map_append, List.map_cons, List.map_nil]
    try simp [okBlk]
  ·have hk1 : k = s.heat.length := by simp at hd; omega
   subst hk1
   (repeat (first | simp only [↓QA, QB, Nat.reduceLT, reduceIte, Nat.reduceEqDiff, Nat.reduceAdd, Nat.reduceLeDiff, Nat.reduceMul, Nat.reduceBEq, QXHHdC2, hL] | refine rd0 rfl ?_))
   try try simp only [QS, QC, Nat.reduceLT, reduceIte, Nat.reduceEqDiff, Nat.reduceAdd, Nat.reduceLeDiff, Nat.reduceMul, Nat.reduceBEq, QXHHdC2]
end Go.Am.Room
set_option maxRecDepth 4000
namespace Go.Am.Room
def QXHHdC3 := And.intro @encShip_eq (And.intro @shipCells_eq (And.intro @encHold_eq (And.intro @encLine_eq (And.intro @encSpan_eq (And.intro @S_mapHold (@S_mapLine))))))
theorem rsets_ok (s : Ship) (hv : Vd s) : Pure T 87 [encShip s] (intss (setsOf s)) := by
 refine pure_fn (af := a87) rfl (by simp [a87]) dd ?_
 have hno := hv.nholds
 rw [show setsOf s = setsUp s s.holds.length from rfl]
 (repeat (first | simp only [↓QA, QB, Nat.reduceLT, reduceIte, Nat.reduceEqDiff, Nat.reduceAdd, Nat.reduceLeDiff, Nat.reduceMul, Nat.reduceBEq, QXHHdC3, a87] | refine rd0 rfl ?_))
 refine loopE (S := Nat) 0 (fun n => n ≤ s.holds.length) (fun n => s.holds.length - n) (fun n => [(1, .ptr 0 0), (3, intss (setsUp s n)), (4, .int .i64 n)]) (fun _ => [.cells (shipCells s)]) (Nat.zero_le _) (by simp [shipCells, ints]) ?_ fun n hn => ?_
 ·try simp only [TrimX, QE, Nat.reduceLT, reduceIte, Nat.reduceEqDiff, Nat.reduceAdd, Nat.reduceLeDiff, Nat.reduceMul, Nat.reduceBEq, QXHHdC3]
  simp [intss, ints, setsUp, clr, clrs]
 ·(repeat (first | simp only [↓QA, QB, Nat.reduceLT, reduceIte, Nat.reduceEqDiff, Nat.reduceAdd, Nat.reduceLeDiff, Nat.reduceMul, Nat.reduceBEq, QXHHdC3, L87_0, intss] | refine rd0 rfl ?_))
  refine iteP_intro (fun h => ?_) fun h => ?_
  ·have hn1 : n < s.holds.length := by simpa using h
   have hwn : IntKind.i64.wrap ((n : Int) + 1) = ((n + 1 : Nat) : Int) := wrapN hn1 (by omega)
   have hsl : (setsUp s n).length ≤ 16 := Nat.le_trans (setsUp_len s n) (by
    calc 2 ^ n ≤ 2 ^ 4 := Nat.pow_le_pow_right (by omega) (by omega)
     _ = 16 := by decide)
   have hsl1 : (setsUp s (n + 1)).length ≤ 16 := Nat.le_trans (setsUp_len s (n + 1)) (by
    calc 2 ^ (n + 1) ≤ 2 ^ 4 := Nat.pow_le_pow_right (by omega) (by omega)
     _ = 16 := by decide)
   obtain ⟨x, hx⟩ : ∃ x, s.holds[n] = x := ⟨_, rfl⟩
   obtain ⟨R, hR⟩ : ∃ R, setsUp s (n + 1) = R := ⟨_, rfl⟩
   have hspec := setsUp_succ hn1
   rw [hR, hx] at hspec
   rw [hR] at hsl1
   (repeat (first | simp only [↓QA, QB, Nat.reduceLT, reduceIte, Nat.reduceEqDiff, Nat.reduceAdd, Nat.reduceLeDiff, Nat.reduceMul, Nat.reduceBEq, QXHHdC3] | refine rd0 rfl ?_))
   refine ghostK 5 1 [] rfl ?_
   refine loopE (S := Nat × List (List Int) × Bool) (0, [], false) (fun k => k.1 ≤ (setsUp s n).length ∧ k.2.1 ++ ((setsUp s n).drop k.1).flatMap (grow x n) = R) (fun k => (setsUp s n).length - k.1)
    (fun k => [(1, .ptr 0 0), (3, intss (setsUp s n)), (4, .int .i64 n), (5, .lit (k.2.1.map ints) false (some 1)), (6, .int .i64 k.1)]) (fun k => [.cells (shipCells s), .tok 1 k.2.1.length k.2.2]) ⟨Nat.zero_le _, by simp [hspec]⟩ (by simp [shipCells, ints]) ?_ fun k hk => ?_
   ·try simp only [TrimX, QE, Nat.reduceLT, reduceIte, Nat.reduceEqDiff, Nat.reduceAdd, Nat.reduceLeDiff, Nat.reduceMul, Nat.reduceBEq, QXHHdC3, intss]
    try simp
   ·obtain ⟨k, acc, ex⟩ := k
    obtain ⟨hk, hacc⟩ := hk
    simp only at hk hacc
    (repeat (first | simp only [↓QA, QB, Nat.reduceLT, reduceIte, Nat.reduceEqDiff, Nat.reduceAdd, Nat.reduceLeDiff, Nat.reduceMul, Nat.reduceBEq, QXHHdC3, L87_2, intss] | refine rd0 rfl ?_))
    refine iteP_intro (fun h2 => ?_) fun h2 => ?_
    ·have hk1 : k < (setsUp s n).length := by simpa using h2
     have hmem := List.getElem_mem hk1
     obtain ⟨c, hc⟩ : ∃ c, (setsUp s n)[k] = c := ⟨_, rfl⟩
     rw [hc] at hmem
     have hlen := setsUp_in s n c hmem
     rw [List.drop_eq_getElem_cons hk1, hc, List.flatMap_cons] at hacc
     have hacl : acc.length ≤ 16 := by
      have := congrArg List.length hacc
      simp only [List.length_append] at this
      omega
     have hwk : IntKind.i64.wrap ((k : Int) + 1) = ((k + 1 : Nat) : Int) := wrapN hk1 (by omega)
     have a0 : ∀ (σ : St), appendAV 1 8 σ (.lit [] true none) (.lit (c.map (.int .i64)) false none) = some ((app0 1 σ (c.map (.int .i64))).1, (app0 1 σ (c.map (.int .i64))).2) := fun σ => app0_eq ⟨rfl, allCells_int c, by simp [room]; omega, by simp [room]; omega⟩
     have a1 : ∀ (σ : St), appendAV 1 8 (app0 1 σ (c.map (.int .i64))).2 (app0 1 σ (c.map (.int .i64))).1 (.lit [.int .i64 n] true none) = some (.lit (c.map (.int .i64) ++ [.int .i64 n]) false (some σ.length), σ ++ [.tok 1 (c.length + 1) true]) := fun σ => by
      rw [app0_more ⟨allCells_int c, by simp [allCells, AV.cells, AV.cell], by simp [room]; omega, by simp [room]; omega⟩ (by simp)]
      simp
     have a2 : ∀ (b : ABlk) (τ : St) (ex : Bool) (xs : List AV) (m : Nat) (y : AV), xs.length = m → m ≤ 20 → allCells 1 (xs ++ [y]) = true → appendAV 1 24 (b :: .tok 1 m ex :: τ) (.lit xs false (some 1)) (.lit [y] true none) = some (.lit (xs ++ [y]) false (some 1), b :: .tok 1 (m + 1) true :: τ) := fun b τ ex xs m y hm hm2 hal => by
      simp only [allCells, List.all_append, Bool.and_eq_true] at hal
      rw [append_at (t := 1) (ex := ex) (sz := 1) ⟨hal.1, hal.2, by simp [room]; omega, by simp [room]; omega⟩ (by simp) m hm.symm rfl]
      simp
     have hca : allCells 1 (acc.map ints) = true := allCells_ints acc
     have hap := fun (b : ABlk) (τ : St) (ex : Bool) (l : List AV) (f : Bool) (t : Option Nat) => a2 b τ ex (acc.map ints) acc.length (.lit l f t) (by simp) (by omega) (allCells_lit hca)
     have hap2 := fun (b : ABlk) (τ : St) (ex : Bool) (l l2 : List AV) (f f2 : Bool) (t t2 : Option Nat) => a2 b τ ex (acc.map ints ++ [.lit l f t]) (acc.length + 1) (.lit l2 f2 t2) (by simp) (by omega) (allCells_lit (allCells_lit hca))
     by_cases d1 : x.duct = 1
     ·have g1 : (x.duct == 1) = true := by simpa using d1
      have g0 : (x.duct == 0) = false := by simp [d1]
      have hg : grow x n c = [c ++ [(n : Int)]] := by simp [grow, d1]
      rw [hg] at hacc
      (repeat (first | simp only [↓QA, QB, Nat.reduceLT, reduceIte, Nat.reduceEqDiff, Nat.reduceAdd, Nat.reduceLeDiff, Nat.reduceMul, Nat.reduceBEq, QXHHdC3, hk1, hn1, hx, g1, g0, hc, ints, a0, a1, hap] | refine rd0 rfl ?_))
      refine ⟨(k + 1, acc ++ [c ++ [(n : Int)]], true), ⟨by simp only; omega, by simpa using hacc⟩, by simp only; omega, ?_⟩
      try simp only [TrimX, QE, Nat.reduceLT, reduceIte, Nat.reduceEqDiff, Nat.reduceAdd, Nat.reduceLeDiff, Nat.reduceMul, Nat.reduceBEq, QXHHdC3, hwk, List.map_append, List.length_append, List.map_cons, List.map_nil, intss]
      try simp [okBlk]
     ·have g1 : (x.duct == 1) = false := by simpa using d1
      by_cases d0 : x.duct = 0
      ·have g0 : (x.duct == 0) = true := by simpa using d0
       have hg : grow x n c = [c] := by simp [grow, d0]
       rw [hg] at hacc
       (repeat (first | simp only [↓QA, QB, Nat.reduceLT, reduceIte, Nat.reduceEqDiff, Nat.reduceAdd, Nat.reduceLeDiff, Nat.reduceMul, Nat.reduceBEq, QXHHdC3, hk1, hn1, hx, g1, g0, hc, ints, hap] | refine rd0 rfl ?_))
       refine ⟨(k + 1, acc ++ [c], true), ⟨by simp only; omega, by simpa using hacc⟩, by simp only; omega, ?_⟩
       try simp only [TrimX, QE, Nat.reduceLT, reduceIte, Nat.reduceEqDiff, Nat.reduceAdd, Nat.reduceLeDiff, Nat.reduceMul, Nat.reduceBEq, QXHHdC3, hwk, List.map_append, List.length_append, List.map_cons, List.map_nil, intss]
       try simp [okBlk]
      ·have g0 : (x.duct == 0) = false := by simpa using d0
       have hg : grow x n c = [c, c ++ [(n : Int)]] := by simp [grow, d1, d0]
       rw [hg] at hacc
       (repeat (first | simp only [↓QA, QB, Nat.reduceLT, reduceIte, Nat.reduceEqDiff, Nat.reduceAdd, Nat.reduceLeDiff, Nat.reduceMul, Nat.reduceBEq, QXHHdC3, hk1, hn1, hx, g1, g0, hc, ints, hap, a0, a1, hap2] | refine rd0 rfl ?_))
       refine ⟨(k + 1, acc ++ [c, c ++ [(n : Int)]], true), ⟨by simp only; omega, by simpa using hacc⟩, by simp only; omega, ?_⟩
       try simp only [TrimX, QE, Nat.reduceLT, reduceIte, Nat.reduceEqDiff, Nat.reduceAdd, Nat.reduceLeDiff, Nat.reduceMul, Nat.reduceBEq, QXHHdC3, hwk, List.map_append, List.length_append, List.map_cons, List.map_nil, intss]
       try simp [okBlk]
    ·have hk1 : k = (setsUp s n).length := by simp at h2; omega
     have hfin : acc = R := by rw [← hacc, hk1, List.drop_length]; simp
     (repeat (first | simp only [↓QA, QB, Nat.reduceLT, reduceIte, Nat.reduceEqDiff, Nat.reduceAdd, Nat.reduceLeDiff, Nat.reduceMul, Nat.reduceBEq, QXHHdC3] | refine rd0 rfl ?_))
     refine ⟨n + 1, by omega, by omega, ?_⟩
     try simp only [TrimX, QE, Nat.reduceLT, reduceIte, Nat.reduceEqDiff, Nat.reduceAdd, Nat.reduceLeDiff, Nat.reduceMul, Nat.reduceBEq, QXHHdC3, hwn, intss, hfin, hR]
  ·have hn1 : n = s.holds.length := by simp at h; omega
   subst hn1
   (repeat (first | simp only [↓QA, QB, Nat.reduceLT, reduceIte, Nat.reduceEqDiff, Nat.reduceAdd, Nat.reduceLeDiff, Nat.reduceMul, Nat.reduceBEq, QXHHdC3, intss] | refine rd0 rfl ?_))
end Go.Am.Room
set_option maxRecDepth 4000
namespace Go.Am.Room
def QXHHdC4 := And.intro @encShip_eq (And.intro @shipCells_eq (And.intro @encHold_eq (And.intro @encLine_eq (And.intro @encSpan_eq (And.intro @S_mapHold (@S_mapLine))))))
def linesTo (s : Ship) (h : Nat) (c : Nat → Int) (but : List Int) (k : Nat) : Bool := (List.range k).all fun i => match s.log[i]? with | some x => lineOk h c but i x | none => true
theorem linesTo_succ {s : Ship} {k : Nat} (hk : k < s.log.length) (h : Nat) (c : Nat → Int) (but : List Int) : linesTo s h c but (k + 1) = (linesTo s h c but k && lineOk h c but k s.log[k]) := by
 simp [linesTo, List.range_succ, List.all_append, hk]
theorem rstarts_ok (s : Ship) (hv : Vd s) (h : Nat) (hh : h < s.holds.length) (bl but : List Int) (hb : bl.length < 9223372036854775808) (hbu : but.length < 9223372036854775808) :
  Pure T 88 [encShip s, .int .i64 h, ints bl, ints but] (ints (startsOf s h bl but)) := by
 have hnh := hv.nheat
 have hno := hv.nholds
 have hnl := hv.nlog
 have hst := (hv.holds _ (List.getElem_mem hh)).start
 refine pure_fn (af := a88) rfl (by simp [a88]) dd ?_
 obtain ⟨x, hx⟩ : ∃ x, s.holds[h] = x := ⟨_, rfl⟩
 rw [hx] at hst
 obtain ⟨c, hc⟩ : ∃ c, cooled bl h = c := ⟨_, rfl⟩
 obtain ⟨R, hR⟩ : ∃ R, startsOf s h bl but = R := ⟨_, rfl⟩
 obtain ⟨N, hN⟩ : ∃ N, (x.start.hi + 1 - x.start.lo).toNat = N := ⟨_, rfl⟩
 obtain ⟨p, hp⟩ : ∃ p : Int → Bool, (fun n => linesOk s h (marksAt s h n c) but) = p := ⟨_, rfl⟩
 have hR' : [] ++ (numbers (x.start.lo + ((0 : Nat) : Int)) (N - 0)).filter p = R := by
  rw [← hR, ← hp, ← hN, ← hc]
  simp only [startsOf, List.getElem?_eq_getElem hh, hx]
  simp
 rw [hR]
 (repeat (first | simp only [↓QA, QB, Nat.reduceLT, reduceIte, Nat.reduceEqDiff, Nat.reduceAdd, Nat.reduceLeDiff, Nat.reduceMul, Nat.reduceBEq, QXHHdC4, a88, hh, hx] | refine rd0 rfl ?_))
 refine ghostK 9 1 [] rfl ?_
 refine loopE (S := Nat × List Int × Bool) (0, [], false) (fun k => k.1 ≤ N ∧ k.2.1.length ≤ k.1 ∧ k.2.1 ++ (numbers (x.start.lo + (k.1 : Int)) (N - k.1)).filter p = R) (fun k => N - k.1)
  (fun k => [(1, .int .i64 h), (2, ints bl), (3, ints but), (4, .ptr 0 0), (9, .lit (k.2.1.map (.int .i64)) false (some 1)), (10, .int .i64 (x.start.lo + (k.1 : Int)))]) (fun k => [.cells (shipCells s), .tok 1 k.2.1.length k.2.2]) ⟨Nat.zero_le _, Nat.le_refl _, hR'⟩ (by simp [shipCells, ints]) ?_ fun k hk => ?_
 ·try simp only [TrimX, QE, Nat.reduceLT, reduceIte, Nat.reduceEqDiff, Nat.reduceAdd, Nat.reduceLeDiff, Nat.reduceMul, Nat.reduceBEq, QXHHdC4]
  try simp
 ·obtain ⟨k, acc, ex⟩ := k
  obtain ⟨hk, hal, hacc⟩ := hk
  simp only at hk hal hacc
  obtain ⟨n, hn⟩ : ∃ n, x.start.lo + (k : Int) = n := ⟨_, rfl⟩
  simp only [hn]
  rw [hn] at hacc
  (repeat (first | simp only [↓QA, QB, Nat.reduceLT, reduceIte, Nat.reduceEqDiff, Nat.reduceAdd, Nat.reduceLeDiff, Nat.reduceMul, Nat.reduceBEq, QXHHdC4, L88_0, hh, hx] | refine rd0 rfl ?_))
  refine iteP_intro (fun hd => ?_) fun hd => ?_
  ·have hd' : n ≤ x.start.hi := by simpa using hd
   have hk1 : k < N := by omega
   have hn80 : 0 ≤ n ∧ n ≤ 80 := by omega
   have hw : IntKind.i64.wrap (n + 1) = n + 1 := wrap64 ⟨by omega, by omega⟩
   have hn1 : x.start.lo + ((k + 1 : Nat) : Int) = n + 1 := by omega
   rw [show N - k = (N - (k + 1)) + 1 by omega] at hacc
   simp only [numbers, List.filter_cons] at hacc
   obtain ⟨L, hL⟩ : ∃ L, course s h n bl = L := ⟨_, rfl⟩
   have hLe : L = (List.range (s.heat.length + 1)).map (marksAt s h n c) := by rw [← hL, ← hc]; rfl
   have hlen : L.length = s.heat.length + 1 := by rw [hLe]; simp
   have hcs := rcourse_ok s hv h (by omega) n hn80 bl hb
   rw [hL] at hcs
   have hap := fun (a : Int) (τ : St) => append_at (σ := .cells (shipCells s) :: .tok 1 acc.length ex :: τ) (t := 1) (ex := ex) (sz := 1) (b := 8) (xs := acc.map (.int .i64)) (ys := [.int .i64 a]) (f := true) (tk := none) ⟨allCells_int acc, by simp [allCells, AV.cells, AV.cell], by simp [room]; omega, by simp [room]; omega⟩ (by simp) acc.length (by simp) rfl
   rw [shipCells_eq] at hap
   (repeat (first | simp only [↓QA, QB, Nat.reduceLT, reduceIte, Nat.reduceEqDiff, Nat.reduceAdd, Nat.reduceLeDiff, Nat.reduceMul, Nat.reduceBEq, QXHHdC4] | refine rd0 rfl ?_))
   ((first | refine callK_d (hcs) rfl dd ?_ | refine callD_d (hcs) rfl dd ?_); (repeat (first | simp only [↓QA, QB, Nat.reduceLT, reduceIte, Nat.reduceEqDiff, Nat.reduceAdd, Nat.reduceLeDiff, Nat.reduceMul, Nat.reduceBEq, QXHHdC4] | refine rd0 rfl ?_)))
   refine loopE (S := Nat) 0 (fun i => i ≤ s.log.length) (fun i => s.log.length - i)
    (fun i => [(1, .int .i64 h), (2, ints bl), (3, ints but), (4, .ptr 0 0), (9, .lit (acc.map (.int .i64)) false (some 1)), (10, .int .i64 n), (11, ints L), (12, .bool (linesTo s h (marksAt s h n c) but i)), (13, .int .i64 i)]) (fun i => [.cells (shipCells s), .tok 1 acc.length ex]) (Nat.zero_le _) (by simp [shipCells, ints]) ?_ fun i hi => ?_
   ·try simp only [TrimX, QE, Nat.reduceLT, reduceIte, Nat.reduceEqDiff, Nat.reduceAdd, Nat.reduceLeDiff, Nat.reduceMul, Nat.reduceBEq, QXHHdC4, linesTo]
    try simp
   ·(repeat (first | simp only [↓QA, QB, Nat.reduceLT, reduceIte, Nat.reduceEqDiff, Nat.reduceAdd, Nat.reduceLeDiff, Nat.reduceMul, Nat.reduceBEq, QXHHdC4, L88_2] | refine rd0 rfl ?_))
    refine iteP_intro (fun hd2 => ?_) fun hd2 => ?_
    ·have hi1 : i < s.log.length := by simpa using hd2
     have hwi := wrapN hi1 (by omega)
     have hln := hv.log _ (List.getElem_mem hi1)
     obtain ⟨y, hy⟩ : ∃ y, s.log[i] = y := ⟨_, rfl⟩
     have hsucc := linesTo_succ hi1 h (marksAt s h n c) but
     rw [hy] at hln hsucc
     have hwt : 0 ≤ y.watch ∧ y.watch.toNat < L.length := by omega
     have hget : L[y.watch.toNat] = marksAt s h n c y.watch.toNat := by simp only [hLe]; simp
     have hmb := marks_bd hv (h := h) hn80 c y.watch.toNat (by omega)
     have hyb := hln.2.2
     have hws : IntKind.i64.wrap (marksAt s h n c y.watch.toNat - y.marks) = marksAt s h n c y.watch.toNat - y.marks := wrap64 ⟨by omega, by omega⟩
     cases h1 : (y.hold == (h : Int))
     ·have h1' : ¬ y.hold = (h : Int) := by simpa using h1
      have hl : lineOk h (marksAt s h n c) but i y = true := by simp [lineOk, h1']
      rw [hl, Bool.and_true] at hsucc
      (repeat (first | simp only [↓QA, QB, Nat.reduceLT, reduceIte, Nat.reduceEqDiff, Nat.reduceAdd, Nat.reduceLeDiff, Nat.reduceMul, Nat.reduceBEq, QXHHdC4, hi1, hy, h1] | refine rd0 rfl ?_))
      refine ⟨i + 1, by omega, by omega, ?_⟩
      try simp only [TrimX, QE, Nat.reduceLT, reduceIte, Nat.reduceEqDiff, Nat.reduceAdd, Nat.reduceLeDiff, Nat.reduceMul, Nat.reduceBEq, QXHHdC4, hwi, hsucc]
      try simp [okBlk]
     ·have h1' : y.hold = (h : Int) := by simpa using h1
      (repeat (first | simp only [↓QA, QB, Nat.reduceLT, reduceIte, Nat.reduceEqDiff, Nat.reduceAdd, Nat.reduceLeDiff, Nat.reduceMul, Nat.reduceBEq, QXHHdC4, hi1, hy, h1] | refine rd0 rfl ?_))
      ((first | refine callK_d (has_ok but i hbu) rfl dd ?_ | refine callD_d (has_ok but i hbu) rfl dd ?_); (repeat (first | simp only [↓QA, QB, Nat.reduceLT, reduceIte, Nat.reduceEqDiff, Nat.reduceAdd, Nat.reduceLeDiff, Nat.reduceMul, Nat.reduceBEq, QXHHdC4, hi1, hy] | refine rd0 rfl ?_)))
      cases h2 : but.contains (i : Int)
      ·have hl : lineOk h (marksAt s h n c) but i y = inR (marksAt s h n c y.watch.toNat - y.marks) (-1) 1 := by simp only [lineOk, h1', h2]; simp
       rw [hl] at hsucc
       cases h3 : linesTo s h (marksAt s h n c) but i
       ·rw [h3, Bool.false_and] at hsucc
        (repeat (first | simp only [↓QA, QB, Nat.reduceLT, reduceIte, Nat.reduceEqDiff, Nat.reduceAdd, Nat.reduceLeDiff, Nat.reduceMul, Nat.reduceBEq, QXHHdC4, hi1, hy] | refine rd0 rfl ?_))
        refine ⟨i + 1, by omega, by omega, ?_⟩
        try simp only [TrimX, QE, Nat.reduceLT, reduceIte, Nat.reduceEqDiff, Nat.reduceAdd, Nat.reduceLeDiff, Nat.reduceMul, Nat.reduceBEq, QXHHdC4, hwi, hsucc]
        try simp [okBlk]
       ·rw [h3, Bool.true_and] at hsucc
        (repeat (first | simp only [↓QA, QB, Nat.reduceLT, reduceIte, Nat.reduceEqDiff, Nat.reduceAdd, Nat.reduceLeDiff, Nat.reduceMul, Nat.reduceBEq, QXHHdC4, hi1, hy, V_idxI, hwt, hget, hws] | refine rd0 rfl ?_))
        ((first | refine callK_d (in_ok (marksAt s h n c y.watch.toNat - y.marks) (-1) 1) rfl dd ?_ | refine callD_d (in_ok (marksAt s h n c y.watch.toNat - y.marks) (-1) 1) rfl dd ?_); (repeat (first | simp only [↓QA, QB, Nat.reduceLT, reduceIte, Nat.reduceEqDiff, Nat.reduceAdd, Nat.reduceLeDiff, Nat.reduceMul, Nat.reduceBEq, QXHHdC4, hi1, hy, V_idxI, hwt, hget, hws] | refine rd0 rfl ?_)))
        refine ⟨i + 1, by omega, by omega, ?_⟩
        try simp only [TrimX, QE, Nat.reduceLT, reduceIte, Nat.reduceEqDiff, Nat.reduceAdd, Nat.reduceLeDiff, Nat.reduceMul, Nat.reduceBEq, QXHHdC4, hwi, hsucc]
        try simp [okBlk]
      ·have hl : lineOk h (marksAt s h n c) but i y = true := by simp only [lineOk, h2]; simp
       rw [hl, Bool.and_true] at hsucc
       (repeat (first | simp only [↓QA, QB, Nat.reduceLT, reduceIte, Nat.reduceEqDiff, Nat.reduceAdd, Nat.reduceLeDiff, Nat.reduceMul, Nat.reduceBEq, QXHHdC4, hi1, hy] | refine rd0 rfl ?_))
       refine ⟨i + 1, by omega, by omega, ?_⟩
       try simp only [TrimX, QE, Nat.reduceLT, reduceIte, Nat.reduceEqDiff, Nat.reduceAdd, Nat.reduceLeDiff, Nat.reduceMul, Nat.reduceBEq, QXHHdC4, hwi, hsucc]
       try simp [okBlk]
    ·have hi1 : i = s.log.length := by simp at hd2; omega
     subst hi1
     have hpn : linesTo s h (marksAt s h n c) but s.log.length = p n := by rw [← hp]; rfl
     rw [hpn]
     cases h4 : p n
     ·rw [h4] at hacc
      (repeat (first | simp only [↓QA, QB, Nat.reduceLT, reduceIte, Nat.reduceEqDiff, Nat.reduceAdd, Nat.reduceLeDiff, Nat.reduceMul, Nat.reduceBEq, QXHHdC4] | refine rd0 rfl ?_))
      refine ⟨(k + 1, acc, ex), ⟨by simp only; omega, by simp only; omega, by simp only [hn1]; simpa using hacc⟩, by simp only; omega, ?_⟩
      try simp only [TrimX, QE, Nat.reduceLT, reduceIte, Nat.reduceEqDiff, Nat.reduceAdd, Nat.reduceLeDiff, Nat.reduceMul, Nat.reduceBEq, QXHHdC4, hw, hn1]
      try simp [okBlk]
     ·rw [h4] at hacc
      (repeat (first | simp only [↓QA, QB, Nat.reduceLT, reduceIte, Nat.reduceEqDiff, Nat.reduceAdd, Nat.reduceLeDiff, Nat.reduceMul, Nat.reduceBEq, QXHHdC4, hap] | refine rd0 rfl ?_))
      refine ⟨(k + 1, acc ++ [n], true), ⟨by simp only; omega, by simp only [List.length_append, List.length_cons, List.length_nil]; omega, by simp only [hn1]; simpa using hacc⟩, by simp only; omega, ?_⟩
      try simp only [TrimX, QE, Nat.reduceLT, reduceIte, Nat.reduceEqDiff, Nat.reduceAdd, Nat.reduceLeDiff, Nat.reduceMul, Nat.reduceBEq, QXHHdC4, hw, hn1, List.map_append, List.map_cons, List.map_nil]
      try simp [okBlk]
  ·have hd' : ¬ n ≤ x.start.hi := by simpa using hd
   have hk1 : k = N := by omega
   rw [hk1, Nat.sub_self] at hacc
   simp only [numbers, List.filter_nil, List.append_nil] at hacc
   subst hacc
   (repeat (first | simp only [↓QA, QB, Nat.reduceLT, reduceIte, Nat.reduceEqDiff, Nat.reduceAdd, Nat.reduceLeDiff, Nat.reduceMul, Nat.reduceBEq, QXHHdC4] | refine rd0 rfl ?_))
   try try simp only [QS, QC, Nat.reduceLT, reduceIte, Nat.reduceEqDiff, Nat.reduceAdd, Nat.reduceLeDiff, Nat.reduceMul, Nat.reduceBEq, QXHHdC4]
end Go.Am.Room
set_option maxRecDepth 4000
namespace Go.Am.Room
def QXHHdC5 := And.intro @encShip_eq (And.intro @shipCells_eq (And.intro @encHold_eq (And.intro @encLine_eq (And.intro @encSpan_eq (And.intro @S_mapHold (And.intro @S_mapLine (And.intro @T_sapp (@T_sapp0))))))))
def encTruth (t : Truth) : AV := .agg [ints t.blocked, intss t.starts]
theorem encTruth_eq (t : Truth) : encTruth t = .agg [.lit (t.blocked.map (.int .i64)) false none, .lit (t.starts.map ints) false none] := by simp only [encTruth, ints, intss]
theorem data_truth (t : Truth) : Data (encTruth t) := data_agg (datas_cons (data_ints _) (datas_cons (data_intss _) datas_nil))
instance (t : Truth) : Dat (encTruth t) := ⟨data_truth t⟩
def truthsAV (l : List Truth) : AV := .lit (l.map encTruth) false none
theorem data_truths (l : List Truth) : Data (truthsAV l) := data_list data_truth l
instance (l : List Truth) : Dat (truthsAV l) := ⟨data_truths l⟩
instance (l : List Truth) : Dats (l.map encTruth) := ⟨datas_map data_truth l⟩
theorem S_mapT (σ : St) (m d : Nat) (l : List Truth) : snapMs σ m d (l.map encTruth) = some (l.map encTruth) := S_datas (datas_map data_truth l) σ m d
def startsTo (s : Ship) (bl but : List Int) (k : Nat) : List (List Int) := (List.range k).map fun h => startsOf s h bl but
def allIn (s : Ship) (bl but : List Int) (k : Nat) : Bool := (startsTo s bl but k).all fun x => !x.isEmpty
theorem startsTo_succ (s : Ship) (bl but : List Int) (k : Nat) : startsTo s bl but (k + 1) = startsTo s bl but k ++ [startsOf s k bl but] := by simp [startsTo, List.range_succ]
theorem allIn_succ (s : Ship) (bl but : List Int) (k : Nat) : allIn s bl but (k + 1) = (allIn s bl but k && !(startsOf s k bl but).isEmpty) := by simp [allIn, startsTo_succ, List.all_append]
theorem allIn_le {s : Ship} {bl but : List Int} {k : Nat} (h : allIn s bl but k = false) : ∀ j, k ≤ j → allIn s bl but j = false := by
  intro j hj
  induction j with
  | zero => have : k = 0 := by omega
            subst this; exact h
  | succ j ih =>
    by_cases hk : k = j + 1
    · subst hk; exact h
    · rw [allIn_succ, ih (by omega), Bool.false_and]
theorem truthOf_eq (s : Ship) (but bl : List Int) : truthOf s but bl = if allIn s bl but s.holds.length = true then some ⟨bl, startsTo s bl but s.holds.length⟩ else none := rfl
theorem truths_in (s : Ship) (hv : Vd s) (but : List Int) (hbu : but.length < 9223372036854775808) (bl : List Int) (hbl : bl.length ≤ 4) (k : Nat) (hk : k < (setsOf s).length) (hkb : (setsOf s)[k] = bl) (acc : List Truth) (ex : Bool) (e : Env) (K : KJ)
  (e1 : Env.get e 1 = ints but) (e2 : Env.get e 2 = .ptr 0 0) (e5 : Env.get e 5 = intss (setsOf s)) (e6 : Env.get e 6 = .lit (acc.map encTruth) false (some 1)) (e7 : Env.get e 7 = .int .i64 k) (e8 : Env.get e 8 = .ptr 2 0) (e9 : Env.get e 9 = .bool true) (e10 : Env.get e 10 = .int .i64 0)
  (hK : ∀ e' xs f tk τ, (∀ t, tk = some t → 2 < t) → (allIn s bl but s.holds.length = true → xs = (startsTo s bl but s.holds.length).map ints) → Env.get e' 1 = ints but → Env.get e' 2 = .ptr 0 0 → Env.get e' 5 = intss (setsOf s) → Env.get e' 6 = .lit (acc.map encTruth) false (some 1) → Env.get e' 7 = .int .i64 k → Env.get e' 8 = .ptr 2 0 → Env.get e' 9 = .bool (allIn s bl but s.holds.length) →
   K (some (.exit 2)) e' (.cells (shipCells s) :: .tok 2 acc.length ex :: .cells [.lit (bl.map (.int .i64)) false none, .lit xs f tk] :: τ)) :
  rK (K := ⟨K⟩) T (.loop L45_2) e [.cells (shipCells s), .tok 2 acc.length ex, .cells [.lit (bl.map (.int .i64)) false none, .lit [] true none]] := by
 have hno := hv.nholds
 refine loopE (S := Nat × Bool × Option Nat × St) (0, true, none, []) (fun a => a.1 ≤ s.holds.length ∧ ∀ t, a.2.2.1 = some t → 2 < t ∧ t < 3 + a.2.2.2.length) (fun a => s.holds.length - a.1)
  (fun a => [(1, ints but), (2, .ptr 0 0), (5, intss (setsOf s)), (6, .lit (acc.map encTruth) false (some 1)), (7, .int .i64 k), (8, .ptr 2 0), (9, .bool (allIn s bl but a.1)), (10, .int .i64 a.1)])
  (fun a => .cells (shipCells s) :: .tok 2 acc.length ex :: .cells [.lit (bl.map (.int .i64)) false none, .lit ((startsTo s bl but a.1).map ints) a.2.1 a.2.2.1] :: a.2.2.2) ⟨Nat.zero_le _, fun t h => by cases h⟩ rfl ?_ fun a ha => ?_
 ·try simp only [TrimX, QE, Nat.reduceLT, reduceIte, Nat.reduceEqDiff, Nat.reduceAdd, Nat.reduceLeDiff, Nat.reduceMul, Nat.reduceBEq, QXHHdC5, S_mapT, e1, e2, e5, e6, e7, e8, e9, e10]
  try simp [allIn, startsTo]
 ·obtain ⟨h, f, tk, τ⟩ := a
  obtain ⟨hh, htk⟩ := ha
  simp only at hh htk
  by_cases hh1 : h < s.holds.length
  ·have g : decide ((h : Int) < (s.holds.length : Int)) = true := by simpa using hh1
   have hw := wrapN hh1 (by omega)
   have hsucc := startsTo_succ s bl but h
   have hall := allIn_succ s bl but h
   cases hc : allIn s bl but h
   ·have hfull := allIn_le hc s.holds.length hh
    (repeat (first | simp only [↓QA, QB, Nat.reduceLT, reduceIte, Nat.reduceEqDiff, Nat.reduceAdd, Nat.reduceLeDiff, Nat.reduceMul, Nat.reduceBEq, QXHHdC5, S_mapT, L45_2, g] | refine rd0 rfl ?_))
    have hk0 := hK
    rw [shipCells_eq, hfull] at hk0
    refine hk0 _ _ f tk τ (fun t ht => (htk t ht).1) (fun h => by cases h) ?_ ?_ ?_ ?_ ?_ ?_ ?_
    all_goals try simp only [TrimX, QE, Nat.reduceLT, reduceIte, Nat.reduceEqDiff, Nat.reduceAdd, Nat.reduceLeDiff, Nat.reduceMul, Nat.reduceBEq, QXHHdC5, S_mapT]
   ·rw [hc, Bool.true_and] at hall
    obtain ⟨l, hl⟩ : ∃ l, startsOf s h bl but = l := ⟨_, rfl⟩
    have hll := starts_len hv h bl but
    have hst := rstarts_ok s hv h hh1 bl but (by omega) hbu
    rw [hl] at hst hsucc hall hll
    have hlenp : decide ((0 : Int) < (l.length : Int)) = !l.isEmpty := by cases l <;> simp
    obtain ⟨xs, hxs⟩ : ∃ xs, (startsTo s bl but h).map ints = xs := ⟨_, rfl⟩
    have hxl : xs.length ≤ 4 := by rw [← hxs]; simp [startsTo]; omega
    have hxa : allCells 1 xs = true := by rw [← hxs]; exact allCells_ints _
    have a0 : ∀ (σ : St), appendAV 1 24 σ (.lit [] true none) (.lit xs f tk) = some ((app0 1 σ xs).1, (app0 1 σ xs).2) := fun σ => app0_eq ⟨rfl, hxa, by simp [room]; omega, by simp [room]; omega⟩
    have a1 : ∀ (σ : St), appendAV 1 24 (app0 1 σ xs).2 (app0 1 σ xs).1 (.lit [.lit (l.map (.int .i64)) false none] true none) = some (.lit (xs ++ [.lit (l.map (.int .i64)) false none]) false (some σ.length), σ ++ [.tok 1 (xs.length + 1) true]) := fun σ => by
     rw [app0_more ⟨hxa, by simp [allCells, AV.cells, AV.cell], by simp [room]; omega, by simp [room]; omega⟩ (by simp)]
     simp
    simp only [hxs]
    (repeat (first | simp only [↓QA, QB, Nat.reduceLT, reduceIte, Nat.reduceEqDiff, Nat.reduceAdd, Nat.reduceLeDiff, Nat.reduceMul, Nat.reduceBEq, QXHHdC5, S_mapT, L45_2, g, hk, hkb, intss, ints] | refine rd0 rfl ?_))
    ((first | refine callK_d (hst) rfl dd ?_ | refine callD_d (hst) rfl dd ?_); (repeat (first | simp only [↓QA, QB, Nat.reduceLT, reduceIte, Nat.reduceEqDiff, Nat.reduceAdd, Nat.reduceLeDiff, Nat.reduceMul, Nat.reduceBEq, QXHHdC5, S_mapT, hlenp, a0, a1, hk, hkb, intss, ints] | refine rd0 rfl ?_)))
    refine ⟨(h + 1, false, some (τ.length + 1 + 1 + 1), τ ++ [.tok 1 (xs.length + 1) true]), ⟨by simp only; omega, fun t ht => by simp only [Option.some.injEq] at ht; subst ht; simp only [List.length_append, List.length_cons, List.length_nil]; omega⟩, by simp only; omega, ?_⟩
    rw [hsucc, hall, List.map_append, hxs]
    try simp only [TrimX, QE, Nat.reduceLT, reduceIte, Nat.reduceEqDiff, Nat.reduceAdd, Nat.reduceLeDiff, Nat.reduceMul, Nat.reduceBEq, QXHHdC5, S_mapT, hw, List.map_append, List.map_cons, List.map_nil, List.length_append, intss, ints]
    try simp [okBlk, okVs, okV]
    exact ⟨ok_datas (datas_map (data_int .i64) bl) _, okVs_app (ok_datas (by rw [← hxs]; exact datas_map data_ints _) _) (ok_datas (datas_cons (data_ints l) datas_nil) _)⟩
  ·have g : decide ((h : Int) < (s.holds.length : Int)) = false := by simpa using hh1
   obtain rfl : h = s.holds.length := by omega
   (repeat (first | simp only [↓QA, QB, Nat.reduceLT, reduceIte, Nat.reduceEqDiff, Nat.reduceAdd, Nat.reduceLeDiff, Nat.reduceMul, Nat.reduceBEq, QXHHdC5, S_mapT, L45_2, g] | refine rd0 rfl ?_))
   have hk0 := hK
   rw [shipCells_eq] at hk0
   refine hk0 _ _ f tk τ (fun t ht => (htk t ht).1) (fun _ => rfl) ?_ ?_ ?_ ?_ ?_ ?_ ?_
   all_goals try simp only [TrimX, QE, Nat.reduceLT, reduceIte, Nat.reduceEqDiff, Nat.reduceAdd, Nat.reduceLeDiff, Nat.reduceMul, Nat.reduceBEq, QXHHdC5, S_mapT]
end Go.Am.Room
set_option maxRecDepth 4000
namespace Go.Am.Room
def QXHHdC6 := And.intro @encShip_eq (And.intro @shipCells_eq (And.intro @encHold_eq (And.intro @encLine_eq (And.intro @encSpan_eq (And.intro @S_mapHold (And.intro @S_mapLine (And.intro @T_sapp (And.intro @T_sapp0 (@S_mapT)))))))))
theorem allCells_truths (l : List Truth) : allCells 2 (l.map encTruth) = true := L_allM 2 encTruth l fun x => by simp [cellsOk, encTruth, AV.cells, AV.cell, ints, intss]
theorem rtruths_ok (s : Ship) (hv : Vd s) (but : List Int) (hbu : but.length < 9223372036854775808) : Pure T 45 [encShip s, ints but] (truthsAV (truths s but)) := by
 refine pure_fn (af := a45) rfl (by simp [a45]) dd ?_
 have hno := hv.nholds
 have hss := sets_small hv
 obtain ⟨R, hR⟩ : ∃ R, truths s but = R := ⟨_, rfl⟩
 have hRl := truths_len hv but
 have hR' : [] ++ ((setsOf s).drop 0).filterMap (truthOf s but) = R := hR
 rw [hR] at hRl ⊢
 (repeat (first | simp only [↓QA, QB, Nat.reduceLT, reduceIte, Nat.reduceEqDiff, Nat.reduceAdd, Nat.reduceLeDiff, Nat.reduceMul, Nat.reduceBEq, QXHHdC6, a45] | refine rd0 rfl ?_))
 ((first | refine callK_d (rsets_ok s hv) rfl dd ?_ | refine callD_d (rsets_ok s hv) rfl dd ?_); (repeat (first | simp only [↓QA, QB, Nat.reduceLT, reduceIte, Nat.reduceEqDiff, Nat.reduceAdd, Nat.reduceLeDiff, Nat.reduceMul, Nat.reduceBEq, QXHHdC6] | refine rd0 rfl ?_)))
 refine ghostK 6 2 [] rfl ?_
 refine loopE (S := Nat × List Truth × Bool) (0, [], false) (fun a => a.1 ≤ (setsOf s).length ∧ a.2.1 ++ ((setsOf s).drop a.1).filterMap (truthOf s but) = R) (fun a => (setsOf s).length - a.1)
  (fun a => [(1, ints but), (2, .ptr 0 0), (5, intss (setsOf s)), (6, .lit (a.2.1.map encTruth) false (some 1)), (7, .int .i64 a.1)])
  (fun a => [.cells (shipCells s), .tok 2 a.2.1.length a.2.2]) ⟨Nat.zero_le _, hR'⟩ (by simp [shipCells, ints]) ?_ fun a ha => ?_
 ·try simp only [TrimX, QE, Nat.reduceLT, reduceIte, Nat.reduceEqDiff, Nat.reduceAdd, Nat.reduceLeDiff, Nat.reduceMul, Nat.reduceBEq, QXHHdC6]
  try simp
 ·obtain ⟨k, acc, ex⟩ := a
  obtain ⟨hk, hacc⟩ := ha
  simp only at hk hacc
  (repeat (first | simp only [↓QA, QB, Nat.reduceLT, reduceIte, Nat.reduceEqDiff, Nat.reduceAdd, Nat.reduceLeDiff, Nat.reduceMul, Nat.reduceBEq, QXHHdC6, L45_0, intss] | refine rd0 rfl ?_))
  refine iteP_intro (fun hd => ?_) fun hd => ?_
  ·have hk1 : k < (setsOf s).length := by simpa using hd
   have hw := wrapN hk1 (by omega)
   obtain ⟨bl, hbl⟩ : ∃ bl, (setsOf s)[k] = bl := ⟨_, rfl⟩
   have hbll := hss.2 _ (List.getElem_mem hk1)
   rw [hbl] at hbll
   rw [List.drop_eq_getElem_cons hk1, hbl, List.filterMap_cons] at hacc
   have hal : acc.length ≤ 16 := by
    have := congrArg List.length hacc
    simp only [List.length_append] at this
    omega
   have hin := truths_in s hv but hbu bl hbll k hk1 hbl acc ex
   rw [shipCells_eq] at hin
   have hap := fun (y : AV) (hy : allCells 2 [y] = true) (τ : St) => append_at (σ := .cells (shipCells s) :: .tok 2 acc.length ex :: τ) (t := 1) (ex := ex) (sz := 2) (b := 48) (xs := acc.map encTruth) (ys := [y]) (f := true) (tk := none) ⟨allCells_truths acc, hy, by simp [room]; omega, by simp [room]; omega⟩ (by simp) acc.length (by simp) rfl
   rw [shipCells_eq] at hap
   have hap2 := fun (l : List AV) (f : Bool) (tk : Option Nat) => hap (.agg [.lit (bl.map (.int .i64)) false none, .lit l f tk]) rfl
   (repeat (first | simp only [↓QA, QB, Nat.reduceLT, reduceIte, Nat.reduceEqDiff, Nat.reduceAdd, Nat.reduceLeDiff, Nat.reduceMul, Nat.reduceBEq, QXHHdC6, hk1, hbl, ints, intss] | refine rd0 rfl ?_))
   refine hin _ _ ?_ ?_ ?_ ?_ ?_ ?_ ?_ ?_ ?_
   all_goals try try simp only [TrimX, QE, Nat.reduceLT, reduceIte, Nat.reduceEqDiff, Nat.reduceAdd, Nat.reduceLeDiff, Nat.reduceMul, Nat.reduceBEq, QXHHdC6, intss, ints]
   intro e' xs f tk τ htk hxs q1 q2 q5 q6 q7 q8 q9
   cases hall : allIn s bl but s.holds.length
   ·rw [truthOf_eq, hall] at hacc
    rw [hall] at q9
    (repeat (first | simp only [↓QA, QB, Nat.reduceLT, reduceIte, Nat.reduceEqDiff, Nat.reduceAdd, Nat.reduceLeDiff, Nat.reduceMul, Nat.reduceBEq, QXHHdC6, q1, q2, q5, q6, q7, q8, q9, ints, intss] | refine rd0 rfl ?_))
    refine ⟨(k + 1, acc, ex), ⟨by simp only; omega, by simpa using hacc⟩, by simp only; omega, ?_⟩
    try simp only [TrimX, QE, Nat.reduceLT, reduceIte, Nat.reduceEqDiff, Nat.reduceAdd, Nat.reduceLeDiff, Nat.reduceMul, Nat.reduceBEq, QXHHdC6, q1, q2, q5, q6, q7, q8, q9, hw, ints, intss]
    try simp [okBlk]
   ·rw [truthOf_eq, hall] at hacc
    rw [hall] at q9
    rw [hxs hall]
    (repeat (first | simp only [↓QA, QB, Nat.reduceLT, reduceIte, Nat.reduceEqDiff, Nat.reduceAdd, Nat.reduceLeDiff, Nat.reduceMul, Nat.reduceBEq, QXHHdC6, q1, q2, q5, q6, q7, q8, q9, ints, intss, hap2] | refine rd0 rfl ?_))
    refine ⟨(k + 1, acc ++ [⟨bl, startsTo s bl but s.holds.length⟩], true), ⟨by simp only; omega, by simpa using hacc⟩, by simp only; omega, ?_⟩
    cases tk with
    | none =>
     try simp only [TrimX, QE, Nat.reduceLT, reduceIte, Nat.reduceEqDiff, Nat.reduceAdd, Nat.reduceLeDiff, Nat.reduceMul, Nat.reduceBEq, QXHHdC6, q1, q2, q5, q6, q7, q8, q9, hw, ints, intss, List.map_append, List.map_cons, List.map_nil, List.length_append, encTruth_eq, Bool.and_false]
     try simp [okBlk]
    | some t =>
     have h2 := htk t rfl
     try simp only [TrimX, QE, Nat.reduceLT, reduceIte, Nat.reduceEqDiff, Nat.reduceAdd, Nat.reduceLeDiff, Nat.reduceMul, Nat.reduceBEq, QXHHdC6, q1, q2, q5, q6, q7, q8, q9, hw, ints, intss, List.map_append, List.map_cons, List.map_nil, List.length_append, encTruth_eq, Bool.and_false, Nat.not_lt.2 (Nat.le_of_lt h2)]
     try simp [okBlk]
  ·have hk1 : k = (setsOf s).length := by simp at hd; omega
   rw [hk1, List.drop_length] at hacc
   simp only [List.filterMap_nil, List.append_nil] at hacc
   subst hacc
   (repeat (first | simp only [↓QA, QB, Nat.reduceLT, reduceIte, Nat.reduceEqDiff, Nat.reduceAdd, Nat.reduceLeDiff, Nat.reduceMul, Nat.reduceBEq, QXHHdC6, truthsAV] | refine rd0 rfl ?_))
   try try simp only [QS, QC, Nat.reduceLT, reduceIte, Nat.reduceEqDiff, Nat.reduceAdd, Nat.reduceLeDiff, Nat.reduceMul, Nat.reduceBEq, QXHHdC6]
end Go.Am.Room
set_option maxRecDepth 4000
namespace Go.Am.Room
theorem ship_nil (s : Ship) : clrs [encShip s, .lit [] true none] = [encShip s, ints []] := by simp [clrs, (data_ship s).2, clr, ints]
theorem ship_nil_ok (s : Ship) : okVs 0 [encShip s, .lit [] true none] := ⟨(data_ship s).1, by simp [okV, okVs], trivial⟩
theorem marksAt_congr {s t : Ship} (h1 : t.cold = s.cold) (h2 : t.power = s.power) (h3 : t.warm = s.warm) (h4 : t.heat = s.heat) (h : Nat) (n : Int) (c : Bool) : ∀ w, marksAt t h n c w = marksAt s h n c w
 | 0 => rfl
 | w + 1 => by simp only [marksAt, marksAt_congr h1 h2 h3 h4 h n c w, h1, h2, h3, h4]
theorem restOf_nil (l : List Int) : restOf l [] = l := by simp [restOf]
def spanAt (s : Ship) (h w : Nat) : Span := spanL ((coursesIn s (truths s []) h []).map fun c => c w)
theorem set_of {s : Ship} {P : Nat → Bool} (h : ∀ k (hk : k < s.holds.length), (s.holds[k].duct = 0 → P k = false) ∧ (s.holds[k].duct = 1 → P k = true)) : ∃ bl ∈ setsOf s, ∀ k, k < s.holds.length → ((k : Int) ∈ bl ↔ P k = true) := by
 have hm : ∀ k, k < s.holds.length → ((k : Int) ∈ (numbers 0 s.holds.length).filter (fun i => P i.toNat) ↔ P k = true) := fun k hk => by
  simp only [List.mem_filter, numbers_mem, Int.toNat_natCast]
  exact ⟨fun h => h.2, fun h => ⟨by omega, h⟩⟩
 refine ⟨(numbers 0 s.holds.length).filter fun i => P i.toNat, mem_sets.2 ⟨?_, fun k hk _ => ⟨fun h0 hb => ?_, fun h1 => (hm k hk).2 ((h k hk).2 h1)⟩⟩, hm⟩
 ·refine List.filter_congr fun x hx => ?_
  have hx2 := (numbers_mem _ _ _).1 hx
  obtain ⟨k, rfl⟩ : ∃ k : Nat, x = k := ⟨x.toNat, by omega⟩
  have := hm k (by omega)
  rw [Bool.eq_iff_iff, List.contains_iff_mem, this, Int.toNat_natCast]
 ·have := (hm k hk).1 hb
  rw [(h k hk).1 h0] at this; cases this
theorem cooled_congr {a b : List Int} {h : Nat} (hab : ∀ k, k ≤ h → ((k : Int) ∈ a ↔ (k : Int) ∈ b)) : cooled a h = cooled b h := by
 simp only [cooled]
 rw [Bool.eq_iff_iff, List.all_eq_true, List.all_eq_true]
 constructor
 ·intro H k hk
  have := H k hk
  have e := hab k (by have := List.mem_range.1 hk; omega)
  simp only [Bool.not_eq_true', Bool.eq_false_iff, ne_eq, List.contains_iff_mem] at this ⊢
  rwa [← e]
 ·intro H k hk
  have := H k hk
  have e := hab k (by have := List.mem_range.1 hk; omega)
  simp only [Bool.not_eq_true', Bool.eq_false_iff, ne_eq, List.contains_iff_mem] at this ⊢
  rwa [e]
def front (s : Ship) (h : Nat) : Ship := { s with holds := s.holds.take (h + 1) }
theorem front_len {s : Ship} {h : Nat} (hh : h < s.holds.length) : (front s h).holds.length = h + 1 := by simp [front]; omega
theorem front_marks (s : Ship) (h k : Nat) (n : Int) (c : Bool) : marksAt (front s h) k n c = marksAt s k n c := funext (marksAt_congr (s := s) (t := front s h) rfl rfl rfl rfl k n c)
theorem front_vd {s : Ship} (hv : Vd s) {h : Nat} (hh : h < s.holds.length) (hl : ∀ x ∈ s.log, x.hold ≤ h) : Vd (front s h) := by
 have := hv.nholds
 refine ⟨hv.cold, hv.power, hv.warm, hv.nheat, hv.heat, hv.frm, by rw [front_len hh]; omega, fun x hx => hv.holds x (List.mem_of_mem_take hx), hv.nlog, fun x hx => ?_⟩
 have a := hv.log x hx
 have b := hl x hx
 rw [front_len hh]
 exact ⟨⟨a.1.1, by omega⟩, a.2⟩
theorem front_at {s : Ship} {h k : Nat} (hk : k < (front s h).holds.length) : ∃ h2 : k < s.holds.length, (front s h).holds[k] = s.holds[k] := by
 have : k < s.holds.length := by simp [front] at hk; omega
 exact ⟨this, by simp [front]⟩
theorem front_starts {s : Ship} {h k : Nat} (hh : h < s.holds.length) (hk : k ≤ h) {a b but : List Int} (hab : ∀ i, i ≤ h → ((i : Int) ∈ a ↔ (i : Int) ∈ b)) {n : Int} : n ∈ startsOf (front s h) k a but ↔ n ∈ startsOf s k b but := by
 have h1 : k < (front s h).holds.length := by rw [front_len hh]; omega
 obtain ⟨h2, e⟩ := front_at h1
 rw [mem_starts h1, mem_starts h2, e, front_marks, cooled_congr (b := b) fun i hi => hab i (by omega)]
 exact Iff.rfl
theorem front_truth {s : Ship} (hv : Vd s) {h : Nat} (hh : h < s.holds.length) (hl : ∀ x ∈ s.log, x.hold ≤ h) :
  (∀ t ∈ truths s [], ∃ u ∈ truths (front s h) [], ∀ i, i ≤ h → ((i : Int) ∈ u.blocked ↔ (i : Int) ∈ t.blocked)) ∧ ∀ u ∈ truths (front s h) [], ∃ t ∈ truths s [], ∀ i, i ≤ h → ((i : Int) ∈ u.blocked ↔ (i : Int) ∈ t.blocked) := by
 have hlen := front_len hh
 constructor
 ·intro t ht
  obtain ⟨a, b, c⟩ := mem_truths.1 ht
  obtain ⟨bl, hbl, hP⟩ := set_of (s := front s h) (P := fun k => t.blocked.contains (k : Int)) fun k hk => by
   obtain ⟨h2, e⟩ := front_at hk
   rw [e]
   have := (mem_sets.1 a).2 k h2 h2
   simpa using this
  have hag : ∀ i, i ≤ h → ((i : Int) ∈ bl ↔ (i : Int) ∈ t.blocked) := fun i hi => by
   have := hP i (by omega)
   simpa using this
  refine ⟨⟨bl, (List.range (front s h).holds.length).map fun k => startsOf (front s h) k bl []⟩, mem_truths.2 ⟨hbl, rfl, fun k hk => ?_⟩, hag⟩
  obtain ⟨n, hn⟩ := List.exists_mem_of_ne_nil _ (c k (by omega))
  exact List.ne_nil_of_mem ((front_starts hh (by omega) hag).2 hn)
 ·intro u hu
  obtain ⟨a, b, c⟩ := mem_truths.1 hu
  obtain ⟨bl, hbl, hP⟩ := set_of (s := s) (P := fun k => if k ≤ h then u.blocked.contains (k : Int) else (s.holds[k]?).any fun (x : Hold) => (x.duct == 1)) fun k hk => by
   by_cases hkh : k ≤ h
   ·have h1 : k < (front s h).holds.length := by omega
    obtain ⟨h2, e⟩ := front_at h1
    have := (mem_sets.1 a).2 k h1 h1
    rw [e] at this
    simpa [hkh] using this
   ·simp [hkh, hk]
    omega
  have hag : ∀ i, i ≤ h → ((i : Int) ∈ u.blocked ↔ (i : Int) ∈ bl) := fun i hi => by
   have := hP i (by omega)
   simp only [hi, if_true, List.contains_iff_mem] at this
   exact this.symm
  refine ⟨⟨bl, (List.range s.holds.length).map fun k => startsOf s k bl []⟩, mem_truths.2 ⟨hbl, rfl, fun k hk => ?_⟩, hag⟩
  by_cases hkh : k ≤ h
  ·obtain ⟨n, hn⟩ := List.exists_mem_of_ne_nil _ (c k (by omega))
   exact List.ne_nil_of_mem ((front_starts hh hkh hag).1 hn)
  ·have ho := (hv.holds _ (List.getElem_mem hk)).start
   refine List.ne_nil_of_mem ((mem_starts hk).2 ⟨⟨Int.le_refl _, ho.2.1⟩, lines_iff.2 fun i hi => ?_⟩)
   have := hl _ (List.getElem_mem hi)
   simp only [lineOk]
   rw [decide_eq_false (by omega)]
   simp
theorem front_courses {s : Ship} (hv : Vd s) {h : Nat} (hh : h < s.holds.length) (hl : ∀ x ∈ s.log, x.hold ≤ h) {c : Nat → Int} : c ∈ coursesIn (front s h) (truths (front s h) []) h [] ↔ c ∈ coursesIn s (truths s []) h [] := by
 have h2 : h < (front s h).holds.length := by rw [front_len hh]; omega
 rw [mem_courses hh, mem_courses h2]
 simp only [restOf_nil]
 constructor
 ·rintro ⟨u, hu, n, hn, rfl⟩
  obtain ⟨t, ht, hag⟩ := (front_truth hv hh hl).2 u hu
  exact ⟨t, ht, n, (front_starts hh (Nat.le_refl _) hag).1 hn, by rw [front_marks, cooled_congr hag]⟩
 ·rintro ⟨t, ht, n, hn, rfl⟩
  obtain ⟨u, hu, hag⟩ := (front_truth hv hh hl).1 t ht
  exact ⟨u, hu, n, (front_starts hh (Nat.le_refl _) hag).2 hn, by rw [front_marks, cooled_congr hag]⟩
end Go.Am.Room
set_option maxRecDepth 8000
namespace Go.Am.Room
def u8s (l : List Int) : AV := .lit (l.map (.int .u8)) false none
theorem data_u8s (l : List Int) : Data (u8s l) := data_list (data_int .u8) l
instance (l : List Int) : Dat (u8s l) := ⟨data_u8s l⟩
end Go.Am.Room
set_option maxRecDepth 8000
namespace Go.Am.Room
theorem valid_ok (s : Ship) (hf : Fits s) : Pure T 37 [encShip s] (.bool (decide ((check s).2.2 = 0))) := by
 refine pure_fn (af := a37) rfl (by simp [a37]) dd ?_
 (repeat (first | simp only [↓QA, QB, Nat.reduceLT, reduceIte, Nat.reduceEqDiff, Nat.reduceAdd, Nat.reduceLeDiff, Nat.reduceMul, Nat.reduceBEq, QXHHdQ1, a37] | refine rd0 rfl ?_))
 ((first | refine callK_d (refcheck_ok s hf) rfl dd ?_ | refine callD_d (refcheck_ok s hf) rfl dd ?_); (repeat (first | simp only [↓QA, QB, Nat.reduceLT, reduceIte, Nat.reduceEqDiff, Nat.reduceAdd, Nat.reduceLeDiff, Nat.reduceMul, Nat.reduceBEq, QXHHdQ1, enc3] | refine rd0 rfl ?_)))
 try rfl
 try (simp; rfl)
def someV (s : Ship) : Bool := decide ((check s).2.2 = 0) && someB s []
theorem some2_ok (s : Ship) (hf : Fits s) : Pure T 44 [encShip s] (.bool (someV s)) := by
 refine pure_fn (af := a44) rfl (by simp [a44]) dd ?_
 (repeat (first | simp only [↓QA, QB, Nat.reduceLT, reduceIte, Nat.reduceEqDiff, Nat.reduceAdd, Nat.reduceLeDiff, Nat.reduceMul, Nat.reduceBEq, QXHHdQ1, a44] | refine rd0 rfl ?_))
 ((first | refine callK_d (valid_ok s hf) rfl dd ?_ | refine callD_d (valid_ok s hf) rfl dd ?_); (repeat (first | simp only [↓QA, QB, Nat.reduceLT, reduceIte, Nat.reduceEqDiff, Nat.reduceAdd, Nat.reduceLeDiff, Nat.reduceMul, Nat.reduceBEq, QXHHdQ1] | refine rd0 rfl ?_)))
 cases h0 : decide ((check s).2.2 = 0)
 ·(repeat (first | simp only [↓QA, QB, Nat.reduceLT, reduceIte, Nat.reduceEqDiff, Nat.reduceAdd, Nat.reduceLeDiff, Nat.reduceMul, Nat.reduceBEq, QXHHdQ1, someV, h0, Bool.false_and] | refine rd0 rfl ?_))
 ·have hv := vd_of_check (by simpa using h0)
  have hs := rtruths_ok s hv [] (by simp)
  (repeat (first | simp only [↓QA, QB, Nat.reduceLT, reduceIte, Nat.reduceEqDiff, Nat.reduceAdd, Nat.reduceLeDiff, Nat.reduceMul, Nat.reduceBEq, QXHHdQ1] | refine rd0 rfl ?_))
  refine callK_v hs (ship_nil s) (ship_nil_ok s) ?_
  (repeat (first | simp only [↓QA, QB, Nat.reduceLT, reduceIte, Nat.reduceEqDiff, Nat.reduceAdd, Nat.reduceLeDiff, Nat.reduceMul, Nat.reduceBEq, QXHHdQ1, someV, h0, Bool.true_and, truthsAV] | refine rd0 rfl ?_))
  have e : decide ((0 : Int) < (truths s []).length) = someB s [] := by
   simp only [someB]
   cases truths s [] <;> simp
  rw [e]
end Go.Am.Room
set_option maxRecDepth 8000
namespace Go.Am.Room
theorem some_iff {s : Ship} : someV s = true ↔ (check s).2.2 = 0 ∧ someB s [] = true := by simp [someV]
theorem known0 {s : Ship} (h : someV s = true) : errKnown s 0 = 0 := by
 have := (some_iff.1 h).2
 simp only [someB, Bool.not_eq_true'] at this
 simp [errKnown, this]
theorem knownN {s : Ship} (h : someV s = false) {e : Int} (he : (check s).2.2 ≠ 0 → e ≠ 0) : errKnown s e ≠ 0 := by
 unfold errKnown
 split
 ·rename_i h0
  by_cases hc : (check s).2.2 = 0
  ·simp only [someV, hc, decide_true, Bool.true_and, someB, Bool.not_eq_false'] at h
   simp [h]
  ·exact absurd h0 (he hc)
 ·assumption
theorem nat_rem {a : Int} {n : Nat} (ha : 0 ≤ a) (hn : 0 < n) : ∃ j : Nat, a.tmod (n : Int) = (j : Int) ∧ j < n := by
 refine ⟨(a.tmod n).toNat, ?_, ?_⟩
 ·have := Int.tmod_nonneg (n : Int) ha; omega
 ·have := Int.tmod_nonneg (n : Int) ha
  have := Int.tmod_lt_of_pos a (show (0 : Int) < n by omega)
  omega
end Go.Am.Room
set_option maxRecDepth 8000
namespace Go.Am.Room
theorem asked0 {s : Ship} (hc : (check s).2.2 = 0) {h : Nat} (hh : h < s.holds.length) : errAsk s h = 0 := by
 have : inR (h : Int) 0 ((s.holds.length : Int) - 1) = true := inR_iff.2 (by omega)
 simp [errAsk, hc, this]
theorem marks_tr {s : Ship} (h : someV s = true) {n w : Nat} (hn : n < s.holds.length) (hw : w ≤ s.heat.length) : marksOf s n w = (spanAt s n w, 0) := by
 have hi : inR (w : Int) 0 s.heat.length = true := inR_iff.2 (by omega)
 have : marksErr s n w = 0 := by
  rw [marksErr, asked0 (some_iff.1 h).1 hn]
  simp [errWithin, hi, known0 h]
 rw [marksOf, if_pos this]; rfl
end Go.Am.Room
set_option maxRecDepth 8000
namespace Go.Am.Room
def encU2 (a b : Int) : AV := .agg [.int .u8 a, .int .u8 b]
theorem data_u2 (a b : Int) : Data (encU2 a b) := data_agg (datas_cons (data_int _ _) (datas_cons (data_int _ _) datas_nil))
instance (a b : Int) : Dat (encU2 a b) := ⟨data_u2 a b⟩
theorem front_some {s : Ship} (hv : Vd s) {h : Nat} (hh : h < s.holds.length) (hl : ∀ x ∈ s.log, x.hold ≤ h) : (truths (front s h) []).isEmpty = (truths s []).isEmpty := by
 obtain ⟨a, b⟩ := front_truth hv hh hl
 cases h1 : truths (front s h) [] with
 | nil =>
  cases h2 : truths s [] with
  | nil => rfl
  | cons t l =>
   obtain ⟨u, hu, _⟩ := a t (by rw [h2]; simp)
   rw [h1] at hu; cases hu
 | cons u k =>
  cases h2 : truths s [] with
  | nil =>
   obtain ⟨t, ht, _⟩ := b u (by rw [h1]; simp)
   rw [h2] at ht; cases ht
  | cons t l => rfl
theorem front_kept {s : Ship} {h : Nat} (c : Nat → Int) : keptOf (front s h) h c = keptOf s h c := by
 have : (front s h).holds[h]? = s.holds[h]? := by simp [front, List.getElem?_take]
 unfold keptOf
 rw [this]
 rfl
theorem front_err {s : Ship} (hv : Vd s) {h : Nat} (hh : h < s.holds.length) (hl : ∀ x ∈ s.log, x.hold ≤ h) : errAsk s h = 0 ∧ errAsk (front s h) h = 0 ∧ ∀ e, errKnown (front s h) e = errKnown s e := by
 have hvf := front_vd hv hh hl
 refine ⟨asked0 (by rw [check_of_vd hv]) hh, asked0 (by rw [check_of_vd hvf]) (by rw [front_len hh]; omega), fun e => ?_⟩
 unfold errKnown
 rw [front_some hv hh hl]
theorem front_marksOf {s : Ship} (hv : Vd s) {h : Nat} (hh : h < s.holds.length) (hl : ∀ x ∈ s.log, x.hold ≤ h) (w : Int) : marksOf (front s h) h w = marksOf s h w := by
 obtain ⟨a, b, c⟩ := front_err hv hh hl
 have e : marksErr (front s h) h w = marksErr s h w := by
  unfold marksErr
  rw [a, b, c]
  rfl
 unfold marksOf
 rw [e]
 have : spanL ((coursesIn (front s h) (truths (front s h) []) (h : Int).toNat []).map fun c => c w.toNat) = spanL ((coursesIn s (truths s []) (h : Int).toNat []).map fun c => c w.toNat) := by
  refine spanL_eq fun x => ?_
  simp only [List.mem_map, Int.toNat_natCast]
  exact ⟨fun ⟨c, hc, e⟩ => ⟨c, (front_courses hv hh hl).1 hc, e⟩, fun ⟨c, hc, e⟩ => ⟨c, (front_courses hv hh hl).2 hc, e⟩⟩
 rw [this]
theorem front_keepsOf {s : Ship} (hv : Vd s) {h : Nat} (hh : h < s.holds.length) (hl : ∀ x ∈ s.log, x.hold ≤ h) : keepsOf (front s h) h = keepsOf s h := by
 obtain ⟨a, b, c⟩ := front_err hv hh hl
 have e : keepsErr (front s h) h = keepsErr s h := by
  unfold keepsErr
  rw [a, b, c]
 unfold keepsOf
 rw [e]
 have : keepsIn (front s h) (truths (front s h) []) (h : Int).toNat [] = keepsIn s (truths s []) (h : Int).toNat [] := by
  unfold keepsIn
  simp only [Int.toNat_natCast]
  refine settled_eq (fun c hc => ⟨c, (front_courses hv hh hl).1 hc, (front_kept c).symm⟩) fun c hc => ⟨c, (front_courses hv hh hl).2 hc, front_kept c⟩
 rw [this]
theorem marks_known {s : Ship} (hc : (check s).2.2 = 0) {h w : Nat} (hh : h < s.holds.length) (hw : w ≤ s.heat.length) : ((marksOf s h w).2 == 0) = someV s := by
 cases hs : someV s
 ·have hi : inR (w : Int) 0 s.heat.length = true := inR_iff.2 (by omega)
  have he : marksErr s h w = errKnown s 0 := by
   rw [marksErr, asked0 hc hh]; simp [errWithin, hi]
  have hne : errKnown s 0 ≠ 0 := knownN hs fun h => absurd hc h
  rw [marksOf, if_neg (by rw [he]; exact hne)]
  simp [he, hne]
 ·rw [marks_tr hs hh hw]; rfl
def frontLog (l : List Line) (h : Nat) : List Line := l.filter fun x => decide (x.hold ≤ h)
theorem vd_log {s : Ship} (hv : Vd s) (l : List Line) (h1 : l.length ≤ s.log.length) (h2 : ∀ x ∈ l, x ∈ s.log) : Vd { s with log := l } :=
 ⟨hv.cold, hv.power, hv.warm, hv.nheat, hv.heat, hv.frm, hv.nholds, hv.holds, Nat.le_trans h1 hv.nlog, fun x hx => hv.log x (h2 x hx)⟩
end Go.Am.Room
set_option maxRecDepth 8000
namespace Go.Am.Room
def QXHHdQ7 := And.intro @encShip_eq (And.intro @shipCells_eq (And.intro @encHold_eq (And.intro @encLine_eq (And.intro @encSpan_eq (And.intro @S_mapHold (And.intro @S_mapLine (And.intro @T_sapp (And.intro @List.length_append.{0} (@Int.toNat_natCast)))))))))
theorem allCells_line (l : List Line) : allCells 3 (l.map encLine) = true := L_allM 3 encLine l fun y => by simp [cellsOk, encLine, AV.cells, AV.cell]
theorem allCells_hold (l : List Hold) : allCells 5 (l.map encHold) = true := L_allM 5 encHold l fun y => by simp [cellsOk, encHold, AV.cells, AV.cell]
theorem append_line {σ : St} {l : List Line} {t : Nat} {ex : Bool} (a b c : Int) (hl : l.length ≤ 100) (ht : σ[t]? = some (.tok 3 l.length ex)) :
  appendAV 3 24 σ (.lit (l.map encLine) false (some t)) (.lit [.agg [.int .i64 a, .int .i64 b, .int .i64 c]] true none) = some (.lit ((l ++ [(⟨a, b, c⟩ : Line)]).map encLine) false (some t), σ.set t (.tok 3 (l.length + 1) true)) := by
 have h1 : allCells 3 [encLine ⟨a, b, c⟩] = true := allCells_line [⟨a, b, c⟩]
 have := app_tok (σ := σ) (sz := 3) (b := 24) (xs := l.map encLine) (ys := [encLine ⟨a, b, c⟩]) (t := t) (tk := none) (f := true) (ex := ex) ⟨allCells_line l, h1, by simp [room]; omega, by simp [room]; omega⟩ (by simp) (by simpa using ht)
 simpa [encLine] using this
set_option maxHeartbeats 1000000 in
theorem holdfront_ok (s : Ship) (x y : Int) (hf : Fits s) (hx : 0 ≤ x ∧ x < 256) (hy : 0 ≤ y ∧ y < 256) : Pure T 15 [encShip s, encU2 x y] (.bool true) := by
 refine pure_fn (af := a15) rfl (by simp [a15]) dd ?_
 by_cases hc : (check s).2.2 = 0
 ·have hd0 : decide ((check s).2.2 = 0) = true := by simpa using hc
  have hv := vd_of_check hc
  have hno := hv.nholds
  have hnh := hv.nheat
  have hnl := hv.nlog
  obtain ⟨h, hhj, hhl⟩ := nat_rem hx.1 (show 0 < s.holds.length by omega)
  obtain ⟨w, hwj, hwl⟩ := nat_rem hy.1 (show 0 < s.heat.length + 1 by omega)
  have hne1 : ((s.holds.length : Nat) : Int) ≠ 0 := by omega
  have hne2 : ((s.heat.length + 1 : Nat) : Int) ≠ 0 := by omega
  have wx : IntKind.i64.wrap x = x := wrap64 ⟨by omega, by omega⟩
  have wy : IntKind.i64.wrap y = y := wrap64 ⟨by omega, by omega⟩
  have wn : IntKind.i64.wrap ((s.heat.length : Int) + 1) = ((s.heat.length + 1 : Nat) : Int) := by rw [wrap64 ⟨by omega, by omega⟩]; omega
  have i0 : (0 : Int) ≤ 0 ∧ (0 : Int) < ((2 : Nat) : Int) := ⟨by decide, by decide⟩
  have i1 : (0 : Int) ≤ 1 ∧ (1 : Int) < ((2 : Nat) : Int) := ⟨by decide, by decide⟩
  have t0 : Int.toNat 0 = 0 := rfl
  have t1 : Int.toNat 1 = 1 := rfl
  obtain ⟨N, hN⟩ : ∃ N, s.log.length = N := ⟨_, rfl⟩
  (repeat (first | simp only [↓QA, QB, Nat.reduceLT, reduceIte, Nat.reduceEqDiff, Nat.reduceAdd, Nat.reduceLeDiff, Nat.reduceMul, Nat.reduceBEq, QXHHdQ7, a15, encU2] | refine rd0 rfl ?_))
  ((first | refine callK_d (valid_ok s hf) rfl dd ?_ | refine callD_d (valid_ok s hf) rfl dd ?_); (repeat (first | simp only [↓QA, QB, Nat.reduceLT, reduceIte, Nat.reduceEqDiff, Nat.reduceAdd, Nat.reduceLeDiff, Nat.reduceMul, Nat.reduceBEq, QXHHdQ7, hd0, i0, i1, t0, t1, wx, wy, wn, V_rem _ _ _ hne1, V_rem _ _ _ hne2, hhj, hwj] | refine rd0 rfl ?_)))
  refine ghostK 10 3 [] rfl ?_
  refine loopE (S := Nat × List Line × Bool) (0, [], false) (fun a => a.1 ≤ N ∧ a.2.1.length ≤ a.1 ∧ a.2.1 ++ frontLog (s.log.drop a.1) h = frontLog s.log h) (fun a => N - a.1)
   (fun a => [(2, .ptr 0 0), (8, .int .i64 h), (9, .int .i64 w), (10, .lit (a.2.1.map encLine) false (some 2)), (11, .int .i64 a.1)]) (fun a => [.cells (shipCells s), .cells [.int .u8 x, .int .u8 y], .tok 3 a.2.1.length a.2.2]) ⟨by simp, by simp, by simp⟩ (by simp [shipCells, ints]) ?_ fun a hs => ?_
  ·try simp only [TrimX, QE, Nat.reduceLT, reduceIte, Nat.reduceEqDiff, Nat.reduceAdd, Nat.reduceLeDiff, Nat.reduceMul, Nat.reduceBEq, QXHHdQ7]
   try simp
  ·obtain ⟨k, acc, ex⟩ := a
   obtain ⟨hk, hal, hacc⟩ := hs
   simp only at hk hal hacc
   (repeat (first | simp only [↓QA, QB, Nat.reduceLT, reduceIte, Nat.reduceEqDiff, Nat.reduceAdd, Nat.reduceLeDiff, Nat.reduceMul, Nat.reduceBEq, QXHHdQ7, L15_0, hN] | refine rd0 rfl ?_))
   refine iteP_intro (fun h2 => ?_) fun h2 => ?_
   ·have hk1 : k < s.log.length := by rw [hN]; simpa using h2
    have hw := wrapN hk1 (by omega)
    rw [List.drop_eq_getElem_cons hk1, frontLog, List.filter_cons] at hacc
    obtain ⟨z, hz⟩ : ∃ z, s.log[k] = z := ⟨_, rfl⟩
    rw [hz] at hacc
    (repeat (first | simp only [↓QA, QB, Nat.reduceLT, reduceIte, Nat.reduceEqDiff, Nat.reduceAdd, Nat.reduceLeDiff, Nat.reduceMul, Nat.reduceBEq, QXHHdQ7, hk1, hz] | refine rd0 rfl ?_))
    cases hb : decide (z.hold ≤ (h : Int))
    ·simp only [hb, Bool.false_eq_true, if_false] at hacc
     (repeat (first | simp only [↓QA, QB, Nat.reduceLT, reduceIte, Nat.reduceEqDiff, Nat.reduceAdd, Nat.reduceLeDiff, Nat.reduceMul, Nat.reduceBEq, QXHHdQ7, hw] | refine rd0 rfl ?_))
     refine ⟨(k + 1, acc, ex), ⟨by simp only; omega, by simp only; omega, hacc⟩, by simp only; omega, ?_⟩
     try simp only [TrimX, QE, Nat.reduceLT, reduceIte, Nat.reduceEqDiff, Nat.reduceAdd, Nat.reduceLeDiff, Nat.reduceMul, Nat.reduceBEq, QXHHdQ7, hw]
     try simp [okBlk]
    ·simp only [hb, if_true] at hacc
     have hap := fun (b0 b1 : ABlk) (τ : St) => append_line (σ := b0 :: b1 :: .tok 3 acc.length ex :: τ) (l := acc) (t := 2) (ex := ex) z.watch z.hold z.marks (by omega) rfl
     (repeat (first | simp only [↓QA, QB, Nat.reduceLT, reduceIte, Nat.reduceEqDiff, Nat.reduceAdd, Nat.reduceLeDiff, Nat.reduceMul, Nat.reduceBEq, QXHHdQ7, hk1, hz, hap, hw] | refine rd0 rfl ?_))
     refine ⟨(k + 1, acc ++ [z], true), ⟨by simp only; omega, by simp only [List.length_append, List.length_cons, List.length_nil]; omega, by rw [← hacc]; simp [frontLog]⟩, by simp only; omega, ?_⟩
     try simp only [TrimX, QE, Nat.reduceLT, reduceIte, Nat.reduceEqDiff, Nat.reduceAdd, Nat.reduceLeDiff, Nat.reduceMul, Nat.reduceBEq, QXHHdQ7, hw, List.map_append, List.map_cons, List.map_nil]
     try simp [okBlk]
   ·have hk1 : k = N := by simp at h2; omega
    rw [hk1, ← hN, List.drop_length] at hacc
    simp only [frontLog, List.filter_nil, List.append_nil] at hacc
    have hal2 : acc.length ≤ s.log.length := by omega
    have hmem : ∀ z ∈ acc, z ∈ s.log := by rw [hacc]; exact fun z hz => (List.mem_filter.1 hz).1
    have hlow : ∀ z ∈ acc, z.hold ≤ (h : Int) := by rw [hacc]; exact fun z hz => by simpa using (List.mem_filter.1 hz).2
    obtain ⟨u, hu⟩ : ∃ u : Ship, { s with log := acc } = u := ⟨_, rfl⟩
    have hvu : Vd u := by rw [← hu]; exact vd_log hv acc hal2 hmem
    have hfu : Fits u := by rw [← hu]; exact ⟨hf.heat, hf.holds, by simp only; omega⟩
    have hff : Fits (front u h) := by rw [← hu]; exact ⟨hf.heat, by have := hf.holds; simp [front]; omega, by simp only [front]; omega⟩
    have hhu : h < u.holds.length := by rw [← hu]; exact hhl
    have hlu : ∀ z ∈ u.log, z.hold ≤ (h : Int) := by rw [← hu]; exact hlow
    have m1 := front_marksOf hvu hhu hlu (w : Int)
    have m2 := front_keepsOf hvu hhu hlu
    have m3 := marks_known (s := u) (by rw [check_of_vd hvu]) hhu (w := w) (by rw [← hu]; simp only; omega)
    have eU : encShip u = .agg [.int .i64 s.cold, .int .i64 s.power, .int .i64 s.warm, .lit (s.heat.map (.int .i64)) false none, .int .i64 s.frm, .lit (s.holds.map encHold) false none, .lit (acc.map encLine) false none] := by
     rw [← hu]; simp only [encShip, shipCells, ints]
    have eF : encShip (front u h) = .agg [.int .i64 s.cold, .int .i64 s.power, .int .i64 s.warm, .lit (s.heat.map (.int .i64)) false none, .int .i64 s.frm, .lit ((s.holds.take (h + 1)).map encHold) false none, .lit (acc.map encLine) false none] := by
     rw [← hu]; simp only [encShip, shipCells, ints, front]
    have hwh : IntKind.i64.wrap ((h : Int) + 1) = ((h + 1 : Nat) : Int) := wrapN hhl (by omega)
    have htl : (s.holds.take (h + 1)).length = h + 1 := by rw [List.length_take]; omega
    have hap2 : ∀ (F : List Hold) (σ : St), F.length = h + 1 → appendAV 5 40 σ (.lit [] true none) (.lit (F.map encHold) false none) = some (.lit (F.map encHold) false (some σ.length), σ ++ [.tok 5 (h + 1) true]) := fun F σ hFl => by
     have := app_full (σ := σ) (sz := 5) (b := 40) (xs := []) (ys := F.map encHold) (tk := none) (t := none) (f := false) ⟨rfl, allCells_hold _, by simp [room, hFl]; omega, by simp [room, hFl]; omega⟩ (by simp [hFl])
     simpa [hFl] using this
    have hap3 := fun σ : St => hap2 (s.holds.take (h + 1)) σ htl
    have hvt := fun σ : St => V_take (σ := σ) (enc := encHold) (l := s.holds) (i := h + 1) (sz := 5) (t := none) (by omega) (fun _ => rfl)
    obtain ⟨P, hP⟩ : ∃ P, marksOf u h w = P := ⟨_, rfl⟩
    obtain ⟨K, hK⟩ : ∃ K, keepsOf u h = K := ⟨_, rfl⟩
    rw [hP] at m1 m3
    rw [hK] at m2
    have c1 := pmarks_ok u h w hfu
    have c2 := pmarks_ok (front u h) h w hff
    have c3 := pkeeps_ok u h hfu
    have c4 := pkeeps_ok (front u h) h hff
    have c5 := some2_ok u hfu
    rw [eU] at c1 c3 c5
    rw [eF] at c2 c4
    rw [hP] at c1
    rw [m1] at c2
    rw [hK] at c3
    rw [m2] at c4
    rw [← m3] at c5
    (repeat (first | simp only [↓QA, QB, Nat.reduceLT, reduceIte, Nat.reduceEqDiff, Nat.reduceAdd, Nat.reduceLeDiff, Nat.reduceMul, Nat.reduceBEq, QXHHdQ7, hwh, hvt, hap3] | refine rd0 rfl ?_))
    refine callK_s c1 (by try simp only [QS, QC, Nat.reduceLT, reduceIte, Nat.reduceEqDiff, Nat.reduceAdd, Nat.reduceLeDiff, Nat.reduceMul, Nat.reduceBEq, QXHHdQ7]) (by simp [encSE, encSpan, Scal, Scals]) ?_
    (repeat (first | simp only [↓QA, QB, Nat.reduceLT, reduceIte, Nat.reduceEqDiff, Nat.reduceAdd, Nat.reduceLeDiff, Nat.reduceMul, Nat.reduceBEq, QXHHdQ7, encSE] | refine rd0 rfl ?_))
    refine callK_s c2 (by try simp only [QS, QC, Nat.reduceLT, reduceIte, Nat.reduceEqDiff, Nat.reduceAdd, Nat.reduceLeDiff, Nat.reduceMul, Nat.reduceBEq, QXHHdQ7]) (by simp [encSE, encSpan, Scal, Scals]) ?_
    (repeat (first | simp only [↓QA, QB, Nat.reduceLT, reduceIte, Nat.reduceEqDiff, Nat.reduceAdd, Nat.reduceLeDiff, Nat.reduceMul, Nat.reduceBEq, QXHHdQ7, encSE] | refine rd0 rfl ?_))
    refine callK_s c3 (by try simp only [QS, QC, Nat.reduceLT, reduceIte, Nat.reduceEqDiff, Nat.reduceAdd, Nat.reduceLeDiff, Nat.reduceMul, Nat.reduceBEq, QXHHdQ7]) (by simp [encIE, Scal, Scals]) ?_
    (repeat (first | simp only [↓QA, QB, Nat.reduceLT, reduceIte, Nat.reduceEqDiff, Nat.reduceAdd, Nat.reduceLeDiff, Nat.reduceMul, Nat.reduceBEq, QXHHdQ7, encIE] | refine rd0 rfl ?_))
    refine callK_s c4 (by try simp only [QS, QC, Nat.reduceLT, reduceIte, Nat.reduceEqDiff, Nat.reduceAdd, Nat.reduceLeDiff, Nat.reduceMul, Nat.reduceBEq, QXHHdQ7]) (by simp [encIE, Scal, Scals]) ?_
    (repeat (first | simp only [↓QA, QB, Nat.reduceLT, reduceIte, Nat.reduceEqDiff, Nat.reduceAdd, Nat.reduceLeDiff, Nat.reduceMul, Nat.reduceBEq, QXHHdQ7, encIE, beq_self_eq_true] | refine rd0 rfl ?_))
    refine callK_s c5 (by try simp only [QS, QC, Nat.reduceLT, reduceIte, Nat.reduceEqDiff, Nat.reduceAdd, Nat.reduceLeDiff, Nat.reduceMul, Nat.reduceBEq, QXHHdQ7]) (by simp [Scal, Scals]) ?_
    (repeat (first | simp only [↓QA, QB, Nat.reduceLT, reduceIte, Nat.reduceEqDiff, Nat.reduceAdd, Nat.reduceLeDiff, Nat.reduceMul, Nat.reduceBEq, QXHHdQ7, beq_self_eq_true] | refine rd0 rfl ?_))
    refine callK_d awake_ok rfl datas_nil ?_
    (repeat (first | simp only [↓QA, QB, Nat.reduceLT, reduceIte, Nat.reduceEqDiff, Nat.reduceAdd, Nat.reduceLeDiff, Nat.reduceMul, Nat.reduceBEq, QXHHdQ7] | refine rd0 rfl ?_))
 ·have hd0 : decide ((check s).2.2 = 0) = false := by simpa using hc
  have e0 : wholeErr s ≠ 0 := by simp [wholeErr, errKnown, hc]
  have e1 : spoilsOf s = ([], [], wholeErr s) := if_neg e0
  have g : (wholeErr s == 0) = false := by simpa using e0
  (repeat (first | simp only [↓QA, QB, Nat.reduceLT, reduceIte, Nat.reduceEqDiff, Nat.reduceAdd, Nat.reduceLeDiff, Nat.reduceMul, Nat.reduceBEq, QXHHdQ7, a15, encU2] | refine rd0 rfl ?_))
  ((first | refine callK_d (valid_ok s hf) rfl dd ?_ | refine callD_d (valid_ok s hf) rfl dd ?_); (repeat (first | simp only [↓QA, QB, Nat.reduceLT, reduceIte, Nat.reduceEqDiff, Nat.reduceAdd, Nat.reduceLeDiff, Nat.reduceMul, Nat.reduceBEq, QXHHdQ7, hd0] | refine rd0 rfl ?_)))
  ((first | refine callK_d (pspoils_ok s hf) rfl dd ?_ | refine callD_d (pspoils_ok s hf) rfl dd ?_); (repeat (first | simp only [↓QA, QB, Nat.reduceLT, reduceIte, Nat.reduceEqDiff, Nat.reduceAdd, Nat.reduceLeDiff, Nat.reduceMul, Nat.reduceBEq, QXHHdQ7, encLLE, e1, g] | refine rd0 rfl ?_)))
  refine callK_d awake_ok rfl datas_nil ?_
  (repeat (first | simp only [↓QA, QB, Nat.reduceLT, reduceIte, Nat.reduceEqDiff, Nat.reduceAdd, Nat.reduceLeDiff, Nat.reduceMul, Nat.reduceBEq, QXHHdQ7] | refine rd0 rfl ?_))
end Go.Am.Room
