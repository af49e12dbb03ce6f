/- A part of the proof of FarmGrowns: an abstract machine, or what functions come to on it. -/
import Derived.Test.YtnioeddjaihmmaaCmpQ6
import Derived.ChangeArms
import Derived.SizedLaws
import Derived.ChangeBears
import Derived.ChangeShapes
import Derived.WideShapes
import Derived.ProofKit
import Derived.OpenShut
import Derived.Lib.Strings
set_option linter.unusedVariables false
set_option linter.unusedSimpArgs false
set_option linter.defProp false
namespace Go.Am
open Go.ChangeShapes Go.WideShapes Go.ChangeAt Go.RowKit
variable {P : Program} {hh : String → Bool} {H : Type} {enc : TypeId × Value → H} {w : World} {sp : Nat → Bool} {held : Bool}
def mkV (P : Program) (t : TypeId) (cs : List AV) : AV := match P.underlying t with
 | some (.struct _) => .agg cs
 | some (.array _ _) => .agg cs
 | _ => cs.headD .undef
def Typ (P : Program) : Nat → TypeId → List AV → Prop
 | 0, _, _ => False
 | n + 1, t, cs =>
  match P.underlying t with
  | some .bool => ∃ b, cs = [.bool b]
  | some (.int k) => ∃ m, cs = [.int k m] ∧ (Lit.int k m).wf = true
  | some .string => ∃ s : ByteArray, cs = [.str s] ∧ s.size ≤ maxLen
  | some (.slice e) => ∃ ys : List (List AV), cs = [.lit (ys.map (mkV P e)) false none] ∧ (ys.length ≤ maxLen ∧ ys.length * P.bytesOf e ≤ reachBytes) ∧ ∀ y ∈ ys, Typ P n e y
  | some (.struct fs) => ∃ parts : List (List AV), cs = parts.flatten ∧ parts.length = fs.toList.length ∧ ∀ (i : Nat) f p, fs.toList[i]? = some f → parts[i]? = some p → Typ P n f.type p
  | some (.array k e) => ∃ parts : List (List AV), cs = parts.flatten ∧ parts.length = k ∧ ∀ p ∈ parts, Typ P n e p
  | _ => False
def okTy (P : Program) : Nat → TypeId → Bool
 | 0, _ => false
 | n + 1, t =>
  match P.underlying t with
  | some .bool | some (.int _) | some .string => true
  | some (.slice e) => decide (0 < P.cellsOf e) && okTy P n e
  | some (.struct fs) => fs.toList.all fun f => okTy P n f.type
  | some (.array _ e) => okTy P n e
  | _ => false
theorem RelL.app {G : Gh} {az bs : List AV} {cs ds : List Value} (h : RelL G w az cs) (k : RelL G w bs ds) : RelL G w (az ++ bs) (cs ++ ds) := by
 refine ⟨by simp [h.1, k.1], fun i a v e1 e2 => ?_⟩
 by_cases hi : i < az.length
 ·rw [List.getElem?_append_left hi] at e1
  rw [List.getElem?_append_left (by rw [← h.1]; exact hi)] at e2
  exact h.2 i a v e1 e2
 ·rw [List.getElem?_append_right (by omega)] at e1
  rw [List.getElem?_append_right (by rw [← h.1]; omega), ← h.1] at e2
  exact k.2 _ a v e1 e2
theorem mkV_cells {n : Nat} {t : TypeId} {cs : List AV} (h : Typ P n t cs) : (mkV P t cs).cells = cs := by
 cases n with
 | zero => exact h.elim
 | succ n =>
  simp only [Typ] at h
  unfold mkV
  split at h
  ·rename_i hu; rw [hu]; obtain ⟨b, rfl⟩ := h; rfl
  ·rename_i hu; rw [hu]; obtain ⟨b, rfl, _⟩ := h; rfl
  ·rename_i hu; rw [hu]; obtain ⟨b, rfl, _⟩ := h; rfl
  ·rename_i hu; rw [hu]; obtain ⟨b, rfl, _⟩ := h; rfl
  ·rename_i hu; rw [hu]; rfl
  ·rename_i hu; rw [hu]; rfl
  ·exact h.elim
theorem addr_add {a : Addr} {v : Value} (h : w.cell? a = some v) (n : Nat) : a.add n = ⟨a.block, a.off + n, none⟩ := by
 have hs : a.spot = none := by
  unfold World.cell? at h
  split at h
  ·split at h
   ·cases h
   ·rename_i hs; simpa using hs
  ·cases h
 obtain ⟨b, o, s⟩ := a
 simp only at hs
 subst hs
 unfold Addr.add
 split
 ·rename_i h0; simp [h0]
 ·rfl
theorem cell_lt {b o : Nat} {v : Value} (h : w.cell? ⟨b, o, none⟩ = some v) : ∃ L, limW w b = some L ∧ o < L := by
 unfold World.cell? at h
 split at h
 ·rename_i c T fr hb
  refine ⟨c.size, by simp only at hb; simp [limW, hb], ?_⟩
  simp at h
  exact (Array.getElem?_eq_some_iff.1 h).1
 ·cases h
theorem fields {G : Gh} {n : Nat} {cs : List Value} : ∀ (fl : List Field) (o : Nat), (∀ (j : Nat) f, fl[j]? = some f → f.offset = o + ((fl.take j).map fun f => P.cellsOf f.type).sum) → cs.length = o + (fl.map fun f => P.cellsOf f.type).sum →
  (∀ f ∈ fl, ∃ az, Typ P n f.type az ∧ RelL G w az ((cs.drop f.offset).take (P.cellsOf f.type))) →
  ∃ parts : List (List AV), parts.length = fl.length ∧ (∀ (i : Nat) f p, fl[i]? = some f → parts[i]? = some p → Typ P n f.type p) ∧ RelL G w parts.flatten (cs.drop o)
 | [], o, _, hl, _ => ⟨[], rfl, by simp, by
   have : cs.drop o = [] := List.drop_of_length_le (by simp at hl; omega)
   rw [this]; exact .nil⟩
 | f :: fl, o, ho, hl, ht => by
  have h0 := ho 0 f rfl
  simp only [List.take_zero, List.map_nil, List.sum_nil, Nat.add_zero] at h0
  simp only [List.map_cons, List.sum_cons] at hl
  obtain ⟨az, h1, h2⟩ := ht f (by simp)
  obtain ⟨parts, q1, q2, q3⟩ := fields fl (o + P.cellsOf f.type) (fun j g hj => by
   have := ho (j + 1) g (by simpa using hj)
   simp only [List.take_succ_cons, List.map_cons, List.sum_cons] at this
   omega) (by omega) fun g hg => ht g (List.mem_cons_of_mem _ hg)
  refine ⟨az :: parts, by simp [q1], fun i g p e1 e2 => ?_, ?_⟩
  ·cases i with
   | zero => simp at e1 e2; subst e1; subst e2; exact h1
   | succ i => exact q2 i g p (by simpa using e1) (by simpa using e2)
  ·rw [List.flatten_cons]
   have e : cs.drop o = (cs.drop o).take (P.cellsOf f.type) ++ cs.drop (o + P.cellsOf f.type) := by
    rw [← List.drop_drop, List.take_append_drop]
   rw [e]
   rw [h0] at h2
   exact h2.app q3
theorem items {G : Gh} {m : Nat} {e : TypeId} {cs : List Value} : ∀ (n o : Nat), cs.length = o + n * P.cellsOf e →
  (∀ i, i < n → ∃ az, Typ P m e az ∧ RelL G w az ((cs.drop (o + i * P.cellsOf e)).take (P.cellsOf e))) → ∃ parts : List (List AV), parts.length = n ∧ (∀ p ∈ parts, Typ P m e p) ∧ RelL G w parts.flatten (cs.drop o)
 | 0, o, hl, _ => ⟨[], rfl, by simp, by
   have : cs.drop o = [] := List.drop_of_length_le (by simp at hl; omega)
   rw [this]; exact .nil⟩
 | n + 1, o, hl, ht => by
  obtain ⟨az, h1, h2⟩ := ht 0 (by omega)
  rw [Nat.zero_mul, Nat.add_zero] at h2
  rw [Nat.add_mul, Nat.one_mul] at hl
  obtain ⟨parts, q1, q2, q3⟩ := items (e := e) (cs := cs) (m := m) n (o + P.cellsOf e) (by omega) fun i hi => by
   obtain ⟨az, k1, k2⟩ := ht (i + 1) (by omega)
   rw [Nat.add_mul, Nat.one_mul, Nat.add_comm (i * _), ← Nat.add_assoc] at k2
   exact ⟨az, k1, k2⟩
  refine ⟨az :: parts, by simp [q1], fun p hp => ?_, ?_⟩
  ·rcases List.mem_cons.1 hp with rfl | hp
   ·exact h1
   ·exact q2 p hp
  ·rw [List.flatten_cons]
   have e1 : cs.drop o = (cs.drop o).take (P.cellsOf e) ++ cs.drop (o + P.cellsOf e) := by
    rw [← List.drop_drop, List.take_append_drop]
   rw [e1]
   exact h2.app q3
theorem choose_list {α : Type} {Q : Nat → α → Prop} : ∀ n, (∀ i, i < n → ∃ x, Q i x) → ∃ l : List α, l.length = n ∧ ∀ (i : Nat) x, l[i]? = some x → Q i x
 | 0, _ => ⟨[], rfl, by simp⟩
 | n + 1, h => by
  obtain ⟨l, h1, h2⟩ := choose_list n fun i hi => h i (by omega)
  obtain ⟨x, hx⟩ := h n (by omega)
  refine ⟨l ++ [x], by simp [h1], fun i y e => ?_⟩
  by_cases hi : i < l.length
  ·rw [List.getElem?_append_left hi] at e; exact h2 i y e
  ·rw [List.getElem?_append_right (by omega)] at e
   have : i - l.length = 0 := by
    by_cases h0 : i - l.length = 0
    ·exact h0
    ·rw [List.getElem?_eq_none (by simp; omega)] at e; cases e
   rw [this] at e
   simp at e
   subst e
   rw [show i = n by omega]; exact hx
theorem typ_of_trod (hl : laidOutB P = true) : ∀ (n m : Nat) (t : TypeId) (cs : List Value) (x : DataW H × List MemPlace), t < P.types.size → okTy P n t = true → DataW.trod enc P w 0 sp held m t cs = some x → (∀ k ∈ x.1.weights P t, k ≤ reachBytes) →
  ∃ az, Typ P n t az ∧ RelL (argG w) w az cs
 | 0, m, t, cs, x, _, ho, _, _ => by simp [okTy] at ho
 | n + 1, m, t, cs, x, ht, ho, h, hwt => by
  simp only [okTy] at ho
  split at ho
  ·rename_i hu
   obtain ⟨b, rfl, _⟩ := DataW.trod_bool hu h
   exact ⟨[.bool b], by simp only [Typ, hu]; exact ⟨b, rfl⟩, .one (.bool b)⟩
  ·rename_i k hu
   obtain ⟨b, rfl, _, hw⟩ := DataW.trod_int hu h
   exact ⟨[.int k b], by simp only [Typ, hu]; exact ⟨b, rfl, hw⟩, .one (.int k b)⟩
  ·rename_i hu
   obtain ⟨s, rfl, _, hs⟩ := DataW.trod_string hu h
   exact ⟨[.str s], by simp only [Typ, hu]; exact ⟨s, rfl, hs⟩, .one (.str s)⟩
  ·rename_i e hu
   simp only [Bool.and_eq_true, decide_eq_true_eq] at ho
   rcases DataW.trod_slice hu h with ⟨rfl, _⟩ | ⟨a, len, cap, elems, rest, m', _, rfl, hxe, _, hlc, hcm, hel, hei, _, _⟩
   ·refine ⟨[.lit [] false none], by simp only [Typ, hu]; exact ⟨[], rfl, ⟨by simp, by simp⟩, by simp⟩, .one (.nil ⟨Nat.le_refl _, (fun e => by cases e), (fun t e => by cases e)⟩ fun _ => rfl)⟩
   ·
    have hws : ∀ k ∈ x.1.weights P t, k ≤ reachBytes := hwt
    rw [hxe] at hws
    simp only [DataW.weights, hu, List.mem_cons, List.mem_append, List.length_map] at hws
    have hwl : len * P.bytesOf e ≤ reachBytes := by
     have h1 := hws _ (.inl rfl)
     rw [hel] at h1
     exact Nat.le_trans (Nat.mul_le_mul_right _ (Nat.le_add_right _ _)) h1
    have hwe : ∀ (d : DataW H), d ∈ elems.map (·.1) → ∀ k ∈ d.weights P e, k ≤ reachBytes := by
     have key : ∀ (l : List (DataW H)) (d : DataW H), d ∈ l → ∀ k ∈ d.weights P e, k ∈ DataW.weightsAll P e l := by
      intro l
      induction l with
      | nil => intro d hd; cases hd
      | cons a l ih =>
       intro d hd k hk
       simp only [DataW.weightsAll, List.mem_append]
       rcases List.mem_cons.1 hd with rfl | hd
       ·exact .inl hk
       ·exact .inr (ih d hd k hk)
     exact fun d hd k hk => hws k (.inr (.inl (key _ d hd k hk)))
    have hel2 : ∀ i, i < len → ∃ y, Typ P n e y ∧ ∃ vs, w.cells? 0 (a.add (i * P.cellsOf e)) (P.cellsOf e) = some vs ∧ RelL (argG w) w y vs := by
     intro i hi
     have h1 := hei i hi
     rw [List.getElem?_eq_getElem (by omega), Option.bind_eq_some_iff] at h1
     obtain ⟨vs, q1, q2⟩ := h1
     obtain ⟨y, q3, q4⟩ := typ_of_trod hl n m' e vs _ (kid_slice hl ht hu) ho.2 q2 (hwe _ (List.mem_map.2 ⟨_, List.getElem_mem (by omega), rfl⟩))
     exact ⟨y, q3, vs, q1, q4⟩
    obtain ⟨ys, hyl, hys⟩ := choose_list len hel2
    refine ⟨[.lit (ys.map (mkV P e)) false none], by
     simp only [Typ, hu]
     refine ⟨ys, rfl, ⟨by omega, by rw [hyl]; exact hwl⟩, fun y hy => ?_⟩
     obtain ⟨i, hi⟩ := List.getElem?_of_mem hy
     exact (hys i y hi).1, .one ?_⟩
    by_cases h0 : len = 0
    ·subst h0
     obtain rfl : ys = [] := List.eq_nil_of_length_eq_zero hyl
     exact .nil ⟨Nat.zero_le _, (fun e => by cases e), (fun t e => by cases e)⟩ fun e => by cases e
    ·
     have hcell : ∀ i j, i < len → j < P.cellsOf e → ∃ v, w.cell? ((a.add (i * P.cellsOf e)).add j) = some v := by
      intro i j hi hj
      obtain ⟨y, _, vs, q1, _⟩ := hel2 i hi
      simp only [World.cells?, Nat.zero_le, if_true] at q1
      have hlen := mapM_some_length q1
      have := mapM_some_get q1 j j (by simp [hj])
      rw [List.length_range] at hlen
      rw [List.getElem?_eq_getElem (by omega)] at this
      exact ⟨_, this⟩
     obtain ⟨v0, hv0⟩ := hcell 0 0 (by omega) ho.1
     rw [Nat.zero_mul] at hv0
     have ha0 : a.add 0 = a := by simp [Addr.add]
     rw [ha0, ha0] at hv0
     have hplain : ∀ i, a.add i = ⟨a.block, a.off + i, none⟩ := addr_add hv0
     have hae : a = ⟨a.block, a.off, none⟩ := by have := hplain 0; rw [ha0] at this; simpa using this
     have hplain2 : ∀ i j, (a.add i).add j = ⟨a.block, a.off + (i + j), none⟩ := by
      intro i j
      rw [hplain]
      unfold Addr.add
      split
      ·rename_i h; simp [h]
      ·simp [Nat.add_assoc]
     have hcell2 : ∀ i j, i < len → j < P.cellsOf e → ∃ v, w.cell? ⟨a.block, a.off + (i * P.cellsOf e + j), none⟩ = some v := by
      intro i j hi hj
      have := hcell i j hi hj
      rw [hplain2] at this
      exact this
     rw [hae, show len = (ys.map (mkV P e)).length by simp [hyl]]
     have hsz : ∀ (i : Nat) (x : AV), (ys.map (mkV P e))[i]? = some x → ∃ y, ys[i]? = some y ∧ x = mkV P e y ∧ x.cells = y := by
      intro i x hx
      rw [List.getElem?_map] at hx
      cases hy : ys[i]? with
      | none => rw [hy] at hx; cases hx
      | some y =>
       rw [hy] at hx
       simp at hx
       exact ⟨y, rfl, hx.symm, by rw [← hx, mkV_cells (hys i y hy).1]⟩
     have hvl : ∀ (i : Nat) y, ys[i]? = some y → y.length = P.cellsOf e := by
      intro i y hy
      obtain ⟨_, vs, q1, q2⟩ := hys i y hy
      rw [q2.1]
      simp only [World.cells?, Nat.zero_le, if_true] at q1
      rw [mapM_some_length q1, List.length_range]
     refine .lit (sz := P.cellsOf e) ⟨by simp; omega, (fun e => by cases e), (fun t e => by cases e)⟩ ⟨?_, (fun t e => by cases e), fun i x hx => ?_, fun k hk => ?_⟩ fun i x j c u hx hc hu2 => ?_
     ·obtain ⟨v, hv⟩ := hcell2 (len - 1) (P.cellsOf e - 1) (by omega) (by omega)
      obtain ⟨L, q1, q2⟩ := cell_lt hv
      refine ⟨L, q1, ?_⟩
      rw [List.length_map, hyl]
      have : (len - 1) * P.cellsOf e + P.cellsOf e = len * P.cellsOf e := by
       rw [← Nat.succ_mul]; congr 1; omega
      omega
     ·obtain ⟨y, q1, q2, q3⟩ := hsz i x hx
      rw [q3]; exact hvl i y q1
     ·rw [List.length_map, hyl] at hk
      have hd : k / P.cellsOf e < len := Nat.div_lt_of_lt_mul (by rw [Nat.mul_comm]; exact hk)
      have hm : k % P.cellsOf e < P.cellsOf e := Nat.mod_lt _ ho.1
      obtain ⟨v, hv⟩ := hcell2 _ _ hd hm
      have : k / P.cellsOf e * P.cellsOf e + k % P.cellsOf e = k := by rw [Nat.mul_comm]; exact Nat.div_add_mod _ _
      rw [this] at hv
      rw [hv]; rfl
     ·obtain ⟨y, q1, q2, q3⟩ := hsz i x hx
      rw [q3] at hc
      obtain ⟨_, vs, p1, p2⟩ := hys i y q1
      have hjl : j < P.cellsOf e := by
       rw [← hvl i y q1]
       exact (List.getElem?_eq_some_iff.1 hc).1
      simp only [World.cells?, Nat.zero_le, if_true] at p1
      have hg := mapM_some_get p1 j j (by simp [hjl])
      rw [hplain2] at hg
      rw [hu2] at hg
      exact p2.2 j c u hc hg.symm
  ·rename_i fs hu
   rw [List.all_eq_true] at ho
   obtain ⟨xs, m', _, hxe, hcl, hxl, hf⟩ := DataW.trod_struct hu h
   obtain ⟨k1, k2, k3⟩ := kid_struct hl ht hu
   obtain ⟨parts, q1, q2, q3⟩ := fields (P := P) (G := argG w) (w := w) (n := n) (cs := cs) fs.toList 0 (fun j f hj => by rw [k3 j f hj]; omega) (by rw [hcl, k2]; omega) fun f hfm => by
    obtain ⟨i, hi⟩ := List.getElem?_of_mem hfm
    have h1 := hf i f (by simpa using hi)
    have hil : i < xs.length := by rw [hxl]; have := (List.getElem?_eq_some_iff.1 hi).1; simpa using this
    rw [List.getElem?_eq_getElem hil] at h1
    have hd : (xs.map (·.1))[i]? = some xs[i].1 := by rw [List.getElem?_map, List.getElem?_eq_getElem hil]; rfl
    have hty : (fs.toList.map (·.type))[i]? = some f.type := by rw [List.getElem?_map, hi]; rfl
    refine typ_of_trod hl n m' f.type _ _ (k1 f hfm) (ho f hfm) h1 fun k hk => hwt k ?_
    rw [hxe]
    simp only [DataW.weights, hu]
    exact DataW.weights_mem_each hty hd k hk
   rw [List.drop_zero] at q3
   exact ⟨parts.flatten, by simp only [Typ, hu]; exact ⟨parts, rfl, q1, q2⟩, q3⟩
  ·rename_i k e hu
   obtain ⟨xs, m', _, hxe, hcl, hxl, hf⟩ := DataW.trod_array hu h
   obtain ⟨k1, k2⟩ := kid_array hl ht hu
   have hwe : ∀ (d : DataW H), d ∈ xs.map (·.1) → ∀ q ∈ d.weights P e, q ≤ reachBytes := by
    have key : ∀ (l : List (DataW H)) (d : DataW H), d ∈ l → ∀ q ∈ d.weights P e, q ∈ DataW.weightsAll P e l := by
     intro l
     induction l with
     | nil => intro d hd; cases hd
     | cons a l ih =>
      intro d hd q hq
      simp only [DataW.weightsAll, List.mem_append]
      rcases List.mem_cons.1 hd with rfl | hd
      ·exact .inl hq
      ·exact .inr (ih d hd q hq)
    intro d hd q hq
    refine hwt q ?_
    rw [hxe]
    simp only [DataW.weights, hu]
    exact key _ d hd q hq
   obtain ⟨parts, q1, q2, q3⟩ := items (P := P) (G := argG w) (w := w) (m := n) (e := e) (cs := cs) k 0 (by rw [hcl, k2]; omega) fun i hi => by
    have h1 := hf i hi
    have hil : i < xs.length := by omega
    rw [List.getElem?_eq_getElem hil] at h1
    rw [Nat.zero_add]
    exact typ_of_trod hl n m' e _ _ k1 ho h1 (hwe _ (List.mem_map.2 ⟨_, List.getElem_mem hil, rfl⟩))
   rw [List.drop_zero] at q3
   exact ⟨parts.flatten, by simp only [Typ, hu]; exact ⟨parts, rfl, q1, q2⟩, q3⟩
  ·cases ho
theorem arg_of_trod (hl : laidOutB P = true) (n : Nat) {t : TypeId} {v : Value} {d : DataW H} {ps : List MemPlace} (ht : t < P.types.size) (ho : okTy P n t = true) (hv : Value.okWide P w .any 0 t v) (h : DataW.Trod enc P w 0 sp held t v d ps) (hwt : ∀ k ∈ d.weights P t, k ≤ reachBytes) :
  ∃ az, Typ P n t az ∧ RelV (argG w) w (mkV P t az) v := by
 obtain ⟨m, hm⟩ := h
 obtain ⟨az, h1, h2⟩ := typ_of_trod hl n m t _ _ ht ho hm hwt
 refine ⟨az, h1, ?_⟩
 have hone : ∀ {a : AV}, az = [a] → (∀ cs, v ≠ .agg cs) → RelV (argG w) w a v := by
  rintro a rfl hx
  have hc : v.cells.toList = [v] := by cases v <;> first | rfl | exact absurd rfl (hx _)
  rw [hc] at h2
  exact h2.2 0 a v rfl rfl
 cases n with
 | zero => exact h1.elim
 | succ n =>
  unfold mkV
  simp only [Typ] at h1
  split at h1 <;> rename_i hu
  ·obtain ⟨b, rfl⟩ := h1
   rw [hu]
   obtain ⟨c, hc⟩ := okWide_bool hu hv
   exact hone rfl (by rw [hc]; intro cs e; cases e)
  ·obtain ⟨b, rfl, _⟩ := h1
   rw [hu]
   obtain ⟨c, hc⟩ := okWide_int hu hv
   exact hone rfl (by rw [hc]; intro cs e; cases e)
  ·obtain ⟨b, rfl, _⟩ := h1
   rw [hu]
   obtain ⟨c, hc⟩ := okWide_string hu hv
   exact hone rfl (by rw [hc]; intro cs e; cases e)
  ·obtain ⟨b, rfl, _⟩ := h1
   rw [hu]
   obtain ⟨_, _, _, hc⟩ := okWide_slice hu hv
   exact hone rfl (by rw [hc]; intro cs e; cases e)
  ·rw [hu]
   unfold Value.okWide at hv
   rw [hu] at hv
   obtain ⟨cs, rfl, _, _⟩ := hv
   refine .agg ?_ fun i a u e1 e2 => ?_
   ·have := h2.1; simpa [Value.cells] using this.symm
   ·exact h2.2 i a u e1 (by simpa [Value.cells] using e2)
  ·rw [hu]
   unfold Value.okWide at hv
   rw [hu] at hv
   obtain ⟨cs, rfl, _, _⟩ := hv
   refine .agg ?_ fun i a u e1 e2 => ?_
   ·have := h2.1; simpa [Value.cells] using this.symm
   ·exact h2.2 i a u e1 (by simpa [Value.cells] using e2)
  ·exact h1.elim
theorem relArgs_cons {G : Gh} {a : AV} {v : Value} {az : List AV} {vs : List Value} (h : RelV G w a v) (hs : RelArgs G w az vs.toArray) : RelArgs G w (a :: az) (v :: vs).toArray := by
 refine ⟨by have := hs.1; simp at this; simp [this], fun i x u e1 e2 => ?_⟩
 cases i with
 | zero => simp at e1 e2; subst e1; subst e2; exact h
 | succ i => exact hs.2 i x u (by simpa using e1) (by simpa using e2)
def Parts (P : Program) (n : Nat) : List TypeId → List AV → Prop
 | [], cs => cs = []
 | t :: ts, cs => ∃ a b, cs = a ++ b ∧ Typ P n t a ∧ Parts P n ts b
theorem parts_of {n : Nat} : ∀ (fl : List Field) (parts : List (List AV)), parts.length = fl.length → (∀ (i : Nat) f p, fl[i]? = some f → parts[i]? = some p → Typ P n f.type p) → Parts P n (fl.map Field.type) parts.flatten
 | [], parts, hl, _ => by rw [List.length_eq_zero_iff.1 hl]; rfl
 | f :: fl, [], hl, _ => by simp at hl
 | f :: fl, p :: parts, hl, h => ⟨p, parts.flatten, rfl, h 0 f p rfl rfl, parts_of fl parts (by simpa using hl) fun i g q e1 e2 => h (i + 1) g q (by simpa using e1) (by simpa using e2)⟩
theorem typ_struct {n : Nat} {t : TypeId} {fs : Array Field} {cs : List AV} (hu : P.underlying t = some (.struct fs)) (h : Typ P (n + 1) t cs) : Parts P n (fs.toList.map Field.type) cs := by
 simp only [Typ, hu] at h
 obtain ⟨parts, rfl, h1, h2⟩ := h
 exact parts_of fs.toList parts h1 h2
theorem typ_int {n : Nat} {t : TypeId} {k : IntKind} {cs : List AV} (hu : P.underlying t = some (.int k)) (h : Typ P (n + 1) t cs) : ∃ m, cs = [.int k m] ∧ (Lit.int k m).wf = true := by
 simp only [Typ, hu] at h; exact h
theorem typ_str {n : Nat} {t : TypeId} {cs : List AV} (hu : P.underlying t = some .string) (h : Typ P (n + 1) t cs) : ∃ s : ByteArray, cs = [.str s] ∧ s.size ≤ maxLen := by
 simp only [Typ, hu] at h; exact h
theorem typ_slice {n : Nat} {t e : TypeId} {cs : List AV} {α : Type} {f : α → AV} {Q : α → Prop} (hu : P.underlying t = some (.slice e)) (h : Typ P (n + 1) t cs) (hq : ∀ y, Typ P n e y → ∃ x, mkV P e y = f x ∧ Q x) : ∃ l : List α, cs = [.lit (l.map f) false none] ∧ (l.length < 9223372036854775808 ∧ l.length * P.bytesOf e ≤ reachBytes) ∧ ∀ x ∈ l, Q x := by
 simp only [Typ, hu] at h
 obtain ⟨ys, rfl, ⟨h1, h1b⟩, h2⟩ := h
 have key : ∀ ys : List (List AV), (∀ y ∈ ys, Typ P n e y) → ∃ l : List α, ys.map (mkV P e) = l.map f ∧ l.length = ys.length ∧ ∀ x ∈ l, Q x := by
  intro ys
  induction ys with
  | nil => intro _; exact ⟨[], rfl, rfl, by simp⟩
  | cons y ys ih =>
   intro hy
   obtain ⟨x, q1, q2⟩ := hq y (hy y (by simp))
   obtain ⟨l, q3, q4, q5⟩ := ih fun z hz => hy z (List.mem_cons_of_mem _ hz)
   exact ⟨x :: l, by simp [q1, q3], by simp [q4], fun z hz => by
    rcases List.mem_cons.1 hz with rfl | hz
    ·exact q2
    ·exact q5 z hz⟩
 obtain ⟨l, q1, q2, q3⟩ := key ys h2
 exact ⟨l, by rw [q1], ⟨by simp only [maxLen] at h1; omega, by rw [q2]; exact h1b⟩, q3⟩
theorem mkV_struct {t : TypeId} {fs : Array Field} {cs : List AV} (hu : P.underlying t = some (.struct fs)) : mkV P t cs = .agg cs := by simp [mkV, hu]
theorem mkV_one {t : TypeId} {a : AV} (hu : ∀ fs, P.underlying t ≠ some (.struct fs)) (hu2 : ∀ k e, P.underlying t ≠ some (.array k e)) : mkV P t [a] = a := by
 unfold mkV
 split
 ·rename_i fs h; exact absurd h (hu fs)
 ·rename_i k e h; exact absurd h (hu2 k e)
 ·rfl
end Go.Am
namespace Go.Am
variable {T : FuncId → Option AFunc}
theorem KeepS.app (σ : St) (τ : St) (lo : Nat) : KeepS σ (σ ++ τ) lo :=
 ⟨by simp, fun i _ hi => List.getElem?_append_left hi, fun i st pe env ps a b hi e => ⟨st, pe, by rw [← List.getElem?_append_left (l₂ := τ) hi]; exact e⟩⟩
end Go.Am
namespace Go.Am
variable {T : FuncId → Option AFunc}
theorem app_full {sz b : Nat} {σ : St} {xs ys : List AV} {tk t : Option Nat} {f : Bool} (h : AppOk sz b xs ys) (h0 : ys.length ≠ 0) :
  appendAV sz b σ (.lit xs true tk) (.lit ys f t) = some (.lit (xs ++ ys) false (some σ.length), σ ++ [.tok sz (xs.length + ys.length) true]) := by
 obtain ⟨h1, h2, h3, h4⟩ := h
 simp [appendAV, view, sized, h0, h1, h2, h3, h4]
theorem app_nil {sz b : Nat} {σ : St} {xs : List AV} {tk t : Option Nat} {f f' : Bool} : appendAV sz b σ (.lit xs f' tk) (.lit [] f t) = some (.lit xs f' tk, σ) := by
 simp [appendAV, view]
theorem call_fnS {f : FuncId} {args args0 : List AV} {v : AV} {σ : St} (h : Pure T f args0 v) (ha : snapMs σ 0 20 args = some args0) (hv : Scal v) : Run T (.call f args σ) fun o => o.v = v ∧ o.σ = σ := by
 unfold snapMs at ha
 cases hs : snaps σ 0 20 args with
 | none => rw [hs] at ha; cases ha
 | some as1 =>
  rw [hs] at ha
  simp at ha
  exact .frameS hs (.inr ha.symm) (h []) fun o ho => ⟨ho.2, by rw [ho.1]; exact hv, ho.1, rfl⟩
theorem callK_s {f : FuncId} {first cap args args0 : List AV} {v : AV} {σ : St} {K : AV → St → Prop} (h : Pure T f args0 v) (ha : snapMs σ 0 20 (first ++ args ++ cap) = some args0) (hv : Scal v) (k : K v σ) : cK (K := ⟨K⟩) T (.func f first cap) args σ :=
 .callf (.mono (call_fnS h ha hv) fun o ho => by rw [ho.1, ho.2]; exact k)
theorem callD_s {f : FuncId} {first cap args args0 : List AV} {v : AV} {σ : St} {K : AV → St → Prop} (h : Pure T f args0 v) (ha : snapMs σ 0 20 (first ++ args ++ cap) = some args0) (hv : Scal v) (k : K v σ) : cD (K := ⟨K⟩) T (.func f first cap) args σ :=
 ⟨v, σ, .callf (call_fnS h ha hv), k⟩
end Go.Am
namespace Go.Am
variable {T : FuncId → Option AFunc}
theorem V_idxI {α : Type} {sz : Nat} {enc : α → AV} {l : List α} {i : Int} {t : Option Nat} (h0 : 0 ≤ i) (h : i.toNat < l.length) (hs : ∀ x, (enc x).cells.length = sz) : vIdx sz (l.map enc) i t = some (.lptr (l.map enc) i.toNat 0 t) := by
 simp [vIdx, List.getElem?_map, h, hs, h0]
def intss (l : List (List Int)) : AV := .lit (l.map ints) false none
theorem data_intss (l : List (List Int)) : Data (intss l) := data_list data_ints l
end Go.Am
namespace Go.Am
instance (l : List (List Int)) : Dat (intss l) := ⟨data_intss l⟩
end Go.Am
namespace Go.Am.Room
theorem in_ok (n lo hi : Int) : Pure T 66 [.int .i64 n, .int .i64 lo, .int .i64 hi] (.bool (inR n lo hi)) := by
 refine pure_fn (af := a66) rfl (by simp [a66]) dd ?_
 (repeat (first | simp only [↓QA, QB, Nat.reduceLT, reduceIte, Nat.reduceEqDiff, Nat.reduceAdd, Nat.reduceLeDiff, Nat.reduceMul, Nat.reduceBEq, a66] | refine rd0 rfl ?_))
 refine iteP_intro (fun h => ?_) fun h => ?_
 all_goals
  (repeat (first | simp only [↓QA, QB, Nat.reduceLT, reduceIte, Nat.reduceEqDiff, Nat.reduceAdd, Nat.reduceLeDiff, Nat.reduceMul, Nat.reduceBEq, h] | refine rd0 rfl ?_))
  simp [inR, h]
theorem ends_ok (s : Span) (lo hi : Int) : Pure T 67 [encSpan s, .int .i64 lo, .int .i64 hi] (.int .i64 (ends s lo hi)) := by
 refine pure_fn (af := a67) rfl (by simp [a67]) dd ?_
 (repeat (first | simp only [↓QA, QB, Nat.reduceLT, reduceIte, Nat.reduceEqDiff, Nat.reduceAdd, Nat.reduceLeDiff, Nat.reduceMul, Nat.reduceBEq, a67, encSpan_eq] | refine rd0 rfl ?_))
 refine callK_d (in_ok _ _ _) rfl dd ?_
 (repeat (first | simp only [↓QA, QB, Nat.reduceLT, reduceIte, Nat.reduceEqDiff, Nat.reduceAdd, Nat.reduceLeDiff, Nat.reduceMul, Nat.reduceBEq] | refine rd0 rfl ?_))
 cases h1 : inR s.lo lo hi
 ·(repeat (first | simp only [↓QA, QB, Nat.reduceLT, reduceIte, Nat.reduceEqDiff, Nat.reduceAdd, Nat.reduceLeDiff, Nat.reduceMul, Nat.reduceBEq] | refine rd0 rfl ?_))
  simp [ends, h1]
 ·(repeat (first | simp only [↓QA, QB, Nat.reduceLT, reduceIte, Nat.reduceEqDiff, Nat.reduceAdd, Nat.reduceLeDiff, Nat.reduceMul, Nat.reduceBEq] | refine rd0 rfl ?_))
  refine callK_d (in_ok _ _ _) rfl dd ?_
  (repeat (first | simp only [↓QA, QB, Nat.reduceLT, reduceIte, Nat.reduceEqDiff, Nat.reduceAdd, Nat.reduceLeDiff, Nat.reduceMul, Nat.reduceBEq] | refine rd0 rfl ?_))
  cases h2 : inR s.hi lo hi
  ·(repeat (first | simp only [↓QA, QB, Nat.reduceLT, reduceIte, Nat.reduceEqDiff, Nat.reduceAdd, Nat.reduceLeDiff, Nat.reduceMul, Nat.reduceBEq] | refine rd0 rfl ?_))
   simp [ends, h1, h2]
  ·(repeat (first | simp only [↓QA, QB, Nat.reduceLT, reduceIte, Nat.reduceEqDiff, Nat.reduceAdd, Nat.reduceLeDiff, Nat.reduceMul, Nat.reduceBEq] | refine rd0 rfl ?_))
   refine iteP_intro (fun h => ?_) fun h => ?_
   all_goals
    (repeat (first | simp only [↓QA, QB, Nat.reduceLT, reduceIte, Nat.reduceEqDiff, Nat.reduceAdd, Nat.reduceLeDiff, Nat.reduceMul, Nat.reduceBEq, h] | refine rd0 rfl ?_))
    simp [ends, h1, h2]
    simpa using h
theorem join_ok (s : Span) (n : Int) : Pure T 83 [encSpan s, .int .i64 n] (encSpan (join s n)) := by
 refine pure_fn (af := a83) rfl (by simp [a83]) dd ?_
 (repeat (first | simp only [↓QA, QB, Nat.reduceLT, reduceIte, Nat.reduceEqDiff, Nat.reduceAdd, Nat.reduceLeDiff, Nat.reduceMul, Nat.reduceBEq, a83, encSpan_eq, join] | refine rd0 rfl ?_))
theorem has_ok (l : List Int) (n : Int) (hl : l.length < 9223372036854775808) : Pure T 44 [ints l, .int .i64 n] (.bool (l.contains n)) := by
 refine pure_fn (af := a44) rfl (by simp [a44]) dd ?_
 (repeat (first | simp only [↓QA, QB, Nat.reduceLT, reduceIte, Nat.reduceEqDiff, Nat.reduceAdd, Nat.reduceLeDiff, Nat.reduceMul, Nat.reduceBEq, a44] | refine rd0 rfl ?_))
 refine loopE (S := Nat) 0 (· ≤ l.length) (fun k => l.length - k) (fun k => [(0, ints l), (1, .int .i64 n), (5, .bool ((l.take k).contains n)), (6, .int .i64 k)]) (fun _ => []) (Nat.zero_le _) rfl ?_ fun k hk => ?_
 ·try simp only [TrimX, QE, Nat.reduceLT, reduceIte, Nat.reduceEqDiff, Nat.reduceAdd, Nat.reduceLeDiff, Nat.reduceMul, Nat.reduceBEq]
  try simp
 ·(repeat (first | simp only [↓QA, QB, Nat.reduceLT, reduceIte, Nat.reduceEqDiff, Nat.reduceAdd, Nat.reduceLeDiff, Nat.reduceMul, Nat.reduceBEq, L44_0] | refine rd0 rfl ?_))
  refine iteP_intro (fun h => ?_) fun h => ?_
  ·have hk1 : k < l.length := by simpa using h
   (repeat (first | simp only [↓QA, QB, Nat.reduceLT, reduceIte, Nat.reduceEqDiff, Nat.reduceAdd, Nat.reduceLeDiff, Nat.reduceMul, Nat.reduceBEq] | refine rd0 rfl ?_))
   refine iteP_intro (fun h2 => ?_) fun h2 => ?_
   all_goals
    (repeat (first | simp only [↓QA, QB, Nat.reduceLT, reduceIte, Nat.reduceEqDiff, Nat.reduceAdd, Nat.reduceLeDiff, Nat.reduceMul, Nat.reduceBEq, h2, hk1] | refine rd0 rfl ?_))
    refine ⟨k + 1, by omega, by omega, ?_⟩
    try simp only [TrimX, QE, Nat.reduceLT, reduceIte, Nat.reduceEqDiff, Nat.reduceAdd, Nat.reduceLeDiff, Nat.reduceMul, Nat.reduceBEq, wrapN hk1 hl]
    simp only [List.take_succ_eq_append_getElem hk1, List.contains_append, h2]
    simp
    try (rw [Bool.eq_iff_iff]; simp; exact eq_comm)
  ·have : k = l.length := by simp at h; omega
   (repeat (first | simp only [↓QA, QB, Nat.reduceLT, reduceIte, Nat.reduceEqDiff, Nat.reduceAdd, Nat.reduceLeDiff, Nat.reduceMul, Nat.reduceBEq] | refine rd0 rfl ?_))
   simp [this]
def whereI (s : ByteArray) (l : List ByteArray) : Int := if ahead s l = l.length then -1 else ahead s l
theorem ahead_step {s : ByteArray} {l : List ByteArray} {k : Nat} (h : k < l.length) (hx : l[k] ≠ s) : k + ahead s (l.drop k) = k + 1 + ahead s (l.drop (k + 1)) := by
 rw [List.drop_eq_getElem_cons h]; simp [ahead, hx]; omega
theorem where_ok (l : List ByteArray) (s : ByteArray) (hl : l.length < 9223372036854775808) : Pure T 94 [strs l, .str s] (.int .i64 (whereI s l)) := by
 refine pure_fn (af := a94) rfl (by simp [a94]) dd ?_
 (repeat (first | simp only [↓QA, QB, Nat.reduceLT, reduceIte, Nat.reduceEqDiff, Nat.reduceAdd, Nat.reduceLeDiff, Nat.reduceMul, Nat.reduceBEq, a94] | refine rd0 rfl ?_))
 refine loopE (S := Nat) 0 (fun k => k ≤ l.length ∧ k + ahead s (l.drop k) = ahead s l) (fun k => l.length - k) (fun k => [(0, strs l), (1, .str s), (5, .int .i64 k)]) (fun _ => []) ⟨Nat.zero_le _, by simp⟩ rfl ?_ fun k hk => ?_
 ·try simp only [TrimX, QE, Nat.reduceLT, reduceIte, Nat.reduceEqDiff, Nat.reduceAdd, Nat.reduceLeDiff, Nat.reduceMul, Nat.reduceBEq]
  try simp
 ·obtain ⟨hkl, ha⟩ := hk
  (repeat (first | simp only [↓QA, QB, Nat.reduceLT, reduceIte, Nat.reduceEqDiff, Nat.reduceAdd, Nat.reduceLeDiff, Nat.reduceMul, Nat.reduceBEq, L94_0, str_beq] | refine rd0 rfl ?_))
  refine iteP_intro (fun h => ?_) fun h => ?_
  ·have hk1 : k < l.length := by simpa using h
   have e2 : ((k : Int) == l.length) = false := by simp; omega
   (repeat (first | simp only [↓QA, QB, Nat.reduceLT, reduceIte, Nat.reduceEqDiff, Nat.reduceAdd, Nat.reduceLeDiff, Nat.reduceMul, Nat.reduceBEq, h, hk1, str_beq] | refine rd0 rfl ?_))
   refine iteP_intro (fun h3 => ?_) fun h3 => ?_
   ·have h3' : l[k] ≠ s := by simpa using h3
    (repeat (first | simp only [↓QA, QB, Nat.reduceLT, reduceIte, Nat.reduceEqDiff, Nat.reduceAdd, Nat.reduceLeDiff, Nat.reduceMul, Nat.reduceBEq, h3] | refine rd0 rfl ?_))
    refine ⟨k + 1, ⟨by omega, by rw [← ahead_step hk1 h3']; exact ha⟩, by omega, ?_⟩
    try simp only [TrimX, QE, Nat.reduceLT, reduceIte, Nat.reduceEqDiff, Nat.reduceAdd, Nat.reduceLeDiff, Nat.reduceMul, Nat.reduceBEq, wrapN hk1 hl]
   ·have h3' : l[k] = s := by simpa using h3
    have h4 : ahead s (l.drop k) = 0 := by rw [List.drop_eq_getElem_cons hk1]; simp [ahead, h3']
    (repeat (first | simp only [↓QA, QB, Nat.reduceLT, reduceIte, Nat.reduceEqDiff, Nat.reduceAdd, Nat.reduceLeDiff, Nat.reduceMul, Nat.reduceBEq, h3, e2] | refine rd0 rfl ?_))
    simp only [whereI]
    rw [if_neg (by omega)]
    simp; omega
  ·have hk1 : k = l.length := by simp at h; omega
   have e2 : ((k : Int) == l.length) = true := by simp; omega
   have h4 : ahead s (l.drop k) = 0 := by rw [hk1, List.drop_length]; rfl
   (repeat (first | simp only [↓QA, QB, Nat.reduceLT, reduceIte, Nat.reduceEqDiff, Nat.reduceAdd, Nat.reduceLeDiff, Nat.reduceMul, Nat.reduceBEq, h, e2] | refine rd0 rfl ?_))
   simp only [whereI]
   rw [if_pos (by omega)]
theorem name_ok (s : ByteArray) (hs : s.size < 9223372036854775808) : Pure T 95 [.str s] (.bool (nameOk s)) := by
 refine pure_fn (af := a95) rfl (by simp [a95]) dd ?_
 (repeat (first | simp only [↓QA, QB, Nat.reduceLT, reduceIte, Nat.reduceEqDiff, Nat.reduceAdd, Nat.reduceLeDiff, Nat.reduceMul, Nat.reduceBEq, a95] | refine rd0 rfl ?_))
 ((first | refine callK_d (in_ok _ _ _) rfl dd ?_ | refine callD_d (in_ok _ _ _) rfl dd ?_); (repeat (first | simp only [↓QA, QB, Nat.reduceLT, reduceIte, Nat.reduceEqDiff, Nat.reduceAdd, Nat.reduceLeDiff, Nat.reduceMul, Nat.reduceBEq] | refine rd0 rfl ?_)))
 refine loopE (S := Nat) 0 (fun k => k ≤ s.size) (fun k => s.size - k) (fun k => [(0, .str s), (3, .bool (inR s.size 1 16 && okUpTo s k)), (4, .int .i64 k)]) (fun _ => []) (Nat.zero_le _) rfl ?_ fun k hk => ?_
 ·try simp only [TrimX, QE, Nat.reduceLT, reduceIte, Nat.reduceEqDiff, Nat.reduceAdd, Nat.reduceLeDiff, Nat.reduceMul, Nat.reduceBEq, okUpTo]
  try simp
 ·(repeat (first | simp only [↓QA, QB, Nat.reduceLT, reduceIte, Nat.reduceEqDiff, Nat.reduceAdd, Nat.reduceLeDiff, Nat.reduceMul, Nat.reduceBEq, L95_0] | refine rd0 rfl ?_))
  refine iteP_intro (fun h => ?_) fun h => ?_
  ·have hk1 : k < s.size := by simpa using h
   have hb := byteAt_lt s k
   have hw : IntKind.i64.wrap (byteAt s k) = byteAt s k := wrap64 ⟨by omega, by omega⟩
   have fin : ∀ (later : Bool), later = (decide (0 < k) && (byteAt s k == 46 || inR (byteAt s k) 48 57)) → (inR s.size 1 16 && okUpTo s k && (inR (byteAt s k) 97 122 || later)) = (inR s.size 1 16 && okUpTo s (k + 1)) := by
    rintro _ rfl
    simp only [okUpTo, okByte, Bool.and_assoc]
   have tail : ∀ (later : Bool) (e : Env), later = (decide (0 < k) && (byteAt s k == 46 || inR (byteAt s k) 48 57)) → True := fun _ _ _ => trivial
   (repeat (first | simp only [↓QA, QB, Nat.reduceLT, reduceIte, Nat.reduceEqDiff, Nat.reduceAdd, Nat.reduceLeDiff, Nat.reduceMul, Nat.reduceBEq, hk1, hw] | refine rd0 rfl ?_))
   cases h0 : decide ((0 : Int) < k)
   ·have h0' : decide (0 < k) = false := by simpa using h0
    (repeat (first | simp only [↓QA, QB, Nat.reduceLT, reduceIte, Nat.reduceEqDiff, Nat.reduceAdd, Nat.reduceLeDiff, Nat.reduceMul, Nat.reduceBEq, hk1, hw] | refine rd0 rfl ?_))
    cases hf : (inR s.size 1 16 && okUpTo s k)
    ·(repeat (first | simp only [↓QA, QB, Nat.reduceLT, reduceIte, Nat.reduceEqDiff, Nat.reduceAdd, Nat.reduceLeDiff, Nat.reduceMul, Nat.reduceBEq, hk1, hw, hf] | refine rd0 rfl ?_))
     refine ⟨k + 1, by omega, by omega, ?_⟩
     try simp only [TrimX, QE, Nat.reduceLT, reduceIte, Nat.reduceEqDiff, Nat.reduceAdd, Nat.reduceLeDiff, Nat.reduceMul, Nat.reduceBEq, wrapN hk1 hs, ← fin false (by simp [h0']), hf]
     try simp
    ·(repeat (first | simp only [↓QA, QB, Nat.reduceLT, reduceIte, Nat.reduceEqDiff, Nat.reduceAdd, Nat.reduceLeDiff, Nat.reduceMul, Nat.reduceBEq, hk1, hw, hf] | refine rd0 rfl ?_))
     ((first | refine callK_d (in_ok _ _ _) rfl dd ?_ | refine callD_d (in_ok _ _ _) rfl dd ?_); (repeat (first | simp only [↓QA, QB, Nat.reduceLT, reduceIte, Nat.reduceEqDiff, Nat.reduceAdd, Nat.reduceLeDiff, Nat.reduceMul, Nat.reduceBEq] | refine rd0 rfl ?_)))
     cases h2 : inR (byteAt s k) 97 122
     all_goals
      (repeat (first | simp only [↓QA, QB, Nat.reduceLT, reduceIte, Nat.reduceEqDiff, Nat.reduceAdd, Nat.reduceLeDiff, Nat.reduceMul, Nat.reduceBEq, hk1, hw, hf] | refine rd0 rfl ?_))
      refine ⟨k + 1, by omega, by omega, ?_⟩
      try simp only [TrimX, QE, Nat.reduceLT, reduceIte, Nat.reduceEqDiff, Nat.reduceAdd, Nat.reduceLeDiff, Nat.reduceMul, Nat.reduceBEq, wrapN hk1 hs, ← fin false (by simp [h0']), hf, h2]
      try simp
   ·have h0' : decide (0 < k) = true := by simpa using h0
    (repeat (first | simp only [↓QA, QB, Nat.reduceLT, reduceIte, Nat.reduceEqDiff, Nat.reduceAdd, Nat.reduceLeDiff, Nat.reduceMul, Nat.reduceBEq, hk1, hw] | refine rd0 rfl ?_))
    cases h1 : (byteAt s k == 46)
    ·(repeat (first | simp only [↓QA, QB, Nat.reduceLT, reduceIte, Nat.reduceEqDiff, Nat.reduceAdd, Nat.reduceLeDiff, Nat.reduceMul, Nat.reduceBEq, hk1, hw] | refine rd0 rfl ?_))
     ((first | refine callK_d (in_ok _ _ _) rfl dd ?_ | refine callD_d (in_ok _ _ _) rfl dd ?_); (repeat (first | simp only [↓QA, QB, Nat.reduceLT, reduceIte, Nat.reduceEqDiff, Nat.reduceAdd, Nat.reduceLeDiff, Nat.reduceMul, Nat.reduceBEq] | refine rd0 rfl ?_)))
     cases hf : (inR s.size 1 16 && okUpTo s k)
     ·(repeat (first | simp only [↓QA, QB, Nat.reduceLT, reduceIte, Nat.reduceEqDiff, Nat.reduceAdd, Nat.reduceLeDiff, Nat.reduceMul, Nat.reduceBEq, hk1, hw, hf] | refine rd0 rfl ?_))
      refine ⟨k + 1, by omega, by omega, ?_⟩
      try simp only [TrimX, QE, Nat.reduceLT, reduceIte, Nat.reduceEqDiff, Nat.reduceAdd, Nat.reduceLeDiff, Nat.reduceMul, Nat.reduceBEq, wrapN hk1 hs, ← fin _ rfl, hf]
      try simp
     ·(repeat (first | simp only [↓QA, QB, Nat.reduceLT, reduceIte, Nat.reduceEqDiff, Nat.reduceAdd, Nat.reduceLeDiff, Nat.reduceMul, Nat.reduceBEq, hk1, hw, hf] | refine rd0 rfl ?_))
      ((first | refine callK_d (in_ok _ _ _) rfl dd ?_ | refine callD_d (in_ok _ _ _) rfl dd ?_); (repeat (first | simp only [↓QA, QB, Nat.reduceLT, reduceIte, Nat.reduceEqDiff, Nat.reduceAdd, Nat.reduceLeDiff, Nat.reduceMul, Nat.reduceBEq] | refine rd0 rfl ?_)))
      cases h2 : inR (byteAt s k) 97 122
      all_goals
       (repeat (first | simp only [↓QA, QB, Nat.reduceLT, reduceIte, Nat.reduceEqDiff, Nat.reduceAdd, Nat.reduceLeDiff, Nat.reduceMul, Nat.reduceBEq, hk1, hw, hf] | refine rd0 rfl ?_))
       refine ⟨k + 1, by omega, by omega, ?_⟩
       try simp only [TrimX, QE, Nat.reduceLT, reduceIte, Nat.reduceEqDiff, Nat.reduceAdd, Nat.reduceLeDiff, Nat.reduceMul, Nat.reduceBEq, wrapN hk1 hs, ← fin _ rfl, hf, h2, h0', h1]
       try simp
    ·(repeat (first | simp only [↓QA, QB, Nat.reduceLT, reduceIte, Nat.reduceEqDiff, Nat.reduceAdd, Nat.reduceLeDiff, Nat.reduceMul, Nat.reduceBEq, hk1, hw] | refine rd0 rfl ?_))
     cases hf : (inR s.size 1 16 && okUpTo s k)
     ·(repeat (first | simp only [↓QA, QB, Nat.reduceLT, reduceIte, Nat.reduceEqDiff, Nat.reduceAdd, Nat.reduceLeDiff, Nat.reduceMul, Nat.reduceBEq, hk1, hw, hf] | refine rd0 rfl ?_))
      refine ⟨k + 1, by omega, by omega, ?_⟩
      try simp only [TrimX, QE, Nat.reduceLT, reduceIte, Nat.reduceEqDiff, Nat.reduceAdd, Nat.reduceLeDiff, Nat.reduceMul, Nat.reduceBEq, wrapN hk1 hs, ← fin _ rfl, hf]
      try simp
     ·(repeat (first | simp only [↓QA, QB, Nat.reduceLT, reduceIte, Nat.reduceEqDiff, Nat.reduceAdd, Nat.reduceLeDiff, Nat.reduceMul, Nat.reduceBEq, hk1, hw, hf] | refine rd0 rfl ?_))
      ((first | refine callK_d (in_ok _ _ _) rfl dd ?_ | refine callD_d (in_ok _ _ _) rfl dd ?_); (repeat (first | simp only [↓QA, QB, Nat.reduceLT, reduceIte, Nat.reduceEqDiff, Nat.reduceAdd, Nat.reduceLeDiff, Nat.reduceMul, Nat.reduceBEq] | refine rd0 rfl ?_)))
      cases h2 : inR (byteAt s k) 97 122
      all_goals
       (repeat (first | simp only [↓QA, QB, Nat.reduceLT, reduceIte, Nat.reduceEqDiff, Nat.reduceAdd, Nat.reduceLeDiff, Nat.reduceMul, Nat.reduceBEq, hk1, hw, hf] | refine rd0 rfl ?_))
       refine ⟨k + 1, by omega, by omega, ?_⟩
       try simp only [TrimX, QE, Nat.reduceLT, reduceIte, Nat.reduceEqDiff, Nat.reduceAdd, Nat.reduceLeDiff, Nat.reduceMul, Nat.reduceBEq, wrapN hk1 hs, ← fin _ rfl, hf, h2, h0', h1]
       try simp
  ·have hk1 : k = s.size := by simp at h; omega
   (repeat (first | simp only [↓QA, QB, Nat.reduceLT, reduceIte, Nat.reduceEqDiff, Nat.reduceAdd, Nat.reduceLeDiff, Nat.reduceMul, Nat.reduceBEq] | refine rd0 rfl ?_))
   simp [nameOk, hk1]
theorem fresh_ok (s : ByteArray) (l : List ByteArray) (hs : s.size < 9223372036854775808) (hl : l.length < 9223372036854775808) : Pure T 68 [.str s, strs l] (.int .i64 (fresh s l)) := by
 refine pure_fn (af := a68) rfl (by simp [a68]) dd ?_
 (repeat (first | simp only [↓QA, QB, Nat.reduceLT, reduceIte, Nat.reduceEqDiff, Nat.reduceAdd, Nat.reduceLeDiff, Nat.reduceMul, Nat.reduceBEq, a68] | refine rd0 rfl ?_))
 ((first | refine callK_d (where_ok l s hl) rfl dd ?_ | refine callD_d (where_ok l s hl) rfl dd ?_); (repeat (first | simp only [↓QA, QB, Nat.reduceLT, reduceIte, Nat.reduceEqDiff, Nat.reduceAdd, Nat.reduceLeDiff, Nat.reduceMul, Nat.reduceBEq] | refine rd0 rfl ?_)))
 refine iteP_intro (fun h => ?_) fun h => ?_
 ·have hin : ahead s l ≠ l.length := by
   intro e
   simp [whereI, e] at h
  (repeat (first | simp only [↓QA, QB, Nat.reduceLT, reduceIte, Nat.reduceEqDiff, Nat.reduceAdd, Nat.reduceLeDiff, Nat.reduceMul, Nat.reduceBEq] | refine rd0 rfl ?_))
  ((first | refine callK_d (name_ok s hs) rfl dd ?_ | refine callD_d (name_ok s hs) rfl dd ?_); (repeat (first | simp only [↓QA, QB, Nat.reduceLT, reduceIte, Nat.reduceEqDiff, Nat.reduceAdd, Nat.reduceLeDiff, Nat.reduceMul, Nat.reduceBEq] | refine rd0 rfl ?_)))
  cases hn : nameOk s
  all_goals
   (repeat (first | simp only [↓QA, QB, Nat.reduceLT, reduceIte, Nat.reduceEqDiff, Nat.reduceAdd, Nat.reduceLeDiff, Nat.reduceMul, Nat.reduceBEq] | refine rd0 rfl ?_))
   simp [fresh, hn, hin]
 ·have hin : ahead s l = l.length := by
   simp only [whereI] at h
   split at h
   ·assumption
   ·simp at h
  (repeat (first | simp only [↓QA, QB, Nat.reduceLT, reduceIte, Nat.reduceEqDiff, Nat.reduceAdd, Nat.reduceLeDiff, Nat.reduceMul, Nat.reduceBEq] | refine rd0 rfl ?_))
  ((first | refine callK_d (name_ok s hs) rfl dd ?_ | refine callD_d (name_ok s hs) rfl dd ?_); (repeat (first | simp only [↓QA, QB, Nat.reduceLT, reduceIte, Nat.reduceEqDiff, Nat.reduceAdd, Nat.reduceLeDiff, Nat.reduceMul, Nat.reduceBEq] | refine rd0 rfl ?_)))
  cases hn : nameOk s
  all_goals
   (repeat (first | simp only [↓QA, QB, Nat.reduceLT, reduceIte, Nat.reduceEqDiff, Nat.reduceAdd, Nat.reduceLeDiff, Nat.reduceMul, Nat.reduceBEq] | refine rd0 rfl ?_))
   simp [fresh, hn, hin]
theorem flat_le {α β : Type} (f : α → List β) (b : Nat) : ∀ l : List α, (∀ x ∈ l, (f x).length ≤ b) → (l.flatMap f).length ≤ l.length * b
 | [], _ => by simp
 | x :: l, h => by
  have h1 := h x (by simp)
  have h2 := flat_le f b l fun y hy => h y (List.mem_cons_of_mem _ hy)
  simp only [List.flatMap_cons, List.length_append, List.length_cons, Nat.add_mul]
  omega
theorem allCells_ints (l : List (List Int)) : allCells 1 (l.map ints) = true := L_allM 1 ints l fun x => C_lit _ _ _
theorem allCells_int (l : List Int) : allCells 1 (l.map (.int .i64)) = true := L_allM 1 _ l fun x => C_int _ _
open Go
variable {P : Program}
def IsStruct (P : Program) (t : TypeId) (ts : List TypeId) : Prop := ∃ fs, P.underlying t = some (.struct fs) ∧ fs.toList.map Field.type = ts
theorem typ_st {n : Nat} {t : TypeId} {ts : List TypeId} {cs : List AV} (hu : IsStruct P t ts) (h : Typ P (n + 1) t cs) : mkV P t cs = .agg cs ∧ Parts P n ts cs := by
 obtain ⟨fs, h1, h2⟩ := hu
 have := typ_struct h1 h
 rw [h2] at this
 exact ⟨mkV_struct h1, this⟩
theorem mkV_ne {t : TypeId} {a : AV} {d : TypeDesc} (hu : P.underlying t = some d) (hd : ∀ fs, d ≠ .struct fs := by intro fs h; cases h) (hd2 : ∀ k e, d ≠ .array k e := by intro k e h; cases h) : mkV P t [a] = a := mkV_one (by rw [hu]; intro fs e; cases e; exact hd _ rfl) (by rw [hu]; intro k e h; cases h; exact hd2 _ _ rfl)
theorem tc_span {n : Nat} {i t : TypeId} {cs : List AV} (hi : P.underlying i = some (.int .i64)) (hs : IsStruct P t [i, i]) (h : Typ P (n + 2) t cs) : ∃ s : Span, cs = [.int .i64 s.lo, .int .i64 s.hi] := by
 obtain ⟨_, a, b, rfl, h1, c, d, rfl, h2, rfl⟩ := typ_st hs h
 obtain ⟨x, rfl, _⟩ := typ_int hi h1
 obtain ⟨y, rfl, _⟩ := typ_int hi h2
 exact ⟨⟨x, y⟩, rfl⟩
theorem tc_int {n : Nat} {t : TypeId} {cs : List AV} (hi : P.underlying t = some (.int .i64)) (h : Typ P (n + 1) t cs) : ∃ x : Int, mkV P t cs = .int .i64 x ∧ True := by
 obtain ⟨x, rfl, _⟩ := typ_int hi h
 exact ⟨x, mkV_ne hi, trivial⟩
end Go.Am.Room
namespace Go.Am.Room
def encTruth (t : Truth) : AV := .agg [ints t.rain, .lit (t.fl.map ints) false none]
theorem encTruth_eq (t : Truth) : encTruth t = .agg [ints t.rain, .lit (t.fl.map ints) false none] := by simp only [encTruth]
theorem data_truth (t : Truth) : Data (encTruth t) := data_agg (datas_cons (data_ints _) (datas_cons (data_list data_ints _) datas_nil))
instance (t : Truth) : Dat (encTruth t) := ⟨data_truth t⟩
def truthsAV (l : List Truth) : AV := .lit (l.map encTruth) false none
theorem truthsAV_eq (l : List Truth) : truthsAV l = .lit (l.map encTruth) false none := by simp only [truthsAV]
theorem data_truths (l : List Truth) : Data (truthsAV l) := data_list data_truth l
instance (l : List Truth) : Dat (truthsAV l) := ⟨data_truths l⟩
instance (l : List Truth) : Dats (l.map encTruth) := ⟨datas_map data_truth l⟩
theorem S_mapT (σ : St) (m d : Nat) (l : List Truth) : snapMs σ m d (l.map encTruth) = some (l.map encTruth) := S_datas (datas_map data_truth l) σ m d
open Go
variable {P : Program}
structure Tys (P : Program) : Prop where
 int : P.underlying 3 = some (.int .i64)
 u8 : P.underlying 5 = some (.int .u8)
 str : P.underlying 9 = some .string
 rain : P.underlying 22 = some (.slice 24)
 span : IsStruct P 24 [3, 3]
 plots : P.underlying 25 = some (.slice 81)
 looks : P.underlying 26 = some (.slice 50)
 farm : IsStruct P 28 [22, 3, 3, 24, 25, 26]
 look : IsStruct P 50 [3, 3, 3]
 u8s : P.underlying 53 = some (.slice 5)
 u16 : P.underlying 63 = some (.int .u16)
 want : IsStruct P 65 [5, 63]
 a2 : P.underlying 79 = some (.array 2 5)
 plot : IsStruct P 81 [9, 24, 3]
 lookB : P.bytesOf 50 = 24
theorem ty_plot {n : Nat} {cs : List AV} (T : Tys P) (h : Typ P (n + 3) 81 cs) : ∃ s : Plot, mkV P 81 cs = encPlot s ∧ s.name.size < 9223372036854775808 := by
 obtain ⟨e, a, b, rfl, h1, c, d, rfl, h2, c2, d2, rfl, h3, rfl⟩ := typ_st T.plot h
 obtain ⟨x, rfl, hx⟩ := typ_str T.str h1
 obtain ⟨y, rfl⟩ := tc_span T.int T.span h2
 obtain ⟨z, rfl, _⟩ := typ_int T.int h3
 exact ⟨⟨x, y, z⟩, e, by simp only [maxLen] at hx; simp only; omega⟩
theorem ty_span {n : Nat} {cs : List AV} (T : Tys P) (h : Typ P (n + 2) 24 cs) : ∃ s : Span, mkV P 24 cs = encSpan s ∧ True := by
 obtain ⟨e, a, b, rfl, h1, c, d, rfl, h2, rfl⟩ := typ_st T.span h
 obtain ⟨x, rfl, _⟩ := typ_int T.int h1
 obtain ⟨y, rfl, _⟩ := typ_int T.int h2
 exact ⟨⟨x, y⟩, e, trivial⟩
theorem ty_look {n : Nat} {cs : List AV} (T : Tys P) (h : Typ P (n + 2) 50 cs) : ∃ s : Look, mkV P 50 cs = encLook s ∧ True := by
 obtain ⟨e, a, b, rfl, h1, c, d, rfl, h2, c2, d2, rfl, h3, rfl⟩ := typ_st T.look h
 obtain ⟨x, rfl, _⟩ := typ_int T.int h1
 obtain ⟨y, rfl, _⟩ := typ_int T.int h2
 obtain ⟨z, rfl, _⟩ := typ_int T.int h3
 exact ⟨⟨x, y, z⟩, e, trivial⟩
theorem ty_int {n : Nat} {cs : List AV} (T : Tys P) (h : Typ P (n + 1) 3 cs) : ∃ x : Int, mkV P 3 cs = .int .i64 x ∧ True := tc_int T.int h
theorem ty_farmB {n : Nat} {cs : List AV} (T : Tys P) (h : Typ P (n + 5) 28 cs) : ∃ s : Farm, mkV P 28 cs = encFarm s ∧ Fits s ∧ s.looks.length * 24 ≤ 140737488351232 := by
 obtain ⟨e, a1, b1, rfl, h1, a2, b2, rfl, h2, a3, b3, rfl, h3, a4, b4, rfl, h4, a5, b5, rfl, h5, a6, b6, rfl, h6, rfl⟩ := typ_st T.farm h
 obtain ⟨x1, rfl, ⟨l1, _⟩, _⟩ := typ_slice T.rain h1 fun y hy => ty_span T hy
 obtain ⟨x2, rfl, _⟩ := typ_int T.int h2
 obtain ⟨x3, rfl, _⟩ := typ_int T.int h3
 obtain ⟨x4, rfl⟩ := tc_span T.int T.span h4
 obtain ⟨x5, rfl, ⟨l5, _⟩, q5⟩ := typ_slice T.plots h5 fun y hy => ty_plot T hy
 obtain ⟨x6, rfl, ⟨l6, b6⟩, _⟩ := typ_slice T.looks h6 fun y hy => ty_look T hy
 exact ⟨⟨x1, x2, x3, x4, x5, x6⟩, e, ⟨l1, l5, l6, q5⟩, by rw [T.lookB] at b6; simpa [reachBytes] using b6⟩
theorem ty_farm {n : Nat} {cs : List AV} (T : Tys P) (h : Typ P (n + 5) 28 cs) : ∃ s : Farm, mkV P 28 cs = encFarm s ∧ Fits s := by
 obtain ⟨r, h1, h2, _⟩ := ty_farmB T h
 exact ⟨r, h1, h2⟩
end Go.Am.Room
namespace Go.Am.Room
theorem weatherTo_len {rs : List Span} (h : ∀ s ∈ rs, 0 ≤ s.lo ∧ s.lo ≤ s.hi ∧ s.hi ≤ 2) : ∀ k, (weatherTo rs k).length ≤ 3 ^ k
 | 0 => by simp [weatherTo]
 | k + 1 => by
  have ih := weatherTo_len h k
  by_cases hk : k < rs.length
  ·rw [weatherTo_succ hk, Nat.pow_succ]
   have := h _ (List.getElem_mem hk)
   refine Nat.le_trans (flat_le (ext rs[k]) 3 _ fun c _ => ?_) (Nat.mul_le_mul_right _ ih)
   simp only [ext, List.length_map, waysIn_len]
   omega
  ·simp only [weatherTo, List.getElem?_eq_none (Nat.le_of_not_lt hk)]
   rw [Nat.pow_succ]; omega
theorem weather_len {v : Farm} (h : Vd v) : (weather v).length ≤ 2187 := by
 refine Nat.le_trans (weatherTo_len h.ra _) ?_
 have := h.nra
 exact Nat.le_trans (Nat.pow_le_pow_right (by omega) this.2) (by decide)
theorem truths_len {v : Farm} (hv : Vd v) (but : List Int) : (truths v but).length ≤ 2187 := Nat.le_trans (List.length_filterMap_le _ _) (weather_len hv)
end Go.Am.Room
set_option maxRecDepth 4000
namespace Go.Am.Room
def QXFFaC1 := And.intro @encFarm_eq (And.intro @farmCells_eq (And.intro @encPlot_eq (And.intro @encLook_eq (And.intro @encSpan_eq (And.intro @S_mapPlot (And.intro @S_mapLook (@S_mapSpan)))))))
theorem rend_ok (v : Farm) : Pure T 69 [encFarm v] (.int .i64 (endOf v)) := by
 refine pure_fn (af := a69) rfl (by simp [a69]) dd ?_
 (repeat (first | simp only [↓QA, QB, Nat.reduceLT, reduceIte, Nat.reduceEqDiff, Nat.reduceAdd, Nat.reduceLeDiff, Nat.reduceMul, Nat.reduceBEq, QXFFaC1, a69, endOf] | refine rd0 rfl ?_))
theorem append_str {k : Nat} {ns : List ByteArray} {s : ByteArray} {b : ABlk} {ex : Bool} {τ : St} (hk : ns.length = k) (hn : k < 16) : appendAV 1 16 (b :: .tok 1 k ex :: τ) (.lit (ns.map .str) false (some 1)) (.lit [.str s] true none) = some (.lit ((ns ++ [s]).map .str) false (some 1), b :: .tok 1 (k + 1) true :: τ) := by
 rw [app_tok (ex := ex) ⟨L_allM 1 _ ns (fun x => C_str _), by simp [allCells, AV.cells, AV.cell], by simp [room, hk]; omega, by simp [room, hk]; omega⟩ (by simp) (by simp [hk])]
 simp [hk]
theorem take_name {v : Farm} {k : Nat} (h : k < v.plots.length) : (v.plots.take (k + 1)).map Plot.name = (v.plots.take k).map Plot.name ++ [v.plots[k].name] := by
 rw [List.take_succ_eq_append_getElem h, List.map_append]; rfl
theorem refcheck_ok (v : Farm) (h : Fits v) : Pure T 16 [encFarm v] (enc3 (check v)) := by
 refine pure_fn (af := a16) rfl (by simp [a16]) dd ?_
 have hfr := h.rain
 have hfp := h.plots
 have hfl := h.looks
 (repeat (first | simp only [↓QA, QB, Nat.reduceLT, reduceIte, Nat.reduceEqDiff, Nat.reduceAdd, Nat.reduceLeDiff, Nat.reduceMul, Nat.reduceBEq, QXFFaC1, a16] | refine rd0 rfl ?_))
 ((first | refine callK_d (in_ok v.rain.length 1 7) rfl dd ?_ | refine callD_d (in_ok v.rain.length 1 7) rfl dd ?_); (repeat (first | simp only [↓QA, QB, Nat.reduceLT, reduceIte, Nat.reduceEqDiff, Nat.reduceAdd, Nat.reduceLeDiff, Nat.reduceMul, Nat.reduceBEq, QXFFaC1] | refine rd0 rfl ?_)))
 cases h1 : inR v.rain.length 1 7
 ·(repeat (first | simp only [↓QA, QB, Nat.reduceLT, reduceIte, Nat.reduceEqDiff, Nat.reduceAdd, Nat.reduceLeDiff, Nat.reduceMul, Nat.reduceBEq, QXFFaC1] | refine rd0 rfl ?_))
  simp [check, h1, enc3]
 ·have h1' : v.rain.length ≤ 7 := by simp [inR] at h1; omega
  have hc : check v = match firstBad raErr v.rain 0 with | some (i, e) => (1, (i : Int), e) | none => check2 v := by simp only [check, h1, Bool.true_eq_false, if_false]; try rfl
  rw [hc]
  (repeat (first | simp only [↓QA, QB, Nat.reduceLT, reduceIte, Nat.reduceEqDiff, Nat.reduceAdd, Nat.reduceLeDiff, Nat.reduceMul, Nat.reduceBEq, QXFFaC1] | refine rd0 rfl ?_))
  refine loopE (S := Nat) 0 (fun k => k ≤ v.rain.length ∧ firstBad raErr (v.rain.drop k) k = firstBad raErr v.rain 0) (fun k => v.rain.length - k)
   (fun k => [(1, .ptr 0 0), (5, .int .i64 k)]) (fun _ => [.cells (farmCells v)]) ⟨Nat.zero_le _, by simp⟩ (by simp [farmCells, ints]) ?_ fun k hs => ?_
  ·try simp only [TrimX, QE, Nat.reduceLT, reduceIte, Nat.reduceEqDiff, Nat.reduceAdd, Nat.reduceLeDiff, Nat.reduceMul, Nat.reduceBEq, QXFFaC1]
   try simp
  ·obtain ⟨hk, hb⟩ := hs
   (repeat (first | simp only [↓QA, QB, Nat.reduceLT, reduceIte, Nat.reduceEqDiff, Nat.reduceAdd, Nat.reduceLeDiff, Nat.reduceMul, Nat.reduceBEq, QXFFaC1, L16_0] | refine rd0 rfl ?_))
   refine iteP_intro (fun hd => ?_) fun hd => ?_
   ·have hk1 : k < v.rain.length := by simpa using hd
    rw [firstBad_step hk1] at hb
    have hw := wrapN hk1 hfr
    have hre : raErr k v.rain[k] = ends v.rain[k] 0 2 := rfl
    rw [hre] at hb
    (repeat (first | simp only [↓QA, QB, Nat.reduceLT, reduceIte, Nat.reduceEqDiff, Nat.reduceAdd, Nat.reduceLeDiff, Nat.reduceMul, Nat.reduceBEq, QXFFaC1, hk1] | refine rd0 rfl ?_))
    ((first | refine callK_d (ends_ok v.rain[k] 0 2) rfl dd ?_ | refine callD_d (ends_ok v.rain[k] 0 2) rfl dd ?_); (repeat (first | simp only [↓QA, QB, Nat.reduceLT, reduceIte, Nat.reduceEqDiff, Nat.reduceAdd, Nat.reduceLeDiff, Nat.reduceMul, Nat.reduceBEq, QXFFaC1, hk1] | refine rd0 rfl ?_)))
    cases hf : (ends v.rain[k] 0 2 == 0)
    ·have hf' : ends v.rain[k] 0 2 ≠ 0 := by simpa using hf
     rw [if_neg hf'] at hb
     rw [← hb]
     (repeat (first | simp only [↓QA, QB, Nat.reduceLT, reduceIte, Nat.reduceEqDiff, Nat.reduceAdd, Nat.reduceLeDiff, Nat.reduceMul, Nat.reduceBEq, QXFFaC1, hf] | refine rd0 rfl ?_))
     rfl
    ·have hf' : ends v.rain[k] 0 2 = 0 := by simpa using hf
     rw [if_pos hf'] at hb
     (repeat (first | simp only [↓QA, QB, Nat.reduceLT, reduceIte, Nat.reduceEqDiff, Nat.reduceAdd, Nat.reduceLeDiff, Nat.reduceMul, Nat.reduceBEq, QXFFaC1, hf, hw] | refine rd0 rfl ?_))
     refine ⟨k + 1, ⟨by omega, hb⟩, by omega, ?_⟩
     try simp only [TrimX, QE, Nat.reduceLT, reduceIte, Nat.reduceEqDiff, Nat.reduceAdd, Nat.reduceLeDiff, Nat.reduceMul, Nat.reduceBEq, QXFFaC1, hw]
     try simp [okBlk]
   ·have hk1 : k = v.rain.length := by simp at hd; omega
    rw [firstBad_end hk1] at hb
    rw [← hb]
    (repeat (first | simp only [↓QA, QB, Nat.reduceLT, reduceIte, Nat.reduceEqDiff, Nat.reduceAdd, Nat.reduceLeDiff, Nat.reduceMul, Nat.reduceBEq, QXFFaC1] | refine rd0 rfl ?_))
    ((first | refine callK_d (ends_ok v.way 0 9) rfl dd ?_ | refine callD_d (ends_ok v.way 0 9) rfl dd ?_); (repeat (first | simp only [↓QA, QB, Nat.reduceLT, reduceIte, Nat.reduceEqDiff, Nat.reduceAdd, Nat.reduceLeDiff, Nat.reduceMul, Nat.reduceBEq, QXFFaC1] | refine rd0 rfl ?_)))
    ((first | refine callK_d (in_ok v.full 0 30) rfl dd ?_ | refine callD_d (in_ok v.full 0 30) rfl dd ?_); (repeat (first | simp only [↓QA, QB, Nat.reduceLT, reduceIte, Nat.reduceEqDiff, Nat.reduceAdd, Nat.reduceLeDiff, Nat.reduceMul, Nat.reduceBEq, QXFFaC1] | refine rd0 rfl ?_)))
    cases h2 : inR v.full 0 30
    ·(repeat (first | simp only [↓QA, QB, Nat.reduceLT, reduceIte, Nat.reduceEqDiff, Nat.reduceAdd, Nat.reduceLeDiff, Nat.reduceMul, Nat.reduceBEq, QXFFaC1] | refine rd0 rfl ?_))
     simp [check2, h2, enc3]
    ·(repeat (first | simp only [↓QA, QB, Nat.reduceLT, reduceIte, Nat.reduceEqDiff, Nat.reduceAdd, Nat.reduceLeDiff, Nat.reduceMul, Nat.reduceBEq, QXFFaC1] | refine rd0 rfl ?_))
     ((first | refine callK_d (in_ok v.ripe 0 30) rfl dd ?_ | refine callD_d (in_ok v.ripe 0 30) rfl dd ?_); (repeat (first | simp only [↓QA, QB, Nat.reduceLT, reduceIte, Nat.reduceEqDiff, Nat.reduceAdd, Nat.reduceLeDiff, Nat.reduceMul, Nat.reduceBEq, QXFFaC1] | refine rd0 rfl ?_)))
     cases h3 : inR v.ripe 0 30
     ·(repeat (first | simp only [↓QA, QB, Nat.reduceLT, reduceIte, Nat.reduceEqDiff, Nat.reduceAdd, Nat.reduceLeDiff, Nat.reduceMul, Nat.reduceBEq, QXFFaC1] | refine rd0 rfl ?_))
      simp [check2, h3, enc3]
     ·(repeat (first | simp only [↓QA, QB, Nat.reduceLT, reduceIte, Nat.reduceEqDiff, Nat.reduceAdd, Nat.reduceLeDiff, Nat.reduceMul, Nat.reduceBEq, QXFFaC1] | refine rd0 rfl ?_))
      cases h4 : (ends v.way 0 9 == 7)
      ·have h4' : ends v.way 0 9 ≠ 7 := by simpa using h4
       (repeat (first | simp only [↓QA, QB, Nat.reduceLT, reduceIte, Nat.reduceEqDiff, Nat.reduceAdd, Nat.reduceLeDiff, Nat.reduceMul, Nat.reduceBEq, QXFFaC1, h4] | refine rd0 rfl ?_))
       cases h5 : (ends v.way 0 9 == 0)
       ·have h5' : ends v.way 0 9 ≠ 0 := by simpa using h5
        (repeat (first | simp only [↓QA, QB, Nat.reduceLT, reduceIte, Nat.reduceEqDiff, Nat.reduceAdd, Nat.reduceLeDiff, Nat.reduceMul, Nat.reduceBEq, QXFFaC1, h5] | refine rd0 rfl ?_))
        simp [check2, h2, h3, h4', h5', enc3]
       ·have h5' : ends v.way 0 9 = 0 := by simpa using h5
        have hc : check2 v = check3 v := by simp [check2, h2, h3, h5']
        rw [hc]
        (repeat (first | simp only [↓QA, QB, Nat.reduceLT, reduceIte, Nat.reduceEqDiff, Nat.reduceAdd, Nat.reduceLeDiff, Nat.reduceMul, Nat.reduceBEq, QXFFaC1, h5] | refine rd0 rfl ?_))
        cases h6 : decide ((4 : Int) < (v.plots.length : Int))
        case' true =>
         have h6' : 4 < v.plots.length := by first | (have := of_decide_eq_false h6; omega) | (have := of_decide_eq_true h6; omega)
         (repeat (first | simp only [↓QA, QB, Nat.reduceLT, reduceIte, Nat.reduceEqDiff, Nat.reduceAdd, Nat.reduceLeDiff, Nat.reduceMul, Nat.reduceBEq, QXFFaC1] | refine rd0 rfl ?_))
         simp [check3, h6', enc3]
        have h6' : ¬ 4 < v.plots.length := by first | (have := of_decide_eq_false h6; omega) | (have := of_decide_eq_true h6; omega)
        have hc : check3 v = match firstBad (plErr v) v.plots 0 with | some (i, e) => (3, (i : Int), e) | none => check4 v := by simp only [check3, h6', if_false]; try rfl
        rw [hc]
        have hwe : IntKind.i64.wrap (endOf v - 1) = endOf v - 1 := wrap64 ⟨by simp only [endOf]; omega, by simp only [endOf]; omega⟩
        (repeat (first | simp only [↓QA, QB, Nat.reduceLT, reduceIte, Nat.reduceEqDiff, Nat.reduceAdd, Nat.reduceLeDiff, Nat.reduceMul, Nat.reduceBEq, QXFFaC1] | refine rd0 rfl ?_))
        refine ghostK 8 1 [] rfl ?_
        refine loopE (S := Nat × Bool) (0, false) (fun s => s.1 ≤ v.plots.length ∧ firstBad (plErr v) (v.plots.drop s.1) s.1 = firstBad (plErr v) v.plots 0) (fun s => v.plots.length - s.1)
         (fun s => [(1, .ptr 0 0), (8, .lit (((v.plots.take s.1).map Plot.name).map .str) false (some 1)), (9, .int .i64 s.1)]) (fun s => [.cells (farmCells v), .tok 1 s.1 s.2]) ⟨Nat.zero_le _, by simp⟩ (by simp [farmCells, ints]) ?_ fun s hs => ?_
        ·try simp only [TrimX, QE, Nat.reduceLT, reduceIte, Nat.reduceEqDiff, Nat.reduceAdd, Nat.reduceLeDiff, Nat.reduceMul, Nat.reduceBEq, QXFFaC1]
         try simp
        ·obtain ⟨k, ex⟩ := s
         obtain ⟨hk, hb⟩ := hs
         simp only at hk hb
         have hlen : ((v.plots.take k).map Plot.name).length = k := by simp [hk]
         (repeat (first | simp only [↓QA, QB, Nat.reduceLT, reduceIte, Nat.reduceEqDiff, Nat.reduceAdd, Nat.reduceLeDiff, Nat.reduceMul, Nat.reduceBEq, QXFFaC1, L16_2] | refine rd0 rfl ?_))
         refine iteP_intro (fun hd => ?_) fun hd => ?_
         ·have hk1 : k < v.plots.length := by simpa using hd
          rw [firstBad_step hk1] at hb
          have hw := wrapN hk1 hfp
          have hap := fun (τ : St) => append_str (k := k) (ns := (v.plots.take k).map Plot.name) (s := v.plots[k].name) (b := .cells (farmCells v)) (ex := ex) (τ := τ) hlen (by omega)
          simp only [farmCells_eq] at hap
          have hset : plErr v k v.plots[k] = if fresh v.plots[k].name ((v.plots.take k).map Plot.name) = 0 then plErr2 v v.plots[k] else fresh v.plots[k].name ((v.plots.take k).map Plot.name) := rfl
          have hfre := fresh_ok v.plots[k].name ((v.plots.take k).map Plot.name) (h.names _ (List.getElem_mem hk1)) (by rw [hlen]; omega)
          have htn := take_name hk1
          obtain ⟨p, hpe⟩ : ∃ p, v.plots[k] = p := ⟨_, rfl⟩
          rw [hpe] at hset hap hb htn hfre
          have hset2 : plErr2 v p = if ends p.flower 0 (endOf v - 1) = 7 ∨ inR p.hands 1 99 = false then 7 else ends p.flower 0 (endOf v - 1) := rfl
          obtain ⟨F, hF⟩ : ∃ F, fresh p.name ((v.plots.take k).map Plot.name) = F := ⟨_, rfl⟩
          rw [hF] at hset hfre
          obtain ⟨E, hE⟩ : ∃ E, ends p.flower 0 (endOf v - 1) = E := ⟨_, rfl⟩
          have hen := ends_ok p.flower 0 (endOf v - 1)
          rw [hE] at hset2 hen
          (repeat (first | simp only [↓QA, QB, Nat.reduceLT, reduceIte, Nat.reduceEqDiff, Nat.reduceAdd, Nat.reduceLeDiff, Nat.reduceMul, Nat.reduceBEq, QXFFaC1, hk1, hpe] | refine rd0 rfl ?_))
          ((first | refine callK_s (hfre) (by try simp only [QS, QC, Nat.reduceLT, reduceIte, Nat.reduceEqDiff, Nat.reduceAdd, Nat.reduceLeDiff, Nat.reduceMul, Nat.reduceBEq, QXFFaC1]) trivial ?_ | refine callD_s (hfre) (by try simp only [QS, QC, Nat.reduceLT, reduceIte, Nat.reduceEqDiff, Nat.reduceAdd, Nat.reduceLeDiff, Nat.reduceMul, Nat.reduceBEq, QXFFaC1]) trivial ?_); (repeat (first | simp only [↓QA, QB, Nat.reduceLT, reduceIte, Nat.reduceEqDiff, Nat.reduceAdd, Nat.reduceLeDiff, Nat.reduceMul, Nat.reduceBEq, QXFFaC1, hk1, hpe, hap] | refine rd0 rfl ?_)))
          ((first | refine callK_d (rend_ok v) rfl dd ?_ | refine callD_d (rend_ok v) rfl dd ?_); (repeat (first | simp only [↓QA, QB, Nat.reduceLT, reduceIte, Nat.reduceEqDiff, Nat.reduceAdd, Nat.reduceLeDiff, Nat.reduceMul, Nat.reduceBEq, QXFFaC1, hwe] | refine rd0 rfl ?_)))
          ((first | refine callK_d (hen) rfl dd ?_ | refine callD_d (hen) rfl dd ?_); (repeat (first | simp only [↓QA, QB, Nat.reduceLT, reduceIte, Nat.reduceEqDiff, Nat.reduceAdd, Nat.reduceLeDiff, Nat.reduceMul, Nat.reduceBEq, QXFFaC1, hk1, hpe] | refine rd0 rfl ?_)))
          cases hf : (F == 0)
          ·have hf' : F ≠ 0 := by simpa using hf
           rw [if_neg hf'] at hset
           rw [hset, if_neg hf'] at hb
           rw [← hb]
           (repeat (first | simp only [↓QA, QB, Nat.reduceLT, reduceIte, Nat.reduceEqDiff, Nat.reduceAdd, Nat.reduceLeDiff, Nat.reduceMul, Nat.reduceBEq, QXFFaC1, hf] | refine rd0 rfl ?_))
           rfl
          ·have hf' : F = 0 := by simpa using hf
           rw [if_pos hf', hset2] at hset
           cases h7 : (E == 7)
           ·have h7' : E ≠ 7 := by simpa using h7
            (repeat (first | simp only [↓QA, QB, Nat.reduceLT, reduceIte, Nat.reduceEqDiff, Nat.reduceAdd, Nat.reduceLeDiff, Nat.reduceMul, Nat.reduceBEq, QXFFaC1, hf, h7] | refine rd0 rfl ?_))
            ((first | refine callK_d (in_ok p.hands 1 99) rfl dd ?_ | refine callD_d (in_ok p.hands 1 99) rfl dd ?_); (repeat (first | simp only [↓QA, QB, Nat.reduceLT, reduceIte, Nat.reduceEqDiff, Nat.reduceAdd, Nat.reduceLeDiff, Nat.reduceMul, Nat.reduceBEq, QXFFaC1, hf, h7] | refine rd0 rfl ?_)))
            cases h8 : inR p.hands 1 99
            ·have : plErr v k p = 7 := by rw [hset, if_pos (.inr h8)]
             rw [this] at hb
             (repeat (first | simp only [↓QA, QB, Nat.reduceLT, reduceIte, Nat.reduceEqDiff, Nat.reduceAdd, Nat.reduceLeDiff, Nat.reduceMul, Nat.reduceBEq, QXFFaC1, hf, h7, show ((7 : Int) == 0) = false from rfl] | refine rd0 rfl ?_))
             rw [← hb]
             rfl
            ·have : plErr v k p = E := by rw [hset, if_neg (by simp [h7', h8])]
             rw [this] at hb
             cases h9 : (E == 0)
             ·have h9' : E ≠ 0 := by simpa using h9
              rw [if_neg h9'] at hb
              (repeat (first | simp only [↓QA, QB, Nat.reduceLT, reduceIte, Nat.reduceEqDiff, Nat.reduceAdd, Nat.reduceLeDiff, Nat.reduceMul, Nat.reduceBEq, QXFFaC1, hf, h7, h9] | refine rd0 rfl ?_))
              rw [← hb]
              rfl
             ·have h9' : E = 0 := by simpa using h9
              rw [if_pos h9'] at hb
              (repeat (first | simp only [↓QA, QB, Nat.reduceLT, reduceIte, Nat.reduceEqDiff, Nat.reduceAdd, Nat.reduceLeDiff, Nat.reduceMul, Nat.reduceBEq, QXFFaC1, hf, h7, h9, hw] | refine rd0 rfl ?_))
              refine ⟨(k + 1, true), ⟨by simp only; omega, hb⟩, by simp only; omega, ?_⟩
              try simp only [TrimX, QE, Nat.reduceLT, reduceIte, Nat.reduceEqDiff, Nat.reduceAdd, Nat.reduceLeDiff, Nat.reduceMul, Nat.reduceBEq, QXFFaC1, htn, hw]
              try simp [okBlk]
           ·have h7' : E = 7 := by simpa using h7
            have : plErr v k p = 7 := by rw [hset, if_pos (.inl h7')]
            rw [this] at hb
            (repeat (first | simp only [↓QA, QB, Nat.reduceLT, reduceIte, Nat.reduceEqDiff, Nat.reduceAdd, Nat.reduceLeDiff, Nat.reduceMul, Nat.reduceBEq, QXFFaC1, hf, h7, show ((7 : Int) == 0) = false from rfl] | refine rd0 rfl ?_))
            rw [← hb]
            rfl
         ·have hk1 : k = v.plots.length := by simp at hd; omega
          rw [firstBad_end hk1] at hb
          rw [← hb, hk1]
          (repeat (first | simp only [↓QA, QB, Nat.reduceLT, reduceIte, Nat.reduceEqDiff, Nat.reduceAdd, Nat.reduceLeDiff, Nat.reduceMul, Nat.reduceBEq, QXFFaC1] | refine rd0 rfl ?_))
          cases h7 : decide ((4 : Int) < (v.looks.length : Int))
          case' true =>
           have h7' : 4 < v.looks.length := by first | (have := of_decide_eq_false h7; omega) | (have := of_decide_eq_true h7; omega)
           (repeat (first | simp only [↓QA, QB, Nat.reduceLT, reduceIte, Nat.reduceEqDiff, Nat.reduceAdd, Nat.reduceLeDiff, Nat.reduceMul, Nat.reduceBEq, QXFFaC1] | refine rd0 rfl ?_))
           simp [check4, h7', enc3]
          have h7' : ¬ 4 < v.looks.length := by first | (have := of_decide_eq_false h7; omega) | (have := of_decide_eq_true h7; omega)
          have hc : check4 v = match firstBad (lkErr v) v.looks 0 with | some (i, e) => (4, (i : Int), e) | none => (0, 0, 0) := by simp only [check4, h7', if_false]; try rfl
          rw [hc]
          have hwl : IntKind.i64.wrap ((v.plots.length : Int) - 1) = (v.plots.length : Int) - 1 := wrap64 ⟨by omega, by omega⟩
          (repeat (first | simp only [↓QA, QB, Nat.reduceLT, reduceIte, Nat.reduceEqDiff, Nat.reduceAdd, Nat.reduceLeDiff, Nat.reduceMul, Nat.reduceBEq, QXFFaC1] | refine rd0 rfl ?_))
          refine loopE (S := Nat) 0 (fun k => k ≤ v.looks.length ∧ firstBad (lkErr v) (v.looks.drop k) k = firstBad (lkErr v) v.looks 0) (fun k => v.looks.length - k)
           (fun k => [(1, .ptr 0 0), (13, .int .i64 k)]) (fun _ => [.cells (farmCells v), .tok 1 v.plots.length ex]) ⟨Nat.zero_le _, by simp⟩ (by simp [farmCells, ints]) ?_ fun m hm => ?_
          ·try simp only [TrimX, QE, Nat.reduceLT, reduceIte, Nat.reduceEqDiff, Nat.reduceAdd, Nat.reduceLeDiff, Nat.reduceMul, Nat.reduceBEq, QXFFaC1]
           try simp
          ·obtain ⟨hm, hbm⟩ := hm
           (repeat (first | simp only [↓QA, QB, Nat.reduceLT, reduceIte, Nat.reduceEqDiff, Nat.reduceAdd, Nat.reduceLeDiff, Nat.reduceMul, Nat.reduceBEq, QXFFaC1, L16_4] | refine rd0 rfl ?_))
           refine iteP_intro (fun hd3 => ?_) fun hd3 => ?_
           ·have hm1 : m < v.looks.length := by simpa using hd3
            rw [firstBad_step hm1] at hbm
            have hw3 := wrapN hm1 hfl
            obtain ⟨x, hx⟩ : ∃ x, v.looks[m] = x := ⟨_, rfl⟩
            rw [hx] at hbm
            have hle : lkErr v m x = if inR x.plot 0 ((v.plots.length : Int) - 1) = false then 4 else if inR x.day 0 (endOf v) = false ∨ inR x.points 0 30 = false then 7 else 0 := rfl
            rw [hle] at hbm
            (repeat (first | simp only [↓QA, QB, Nat.reduceLT, reduceIte, Nat.reduceEqDiff, Nat.reduceAdd, Nat.reduceLeDiff, Nat.reduceMul, Nat.reduceBEq, QXFFaC1, hm1, hx, hwl] | refine rd0 rfl ?_))
            ((first | refine callK_d (in_ok x.plot 0 ((v.plots.length : Int) - 1)) rfl dd ?_ | refine callD_d (in_ok x.plot 0 ((v.plots.length : Int) - 1)) rfl dd ?_); (repeat (first | simp only [↓QA, QB, Nat.reduceLT, reduceIte, Nat.reduceEqDiff, Nat.reduceAdd, Nat.reduceLeDiff, Nat.reduceMul, Nat.reduceBEq, QXFFaC1, hm1, hx] | refine rd0 rfl ?_)))
            cases hi : inR x.plot 0 ((v.plots.length : Int) - 1)
            ·rw [hi] at hbm
             (repeat (first | simp only [↓QA, QB, Nat.reduceLT, reduceIte, Nat.reduceEqDiff, Nat.reduceAdd, Nat.reduceLeDiff, Nat.reduceMul, Nat.reduceBEq, QXFFaC1, hm1] | refine rd0 rfl ?_))
             rw [← hbm]
             rfl
            ·rw [hi] at hbm
             simp only [Bool.true_eq_false, if_false] at hbm
             (repeat (first | simp only [↓QA, QB, Nat.reduceLT, reduceIte, Nat.reduceEqDiff, Nat.reduceAdd, Nat.reduceLeDiff, Nat.reduceMul, Nat.reduceBEq, QXFFaC1, hm1, hx] | refine rd0 rfl ?_))
             ((first | refine callK_d (rend_ok v) rfl dd ?_ | refine callD_d (rend_ok v) rfl dd ?_); (repeat (first | simp only [↓QA, QB, Nat.reduceLT, reduceIte, Nat.reduceEqDiff, Nat.reduceAdd, Nat.reduceLeDiff, Nat.reduceMul, Nat.reduceBEq, QXFFaC1, hm1, hx] | refine rd0 rfl ?_)))
             ((first | refine callK_d (in_ok x.day 0 (endOf v)) rfl dd ?_ | refine callD_d (in_ok x.day 0 (endOf v)) rfl dd ?_); (repeat (first | simp only [↓QA, QB, Nat.reduceLT, reduceIte, Nat.reduceEqDiff, Nat.reduceAdd, Nat.reduceLeDiff, Nat.reduceMul, Nat.reduceBEq, QXFFaC1, hm1, hx] | refine rd0 rfl ?_)))
             cases hi2 : inR x.day 0 (endOf v)
             ·rw [hi2] at hbm
              (repeat (first | simp only [↓QA, QB, Nat.reduceLT, reduceIte, Nat.reduceEqDiff, Nat.reduceAdd, Nat.reduceLeDiff, Nat.reduceMul, Nat.reduceBEq, QXFFaC1, hm1] | refine rd0 rfl ?_))
              rw [← hbm]
              simp [enc3]
             ·rw [hi2] at hbm
              (repeat (first | simp only [↓QA, QB, Nat.reduceLT, reduceIte, Nat.reduceEqDiff, Nat.reduceAdd, Nat.reduceLeDiff, Nat.reduceMul, Nat.reduceBEq, QXFFaC1, hm1, hx] | refine rd0 rfl ?_))
              ((first | refine callK_d (in_ok x.points 0 30) rfl dd ?_ | refine callD_d (in_ok x.points 0 30) rfl dd ?_); (repeat (first | simp only [↓QA, QB, Nat.reduceLT, reduceIte, Nat.reduceEqDiff, Nat.reduceAdd, Nat.reduceLeDiff, Nat.reduceMul, Nat.reduceBEq, QXFFaC1, hm1, hx] | refine rd0 rfl ?_)))
              cases hi3 : inR x.points 0 30
              ·rw [hi3] at hbm
               (repeat (first | simp only [↓QA, QB, Nat.reduceLT, reduceIte, Nat.reduceEqDiff, Nat.reduceAdd, Nat.reduceLeDiff, Nat.reduceMul, Nat.reduceBEq, QXFFaC1, hm1] | refine rd0 rfl ?_))
               rw [← hbm]
               simp [enc3]
              ·rw [hi3] at hbm
               (repeat (first | simp only [↓QA, QB, Nat.reduceLT, reduceIte, Nat.reduceEqDiff, Nat.reduceAdd, Nat.reduceLeDiff, Nat.reduceMul, Nat.reduceBEq, QXFFaC1, hm1, hw3] | refine rd0 rfl ?_))
               refine ⟨m + 1, ⟨by omega, by rw [← hbm]; rfl⟩, by omega, ?_⟩
               try simp only [TrimX, QE, Nat.reduceLT, reduceIte, Nat.reduceEqDiff, Nat.reduceAdd, Nat.reduceLeDiff, Nat.reduceMul, Nat.reduceBEq, QXFFaC1, hw3]
               try simp
           ·have hm1 : m = v.looks.length := by simp at hd3; omega
            rw [firstBad_end hm1] at hbm
            rw [← hbm]
            (repeat (first | simp only [↓QA, QB, Nat.reduceLT, reduceIte, Nat.reduceEqDiff, Nat.reduceAdd, Nat.reduceLeDiff, Nat.reduceMul, Nat.reduceBEq, QXFFaC1] | refine rd0 rfl ?_))
            rfl
      ·have h4' : ends v.way 0 9 = 7 := by simpa using h4
       (repeat (first | simp only [↓QA, QB, Nat.reduceLT, reduceIte, Nat.reduceEqDiff, Nat.reduceAdd, Nat.reduceLeDiff, Nat.reduceMul, Nat.reduceBEq, QXFFaC1, h4] | refine rd0 rfl ?_))
       simp [check2, h4', enc3]
def app0 (sz : Nat) (σ : St) (xs : List AV) : AV × St := if xs.length = 0 then (.lit [] true none, σ) else (.lit xs false (some σ.length), σ ++ [.tok sz xs.length true])
theorem app0_eq {sz b : Nat} {σ : St} {xs : List AV} {f : Bool} {tk : Option Nat} (h : AppOk sz b [] xs) : appendAV sz b σ (.lit [] true none) (.lit xs f tk) = some ((app0 sz σ xs).1, (app0 sz σ xs).2) := by
 by_cases h0 : xs.length = 0
 ·have : xs = [] := List.length_eq_zero_iff.1 h0
  subst this
  rw [app_nil]; simp [app0]
 ·rw [app_full h h0]; simp [app0, h0]
theorem app0_more {sz b : Nat} {σ : St} {xs ys : List AV} {f : Bool} {tk : Option Nat} (h : AppOk sz b xs ys) (hy : ys.length ≠ 0) : appendAV sz b (app0 sz σ xs).2 (app0 sz σ xs).1 (.lit ys f tk) = some (.lit (xs ++ ys) false (some σ.length), σ ++ [.tok sz (xs.length + ys.length) true]) := by
 by_cases h0 : xs.length = 0
 ·have : xs = [] := List.length_eq_zero_iff.1 h0
  subst this
  simp only [app0, List.length_nil, if_true]
  rw [app_full h hy]
  simp
 ·simp only [app0, h0, if_false]
  rw [app_tok (ex := true) h hy (by simp)]
  simp
theorem append_at {σ : St} {sz b : Nat} {xs ys : List AV} {ex f : Bool} {t : Nat} {tk : Option Nat} (h : AppOk sz b xs ys) (h0 : ys.length ≠ 0) (n : Nat) (hn : n = xs.length) (ht : σ[t]? = some (.tok sz n ex)) :
  appendAV sz b σ (.lit xs false (some t)) (.lit ys f tk) = some (.lit (xs ++ ys) false (some t), σ.set t (.tok sz (n + ys.length) true)) := by
 subst hn
 exact app_tok h h0 ht
end Go.Am.Room
set_option maxRecDepth 4000
namespace Go.Am.Room
def QXFFaC2 := And.intro @encFarm_eq (And.intro @farmCells_eq (And.intro @encPlot_eq (And.intro @encLook_eq (And.intro @encSpan_eq (And.intro @S_mapPlot (And.intro @S_mapLook (@S_mapSpan)))))))
theorem points_ok (l : List Int) (a d : Nat) (hl : ∀ i, 0 ≤ rl l i ∧ rl l i ≤ 2) (hd : d ≤ l.length) (hd7 : l.length ≤ 7) : Pure T 43 [ints l, .int .i64 a, .int .i64 d] (.int .i64 (pts (rl l) a d)) := by
 refine pure_fn (af := a43) rfl (by simp [a43]) dd ?_
 (repeat (first | simp only [↓QA, QB, Nat.reduceLT, reduceIte, Nat.reduceEqDiff, Nat.reduceAdd, Nat.reduceLeDiff, Nat.reduceMul, Nat.reduceBEq, QXFFaC2, a43] | refine rd0 rfl ?_))
 by_cases ha : a ≤ d
 ·refine loopE (S := Nat) a (fun k => a ≤ k ∧ k ≤ d) (fun k => d - k) (fun k => [(0, ints l), (2, .int .i64 d), (7, .int .i64 (pts (rl l) a k)), (8, .int .i64 k)]) (fun _ => []) ⟨Nat.le_refl _, ha⟩ rfl ?_ fun k hk => ?_
  ·try simp only [TrimX, QE, Nat.reduceLT, reduceIte, Nat.reduceEqDiff, Nat.reduceAdd, Nat.reduceLeDiff, Nat.reduceMul, Nat.reduceBEq, QXFFaC2]
   simp [pts_self]
  ·obtain ⟨h1, h2⟩ := hk
   (repeat (first | simp only [↓QA, QB, Nat.reduceLT, reduceIte, Nat.reduceEqDiff, Nat.reduceAdd, Nat.reduceLeDiff, Nat.reduceMul, Nat.reduceBEq, QXFFaC2, L43_0] | refine rd0 rfl ?_))
   refine iteP_intro (fun h => ?_) fun h => ?_
   ·have hk1 : k < d := by simpa using h
    have hk2 : k < l.length := by omega
    have hw := wrapN hk1 (by omega)
    have hb := pts_bd hl a k
    have hs := pts_step (rl l) h1
    have he := rl_at hk2
    have hr := hl k
    obtain ⟨P, hP⟩ : ∃ P, pts (rl l) a k = P := ⟨_, rfl⟩
    obtain ⟨R, hR⟩ : ∃ R, rl l k = R := ⟨_, rfl⟩
    rw [hP] at hb hs
    rw [hR] at he hs hr
    have w1 : IntKind.i64.wrap (P + 1) = P + 1 := wrap64 ⟨by omega, by omega⟩
    have w2 : IntKind.i64.wrap (P + 1 + R) = P + 1 + R := wrap64 ⟨by omega, by omega⟩
    have hs2 : pts (rl l) a (k + 1) = P + 1 + R := by omega
    rw [hP]
    (repeat (first | simp only [↓QA, QB, Nat.reduceLT, reduceIte, Nat.reduceEqDiff, Nat.reduceAdd, Nat.reduceLeDiff, Nat.reduceMul, Nat.reduceBEq, QXFFaC2, hk2, ← he, w1, w2] | refine rd0 rfl ?_))
    refine ⟨k + 1, ⟨by omega, by omega⟩, by omega, ?_⟩
    try simp only [TrimX, QE, Nat.reduceLT, reduceIte, Nat.reduceEqDiff, Nat.reduceAdd, Nat.reduceLeDiff, Nat.reduceMul, Nat.reduceBEq, QXFFaC2, hw, hs2]
   ·have hk1 : k = d := by simp at h; omega
    subst hk1
    (repeat (first | simp only [↓QA, QB, Nat.reduceLT, reduceIte, Nat.reduceEqDiff, Nat.reduceAdd, Nat.reduceLeDiff, Nat.reduceMul, Nat.reduceBEq, QXFFaC2] | refine rd0 rfl ?_))
 ·have hlt : decide ((a : Int) < (d : Int)) = false := by simp; omega
  rw [pts_lt (rl l) (by omega)]
  refine loopE (S := Unit) () (fun _ => True) (fun _ => 0) (fun _ => [(0, ints l), (2, .int .i64 d), (7, .int .i64 0), (8, .int .i64 a)]) (fun _ => []) trivial rfl ?_ fun _ _ => ?_
  ·try simp only [TrimX, QE, Nat.reduceLT, reduceIte, Nat.reduceEqDiff, Nat.reduceAdd, Nat.reduceLeDiff, Nat.reduceMul, Nat.reduceBEq, QXFFaC2]
   try simp
  ·(repeat (first | simp only [↓QA, QB, Nat.reduceLT, reduceIte, Nat.reduceEqDiff, Nat.reduceAdd, Nat.reduceLeDiff, Nat.reduceMul, Nat.reduceBEq, QXFFaC2, L43_0, hlt] | refine rd0 rfl ?_))
theorem weather_in {rs : List Span} : ∀ k, k ≤ rs.length → ∀ c ∈ weatherTo rs k, c.length = k := fun k hk c hc => ((weatherTo_mem hk).1 hc).1
theorem rweather_ok (v : Farm) (hv : Vd v) : Pure T 87 [encFarm v] (intss (weather v)) := by
 refine pure_fn (af := a87) rfl (by simp [a87]) dd ?_
 have hno := hv.nra
 rw [show weather v = weatherTo v.rain v.rain.length from rfl]
 (repeat (first | simp only [↓QA, QB, Nat.reduceLT, reduceIte, Nat.reduceEqDiff, Nat.reduceAdd, Nat.reduceLeDiff, Nat.reduceMul, Nat.reduceBEq, QXFFaC2, a87] | refine rd0 rfl ?_))
 refine loopE (S := Nat) 0 (fun n => n ≤ v.rain.length) (fun n => v.rain.length - n) (fun n => [(1, .ptr 0 0), (3, intss (weatherTo v.rain n)), (4, .int .i64 n)]) (fun _ => [.cells (farmCells v)]) (Nat.zero_le _) (by simp [farmCells, ints]) ?_ fun n hn => ?_
 ·try simp only [TrimX, QE, Nat.reduceLT, reduceIte, Nat.reduceEqDiff, Nat.reduceAdd, Nat.reduceLeDiff, Nat.reduceMul, Nat.reduceBEq, QXFFaC2]
  simp [intss, ints, weatherTo, clr, clrs]
 ·(repeat (first | simp only [↓QA, QB, Nat.reduceLT, reduceIte, Nat.reduceEqDiff, Nat.reduceAdd, Nat.reduceLeDiff, Nat.reduceMul, Nat.reduceBEq, QXFFaC2, L87_0, intss] | refine rd0 rfl ?_))
  refine iteP_intro (fun h => ?_) fun h => ?_
  ·have hn1 : n < v.rain.length := by simpa using h
   have hwn : IntKind.i64.wrap ((n : Int) + 1) = ((n + 1 : Nat) : Int) := wrapN hn1 (by omega)
   have hwl : ∀ j, j ≤ 7 → (weatherTo v.rain j).length ≤ 2187 := fun j hj => Nat.le_trans (weatherTo_len hv.ra j) (Nat.le_trans (Nat.pow_le_pow_right (by omega) hj) (by decide))
   have hsl := hwl n (by omega)
   have hsl2 := hwl (n + 1) (by omega)
   have hin := weather_in (rs := v.rain) n hn
   have hsu := weatherTo_succ hn1
   have hra := hv.ra _ (List.getElem_mem hn1)
   obtain ⟨s, hs⟩ : ∃ s, v.rain[n] = s := ⟨_, rfl⟩
   rw [hs] at hsu hra
   rw [hsu] at hsl2
   obtain ⟨W, hW⟩ : ∃ W, weatherTo v.rain n = W := ⟨_, rfl⟩
   rw [hW] at hsl hsl2 hsu hin
   rw [hW]
   obtain ⟨X, hX⟩ : ∃ X, W.flatMap (ext s) = X := ⟨_, rfl⟩
   rw [hX] at hsl2 hsu
   (repeat (first | simp only [↓QA, QB, Nat.reduceLT, reduceIte, Nat.reduceEqDiff, Nat.reduceAdd, Nat.reduceLeDiff, Nat.reduceMul, Nat.reduceBEq, QXFFaC2] | refine rd0 rfl ?_))
   refine ghostK 5 1 [] rfl ?_
   refine loopE (S := Nat × List (List Int) × Bool) (0, [], false) (fun a => a.1 ≤ W.length ∧ a.2.1 ++ (W.drop a.1).flatMap (ext s) = X) (fun a => W.length - a.1)
    (fun a => [(1, .ptr 0 0), (3, intss W), (4, .int .i64 n), (5, .lit (a.2.1.map ints) false (some 1)), (6, .int .i64 a.1)])
    (fun a => [.cells (farmCells v), .tok 1 a.2.1.length a.2.2]) ⟨Nat.zero_le _, by simpa using hX⟩ (by simp [farmCells, ints]) ?_ fun a ha => ?_
   ·try simp only [TrimX, QE, Nat.reduceLT, reduceIte, Nat.reduceEqDiff, Nat.reduceAdd, Nat.reduceLeDiff, Nat.reduceMul, Nat.reduceBEq, QXFFaC2, intss, ints]
    try simp
   ·obtain ⟨k, acc, ex⟩ := a
    obtain ⟨hk, hacc⟩ := ha
    simp only at hk hacc
    (repeat (first | simp only [↓QA, QB, Nat.reduceLT, reduceIte, Nat.reduceEqDiff, Nat.reduceAdd, Nat.reduceLeDiff, Nat.reduceMul, Nat.reduceBEq, QXFFaC2, L87_2, intss] | refine rd0 rfl ?_))
    refine iteP_intro (fun h2 => ?_) fun h2 => ?_
    ·have hk1 : k < W.length := by simpa using h2
     have hwk := wrapN hk1 (by omega)
     obtain ⟨c, hc⟩ : ∃ c, W[k] = c := ⟨_, rfl⟩
     have hcl := hin _ (List.getElem_mem hk1)
     rw [hc] at hcl
     rw [List.drop_eq_getElem_cons hk1, hc, List.flatMap_cons, ext, waysIn] at hacc
     (repeat (first | simp only [↓QA, QB, Nat.reduceLT, reduceIte, Nat.reduceEqDiff, Nat.reduceAdd, Nat.reduceLeDiff, Nat.reduceMul, Nat.reduceBEq, QXFFaC2, hn1, hs] | refine rd0 rfl ?_))
     have hlo := hra.1
     have hhi := hra.2.2
     refine loopE (S := Int × List (List Int) × Bool × St) (s.lo, acc, ex, []) (fun a => s.lo ≤ a.1 ∧ a.1 ≤ s.hi + 1 ∧ a.2.1 ++ ((numbers a.1 (s.hi + 1 - a.1).toNat).map (fun n => c ++ [n]) ++ (W.drop (k + 1)).flatMap (ext s)) = X) (fun a => (s.hi + 1 - a.1).toNat)
      (fun a => [(1, .ptr 0 0), (3, intss W), (4, .int .i64 n), (5, .lit (a.2.1.map ints) false (some 1)), (6, .int .i64 k), (7, .int .i64 a.1)])
      (fun a => .cells (farmCells v) :: .tok 1 a.2.1.length a.2.2.1 :: a.2.2.2) ⟨Int.le_refl _, by omega, by simpa using hacc⟩ (by simp [farmCells]) ?_ fun a ha => ?_
     ·try simp only [TrimX, QE, Nat.reduceLT, reduceIte, Nat.reduceEqDiff, Nat.reduceAdd, Nat.reduceLeDiff, Nat.reduceMul, Nat.reduceBEq, QXFFaC2, intss, ints]
      try simp
     ·obtain ⟨m, acc, ex, τ⟩ := a
      obtain ⟨hm0, hm1, hacc⟩ := ha
      simp only at hm0 hm1 hacc
      (repeat (first | simp only [↓QA, QB, Nat.reduceLT, reduceIte, Nat.reduceEqDiff, Nat.reduceAdd, Nat.reduceLeDiff, Nat.reduceMul, Nat.reduceBEq, QXFFaC2, L87_4, intss, hn1, hs] | refine rd0 rfl ?_))
      refine iteP_intro (fun h3 => ?_) fun h3 => ?_
      ·have hm2 : m ≤ s.hi := by simpa using h3
       have hwm : IntKind.i64.wrap (m + 1) = m + 1 := wrap64 ⟨by omega, by omega⟩
       rw [ways_step hm2] at hacc
       have hal : acc.length ≤ 2187 := by
        have := congrArg List.length hacc
        simp only [List.length_append] at this
        omega
       have a0 : ∀ (σ : St), appendAV 1 8 σ (.lit [] true none) (.lit (c.map (.int .i64)) false none) = some ((app0 1 σ (c.map (.int .i64))).1, (app0 1 σ (c.map (.int .i64))).2) := fun σ => app0_eq ⟨rfl, allCells_int c, by simp [room]; omega, by simp [room]; omega⟩
       have a1 : ∀ (σ : St), appendAV 1 8 (app0 1 σ (c.map (.int .i64))).2 (app0 1 σ (c.map (.int .i64))).1 (.lit [.int .i64 m] true none) = some (.lit (c.map (.int .i64) ++ [.int .i64 m]) false (some σ.length), σ ++ [.tok 1 (c.length + 1) true]) := fun σ => by
        rw [app0_more ⟨allCells_int c, by simp [allCells, AV.cells, AV.cell], by simp [room]; omega, by simp [room]; omega⟩ (by simp)]
        simp
       have a2 := fun (b0 : ABlk) (τ : St) (t : Nat) => append_at (σ := b0 :: .tok 1 acc.length ex :: τ) (t := 1) (ex := ex) (sz := 1) (b := 24) (xs := acc.map ints) (ys := [.lit (c.map (.int .i64) ++ [.int .i64 m]) false (some t)]) (f := true) (tk := none) ⟨allCells_ints acc, by simp [allCells, AV.cells, AV.cell], by simp [room]; omega, by simp [room]; omega⟩ (by simp) acc.length (by simp) rfl
       (repeat (first | simp only [↓QA, QB, Nat.reduceLT, reduceIte, Nat.reduceEqDiff, Nat.reduceAdd, Nat.reduceLeDiff, Nat.reduceMul, Nat.reduceBEq, QXFFaC2, hk1, hc, ints, a0, a1, a2, hwm] | refine rd0 rfl ?_))
       refine ⟨(m + 1, acc ++ [c ++ [m]], true, τ), ⟨by simp only; omega, by simp only; omega, by rw [← hacc]; simp⟩, by simp only; omega, ?_⟩
       try simp only [TrimX, QE, Nat.reduceLT, reduceIte, Nat.reduceEqDiff, Nat.reduceAdd, Nat.reduceLeDiff, Nat.reduceMul, Nat.reduceBEq, QXFFaC2, hwm, intss, ints, List.map_append, List.map_cons, List.map_nil]
       try simp [okBlk]
      ·have hm2 : ¬ m ≤ s.hi := by simpa using h3
       rw [ways_end hm2] at hacc
       simp only [List.map_nil, List.nil_append] at hacc
       (repeat (first | simp only [↓QA, QB, Nat.reduceLT, reduceIte, Nat.reduceEqDiff, Nat.reduceAdd, Nat.reduceLeDiff, Nat.reduceMul, Nat.reduceBEq, QXFFaC2, hwk] | refine rd0 rfl ?_))
       refine ⟨(k + 1, acc, ex), ⟨by simp only; omega, hacc⟩, by simp only; omega, ?_⟩
       try simp only [TrimX, QE, Nat.reduceLT, reduceIte, Nat.reduceEqDiff, Nat.reduceAdd, Nat.reduceLeDiff, Nat.reduceMul, Nat.reduceBEq, QXFFaC2, hwk, intss, ints]
       try simp [okBlk]
    ·have hk1 : k = W.length := by simp at h2; omega
     rw [hk1, List.drop_length] at hacc
     simp only [List.flatMap_nil, List.append_nil] at hacc
     subst hacc
     (repeat (first | simp only [↓QA, QB, Nat.reduceLT, reduceIte, Nat.reduceEqDiff, Nat.reduceAdd, Nat.reduceLeDiff, Nat.reduceMul, Nat.reduceBEq, QXFFaC2, hwn] | refine rd0 rfl ?_))
     refine ⟨n + 1, by omega, by omega, ?_⟩
     try simp only [TrimX, QE, Nat.reduceLT, reduceIte, Nat.reduceEqDiff, Nat.reduceAdd, Nat.reduceLeDiff, Nat.reduceMul, Nat.reduceBEq, QXFFaC2, hwn, hsu, intss, ints]
     try simp [okBlk]
  ·have hn1 : n = v.rain.length := by simp at h; omega
   subst hn1
   (repeat (first | simp only [↓QA, QB, Nat.reduceLT, reduceIte, Nat.reduceEqDiff, Nat.reduceAdd, Nat.reduceLeDiff, Nat.reduceMul, Nat.reduceBEq, QXFFaC2, intss] | refine rd0 rfl ?_))
   try try simp only [QS, QC, Nat.reduceLT, reduceIte, Nat.reduceEqDiff, Nat.reduceAdd, Nat.reduceLeDiff, Nat.reduceMul, Nat.reduceBEq, QXFFaC2]
end Go.Am.Room
set_option maxRecDepth 4000
namespace Go.Am.Room
def QXFFaC3 := And.intro @encFarm_eq (And.intro @farmCells_eq (And.intro @encPlot_eq (And.intro @encLook_eq (And.intro @encSpan_eq (And.intro @S_mapPlot (And.intro @S_mapLook (@S_mapSpan)))))))
theorem rflowers_ok (v : Farm) (hv : Vd v) (p : Nat) (hp : p < v.plots.length) (rain but : List Int) (hr : ∀ i, 0 ≤ rl rain i ∧ rl rain i ≤ 2) (hrl : rain.length = v.rain.length) (hbu : but.length < 9223372036854775808) :
    Pure T 88 [encFarm v, .int .i64 p, ints rain, ints but] (ints (flowersOf v p rain but)) := by
  refine pure_fn (af := a88) rfl (by simp [a88]) dd ?_
  have hno := hv.nra
  have hnl := hv.nlk
  have hpl := (pl_ok hv hp).1
  obtain ⟨R, hR⟩ : ∃ R, flowersOf v p rain but = R := ⟨_, rfl⟩
  have hR' := hR
  have hRl := (flowers_bd hv hp rain but).1
  rw [hR] at hRl ⊢
  rw [flowersOf, waysIn, flower_at hp] at hR'
  obtain ⟨y, hy⟩ : ∃ y, v.plots[p] = y := ⟨_, rfl⟩
  rw [hy] at hpl hR'
  obtain ⟨L, hL⟩ : ∃ L : Nat, y.flower.lo = (L : Int) := ⟨y.flower.lo.toNat, by omega⟩
  obtain ⟨H, hH⟩ : ∃ H : Nat, y.flower.hi = (H : Int) := ⟨y.flower.hi.toNat, by omega⟩
  rw [hL, hH] at hR' hpl
  (repeat (first | simp only [↓QA, QB, Nat.reduceLT, reduceIte, Nat.reduceEqDiff, Nat.reduceAdd, Nat.reduceLeDiff, Nat.reduceMul, Nat.reduceBEq, QXFFaC3, a88, hp, hy, hL] | refine rd0 rfl ?_))
  refine ghostK 9 1 [] rfl ?_
  refine loopE (S := Nat × List Int × Bool) (L, [], false) (fun a => L ≤ a.1 ∧ a.1 ≤ H + 1 ∧ a.2.1 ++ (numbers (a.1 : Int) ((H : Int) + 1 - a.1).toNat).filter (flowerOk v p rain but) = R) (fun a => H + 1 - a.1)
    (fun a => [(1, .int .i64 p), (2, ints rain), (3, ints but), (4, .ptr 0 0), (9, .lit (a.2.1.map (.int .i64)) false (some 1)), (10, .int .i64 a.1)])
    (fun a => [.cells (farmCells v), .tok 1 a.2.1.length a.2.2]) ⟨Nat.le_refl _, by simp only; omega, by simpa using hR'⟩ (by simp [farmCells, ints]) ?_ fun a ha => ?_
  · try simp only [TrimX, QE, Nat.reduceLT, reduceIte, Nat.reduceEqDiff, Nat.reduceAdd, Nat.reduceLeDiff, Nat.reduceMul, Nat.reduceBEq, QXFFaC3, ints]
    try simp
  · obtain ⟨d, acc, ex⟩ := a
    obtain ⟨hd0, hd1, hacc⟩ := ha
    simp only at hd0 hd1 hacc
    (repeat (first | simp only [↓QA, QB, Nat.reduceLT, reduceIte, Nat.reduceEqDiff, Nat.reduceAdd, Nat.reduceLeDiff, Nat.reduceMul, Nat.reduceBEq, QXFFaC3, L88_0, hp, hy, hH] | refine rd0 rfl ?_))
    refine iteP_intro (fun h => ?_) fun h => ?_
    · have hd2 : d ≤ H := by have h0 : (d : Int) ≤ (H : Int) := by simpa using h
                             omega
      have hw := wrapN (show d < H + 1 by omega) (by omega)
      rw [ways_step (show (d : Int) ≤ (H : Int) by omega), List.filter_cons, show (d : Int) + 1 = ((d + 1 : Nat) : Int) by omega] at hacc
      have hal : acc.length ≤ 7 := by
        have := congrArg List.length hacc
        simp only [List.length_append] at this
        omega
      (repeat (first | simp only [↓QA, QB, Nat.reduceLT, reduceIte, Nat.reduceEqDiff, Nat.reduceAdd, Nat.reduceLeDiff, Nat.reduceMul, Nat.reduceBEq, QXFFaC3] | refine rd0 rfl ?_))
      refine loopE (S := Nat) 0 (fun k => k ≤ v.looks.length) (fun k => v.looks.length - k)
        (fun k => [(1, .int .i64 p), (2, ints rain), (3, ints but), (4, .ptr 0 0), (9, .lit (acc.map (.int .i64)) false (some 1)), (10, .int .i64 d), (11, .bool (flowerUpTo v p rain but d k)), (12, .int .i64 k)])
        (fun k => [.cells (farmCells v), .tok 1 acc.length ex]) (Nat.zero_le _) (by simp [farmCells, ints]) ?_ fun k hk => ?_
      · try simp only [TrimX, QE, Nat.reduceLT, reduceIte, Nat.reduceEqDiff, Nat.reduceAdd, Nat.reduceLeDiff, Nat.reduceMul, Nat.reduceBEq, QXFFaC3, ints]
        try simp [flowerUpTo]
      · (repeat (first | simp only [↓QA, QB, Nat.reduceLT, reduceIte, Nat.reduceEqDiff, Nat.reduceAdd, Nat.reduceLeDiff, Nat.reduceMul, Nat.reduceBEq, QXFFaC3, L88_2] | refine rd0 rfl ?_))
        refine iteP_intro (fun h2 => ?_) fun h2 => ?_
        · have hk1 : k < v.looks.length := by simpa using h2
          have hwk := wrapN hk1 (by omega)
          have hsu := flowerUpTo_succ hk1 p rain but d
          have hlx := hv.lk _ (List.getElem_mem hk1)
          obtain ⟨x, hx⟩ : ∃ x, v.looks[k] = x := ⟨_, rfl⟩
          rw [hx] at hsu hlx
          simp only [lookOk] at hsu
          have hxl : decide (x.plot = (p : Int)) = (x.plot == (p : Int)) := by rw [Bool.eq_iff_iff]; simp
          rw [hxl] at hsu
          obtain ⟨D, hD⟩ : ∃ D : Nat, x.day = (D : Int) := ⟨x.day.toNat, by omega⟩
          have hpt := points_ok rain d D hr (by omega) (by omega)
          have hpe : ptsL rain d x.day = pts (rl rain) d D := by rw [ptsL, hD, Int.toNat_natCast, Int.toNat_natCast]
          rw [hpe] at hsu
          obtain ⟨q, hq⟩ : ∃ q, flowerUpTo v p rain but d k = q := ⟨_, rfl⟩
          rw [hq] at hsu
          rw [hq]
          (repeat (first | simp only [↓QA, QB, Nat.reduceLT, reduceIte, Nat.reduceEqDiff, Nat.reduceAdd, Nat.reduceLeDiff, Nat.reduceMul, Nat.reduceBEq, QXFFaC3, hk1, hx] | refine rd0 rfl ?_))
          cases hl : (x.plot == (p : Int))
          · rw [hl] at hsu
            simp only [Bool.not_false, Bool.true_or, Bool.and_true] at hsu
            (repeat (first | simp only [↓QA, QB, Nat.reduceLT, reduceIte, Nat.reduceEqDiff, Nat.reduceAdd, Nat.reduceLeDiff, Nat.reduceMul, Nat.reduceBEq, QXFFaC3, hl, hwk] | refine rd0 rfl ?_))
            refine ⟨k + 1, by omega, by omega, ?_⟩
            try simp only [TrimX, QE, Nat.reduceLT, reduceIte, Nat.reduceEqDiff, Nat.reduceAdd, Nat.reduceLeDiff, Nat.reduceMul, Nat.reduceBEq, QXFFaC3, hwk, hsu, ints]
            try simp [okBlk]
          · rw [hl] at hsu
            simp only [Bool.not_true, Bool.false_or] at hsu
            (repeat (first | simp only [↓QA, QB, Nat.reduceLT, reduceIte, Nat.reduceEqDiff, Nat.reduceAdd, Nat.reduceLeDiff, Nat.reduceMul, Nat.reduceBEq, QXFFaC3, hl] | refine rd0 rfl ?_))
            ((first | refine callK_d (has_ok but (k : Int) hbu) rfl dd ?_ | refine callD_d (has_ok but (k : Int) hbu) rfl dd ?_); (repeat (first | simp only [↓QA, QB, Nat.reduceLT, reduceIte, Nat.reduceEqDiff, Nat.reduceAdd, Nat.reduceLeDiff, Nat.reduceMul, Nat.reduceBEq, QXFFaC3] | refine rd0 rfl ?_)))
            cases hb : but.contains (k : Int)
            · rw [hb, Bool.false_or] at hsu
              (repeat (first | simp only [↓QA, QB, Nat.reduceLT, reduceIte, Nat.reduceEqDiff, Nat.reduceAdd, Nat.reduceLeDiff, Nat.reduceMul, Nat.reduceBEq, QXFFaC3] | refine rd0 rfl ?_))
              cases q
              · rw [Bool.false_and] at hsu
                (repeat (first | simp only [↓QA, QB, Nat.reduceLT, reduceIte, Nat.reduceEqDiff, Nat.reduceAdd, Nat.reduceLeDiff, Nat.reduceMul, Nat.reduceBEq, QXFFaC3, hwk] | refine rd0 rfl ?_))
                refine ⟨k + 1, by omega, by omega, ?_⟩
                try simp only [TrimX, QE, Nat.reduceLT, reduceIte, Nat.reduceEqDiff, Nat.reduceAdd, Nat.reduceLeDiff, Nat.reduceMul, Nat.reduceBEq, QXFFaC3, hwk, hsu, ints]
                try simp [okBlk]
              · rw [Bool.true_and] at hsu
                (repeat (first | simp only [↓QA, QB, Nat.reduceLT, reduceIte, Nat.reduceEqDiff, Nat.reduceAdd, Nat.reduceLeDiff, Nat.reduceMul, Nat.reduceBEq, QXFFaC3, hk1, hx, hD] | refine rd0 rfl ?_))
                ((first | refine callK_d (hpt) rfl dd ?_ | refine callD_d (hpt) rfl dd ?_); (repeat (first | simp only [↓QA, QB, Nat.reduceLT, reduceIte, Nat.reduceEqDiff, Nat.reduceAdd, Nat.reduceLeDiff, Nat.reduceMul, Nat.reduceBEq, QXFFaC3, hk1, hx, hwk, hD] | refine rd0 rfl ?_)))
                refine ⟨k + 1, by omega, by omega, ?_⟩
                try simp only [TrimX, QE, Nat.reduceLT, reduceIte, Nat.reduceEqDiff, Nat.reduceAdd, Nat.reduceLeDiff, Nat.reduceMul, Nat.reduceBEq, QXFFaC3, hwk, hsu, ints]
                try simp [okBlk]
            · rw [hb, Bool.true_or, Bool.and_true] at hsu
              (repeat (first | simp only [↓QA, QB, Nat.reduceLT, reduceIte, Nat.reduceEqDiff, Nat.reduceAdd, Nat.reduceLeDiff, Nat.reduceMul, Nat.reduceBEq, QXFFaC3, hwk] | refine rd0 rfl ?_))
              refine ⟨k + 1, by omega, by omega, ?_⟩
              try simp only [TrimX, QE, Nat.reduceLT, reduceIte, Nat.reduceEqDiff, Nat.reduceAdd, Nat.reduceLeDiff, Nat.reduceMul, Nat.reduceBEq, QXFFaC3, hwk, hsu, ints]
              try simp [okBlk]
        · have hk1 : k = v.looks.length := by simp at h2; omega
          subst hk1
          have hto : flowerUpTo v p rain but d v.looks.length = flowerOk v p rain but d := rfl
          rw [hto]
          cases hc : flowerOk v p rain but d
          · rw [hc] at hacc
            simp only [Bool.false_eq_true, if_false] at hacc
            (repeat (first | simp only [↓QA, QB, Nat.reduceLT, reduceIte, Nat.reduceEqDiff, Nat.reduceAdd, Nat.reduceLeDiff, Nat.reduceMul, Nat.reduceBEq, QXFFaC3, hw] | refine rd0 rfl ?_))
            refine ⟨(d + 1, acc, ex), ⟨by simp only; omega, by simp only; omega, hacc⟩, by simp only; omega, ?_⟩
            try simp only [TrimX, QE, Nat.reduceLT, reduceIte, Nat.reduceEqDiff, Nat.reduceAdd, Nat.reduceLeDiff, Nat.reduceMul, Nat.reduceBEq, QXFFaC3, hw, ints]
            try simp [okBlk]
          · rw [hc] at hacc
            simp only [if_true] at hacc
            have hap := fun (b0 : ABlk) (τ : St) => append_intT (σ := b0 :: .tok 1 acc.length ex :: τ) (l := acc) (a := (d : Int)) (ex := ex) (t := 1) (by omega) rfl
            (repeat (first | simp only [↓QA, QB, Nat.reduceLT, reduceIte, Nat.reduceEqDiff, Nat.reduceAdd, Nat.reduceLeDiff, Nat.reduceMul, Nat.reduceBEq, QXFFaC3, hw, hap] | refine rd0 rfl ?_))
            refine ⟨(d + 1, acc ++ [(d : Int)], true), ⟨by simp only; omega, by simp only; omega, by rw [← hacc]; simp⟩, by simp only; omega, ?_⟩
            try simp only [TrimX, QE, Nat.reduceLT, reduceIte, Nat.reduceEqDiff, Nat.reduceAdd, Nat.reduceLeDiff, Nat.reduceMul, Nat.reduceBEq, QXFFaC3, hw, S_mapI, ints, List.map_append, List.map_cons, List.map_nil]
            try simp [okBlk]
    · have hd2 : d = H + 1 := by
        have h0 : ¬ (d : Int) ≤ (H : Int) := by simpa using h
        omega
      rw [ways_end (show ¬ (d : Int) ≤ (H : Int) by omega)] at hacc
      simp only [List.filter_nil, List.append_nil] at hacc
      subst hacc
      (repeat (first | simp only [↓QA, QB, Nat.reduceLT, reduceIte, Nat.reduceEqDiff, Nat.reduceAdd, Nat.reduceLeDiff, Nat.reduceMul, Nat.reduceBEq, QXFFaC3, ints] | refine rd0 rfl ?_))
      try try simp only [QS, QC, Nat.reduceLT, reduceIte, Nat.reduceEqDiff, Nat.reduceAdd, Nat.reduceLeDiff, Nat.reduceMul, Nat.reduceBEq, QXFFaC3]
end Go.Am.Room
set_option maxRecDepth 4000
namespace Go.Am.Room
def QXFFaC4 := And.intro @encFarm_eq (And.intro @farmCells_eq (And.intro @encPlot_eq (And.intro @encLook_eq (And.intro @encSpan_eq (And.intro @S_mapPlot (And.intro @S_mapLook (And.intro @S_mapSpan (And.intro @T_sapp (And.intro @T_sapp0 (@S_mapT))))))))))
theorem flTo_succ (v : Farm) (rain but : List Int) (k : Nat) : flTo v rain but (k + 1) = flTo v rain but k ++ [flowersOf v k rain but] := by simp [flTo, List.range_succ]
theorem allFl_succ (v : Farm) (rain but : List Int) (k : Nat) : allFl v rain but (k + 1) = (allFl v rain but k && !(flowersOf v k rain but).isEmpty) := by simp [allFl, flTo_succ, List.all_append]
theorem allFl_le {v : Farm} {rain but : List Int} {k : Nat} (h : allFl v rain but k = false) : ∀ j, k ≤ j → allFl v rain but j = false := by
  intro j hj
  induction j with
  | zero => have : k = 0 := by omega
            subst this; exact h
  | succ j ih =>
    by_cases hk : k = j + 1
    · subst hk; exact h
    · rw [allFl_succ, ih (by omega), Bool.false_and]
theorem truths_in (v : Farm) (hv : Vd v) (but : List Int) (hbu : but.length < 9223372036854775808) (W : List (List Int)) (bl : List Int) (hbl : bl.length = v.rain.length) (hr : ∀ i, 0 ≤ rl bl i ∧ rl bl i ≤ 2) (k : Nat) (hk : k < W.length) (hkb : W[k] = bl) (acc : List Truth) (ex : Bool) (e : Env) (K : KJ)
  (e1 : Env.get e 1 = ints but) (e2 : Env.get e 2 = .ptr 0 0) (e5 : Env.get e 5 = intss W) (e6 : Env.get e 6 = .lit (acc.map encTruth) false (some 1)) (e7 : Env.get e 7 = .int .i64 k) (e8 : Env.get e 8 = .ptr 2 0) (e9 : Env.get e 9 = .bool true) (e10 : Env.get e 10 = .int .i64 0)
  (hK : ∀ e' xs f tk τ, (∀ t, tk = some t → 2 < t) → (allFl v bl but v.plots.length = true → xs = (flTo v bl but v.plots.length).map ints) → Env.get e' 1 = ints but → Env.get e' 2 = .ptr 0 0 → Env.get e' 5 = intss W → Env.get e' 6 = .lit (acc.map encTruth) false (some 1) → Env.get e' 7 = .int .i64 k → Env.get e' 8 = .ptr 2 0 → Env.get e' 9 = .bool (allFl v bl but v.plots.length) →
   K (some (.exit 2)) e' (.cells (farmCells v) :: .tok 2 acc.length ex :: .cells [.lit (bl.map (.int .i64)) false none, .lit xs f tk] :: τ)) :
  rK (K := ⟨K⟩) T (.loop L49_2) e [.cells (farmCells v), .tok 2 acc.length ex, .cells [.lit (bl.map (.int .i64)) false none, .lit [] true none]] := by
 have hno := hv.npl
 refine loopE (S := Nat × Bool × Option Nat × St) (0, true, none, []) (fun a => a.1 ≤ v.plots.length ∧ ∀ t, a.2.2.1 = some t → 2 < t ∧ t < 3 + a.2.2.2.length) (fun a => v.plots.length - a.1)
  (fun a => [(1, ints but), (2, .ptr 0 0), (5, intss W), (6, .lit (acc.map encTruth) false (some 1)), (7, .int .i64 k), (8, .ptr 2 0), (9, .bool (allFl v bl but a.1)), (10, .int .i64 a.1)])
  (fun a => .cells (farmCells v) :: .tok 2 acc.length ex :: .cells [.lit (bl.map (.int .i64)) false none, .lit ((flTo v bl but a.1).map ints) a.2.1 a.2.2.1] :: a.2.2.2) ⟨Nat.zero_le _, fun t h => by cases h⟩ rfl ?_ fun a ha => ?_
 ·try simp only [TrimX, QE, Nat.reduceLT, reduceIte, Nat.reduceEqDiff, Nat.reduceAdd, Nat.reduceLeDiff, Nat.reduceMul, Nat.reduceBEq, QXFFaC4, e1, e2, e5, e6, e7, e8, e9, e10]
  try simp [allFl, flTo]
 ·obtain ⟨h, f, tk, τ⟩ := a
  obtain ⟨hh, htk⟩ := ha
  simp only at hh htk
  by_cases hh1 : h < v.plots.length
  ·have g : decide ((h : Int) < (v.plots.length : Int)) = true := by simp; omega
   have hw := wrapN hh1 (by omega)
   have hsucc := flTo_succ v bl but h
   have hall := allFl_succ v bl but h
   cases hc : allFl v bl but h
   ·have hfull := allFl_le hc v.plots.length hh
    (repeat (first | simp only [↓QA, QB, Nat.reduceLT, reduceIte, Nat.reduceEqDiff, Nat.reduceAdd, Nat.reduceLeDiff, Nat.reduceMul, Nat.reduceBEq, QXFFaC4, L49_2, g] | refine rd0 rfl ?_))
    have hk0 := hK
    rw [farmCells_eq, hfull] at hk0
    refine hk0 _ _ f tk τ (fun t ht => (htk t ht).1) (fun h => by cases h) ?_ ?_ ?_ ?_ ?_ ?_ ?_
    all_goals try simp only [TrimX, QE, Nat.reduceLT, reduceIte, Nat.reduceEqDiff, Nat.reduceAdd, Nat.reduceLeDiff, Nat.reduceMul, Nat.reduceBEq, QXFFaC4]
   ·rw [hc, Bool.true_and] at hall
    have hll := (flowers_bd hv hh1 bl but).1
    have hst := rflowers_ok v hv h hh1 bl but hr hbl hbu
    obtain ⟨l, hl⟩ : ∃ l, flowersOf v h bl but = l := ⟨_, rfl⟩
    rw [hl] at hst hsucc hall hll
    have hlenp : decide ((0 : Int) < (l.length : Int)) = !l.isEmpty := by cases l <;> simp
    obtain ⟨xs, hxs⟩ : ∃ xs, (flTo v bl but h).map ints = xs := ⟨_, rfl⟩
    have hxl : xs.length ≤ 4 := by rw [← hxs]; simp [flTo]; omega
    have hxa : allCells 1 xs = true := by rw [← hxs]; exact allCells_ints _
    have a0 : ∀ (σ : St), appendAV 1 24 σ (.lit [] true none) (.lit xs f tk) = some ((app0 1 σ xs).1, (app0 1 σ xs).2) := fun σ => app0_eq ⟨rfl, hxa, by simp [room]; omega, by simp [room]; omega⟩
    have a1 : ∀ (σ : St), appendAV 1 24 (app0 1 σ xs).2 (app0 1 σ xs).1 (.lit [.lit (l.map (.int .i64)) false none] true none) = some (.lit (xs ++ [.lit (l.map (.int .i64)) false none]) false (some σ.length), σ ++ [.tok 1 (xs.length + 1) true]) := fun σ => by
     rw [app0_more ⟨hxa, by simp [allCells, AV.cells, AV.cell], by simp [room]; omega, by simp [room]; omega⟩ (by simp)]
     simp
    simp only [hxs]
    (repeat (first | simp only [↓QA, QB, Nat.reduceLT, reduceIte, Nat.reduceEqDiff, Nat.reduceAdd, Nat.reduceLeDiff, Nat.reduceMul, Nat.reduceBEq, QXFFaC4, L49_2, g, hk, hkb, intss, ints] | refine rd0 rfl ?_))
    ((first | refine callK_d (hst) rfl dd ?_ | refine callD_d (hst) rfl dd ?_); (repeat (first | simp only [↓QA, QB, Nat.reduceLT, reduceIte, Nat.reduceEqDiff, Nat.reduceAdd, Nat.reduceLeDiff, Nat.reduceMul, Nat.reduceBEq, QXFFaC4, hlenp, a0, a1, hk, hkb, intss, ints] | refine rd0 rfl ?_)))
    refine ⟨(h + 1, false, some (τ.length + 1 + 1 + 1), τ ++ [.tok 1 (xs.length + 1) true]), ⟨by simp only; omega, fun t ht => by simp only [Option.some.injEq] at ht; subst ht; simp only [List.length_append, List.length_cons, List.length_nil]; omega⟩, by simp only; omega, ?_⟩
    rw [hsucc, hall, List.map_append, hxs]
    try simp only [TrimX, QE, Nat.reduceLT, reduceIte, Nat.reduceEqDiff, Nat.reduceAdd, Nat.reduceLeDiff, Nat.reduceMul, Nat.reduceBEq, QXFFaC4, hw, List.map_append, List.map_cons, List.map_nil, List.length_append, intss, ints]
    try simp [okBlk, okVs, okV]
    exact ⟨ok_datas (datas_map (data_int .i64) bl) _, okVs_app (ok_datas (by rw [← hxs]; exact datas_map data_ints _) _) (ok_datas (datas_cons (data_ints l) datas_nil) _)⟩
  ·have g : decide ((h : Int) < (v.plots.length : Int)) = false := by simp; omega
   obtain rfl : h = v.plots.length := by omega
   (repeat (first | simp only [↓QA, QB, Nat.reduceLT, reduceIte, Nat.reduceEqDiff, Nat.reduceAdd, Nat.reduceLeDiff, Nat.reduceMul, Nat.reduceBEq, QXFFaC4, L49_2, g] | refine rd0 rfl ?_))
   have hk0 := hK
   rw [farmCells_eq] at hk0
   refine hk0 _ _ f tk τ (fun t ht => (htk t ht).1) (fun _ => rfl) ?_ ?_ ?_ ?_ ?_ ?_ ?_
   all_goals try simp only [TrimX, QE, Nat.reduceLT, reduceIte, Nat.reduceEqDiff, Nat.reduceAdd, Nat.reduceLeDiff, Nat.reduceMul, Nat.reduceBEq, QXFFaC4]
theorem allCells_truths (l : List Truth) : allCells 2 (l.map encTruth) = true := L_allM 2 encTruth l fun x => by simp [cellsOk, encTruth, AV.cells, AV.cell, ints, intss]
theorem rtruths_ok (v : Farm) (hv : Vd v) (but : List Int) (hbu : but.length < 9223372036854775808) : Pure T 49 [encFarm v, ints but] (truthsAV (truths v but)) := by
 refine pure_fn (af := a49) rfl (by simp [a49]) dd ?_
 have hwl := weather_len hv
 have hwm := fun c => (weather_mem (v := v) (c := c)).1
 obtain ⟨R, hR⟩ : ∃ R, truths v but = R := ⟨_, rfl⟩
 have hRl := truths_len hv but
 have hR' : [] ++ ((weather v).drop 0).filterMap (truthOf v but) = R := hR
 rw [hR] at hRl ⊢
 have hrw := rweather_ok v hv
 obtain ⟨W, hW⟩ : ∃ W, weather v = W := ⟨_, rfl⟩
 rw [hW] at hwl hR' hrw
 simp only [hW] at hwm
 (repeat (first | simp only [↓QA, QB, Nat.reduceLT, reduceIte, Nat.reduceEqDiff, Nat.reduceAdd, Nat.reduceLeDiff, Nat.reduceMul, Nat.reduceBEq, QXFFaC4, a49] | refine rd0 rfl ?_))
 ((first | refine callK_d (hrw) rfl dd ?_ | refine callD_d (hrw) rfl dd ?_); (repeat (first | simp only [↓QA, QB, Nat.reduceLT, reduceIte, Nat.reduceEqDiff, Nat.reduceAdd, Nat.reduceLeDiff, Nat.reduceMul, Nat.reduceBEq, QXFFaC4] | refine rd0 rfl ?_)))
 refine ghostK 6 2 [] rfl ?_
 refine loopE (S := Nat × List Truth × Bool) (0, [], false) (fun a => a.1 ≤ W.length ∧ a.2.1 ++ (W.drop a.1).filterMap (truthOf v but) = R) (fun a => W.length - a.1)
  (fun a => [(1, ints but), (2, .ptr 0 0), (5, intss W), (6, .lit (a.2.1.map encTruth) false (some 1)), (7, .int .i64 a.1)])
  (fun a => [.cells (farmCells v), .tok 2 a.2.1.length a.2.2]) ⟨Nat.zero_le _, hR'⟩ (by simp [farmCells, ints]) ?_ fun a ha => ?_
 ·try simp only [TrimX, QE, Nat.reduceLT, reduceIte, Nat.reduceEqDiff, Nat.reduceAdd, Nat.reduceLeDiff, Nat.reduceMul, Nat.reduceBEq, QXFFaC4]
  try simp
 ·obtain ⟨k, acc, ex⟩ := a
  obtain ⟨hk, hacc⟩ := ha
  simp only at hk hacc
  (repeat (first | simp only [↓QA, QB, Nat.reduceLT, reduceIte, Nat.reduceEqDiff, Nat.reduceAdd, Nat.reduceLeDiff, Nat.reduceMul, Nat.reduceBEq, QXFFaC4, L49_0, intss] | refine rd0 rfl ?_))
  refine iteP_intro (fun hd => ?_) fun hd => ?_
  ·have hk1 : k < W.length := by simpa using hd
   have hw := wrapN hk1 (by omega)
   have hro := hwm _ (List.getElem_mem hk1)
   obtain ⟨bl, hbl⟩ : ∃ bl, W[k] = bl := ⟨_, rfl⟩
   rw [hbl] at hro
   rw [List.drop_eq_getElem_cons hk1, hbl, List.filterMap_cons] at hacc
   have hal : acc.length ≤ 2187 := by
    have := congrArg List.length hacc
    simp only [List.length_append] at this
    omega
   have hin := truths_in v hv but hbu W bl hro.len (rain_bd hv hro) k hk1 hbl acc ex
   rw [farmCells_eq] at hin
   have hap := fun (y : AV) (hy : allCells 2 [y] = true) (τ : St) => append_at (σ := .cells (farmCells v) :: .tok 2 acc.length ex :: τ) (t := 1) (ex := ex) (sz := 2) (b := 48) (xs := acc.map encTruth) (ys := [y]) (f := true) (tk := none) ⟨allCells_truths acc, hy, by simp [room]; omega, by simp [room]; omega⟩ (by simp) acc.length (by simp) rfl
   rw [farmCells_eq] at hap
   have hap2 := fun (l : List AV) (f : Bool) (tk : Option Nat) => hap (.agg [.lit (bl.map (.int .i64)) false none, .lit l f tk]) rfl
   (repeat (first | simp only [↓QA, QB, Nat.reduceLT, reduceIte, Nat.reduceEqDiff, Nat.reduceAdd, Nat.reduceLeDiff, Nat.reduceMul, Nat.reduceBEq, QXFFaC4, hk1, hbl, ints, intss] | refine rd0 rfl ?_))
   refine hin _ _ ?_ ?_ ?_ ?_ ?_ ?_ ?_ ?_ ?_
   all_goals try try simp only [TrimX, QE, Nat.reduceLT, reduceIte, Nat.reduceEqDiff, Nat.reduceAdd, Nat.reduceLeDiff, Nat.reduceMul, Nat.reduceBEq, QXFFaC4, intss, ints]
   intro e' xs f tk τ htk hxs q1 q2 q5 q6 q7 q8 q9
   cases hall : allFl v bl but v.plots.length
   ·rw [truthOf_eq, hall] at hacc
    rw [hall] at q9
    (repeat (first | simp only [↓QA, QB, Nat.reduceLT, reduceIte, Nat.reduceEqDiff, Nat.reduceAdd, Nat.reduceLeDiff, Nat.reduceMul, Nat.reduceBEq, QXFFaC4, q1, q2, q5, q6, q7, q8, q9, ints, intss] | refine rd0 rfl ?_))
    refine ⟨(k + 1, acc, ex), ⟨by simp only; omega, by simpa using hacc⟩, by simp only; omega, ?_⟩
    try simp only [TrimX, QE, Nat.reduceLT, reduceIte, Nat.reduceEqDiff, Nat.reduceAdd, Nat.reduceLeDiff, Nat.reduceMul, Nat.reduceBEq, QXFFaC4, q1, q2, q5, q6, q7, q8, q9, hw, ints, intss]
    try simp [okBlk]
   ·rw [truthOf_eq, hall] at hacc
    rw [hall] at q9
    rw [hxs hall]
    (repeat (first | simp only [↓QA, QB, Nat.reduceLT, reduceIte, Nat.reduceEqDiff, Nat.reduceAdd, Nat.reduceLeDiff, Nat.reduceMul, Nat.reduceBEq, QXFFaC4, q1, q2, q5, q6, q7, q8, q9, ints, intss, hap2] | refine rd0 rfl ?_))
    refine ⟨(k + 1, acc ++ [⟨bl, flTo v bl but v.plots.length⟩], true), ⟨by simp only; omega, by simpa using hacc⟩, by simp only; omega, ?_⟩
    cases tk with
    | none =>
     try simp only [TrimX, QE, Nat.reduceLT, reduceIte, Nat.reduceEqDiff, Nat.reduceAdd, Nat.reduceLeDiff, Nat.reduceMul, Nat.reduceBEq, QXFFaC4, q1, q2, q5, q6, q7, q8, q9, hw, ints, intss, List.map_append, List.map_cons, List.map_nil, List.length_append, encTruth_eq, Bool.and_false]
     try simp [okBlk]
    | some t =>
     have h2 := htk t rfl
     try simp only [TrimX, QE, Nat.reduceLT, reduceIte, Nat.reduceEqDiff, Nat.reduceAdd, Nat.reduceLeDiff, Nat.reduceMul, Nat.reduceBEq, QXFFaC4, q1, q2, q5, q6, q7, q8, q9, hw, ints, intss, List.map_append, List.map_cons, List.map_nil, List.length_append, encTruth_eq, Bool.and_false, Nat.not_lt.2 (Nat.le_of_lt h2)]
     try simp [okBlk]
  ·have hk1 : k = W.length := by simp at hd; omega
   rw [hk1, List.drop_length] at hacc
   simp only [List.filterMap_nil, List.append_nil] at hacc
   subst hacc
   (repeat (first | simp only [↓QA, QB, Nat.reduceLT, reduceIte, Nat.reduceEqDiff, Nat.reduceAdd, Nat.reduceLeDiff, Nat.reduceMul, Nat.reduceBEq, QXFFaC4, truthsAV] | refine rd0 rfl ?_))
   try try simp only [QS, QC, Nat.reduceLT, reduceIte, Nat.reduceEqDiff, Nat.reduceAdd, Nat.reduceLeDiff, Nat.reduceMul, Nat.reduceBEq, QXFFaC4]
end Go.Am.Room
set_option maxRecDepth 4000
namespace Go.Am.Room
def QXFFaC5 := And.intro @encFarm_eq (And.intro @farmCells_eq (And.intro @encPlot_eq (And.intro @encLook_eq (And.intro @encSpan_eq (And.intro @S_mapPlot (And.intro @S_mapLook (And.intro @S_mapSpan (And.intro @T_sapp (And.intro @T_sapp0 (And.intro @S_mapT (And.intro @truthsAV_eq (@encTruth_eq))))))))))))
theorem farm_nil (v : Farm) : clrs [encFarm v, .lit [] true none] = [encFarm v, ints []] := by simp [clrs, (data_farm v).2, clr, ints]
theorem farm_nil_ok (v : Farm) : okVs 0 [encFarm v, .lit [] true none] := ⟨(data_farm v).1, by simp [okV, okVs], trivial⟩
def knownOf (v : Farm) (e : Int) : List Truth := if errKnown v e = 0 then truths v [] else []
def encTE (l : List Truth) (e : Int) : AV := .tuple [truthsAV l, .int .i64 e]
theorem rknown_ok (v : Farm) (e : Int) (hv : e = 0 → Vd v) : Pure T 73 [encFarm v, .int .i64 e] (encTE (knownOf v e) (errKnown v e)) := by
 refine pure_fn (af := a73) rfl (by simp [a73]) dd ?_
 (repeat (first | simp only [↓QA, QB, Nat.reduceLT, reduceIte, Nat.reduceEqDiff, Nat.reduceAdd, Nat.reduceLeDiff, Nat.reduceMul, Nat.reduceBEq, QXFFaC5, a73] | refine rd0 rfl ?_))
 cases h0 : (e == 0)
 ·have h0' : e ≠ 0 := by simpa using h0
  have he : errKnown v e = e := by simp [errKnown, h0']
  have hk : knownOf v e = [] := by simp [knownOf, he, h0']
  rw [he, hk]
  (repeat (first | simp only [↓QA, QB, Nat.reduceLT, reduceIte, Nat.reduceEqDiff, Nat.reduceAdd, Nat.reduceLeDiff, Nat.reduceMul, Nat.reduceBEq, QXFFaC5, h0, encTE, truthsAV_eq, List.map_nil] | refine rd0 rfl ?_))
  try rfl
 ·have h0' : e = 0 := by simpa using h0
  subst h0'
  have hl := truths_len (hv rfl) []
  (repeat (first | simp only [↓QA, QB, Nat.reduceLT, reduceIte, Nat.reduceEqDiff, Nat.reduceAdd, Nat.reduceLeDiff, Nat.reduceMul, Nat.reduceBEq, QXFFaC5] | refine rd0 rfl ?_))
  refine callK_v (rtruths_ok v (hv rfl) [] (by simp)) (farm_nil v) (farm_nil_ok v) ?_
  obtain ⟨l, hle⟩ : ∃ l, truths v [] = l := ⟨_, rfl⟩
  rw [hle] at hl ⊢
  cases hg : ((l.length : Int) == 0)
  ·have hg' : l ≠ [] := by rintro rfl; simp at hg
   have he : errKnown v 0 = 0 := by simp [errKnown, hle, hg']
   have hk : knownOf v 0 = l := by simp [knownOf, he, hle]
   rw [he, hk]
   (repeat (first | simp only [↓QA, QB, Nat.reduceLT, reduceIte, Nat.reduceEqDiff, Nat.reduceAdd, Nat.reduceLeDiff, Nat.reduceMul, Nat.reduceBEq, QXFFaC5, encTE, truthsAV_eq, hg] | refine rd0 rfl ?_))
   try rfl
  ·have hg' : l = [] := by simp at hg; exact hg
   have he : errKnown v 0 = 8 := by simp [errKnown, hle, hg']
   have hk : knownOf v 0 = [] := by simp [knownOf, he]
   rw [he, hk]
   (repeat (first | simp only [↓QA, QB, Nat.reduceLT, reduceIte, Nat.reduceEqDiff, Nat.reduceAdd, Nat.reduceLeDiff, Nat.reduceMul, Nat.reduceBEq, QXFFaC5, encTE, truthsAV_eq, hg, List.map_nil] | refine rd0 rfl ?_))
   try rfl
theorem rasked_ok (v : Farm) (n : Int) (hf : Fits v) : Pure T 75 [encFarm v, .int .i64 n] (.int .i64 (errAsk v n)) := by
 refine pure_fn (af := a75) rfl (by simp [a75]) dd ?_
 have hfp := hf.plots
 have hws : IntKind.i64.wrap ((v.plots.length : Int) - 1) = (v.plots.length : Int) - 1 := wrap64 ⟨by omega, by omega⟩
 (repeat (first | simp only [↓QA, QB, Nat.reduceLT, reduceIte, Nat.reduceEqDiff, Nat.reduceAdd, Nat.reduceLeDiff, Nat.reduceMul, Nat.reduceBEq, QXFFaC5, a75] | refine rd0 rfl ?_))
 ((first | refine callK_d (refcheck_ok v hf) rfl dd ?_ | refine callD_d (refcheck_ok v hf) rfl dd ?_); (repeat (first | simp only [↓QA, QB, Nat.reduceLT, reduceIte, Nat.reduceEqDiff, Nat.reduceAdd, Nat.reduceLeDiff, Nat.reduceMul, Nat.reduceBEq, QXFFaC5, enc3] | refine rd0 rfl ?_)))
 cases h0 : ((check v).2.2 == 0)
 ·have h0' : (check v).2.2 ≠ 0 := by simpa using h0
  (repeat (first | simp only [↓QA, QB, Nat.reduceLT, reduceIte, Nat.reduceEqDiff, Nat.reduceAdd, Nat.reduceLeDiff, Nat.reduceMul, Nat.reduceBEq, QXFFaC5, h0, errAsk, h0'] | refine rd0 rfl ?_))
 ·have h0' : (check v).2.2 = 0 := by simpa using h0
  (repeat (first | simp only [↓QA, QB, Nat.reduceLT, reduceIte, Nat.reduceEqDiff, Nat.reduceAdd, Nat.reduceLeDiff, Nat.reduceMul, Nat.reduceBEq, QXFFaC5, h0, hws] | refine rd0 rfl ?_))
  ((first | refine callK_d (in_ok _ _ _) rfl dd ?_ | refine callD_d (in_ok _ _ _) rfl dd ?_); (repeat (first | simp only [↓QA, QB, Nat.reduceLT, reduceIte, Nat.reduceEqDiff, Nat.reduceAdd, Nat.reduceLeDiff, Nat.reduceMul, Nat.reduceBEq, QXFFaC5, h0] | refine rd0 rfl ?_)))
  cases hs : inR n 0 ((v.plots.length : Int) - 1)
  all_goals
   (repeat (first | simp only [↓QA, QB, Nat.reduceLT, reduceIte, Nat.reduceEqDiff, Nat.reduceAdd, Nat.reduceLeDiff, Nat.reduceMul, Nat.reduceBEq, QXFFaC5, errAsk, hs, h0', reduceCtorEq, Bool.false_eq_true] | refine rd0 rfl ?_))
theorem rwithin_ok (n most e : Int) : Pure T 74 [.int .i64 n, .int .i64 most, .int .i64 e] (.int .i64 (within n most e)) := by
 refine pure_fn (af := a74) rfl (by simp [a74]) dd ?_
 (repeat (first | simp only [↓QA, QB, Nat.reduceLT, reduceIte, Nat.reduceEqDiff, Nat.reduceAdd, Nat.reduceLeDiff, Nat.reduceMul, Nat.reduceBEq, QXFFaC5, a74] | refine rd0 rfl ?_))
 cases h0 : (e == 0)
 ·have h0' : e ≠ 0 := by simpa using h0
  (repeat (first | simp only [↓QA, QB, Nat.reduceLT, reduceIte, Nat.reduceEqDiff, Nat.reduceAdd, Nat.reduceLeDiff, Nat.reduceMul, Nat.reduceBEq, QXFFaC5, h0, within, h0'] | refine rd0 rfl ?_))
 ·have h0' : e = 0 := by simpa using h0
  (repeat (first | simp only [↓QA, QB, Nat.reduceLT, reduceIte, Nat.reduceEqDiff, Nat.reduceAdd, Nat.reduceLeDiff, Nat.reduceMul, Nat.reduceBEq, QXFFaC5, h0] | refine rd0 rfl ?_))
  ((first | refine callK_d (in_ok _ _ _) rfl dd ?_ | refine callD_d (in_ok _ _ _) rfl dd ?_); (repeat (first | simp only [↓QA, QB, Nat.reduceLT, reduceIte, Nat.reduceEqDiff, Nat.reduceAdd, Nat.reduceLeDiff, Nat.reduceMul, Nat.reduceBEq, QXFFaC5, h0] | refine rd0 rfl ?_)))
  cases hs : inR n 0 most
  all_goals
   (repeat (first | simp only [↓QA, QB, Nat.reduceLT, reduceIte, Nat.reduceEqDiff, Nat.reduceAdd, Nat.reduceLeDiff, Nat.reduceMul, Nat.reduceBEq, QXFFaC5, within, hs, h0', reduceCtorEq, Bool.false_eq_true] | refine rd0 rfl ?_))
theorem join_self (x : Int) : join ⟨x, x⟩ x = ⟨x, x⟩ := by simp [join]
theorem fullIn_step {l : List Truth} {i : Nat} (hi : i < l.length) (p d : Nat) : fullIn (l.drop i) p d = (flAt l[i] p).map (ptsT l[i] d) ++ fullIn (l.drop (i + 1)) p d := by
 rw [fullIn, List.drop_eq_getElem_cons hi, List.flatMap_cons]; rfl
theorem flAt_get {t : Truth} {p : Nat} (h : p < t.fl.length) : flAt t p = t.fl[p] := by simp [flAt, h]
theorem spanL_fold {x : Int} {xs : List Int} : (x :: xs).foldl join ⟨x, x⟩ = spanL (x :: xs) := by
 rw [List.foldl_cons, join_self]; rfl
theorem rfull_ok (v : Farm) (hv : Vd v) (l : List Truth) (hl : ∀ t ∈ l, TOk v t) (hll : l.length ≤ 2187) (hne : l ≠ []) (p d : Nat) (hp : p < v.plots.length) (hd : d ≤ v.rain.length) :
  Pure T 76 [truthsAV l, .int .i64 p, .int .i64 d] (encSpan (fullS l p d)) := by
 refine pure_fn (af := a76) rfl (by simp [a76]) dd ?_
 have hno := hv.nra
 have hpos : 0 < l.length := List.length_pos_iff.2 hne
 have hget : ∀ i (h : i < l.length), ∃ st : List Int, ∃ h2 : p < l[i].fl.length, l[i].fl[p] = st ∧ flAt l[i] p = st ∧ 0 < st.length ∧ st.length ≤ 7 ∧ ∀ h ∈ st, 0 ≤ h ∧ h < v.rain.length := fun i h => by
  have ht := hl _ (List.getElem_mem h)
  have hlen := ht.len
  have hf := ht.fl p hp
  have h2 : p < l[i].fl.length := by omega
  exact ⟨_, h2, rfl, flAt_get h2, by rw [← flAt_get h2]; exact List.length_pos_iff.2 hf.1, by rw [← flAt_get h2]; exact hf.2.1, by rw [← flAt_get h2]; exact hf.2.2⟩
 have hpo : ∀ i (h : i < l.length) (H : Nat), H < v.rain.length → Pure T 43 [ints l[i].rain, .int .i64 H, .int .i64 d] (.int .i64 (ptsT l[i] d H)) := fun i h H hH => by
  have ht := hl _ (List.getElem_mem h)
  have hlen := ht.rain.len
  have := points_ok l[i].rain H d (rain_bd hv ht.rain) (by omega) (by omega)
  simpa [ptsT, ptsL] using this
 obtain ⟨st0, h02, hst0, hfl0, hs00, hs01, hsm0⟩ := hget 0 hpos
 have hm0 := hsm0 _ (List.getElem_mem hs00)
 obtain ⟨H0, hH0⟩ : ∃ H : Nat, st0[0] = (H : Int) := ⟨st0[0].toNat, by omega⟩
 have hp0 := hpo 0 hpos H0 (by omega)
 obtain ⟨X, hX⟩ : ∃ X, ptsT l[0] d H0 = X := ⟨_, rfl⟩
 rw [hX] at hp0
 have hR : (fullIn (l.drop 0) p d).foldl join ⟨X, X⟩ = fullS l p d := by
  have e := fullIn_step hpos p d
  rw [hfl0] at e
  have e2 : st0 = (H0 : Int) :: st0.drop 1 := by
   have := List.drop_eq_getElem_cons hs00
   rw [hH0] at this
   simpa using this
  rw [e2, List.map_cons, hX, List.cons_append] at e
  rw [e, spanL_fold, fullS, ← e, List.drop_zero]
 obtain ⟨R, hRe⟩ : ∃ R, fullS l p d = R := ⟨_, rfl⟩
 rw [hRe] at hR ⊢
 obtain ⟨t0, ht0⟩ : ∃ t, l[0] = t := ⟨_, rfl⟩
 simp only [ht0] at hp0 h02 hst0
 (repeat (first | simp only [↓QA, QB, Nat.reduceLT, reduceIte, Nat.reduceEqDiff, Nat.reduceAdd, Nat.reduceLeDiff, Nat.reduceMul, Nat.reduceBEq, QXFFaC5, a76, V_idxI, Int.le_refl, Int.toNat_zero, hpos, ht0, h02, hst0, hs00, hH0, ints] | refine rd0 rfl ?_))
 ((first | refine callK_d (hp0) rfl dd ?_ | refine callD_d (hp0) rfl dd ?_); (repeat (first | simp only [↓QA, QB, Nat.reduceLT, reduceIte, Nat.reduceEqDiff, Nat.reduceAdd, Nat.reduceLeDiff, Nat.reduceMul, Nat.reduceBEq, QXFFaC5, V_idxI, Int.le_refl, Int.toNat_zero, hpos, ht0, h02, hst0, hs00, hH0, ints] | refine rd0 rfl ?_)))
 refine loopE (S := Nat × Span) (0, ⟨X, X⟩) (fun a => a.1 ≤ l.length ∧ (fullIn (l.drop a.1) p d).foldl join a.2 = R) (fun a => l.length - a.1)
  (fun a => [(0, truthsAV l), (1, .int .i64 p), (2, .int .i64 d), (6, .ptr 0 0), (8, .ptr 1 0), (9, .int .i64 a.1)])
  (fun a => [.cells [.int .i64 0, .int .i64 0], .cells [.int .i64 a.2.lo, .int .i64 a.2.hi]]) ⟨Nat.zero_le _, hR⟩ (by simp) ?_ fun a ha => ?_
 ·try simp only [TrimX, QE, Nat.reduceLT, reduceIte, Nat.reduceEqDiff, Nat.reduceAdd, Nat.reduceLeDiff, Nat.reduceMul, Nat.reduceBEq, QXFFaC5, ints]
  try simp
 ·obtain ⟨i, sp⟩ := a
  obtain ⟨hi, hy⟩ := ha
  simp only at hi hy
  (repeat (first | simp only [↓QA, QB, Nat.reduceLT, reduceIte, Nat.reduceEqDiff, Nat.reduceAdd, Nat.reduceLeDiff, Nat.reduceMul, Nat.reduceBEq, QXFFaC5, L76_0] | refine rd0 rfl ?_))
  refine iteP_intro (fun h => ?_) fun h => ?_
  ·have hi1 : i < l.length := by simpa using h
   have hwi := wrapN hi1 (by omega)
   obtain ⟨st, h2, hst, hfl, _, hs1, hsm⟩ := hget i hi1
   rw [fullIn_step hi1, hfl] at hy
   have hpi := hpo i hi1
   obtain ⟨t, hte⟩ : ∃ t, l[i] = t := ⟨_, rfl⟩
   simp only [hte] at hy h2 hst hpi
   (repeat (first | simp only [↓QA, QB, Nat.reduceLT, reduceIte, Nat.reduceEqDiff, Nat.reduceAdd, Nat.reduceLeDiff, Nat.reduceMul, Nat.reduceBEq, QXFFaC5] | refine rd0 rfl ?_))
   refine loopE (S := Nat × Span) (0, sp) (fun a => a.1 ≤ st.length ∧ (((st.drop a.1).map (ptsT t d)) ++ fullIn (l.drop (i + 1)) p d).foldl join a.2 = R) (fun a => st.length - a.1)
    (fun a => [(0, truthsAV l), (1, .int .i64 p), (2, .int .i64 d), (6, .ptr 0 0), (8, .ptr 1 0), (9, .int .i64 i), (10, .int .i64 a.1)])
    (fun a => [.cells [.int .i64 0, .int .i64 0], .cells [.int .i64 a.2.lo, .int .i64 a.2.hi]]) ⟨Nat.zero_le _, by simpa using hy⟩ (by simp) ?_ fun a ha => ?_
   ·try simp only [TrimX, QE, Nat.reduceLT, reduceIte, Nat.reduceEqDiff, Nat.reduceAdd, Nat.reduceLeDiff, Nat.reduceMul, Nat.reduceBEq, QXFFaC5]
    try simp
   ·obtain ⟨k, sp⟩ := a
    obtain ⟨hk, hy⟩ := ha
    simp only at hk hy
    (repeat (first | simp only [↓QA, QB, Nat.reduceLT, reduceIte, Nat.reduceEqDiff, Nat.reduceAdd, Nat.reduceLeDiff, Nat.reduceMul, Nat.reduceBEq, QXFFaC5, L76_2, hi1, hte, h2, hst, ints] | refine rd0 rfl ?_))
    refine iteP_intro (fun h3 => ?_) fun h3 => ?_
    ·have hk1 : k < st.length := by simpa using h3
     have hwk := wrapN hk1 (by omega)
     have hm := hsm _ (List.getElem_mem hk1)
     obtain ⟨H, hH⟩ : ∃ H : Nat, st[k] = (H : Int) := ⟨st[k].toNat, by omega⟩
     have hpk := hpi H (by omega)
     rw [List.drop_eq_getElem_cons hk1, hH, List.map_cons, List.cons_append, List.foldl_cons] at hy
     obtain ⟨x, hx⟩ : ∃ x, ptsT t d H = x := ⟨_, rfl⟩
     rw [hx] at hpk hy
     (repeat (first | simp only [↓QA, QB, Nat.reduceLT, reduceIte, Nat.reduceEqDiff, Nat.reduceAdd, Nat.reduceLeDiff, Nat.reduceMul, Nat.reduceBEq, QXFFaC5, hi1, hte, h2, hst, hk1, hH, ints] | refine rd0 rfl ?_))
     ((first | refine callK_d (hpk) rfl dd ?_ | refine callD_d (hpk) rfl dd ?_); (repeat (first | simp only [↓QA, QB, Nat.reduceLT, reduceIte, Nat.reduceEqDiff, Nat.reduceAdd, Nat.reduceLeDiff, Nat.reduceMul, Nat.reduceBEq, QXFFaC5, hi1, hte, h2, hst, hk1, hH, ints] | refine rd0 rfl ?_)))
     ((first | refine callK_d (join_ok sp x) rfl dd ?_ | refine callD_d (join_ok sp x) rfl dd ?_); (repeat (first | simp only [↓QA, QB, Nat.reduceLT, reduceIte, Nat.reduceEqDiff, Nat.reduceAdd, Nat.reduceLeDiff, Nat.reduceMul, Nat.reduceBEq, QXFFaC5, hi1, hte, h2, hst, hk1, hH, ints, hwk] | refine rd0 rfl ?_)))
     refine ⟨(k + 1, join sp x), ⟨by simp only; omega, hy⟩, by simp only; omega, ?_⟩
     try simp only [TrimX, QE, Nat.reduceLT, reduceIte, Nat.reduceEqDiff, Nat.reduceAdd, Nat.reduceLeDiff, Nat.reduceMul, Nat.reduceBEq, QXFFaC5, hwk]
     try simp [okBlk, okVs, okV]
    ·have hk1 : k = st.length := by simp at h3; omega
     rw [hk1, List.drop_length, List.map_nil, List.nil_append] at hy
     (repeat (first | simp only [↓QA, QB, Nat.reduceLT, reduceIte, Nat.reduceEqDiff, Nat.reduceAdd, Nat.reduceLeDiff, Nat.reduceMul, Nat.reduceBEq, QXFFaC5, hwi] | refine rd0 rfl ?_))
     refine ⟨(i + 1, sp), ⟨by simp only; omega, hy⟩, by simp only; omega, ?_⟩
     try simp only [TrimX, QE, Nat.reduceLT, reduceIte, Nat.reduceEqDiff, Nat.reduceAdd, Nat.reduceLeDiff, Nat.reduceMul, Nat.reduceBEq, QXFFaC5, hwi]
     try simp [okBlk, okVs, okV]
  ·have hi1 : i = l.length := by simp at h; omega
   rw [hi1, List.drop_length] at hy
   simp only [fullIn, List.flatMap_nil, List.foldl_nil] at hy
   subst hy
   (repeat (first | simp only [↓QA, QB, Nat.reduceLT, reduceIte, Nat.reduceEqDiff, Nat.reduceAdd, Nat.reduceLeDiff, Nat.reduceMul, Nat.reduceBEq, QXFFaC5] | refine rd0 rfl ?_))
   try try simp only [QS, QC, Nat.reduceLT, reduceIte, Nat.reduceEqDiff, Nat.reduceAdd, Nat.reduceLeDiff, Nat.reduceMul, Nat.reduceBEq, QXFFaC5]
end Go.Am.Room
set_option maxRecDepth 4000
namespace Go.Am.Room
def QXFFaC6 := And.intro @encFarm_eq (And.intro @farmCells_eq (And.intro @encPlot_eq (And.intro @encLook_eq (And.intro @encSpan_eq (And.intro @S_mapPlot (And.intro @S_mapLook (And.intro @S_mapSpan (And.intro @T_sapp (And.intro @T_sapp0 (And.intro @S_mapT (And.intro @truthsAV_eq (@encTruth_eq))))))))))))
theorem rgrown_ok (v : Farm) (n d : Int) (hf : Fits v) : Pure T 18 [encFarm v, .int .i64 n, .int .i64 d] (encSE (grownOf v n d)) := by
 refine pure_fn (af := a18) rfl (by simp [a18]) dd ?_
 obtain ⟨E, hE⟩ : ∃ E, grownErr v n d = E := ⟨_, rfl⟩
 have hkn := rknown_ok v (within d (endOf v) (errAsk v n)) (fun h => (errAsk_ok (within_ok h).1).1)
 have hEe : errKnown v (within d (endOf v) (errAsk v n)) = E := hE
 rw [hEe] at hkn
 (repeat (first | simp only [↓QA, QB, Nat.reduceLT, reduceIte, Nat.reduceEqDiff, Nat.reduceAdd, Nat.reduceLeDiff, Nat.reduceMul, Nat.reduceBEq, QXFFaC6, a18] | refine rd0 rfl ?_))
 ((first | refine callK_d (rend_ok v) rfl dd ?_ | refine callD_d (rend_ok v) rfl dd ?_); (repeat (first | simp only [↓QA, QB, Nat.reduceLT, reduceIte, Nat.reduceEqDiff, Nat.reduceAdd, Nat.reduceLeDiff, Nat.reduceMul, Nat.reduceBEq, QXFFaC6] | refine rd0 rfl ?_)))
 ((first | refine callK_d (rasked_ok v n hf) rfl dd ?_ | refine callD_d (rasked_ok v n hf) rfl dd ?_); (repeat (first | simp only [↓QA, QB, Nat.reduceLT, reduceIte, Nat.reduceEqDiff, Nat.reduceAdd, Nat.reduceLeDiff, Nat.reduceMul, Nat.reduceBEq, QXFFaC6] | refine rd0 rfl ?_)))
 ((first | refine callK_d (rwithin_ok d (endOf v) (errAsk v n)) rfl dd ?_ | refine callD_d (rwithin_ok d (endOf v) (errAsk v n)) rfl dd ?_); (repeat (first | simp only [↓QA, QB, Nat.reduceLT, reduceIte, Nat.reduceEqDiff, Nat.reduceAdd, Nat.reduceLeDiff, Nat.reduceMul, Nat.reduceBEq, QXFFaC6] | refine rd0 rfl ?_)))
 ((first | refine callK_d (hkn) rfl dd ?_ | refine callD_d (hkn) rfl dd ?_); (repeat (first | simp only [↓QA, QB, Nat.reduceLT, reduceIte, Nat.reduceEqDiff, Nat.reduceAdd, Nat.reduceLeDiff, Nat.reduceMul, Nat.reduceBEq, QXFFaC6, encTE] | refine rd0 rfl ?_)))
 cases h0 : (E == 0)
 ·have h0' : E ≠ 0 := by simpa using h0
  have hm : grownOf v n d = (⟨0, 0⟩, E) := by rw [grownOf, hE, if_neg h0']
  rw [hm]
  (repeat (first | simp only [↓QA, QB, Nat.reduceLT, reduceIte, Nat.reduceEqDiff, Nat.reduceAdd, Nat.reduceLeDiff, Nat.reduceMul, Nat.reduceBEq, QXFFaC6, h0, encSE] | refine rd0 rfl ?_))
 ·have h0' : E = 0 := by simpa using h0
  rw [h0'] at hE hEe
  obtain ⟨hw, hne⟩ := errKnown_ok hEe
  obtain ⟨ha, hd0, hd1⟩ := within_ok hw
  obtain ⟨hv, hn0, hn1⟩ := errAsk_ok ha
  have hk : knownOf v (within d (endOf v) (errAsk v n)) = truths v [] := by rw [knownOf, hEe, if_pos rfl]
  have hm : grownOf v n d = (fullS (truths v []) n.toNat d.toNat, 0) := by rw [grownOf, hE, if_pos rfl]
  rw [hm, hk]
  simp only [endOf] at hd1
  obtain ⟨N, rfl⟩ : ∃ N : Nat, n = N := ⟨n.toNat, by omega⟩
  obtain ⟨D, rfl⟩ : ∃ D : Nat, d = D := ⟨d.toNat, by omega⟩
  rw [Int.toNat_natCast, Int.toNat_natCast]
  have hfu := rfull_ok v hv (truths v []) (fun t ht => tok_of hv ht) (truths_len hv []) hne N D (by omega) (by omega)
  obtain ⟨l, hle⟩ : ∃ l, truths v [] = l := ⟨_, rfl⟩
  rw [hle] at hfu ⊢
  (repeat (first | simp only [↓QA, QB, Nat.reduceLT, reduceIte, Nat.reduceEqDiff, Nat.reduceAdd, Nat.reduceLeDiff, Nat.reduceMul, Nat.reduceBEq, QXFFaC6, h0] | refine rd0 rfl ?_))
  ((first | refine callK_d (hfu) rfl dd ?_ | refine callD_d (hfu) rfl dd ?_); (repeat (first | simp only [↓QA, QB, Nat.reduceLT, reduceIte, Nat.reduceEqDiff, Nat.reduceAdd, Nat.reduceLeDiff, Nat.reduceMul, Nat.reduceBEq, QXFFaC6, encSE] | refine rd0 rfl ?_)))
theorem rflowered_ok (v : Farm) (n : Int) (hf : Fits v) : Pure T 20 [encFarm v, .int .i64 n] (encLE (floweredOf v n)) := by
 refine pure_fn (af := a20) rfl (by simp [a20]) dd ?_
 obtain ⟨E, hE⟩ : ∃ E, plotErr v n = E := ⟨_, rfl⟩
 have hkn := rknown_ok v (errAsk v n) (fun h => (errAsk_ok h).1)
 have hEe : errKnown v (errAsk v n) = E := hE
 rw [hEe] at hkn
 (repeat (first | simp only [↓QA, QB, Nat.reduceLT, reduceIte, Nat.reduceEqDiff, Nat.reduceAdd, Nat.reduceLeDiff, Nat.reduceMul, Nat.reduceBEq, QXFFaC6, a20] | refine rd0 rfl ?_))
 ((first | refine callK_d (rasked_ok v n hf) rfl dd ?_ | refine callD_d (rasked_ok v n hf) rfl dd ?_); (repeat (first | simp only [↓QA, QB, Nat.reduceLT, reduceIte, Nat.reduceEqDiff, Nat.reduceAdd, Nat.reduceLeDiff, Nat.reduceMul, Nat.reduceBEq, QXFFaC6] | refine rd0 rfl ?_)))
 ((first | refine callK_d (hkn) rfl dd ?_ | refine callD_d (hkn) rfl dd ?_); (repeat (first | simp only [↓QA, QB, Nat.reduceLT, reduceIte, Nat.reduceEqDiff, Nat.reduceAdd, Nat.reduceLeDiff, Nat.reduceMul, Nat.reduceBEq, QXFFaC6, encTE] | refine rd0 rfl ?_)))
 cases h0 : (E == 0)
 ·have h0' : E ≠ 0 := by simpa using h0
  have hm : floweredOf v n = ([], E) := by rw [floweredOf, hE, if_neg h0']
  rw [hm]
  (repeat (first | simp only [↓QA, QB, Nat.reduceLT, reduceIte, Nat.reduceEqDiff, Nat.reduceAdd, Nat.reduceLeDiff, Nat.reduceMul, Nat.reduceBEq, QXFFaC6, h0, encLE] | refine rd0 rfl ?_))
  try rfl
 ·have h0' : E = 0 := by simpa using h0
  rw [h0'] at hE hEe
  obtain ⟨ha, hne⟩ := errKnown_ok hEe
  obtain ⟨hv, hn0, hn1⟩ := errAsk_ok ha
  have hk : knownOf v (errAsk v n) = truths v [] := by rw [knownOf, hEe, if_pos rfl]
  have hm : floweredOf v n = (floweredIn v (truths v []) n.toNat, 0) := by rw [floweredOf, hE, if_pos rfl]
  have hll := truths_len hv []
  have hT : ∀ t ∈ truths v [], TOk v t := fun t ht => tok_of hv ht
  have hno := hv.nra
  rw [hm, hk]
  obtain ⟨N, rfl⟩ : ∃ N : Nat, n = N := ⟨n.toNat, by omega⟩
  rw [Int.toNat_natCast]
  obtain ⟨l, hle⟩ : ∃ l, truths v [] = l := ⟨_, rfl⟩
  rw [hle]
  simp only [hle] at hll hT
  obtain ⟨G, hG⟩ : ∃ G, v.rain.length = G := ⟨_, rfl⟩
  obtain ⟨R, hR⟩ : ∃ R, floweredIn v l N = R := ⟨_, rfl⟩
  have hR' : (numbers 0 G).filter (isFl l N) = R := by rw [← hR, ← hG]; rfl
  have hRl : R.length ≤ 7 := by
   rw [← hR']; exact Nat.le_trans (List.length_filter_le _ _) (by rw [numbers_len]; omega)
  rw [hR]
  have hend : endOf v = (G : Int) := by rw [endOf, hG]
  (repeat (first | simp only [↓QA, QB, Nat.reduceLT, reduceIte, Nat.reduceEqDiff, Nat.reduceAdd, Nat.reduceLeDiff, Nat.reduceMul, Nat.reduceBEq, QXFFaC6, h0] | refine rd0 rfl ?_))
  refine ghostK 8 1 [] rfl ?_
  refine loopE (S := Nat × List Int × Bool) (0, [], false) (fun a => a.1 ≤ G ∧ a.2.1 ++ (numbers (a.1 : Int) (G - a.1)).filter (isFl l N) = R) (fun a => G - a.1)
   (fun a => [(1, .int .i64 N), (2, .ptr 0 0), (6, truthsAV l), (8, .lit (a.2.1.map (.int .i64)) false (some 1)), (9, .int .i64 a.1)])
   (fun a => [.cells (farmCells v), .tok 1 a.2.1.length a.2.2]) ⟨Nat.zero_le _, by simpa using hR'⟩ (by simp [farmCells, ints]) ?_ fun a ha => ?_
  ·try simp only [TrimX, QE, Nat.reduceLT, reduceIte, Nat.reduceEqDiff, Nat.reduceAdd, Nat.reduceLeDiff, Nat.reduceMul, Nat.reduceBEq, QXFFaC6]
   try simp
  ·obtain ⟨d, acc, ex⟩ := a
   obtain ⟨hd, hacc⟩ := ha
   simp only at hd hacc
   (repeat (first | simp only [↓QA, QB, Nat.reduceLT, reduceIte, Nat.reduceEqDiff, Nat.reduceAdd, Nat.reduceLeDiff, Nat.reduceMul, Nat.reduceBEq, QXFFaC6, L20_0] | refine rd0 rfl ?_))
   ((first | refine callK_d (rend_ok v) rfl dd ?_ | refine callD_d (rend_ok v) rfl dd ?_); (repeat (first | simp only [↓QA, QB, Nat.reduceLT, reduceIte, Nat.reduceEqDiff, Nat.reduceAdd, Nat.reduceLeDiff, Nat.reduceMul, Nat.reduceBEq, QXFFaC6, hend] | refine rd0 rfl ?_)))
   refine iteP_intro (fun h => ?_) fun h => ?_
   ·have hd1 : d < G := by simpa using h
    have hw := wrapN hd1 (by omega)
    rw [show G - d = (G - (d + 1)) + 1 by omega] at hacc
    simp only [numbers, List.filter_cons] at hacc
    rw [show ((d : Int) + 1) = ((d + 1 : Nat) : Int) by omega] at hacc
    have hal : acc.length ≤ 7 := by
     have := congrArg List.length hacc
     simp only [List.length_append] at this
     omega
    obtain ⟨M, hM⟩ : ∃ M, isFl l N d = M := ⟨_, rfl⟩
    rw [hM] at hacc
    (repeat (first | simp only [↓QA, QB, Nat.reduceLT, reduceIte, Nat.reduceEqDiff, Nat.reduceAdd, Nat.reduceLeDiff, Nat.reduceMul, Nat.reduceBEq, QXFFaC6] | refine rd0 rfl ?_))
    refine loopE (S := Nat × Bool) (0, false) (fun a => a.1 ≤ l.length ∧ (a.2 || isFl (l.drop a.1) N d) = M) (fun a => l.length - a.1)
     (fun a => [(1, .int .i64 N), (2, .ptr 0 0), (6, truthsAV l), (8, .lit (acc.map (.int .i64)) false (some 1)), (9, .int .i64 d), (10, .bool a.2), (11, .int .i64 a.1)])
     (fun a => [.cells (farmCells v), .tok 1 acc.length ex]) ⟨Nat.zero_le _, by simpa using hM⟩ (by simp [farmCells, ints]) ?_ fun a ha => ?_
    ·try simp only [TrimX, QE, Nat.reduceLT, reduceIte, Nat.reduceEqDiff, Nat.reduceAdd, Nat.reduceLeDiff, Nat.reduceMul, Nat.reduceBEq, QXFFaC6]
     try simp
    ·obtain ⟨i, m⟩ := a
     obtain ⟨hi, hy⟩ := ha
     simp only at hi hy
     (repeat (first | simp only [↓QA, QB, Nat.reduceLT, reduceIte, Nat.reduceEqDiff, Nat.reduceAdd, Nat.reduceLeDiff, Nat.reduceMul, Nat.reduceBEq, QXFFaC6, L20_2] | refine rd0 rfl ?_))
     refine iteP_intro (fun h2 => ?_) fun h2 => ?_
     ·have hi1 : i < l.length := by simpa using h2
      have hwi := wrapN hi1 (by omega)
      have ht := hT _ (List.getElem_mem hi1)
      have hlen := ht.len
      have hfl := (ht.fl N (by omega)).2.1
      rw [isFl, List.drop_eq_getElem_cons hi1, List.any_cons, flAt_get (by omega)] at hy
      rw [flAt_get (by omega)] at hfl
      obtain ⟨t, hte⟩ : ∃ t, l[i] = t := ⟨_, rfl⟩
      simp only [hte] at hy hlen hfl
      have hN : N < t.fl.length := by omega
      obtain ⟨st, hst⟩ : ∃ st, t.fl[N] = st := ⟨_, rfl⟩
      rw [hst] at hy hfl
      have hyy : ((m || st.contains (d : Int)) || isFl (l.drop (i + 1)) N d) = M := by rw [Bool.or_assoc]; exact hy
      cases m
      ·(repeat (first | simp only [↓QA, QB, Nat.reduceLT, reduceIte, Nat.reduceEqDiff, Nat.reduceAdd, Nat.reduceLeDiff, Nat.reduceMul, Nat.reduceBEq, QXFFaC6, hi1, hte, hN, hst, ints] | refine rd0 rfl ?_))
       ((first | refine callK_d (has_ok st (d : Int) (by omega)) rfl dd ?_ | refine callD_d (has_ok st (d : Int) (by omega)) rfl dd ?_); (repeat (first | simp only [↓QA, QB, Nat.reduceLT, reduceIte, Nat.reduceEqDiff, Nat.reduceAdd, Nat.reduceLeDiff, Nat.reduceMul, Nat.reduceBEq, QXFFaC6, hi1, hte, hN, hst, ints, hwi] | refine rd0 rfl ?_)))
       refine ⟨(i + 1, st.contains (d : Int)), ⟨by simp only; omega, by simpa using hyy⟩, by simp only; omega, ?_⟩
       try simp only [TrimX, QE, Nat.reduceLT, reduceIte, Nat.reduceEqDiff, Nat.reduceAdd, Nat.reduceLeDiff, Nat.reduceMul, Nat.reduceBEq, QXFFaC6, hwi]
       try simp [okBlk]
      ·(repeat (first | simp only [↓QA, QB, Nat.reduceLT, reduceIte, Nat.reduceEqDiff, Nat.reduceAdd, Nat.reduceLeDiff, Nat.reduceMul, Nat.reduceBEq, QXFFaC6, hwi] | refine rd0 rfl ?_))
       refine ⟨(i + 1, true), ⟨by simp only; omega, by simpa using hyy⟩, by simp only; omega, ?_⟩
       try simp only [TrimX, QE, Nat.reduceLT, reduceIte, Nat.reduceEqDiff, Nat.reduceAdd, Nat.reduceLeDiff, Nat.reduceMul, Nat.reduceBEq, QXFFaC6, hwi]
       try simp [okBlk]
     ·have hi1 : i = l.length := by simp at h2; omega
      rw [hi1, List.drop_length] at hy
      simp only [isFl, List.any_nil, Bool.or_false] at hy
      subst hy
      cases m
      ·simp only [Bool.false_eq_true, if_false] at hacc
       (repeat (first | simp only [↓QA, QB, Nat.reduceLT, reduceIte, Nat.reduceEqDiff, Nat.reduceAdd, Nat.reduceLeDiff, Nat.reduceMul, Nat.reduceBEq, QXFFaC6, hw] | refine rd0 rfl ?_))
       refine ⟨(d + 1, acc, ex), ⟨by simp only; omega, hacc⟩, by simp only; omega, ?_⟩
       try simp only [TrimX, QE, Nat.reduceLT, reduceIte, Nat.reduceEqDiff, Nat.reduceAdd, Nat.reduceLeDiff, Nat.reduceMul, Nat.reduceBEq, QXFFaC6, hw]
       try simp [okBlk]
      ·simp only [if_true] at hacc
       have hap := fun (b0 : ABlk) (τ : St) => append_intT (σ := b0 :: .tok 1 acc.length ex :: τ) (l := acc) (a := (d : Int)) (ex := ex) (t := 1) (by omega) rfl
       (repeat (first | simp only [↓QA, QB, Nat.reduceLT, reduceIte, Nat.reduceEqDiff, Nat.reduceAdd, Nat.reduceLeDiff, Nat.reduceMul, Nat.reduceBEq, QXFFaC6, hw, hap] | refine rd0 rfl ?_))
       refine ⟨(d + 1, acc ++ [(d : Int)], true), ⟨by simp only; omega, by rw [← hacc]; simp⟩, by simp only; omega, ?_⟩
       try simp only [TrimX, QE, Nat.reduceLT, reduceIte, Nat.reduceEqDiff, Nat.reduceAdd, Nat.reduceLeDiff, Nat.reduceMul, Nat.reduceBEq, QXFFaC6, hw, S_mapI, List.map_append, List.map_cons, List.map_nil]
       try simp [okBlk]
   ·have hd1 : d = G := by simp at h; omega
    rw [hd1, Nat.sub_self] at hacc
    simp only [numbers, List.filter_nil, List.append_nil] at hacc
    subst hacc
    (repeat (first | simp only [↓QA, QB, Nat.reduceLT, reduceIte, Nat.reduceEqDiff, Nat.reduceAdd, Nat.reduceLeDiff, Nat.reduceMul, Nat.reduceBEq, QXFFaC6, encLE] | refine rd0 rfl ?_))
    try try simp only [QS, QC, Nat.reduceLT, reduceIte, Nat.reduceEqDiff, Nat.reduceAdd, Nat.reduceLeDiff, Nat.reduceMul, Nat.reduceBEq, QXFFaC6]
end Go.Am.Room
namespace Go.Am.Room
namespace MemAt
variable {M : Type} {S : M → St} {obj : List AV} {es : M → List (AV × AV)} {p m N : Nat}
theorem at1 (h : MemAt S obj es p m N) (A : M) (τ : St) : cellsAt (S A ++ τ) p = some (obj) := by
 have := h.at0 A
 have hl := h.pl
 rw [← h.len A] at hl
 simp only [cellsAt] at this ⊢
 rw [List.getElem?_append_left hl]
 exact this
theorem mset1 (h : MemAt S obj es p m N) (A B : M) (τ : St) : (S A ++ τ).set m (.map (es B)) = S B ++ τ := by
 have hl := h.ml
 rw [← h.len A] at hl
 rw [List.set_append_left _ _ hl, h.mset]
theorem app (h : MemAt S obj es p m N) (τ : St) : MemAt (fun A => S A ++ τ) obj es p m (N + τ.length) :=
 ⟨fun A => by rw [List.length_append, h.len], fun A => h.at1 A τ, fun A => h.map1 A τ, fun A B => h.mset1 A B τ, h.ok, by have := h.pl; omega, by have := h.ml; omega⟩
end MemAt
namespace Fam
variable {X : Type} {Z ZD : X → St} {obj : List AV} {p q N : Nat}
theorem at1 (h : Fam Z ZD obj p q N) (x : X) (τ : St) : cellsAt (Z x ++ τ) p = some obj := by
 have := h.at0 x
 have hl := h.pl
 rw [← h.len x] at hl
 simp only [cellsAt] at this ⊢
 rw [List.getElem?_append_left hl]
 exact this
end Fam
namespace Fam1
variable {X : Type} {M : Type} {Z ZD : X → M → St} {obj : List AV} {es : M → List (AV × AV)} {p m q N : Nat}
end Fam1
end Go.Am.Room
set_option maxRecDepth 8000
namespace Go.Am.Room
def u8s (l : List Int) : AV := .lit (l.map (.int .u8)) false none
theorem data_u8s (l : List Int) : Data (u8s l) := data_list (data_int .u8) l
instance (l : List Int) : Dat (u8s l) := ⟨data_u8s l⟩
end Go.Am.Room
set_option maxRecDepth 8000
namespace Go.Am.Room
theorem lst5 {n m : Nat} (h : m ≤ n) (p : Int → Bool) : ((numbers 0 m).filter p).length ≤ n := by
 have := List.length_filter_le p (numbers 0 m)
 rw [numbers_len] at this
 omega
theorem flowered_lenO (v : Farm) (n : Int) : (floweredOf v n).1.length ≤ 7 := by
 unfold floweredOf
 split
 ·rename_i h0
  exact lst5 (errAsk_ok (errKnown_ok h0).1).1.nra.2 _
 ·simp
theorem farmgrowns_ok (v : Farm) (n d : Int) (hf : Fits v) : Pure T 3 [encFarm v, .int .i64 n, .int .i64 d] (.bool true) := by
 refine pure_fn (af := a3) rfl (by simp [a3]) dd ?_
 have h1 := flowered_lenO v n
 (repeat (first | simp only [↓QA, QB, Nat.reduceLT, reduceIte, Nat.reduceEqDiff, Nat.reduceAdd, Nat.reduceLeDiff, Nat.reduceMul, Nat.reduceBEq, QXFFaQ2, a3] | refine rd0 rfl ?_))
 ((first | refine callK_d (check_ok v hf) rfl dd ?_ | refine callD_d (check_ok v hf) rfl dd ?_); (repeat (first | simp only [↓QA, QB, Nat.reduceLT, reduceIte, Nat.reduceEqDiff, Nat.reduceAdd, Nat.reduceLeDiff, Nat.reduceMul, Nat.reduceBEq, QXFFaQ2, enc3] | refine rd0 rfl ?_)))
 ((first | refine callK_d (refcheck_ok v hf) rfl dd ?_ | refine callD_d (refcheck_ok v hf) rfl dd ?_); (repeat (first | simp only [↓QA, QB, Nat.reduceLT, reduceIte, Nat.reduceEqDiff, Nat.reduceAdd, Nat.reduceLeDiff, Nat.reduceMul, Nat.reduceBEq, QXFFaQ2, enc3] | refine rd0 rfl ?_)))
 ((first | refine callK_d (pgrown_ok v n d hf) rfl dd ?_ | refine callD_d (pgrown_ok v n d hf) rfl dd ?_); (repeat (first | simp only [↓QA, QB, Nat.reduceLT, reduceIte, Nat.reduceEqDiff, Nat.reduceAdd, Nat.reduceLeDiff, Nat.reduceMul, Nat.reduceBEq, QXFFaQ2, encSE] | refine rd0 rfl ?_)))
 ((first | refine callK_d (rgrown_ok v n d hf) rfl dd ?_ | refine callD_d (rgrown_ok v n d hf) rfl dd ?_); (repeat (first | simp only [↓QA, QB, Nat.reduceLT, reduceIte, Nat.reduceEqDiff, Nat.reduceAdd, Nat.reduceLeDiff, Nat.reduceMul, Nat.reduceBEq, QXFFaQ2, encSE] | refine rd0 rfl ?_)))
 ((first | refine callK_d (pflowered_ok v n hf) rfl dd ?_ | refine callD_d (pflowered_ok v n hf) rfl dd ?_); (repeat (first | simp only [↓QA, QB, Nat.reduceLT, reduceIte, Nat.reduceEqDiff, Nat.reduceAdd, Nat.reduceLeDiff, Nat.reduceMul, Nat.reduceBEq, QXFFaQ2, encLE] | refine rd0 rfl ?_)))
 ((first | refine callK_d (rflowered_ok v n hf) rfl dd ?_ | refine callD_d (rflowered_ok v n hf) rfl dd ?_); (repeat (first | simp only [↓QA, QB, Nat.reduceLT, reduceIte, Nat.reduceEqDiff, Nat.reduceAdd, Nat.reduceLeDiff, Nat.reduceMul, Nat.reduceBEq, QXFFaQ2, encLE] | refine rd0 rfl ?_)))
 ((first | refine callK_d (ints_ok (floweredOf v n).1 (floweredOf v n).1 (by omega) (by omega)) rfl dd ?_ | refine callD_d (ints_ok (floweredOf v n).1 (floweredOf v n).1 (by omega) (by omega)) rfl dd ?_); (repeat (first | simp only [↓QA, QB, Nat.reduceLT, reduceIte, Nat.reduceEqDiff, Nat.reduceAdd, Nat.reduceLeDiff, Nat.reduceMul, Nat.reduceBEq, QXFFaQ2, eq_self] | refine rd0 rfl ?_)))
 refine callK_d awake_ok rfl datas_nil ?_
 (repeat (first | simp only [↓QA, QB, Nat.reduceLT, reduceIte, Nat.reduceEqDiff, Nat.reduceAdd, Nat.reduceLeDiff, Nat.reduceMul, Nat.reduceBEq, QXFFaQ2] | refine rd0 rfl ?_))
end Go.Am.Room
