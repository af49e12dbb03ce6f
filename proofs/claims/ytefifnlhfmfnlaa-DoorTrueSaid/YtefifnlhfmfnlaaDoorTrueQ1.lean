/- A part of the proof of DoorTrue: an abstract machine, or what functions come to on it. -/
import Derived.Test.YtefifnlhfmfnlaaAllQ6
import Derived.ChangeArms
import Derived.SizedLaws
import Derived.ChangeBears
import Derived.ChangeShapes
import Derived.WideShapes
import Derived.ProofKit
import Derived.OpenShut
import Derived.Lib.Strings
set_option linter.unusedVariables false
set_option linter.unusedSimpArgs false
set_option linter.defProp false
namespace Go.Am
open Go.ChangeShapes Go.WideShapes Go.ChangeAt Go.RowKit
variable {P : Program} {hh : String → Bool} {H : Type} {enc : TypeId × Value → H} {w : World} {sp : Nat → Bool} {held : Bool}
def mkV (P : Program) (t : TypeId) (cs : List AV) : AV := match P.underlying t with
 | some (.struct _) => .agg cs
 | some (.array _ _) => .agg cs
 | _ => cs.headD .undef
def Typ (P : Program) : Nat → TypeId → List AV → Prop
 | 0, _, _ => False
 | n + 1, t, cs =>
  match P.underlying t with
  | some .bool => ∃ b, cs = [.bool b]
  | some (.int k) => ∃ m, cs = [.int k m] ∧ (Lit.int k m).wf = true
  | some .string => ∃ s : ByteArray, cs = [.str s] ∧ s.size ≤ maxLen
  | some (.slice e) => ∃ ys : List (List AV), cs = [.lit (ys.map (mkV P e)) false none] ∧ (ys.length ≤ maxLen ∧ ys.length * P.bytesOf e ≤ reachBytes) ∧ ∀ y ∈ ys, Typ P n e y
  | some (.struct fs) => ∃ parts : List (List AV), cs = parts.flatten ∧ parts.length = fs.toList.length ∧ ∀ (i : Nat) f p, fs.toList[i]? = some f → parts[i]? = some p → Typ P n f.type p
  | some (.array k e) => ∃ parts : List (List AV), cs = parts.flatten ∧ parts.length = k ∧ ∀ p ∈ parts, Typ P n e p
  | _ => False
def okTy (P : Program) : Nat → TypeId → Bool
 | 0, _ => false
 | n + 1, t =>
  match P.underlying t with
  | some .bool | some (.int _) | some .string => true
  | some (.slice e) => decide (0 < P.cellsOf e) && okTy P n e
  | some (.struct fs) => fs.toList.all fun f => okTy P n f.type
  | some (.array _ e) => okTy P n e
  | _ => false
theorem mkV_cells {n : Nat} {t : TypeId} {cs : List AV} (h : Typ P n t cs) : (mkV P t cs).cells = cs := by
 cases n with
 | zero => exact h.elim
 | succ n =>
  simp only [Typ] at h
  unfold mkV
  split at h
  ·rename_i hu; rw [hu]; obtain ⟨b, rfl⟩ := h; rfl
  ·rename_i hu; rw [hu]; obtain ⟨b, rfl, _⟩ := h; rfl
  ·rename_i hu; rw [hu]; obtain ⟨b, rfl, _⟩ := h; rfl
  ·rename_i hu; rw [hu]; obtain ⟨b, rfl, _⟩ := h; rfl
  ·rename_i hu; rw [hu]; rfl
  ·rename_i hu; rw [hu]; rfl
  ·exact h.elim
theorem addr_add {a : Addr} {v : Value} (h : w.cell? a = some v) (n : Nat) : a.add n = ⟨a.block, a.off + n, none⟩ := by
 have hs : a.spot = none := by
  unfold World.cell? at h
  split at h
  ·split at h
   ·cases h
   ·rename_i hs; simpa using hs
  ·cases h
 obtain ⟨b, o, s⟩ := a
 simp only at hs
 subst hs
 unfold Addr.add
 split
 ·rename_i h0; simp [h0]
 ·rfl
theorem cell_lt {b o : Nat} {v : Value} (h : w.cell? ⟨b, o, none⟩ = some v) : ∃ L, limW w b = some L ∧ o < L := by
 unfold World.cell? at h
 split at h
 ·rename_i c T fr hb
  refine ⟨c.size, by simp only at hb; simp [limW, hb], ?_⟩
  simp at h
  exact (Array.getElem?_eq_some_iff.1 h).1
 ·cases h
theorem fields {G : Gh} {n : Nat} {cs : List Value} : ∀ (fl : List Field) (o : Nat), (∀ (j : Nat) f, fl[j]? = some f → f.offset = o + ((fl.take j).map fun f => P.cellsOf f.type).sum) → cs.length = o + (fl.map fun f => P.cellsOf f.type).sum →
  (∀ f ∈ fl, ∃ az, Typ P n f.type az ∧ RelL G w az ((cs.drop f.offset).take (P.cellsOf f.type))) →
  ∃ parts : List (List AV), parts.length = fl.length ∧ (∀ (i : Nat) f p, fl[i]? = some f → parts[i]? = some p → Typ P n f.type p) ∧ RelL G w parts.flatten (cs.drop o)
 | [], o, _, hl, _ => ⟨[], rfl, by simp, by
   have : cs.drop o = [] := List.drop_of_length_le (by simp at hl; omega)
   rw [this]; exact .nil⟩
 | f :: fl, o, ho, hl, ht => by
  have h0 := ho 0 f rfl
  simp only [List.take_zero, List.map_nil, List.sum_nil, Nat.add_zero] at h0
  simp only [List.map_cons, List.sum_cons] at hl
  obtain ⟨az, h1, h2⟩ := ht f (by simp)
  obtain ⟨parts, q1, q2, q3⟩ := fields fl (o + P.cellsOf f.type) (fun j g hj => by
   have := ho (j + 1) g (by simpa using hj)
   simp only [List.take_succ_cons, List.map_cons, List.sum_cons] at this
   omega) (by omega) fun g hg => ht g (List.mem_cons_of_mem _ hg)
  refine ⟨az :: parts, by simp [q1], fun i g p e1 e2 => ?_, ?_⟩
  ·cases i with
   | zero => simp at e1 e2; subst e1; subst e2; exact h1
   | succ i => exact q2 i g p (by simpa using e1) (by simpa using e2)
  ·rw [List.flatten_cons]
   have e : cs.drop o = (cs.drop o).take (P.cellsOf f.type) ++ cs.drop (o + P.cellsOf f.type) := by
    rw [← List.drop_drop, List.take_append_drop]
   rw [e]
   rw [h0] at h2
   exact h2.app q3
theorem items {G : Gh} {m : Nat} {e : TypeId} {cs : List Value} : ∀ (n o : Nat), cs.length = o + n * P.cellsOf e →
  (∀ i, i < n → ∃ az, Typ P m e az ∧ RelL G w az ((cs.drop (o + i * P.cellsOf e)).take (P.cellsOf e))) → ∃ parts : List (List AV), parts.length = n ∧ (∀ p ∈ parts, Typ P m e p) ∧ RelL G w parts.flatten (cs.drop o)
 | 0, o, hl, _ => ⟨[], rfl, by simp, by
   have : cs.drop o = [] := List.drop_of_length_le (by simp at hl; omega)
   rw [this]; exact .nil⟩
 | n + 1, o, hl, ht => by
  obtain ⟨az, h1, h2⟩ := ht 0 (by omega)
  rw [Nat.zero_mul, Nat.add_zero] at h2
  rw [Nat.add_mul, Nat.one_mul] at hl
  obtain ⟨parts, q1, q2, q3⟩ := items (e := e) (cs := cs) (m := m) n (o + P.cellsOf e) (by omega) fun i hi => by
   obtain ⟨az, k1, k2⟩ := ht (i + 1) (by omega)
   rw [Nat.add_mul, Nat.one_mul, Nat.add_comm (i * _), ← Nat.add_assoc] at k2
   exact ⟨az, k1, k2⟩
  refine ⟨az :: parts, by simp [q1], fun p hp => ?_, ?_⟩
  ·rcases List.mem_cons.1 hp with rfl | hp
   ·exact h1
   ·exact q2 p hp
  ·rw [List.flatten_cons]
   have e1 : cs.drop o = (cs.drop o).take (P.cellsOf e) ++ cs.drop (o + P.cellsOf e) := by
    rw [← List.drop_drop, List.take_append_drop]
   rw [e1]
   exact h2.app q3
theorem choose_list {α : Type} {Q : Nat → α → Prop} : ∀ n, (∀ i, i < n → ∃ x, Q i x) → ∃ l : List α, l.length = n ∧ ∀ (i : Nat) x, l[i]? = some x → Q i x
 | 0, _ => ⟨[], rfl, by simp⟩
 | n + 1, h => by
  obtain ⟨l, h1, h2⟩ := choose_list n fun i hi => h i (by omega)
  obtain ⟨x, hx⟩ := h n (by omega)
  refine ⟨l ++ [x], by simp [h1], fun i y e => ?_⟩
  by_cases hi : i < l.length
  ·rw [List.getElem?_append_left hi] at e; exact h2 i y e
  ·rw [List.getElem?_append_right (by omega)] at e
   have : i - l.length = 0 := by
    by_cases h0 : i - l.length = 0
    ·exact h0
    ·rw [List.getElem?_eq_none (by simp; omega)] at e; cases e
   rw [this] at e
   simp at e
   subst e
   rw [show i = n by omega]; exact hx
theorem typ_of_trod (hl : laidOutB P = true) : ∀ (n m : Nat) (t : TypeId) (cs : List Value) (x : DataW H × List MemPlace), t < P.types.size → okTy P n t = true → DataW.trod enc P w 0 sp held m t cs = some x → (∀ k ∈ x.1.weights P t, k ≤ reachBytes) →
  ∃ az, Typ P n t az ∧ RelL (argG w) w az cs
 | 0, m, t, cs, x, _, ho, _, _ => by simp [okTy] at ho
 | n + 1, m, t, cs, x, ht, ho, h, hwt => by
  simp only [okTy] at ho
  split at ho
  ·rename_i hu
   obtain ⟨b, rfl, _⟩ := DataW.trod_bool hu h
   exact ⟨[.bool b], by simp only [Typ, hu]; exact ⟨b, rfl⟩, .one (.bool b)⟩
  ·rename_i k hu
   obtain ⟨b, rfl, _, hw⟩ := DataW.trod_int hu h
   exact ⟨[.int k b], by simp only [Typ, hu]; exact ⟨b, rfl, hw⟩, .one (.int k b)⟩
  ·rename_i hu
   obtain ⟨s, rfl, _, hs⟩ := DataW.trod_string hu h
   exact ⟨[.str s], by simp only [Typ, hu]; exact ⟨s, rfl, hs⟩, .one (.str s)⟩
  ·rename_i e hu
   simp only [Bool.and_eq_true, decide_eq_true_eq] at ho
   rcases DataW.trod_slice hu h with ⟨rfl, _⟩ | ⟨a, len, cap, elems, rest, m', _, rfl, hxe, _, hlc, hcm, hel, hei, _, _⟩
   ·refine ⟨[.lit [] false none], by simp only [Typ, hu]; exact ⟨[], rfl, ⟨by simp, by simp⟩, by simp⟩, .one (.nil ⟨Nat.le_refl _, (fun e => by cases e), (fun t e => by cases e)⟩ fun _ => rfl)⟩
   ·
    have hws : ∀ k ∈ x.1.weights P t, k ≤ reachBytes := hwt
    rw [hxe] at hws
    simp only [DataW.weights, hu, List.mem_cons, List.mem_append, List.length_map] at hws
    have hwl : len * P.bytesOf e ≤ reachBytes := by
     have h1 := hws _ (.inl rfl)
     rw [hel] at h1
     exact Nat.le_trans (Nat.mul_le_mul_right _ (Nat.le_add_right _ _)) h1
    have hwe : ∀ (d : DataW H), d ∈ elems.map (·.1) → ∀ k ∈ d.weights P e, k ≤ reachBytes := by
     have key : ∀ (l : List (DataW H)) (d : DataW H), d ∈ l → ∀ k ∈ d.weights P e, k ∈ DataW.weightsAll P e l := by
      intro l
      induction l with
      | nil => intro d hd; cases hd
      | cons a l ih =>
       intro d hd k hk
       simp only [DataW.weightsAll, List.mem_append]
       rcases List.mem_cons.1 hd with rfl | hd
       ·exact .inl hk
       ·exact .inr (ih d hd k hk)
     exact fun d hd k hk => hws k (.inr (.inl (key _ d hd k hk)))
    have hel2 : ∀ i, i < len → ∃ y, Typ P n e y ∧ ∃ vs, w.cells? 0 (a.add (i * P.cellsOf e)) (P.cellsOf e) = some vs ∧ RelL (argG w) w y vs := by
     intro i hi
     have h1 := hei i hi
     rw [List.getElem?_eq_getElem (by omega), Option.bind_eq_some_iff] at h1
     obtain ⟨vs, q1, q2⟩ := h1
     obtain ⟨y, q3, q4⟩ := typ_of_trod hl n m' e vs _ (kid_slice hl ht hu) ho.2 q2 (hwe _ (List.mem_map.2 ⟨_, List.getElem_mem (by omega), rfl⟩))
     exact ⟨y, q3, vs, q1, q4⟩
    obtain ⟨ys, hyl, hys⟩ := choose_list len hel2
    refine ⟨[.lit (ys.map (mkV P e)) false none], by
     simp only [Typ, hu]
     refine ⟨ys, rfl, ⟨by omega, by rw [hyl]; exact hwl⟩, fun y hy => ?_⟩
     obtain ⟨i, hi⟩ := List.getElem?_of_mem hy
     exact (hys i y hi).1, .one ?_⟩
    by_cases h0 : len = 0
    ·subst h0
     obtain rfl : ys = [] := List.eq_nil_of_length_eq_zero hyl
     exact .nil ⟨Nat.zero_le _, (fun e => by cases e), (fun t e => by cases e)⟩ fun e => by cases e
    ·
     have hcell : ∀ i j, i < len → j < P.cellsOf e → ∃ v, w.cell? ((a.add (i * P.cellsOf e)).add j) = some v := by
      intro i j hi hj
      obtain ⟨y, _, vs, q1, _⟩ := hel2 i hi
      simp only [World.cells?, Nat.zero_le, if_true] at q1
      have hlen := mapM_some_length q1
      have := mapM_some_get q1 j j (by simp [hj])
      rw [List.length_range] at hlen
      rw [List.getElem?_eq_getElem (by omega)] at this
      exact ⟨_, this⟩
     obtain ⟨v0, hv0⟩ := hcell 0 0 (by omega) ho.1
     rw [Nat.zero_mul] at hv0
     have ha0 : a.add 0 = a := by simp [Addr.add]
     rw [ha0, ha0] at hv0
     have hplain : ∀ i, a.add i = ⟨a.block, a.off + i, none⟩ := addr_add hv0
     have hae : a = ⟨a.block, a.off, none⟩ := by have := hplain 0; rw [ha0] at this; simpa using this
     have hplain2 : ∀ i j, (a.add i).add j = ⟨a.block, a.off + (i + j), none⟩ := by
      intro i j
      rw [hplain]
      unfold Addr.add
      split
      ·rename_i h; simp [h]
      ·simp [Nat.add_assoc]
     have hcell2 : ∀ i j, i < len → j < P.cellsOf e → ∃ v, w.cell? ⟨a.block, a.off + (i * P.cellsOf e + j), none⟩ = some v := by
      intro i j hi hj
      have := hcell i j hi hj
      rw [hplain2] at this
      exact this
     rw [hae, show len = (ys.map (mkV P e)).length by simp [hyl]]
     have hsz : ∀ (i : Nat) (x : AV), (ys.map (mkV P e))[i]? = some x → ∃ y, ys[i]? = some y ∧ x = mkV P e y ∧ x.cells = y := by
      intro i x hx
      rw [List.getElem?_map] at hx
      cases hy : ys[i]? with
      | none => rw [hy] at hx; cases hx
      | some y =>
       rw [hy] at hx
       simp at hx
       exact ⟨y, rfl, hx.symm, by rw [← hx, mkV_cells (hys i y hy).1]⟩
     have hvl : ∀ (i : Nat) y, ys[i]? = some y → y.length = P.cellsOf e := by
      intro i y hy
      obtain ⟨_, vs, q1, q2⟩ := hys i y hy
      rw [q2.1]
      simp only [World.cells?, Nat.zero_le, if_true] at q1
      rw [mapM_some_length q1, List.length_range]
     refine .lit (sz := P.cellsOf e) ⟨by simp; omega, (fun e => by cases e), (fun t e => by cases e)⟩ ⟨?_, (fun t e => by cases e), fun i x hx => ?_, fun k hk => ?_⟩ fun i x j c u hx hc hu2 => ?_
     ·obtain ⟨v, hv⟩ := hcell2 (len - 1) (P.cellsOf e - 1) (by omega) (by omega)
      obtain ⟨L, q1, q2⟩ := cell_lt hv
      refine ⟨L, q1, ?_⟩
      rw [List.length_map, hyl]
      have : (len - 1) * P.cellsOf e + P.cellsOf e = len * P.cellsOf e := by
       rw [← Nat.succ_mul]; congr 1; omega
      omega
     ·obtain ⟨y, q1, q2, q3⟩ := hsz i x hx
      rw [q3]; exact hvl i y q1
     ·rw [List.length_map, hyl] at hk
      have hd : k / P.cellsOf e < len := Nat.div_lt_of_lt_mul (by rw [Nat.mul_comm]; exact hk)
      have hm : k % P.cellsOf e < P.cellsOf e := Nat.mod_lt _ ho.1
      obtain ⟨v, hv⟩ := hcell2 _ _ hd hm
      have : k / P.cellsOf e * P.cellsOf e + k % P.cellsOf e = k := by rw [Nat.mul_comm]; exact Nat.div_add_mod _ _
      rw [this] at hv
      rw [hv]; rfl
     ·obtain ⟨y, q1, q2, q3⟩ := hsz i x hx
      rw [q3] at hc
      obtain ⟨_, vs, p1, p2⟩ := hys i y q1
      have hjl : j < P.cellsOf e := by
       rw [← hvl i y q1]
       exact (List.getElem?_eq_some_iff.1 hc).1
      simp only [World.cells?, Nat.zero_le, if_true] at p1
      have hg := mapM_some_get p1 j j (by simp [hjl])
      rw [hplain2] at hg
      rw [hu2] at hg
      exact p2.2 j c u hc hg.symm
  ·rename_i fs hu
   rw [List.all_eq_true] at ho
   obtain ⟨xs, m', _, hxe, hcl, hxl, hf⟩ := DataW.trod_struct hu h
   obtain ⟨k1, k2, k3⟩ := kid_struct hl ht hu
   obtain ⟨parts, q1, q2, q3⟩ := fields (P := P) (G := argG w) (w := w) (n := n) (cs := cs) fs.toList 0 (fun j f hj => by rw [k3 j f hj]; omega) (by rw [hcl, k2]; omega) fun f hfm => by
    obtain ⟨i, hi⟩ := List.getElem?_of_mem hfm
    have h1 := hf i f (by simpa using hi)
    have hil : i < xs.length := by rw [hxl]; have := (List.getElem?_eq_some_iff.1 hi).1; simpa using this
    rw [List.getElem?_eq_getElem hil] at h1
    have hd : (xs.map (·.1))[i]? = some xs[i].1 := by rw [List.getElem?_map, List.getElem?_eq_getElem hil]; rfl
    have hty : (fs.toList.map (·.type))[i]? = some f.type := by rw [List.getElem?_map, hi]; rfl
    refine typ_of_trod hl n m' f.type _ _ (k1 f hfm) (ho f hfm) h1 fun k hk => hwt k ?_
    rw [hxe]
    simp only [DataW.weights, hu]
    exact DataW.weights_mem_each hty hd k hk
   rw [List.drop_zero] at q3
   exact ⟨parts.flatten, by simp only [Typ, hu]; exact ⟨parts, rfl, q1, q2⟩, q3⟩
  ·rename_i k e hu
   obtain ⟨xs, m', _, hxe, hcl, hxl, hf⟩ := DataW.trod_array hu h
   obtain ⟨k1, k2⟩ := kid_array hl ht hu
   have hwe : ∀ (d : DataW H), d ∈ xs.map (·.1) → ∀ q ∈ d.weights P e, q ≤ reachBytes := by
    have key : ∀ (l : List (DataW H)) (d : DataW H), d ∈ l → ∀ q ∈ d.weights P e, q ∈ DataW.weightsAll P e l := by
     intro l
     induction l with
     | nil => intro d hd; cases hd
     | cons a l ih =>
      intro d hd q hq
      simp only [DataW.weightsAll, List.mem_append]
      rcases List.mem_cons.1 hd with rfl | hd
      ·exact .inl hq
      ·exact .inr (ih d hd q hq)
    intro d hd q hq
    refine hwt q ?_
    rw [hxe]
    simp only [DataW.weights, hu]
    exact key _ d hd q hq
   obtain ⟨parts, q1, q2, q3⟩ := items (P := P) (G := argG w) (w := w) (m := n) (e := e) (cs := cs) k 0 (by rw [hcl, k2]; omega) fun i hi => by
    have h1 := hf i hi
    have hil : i < xs.length := by omega
    rw [List.getElem?_eq_getElem hil] at h1
    rw [Nat.zero_add]
    exact typ_of_trod hl n m' e _ _ k1 ho h1 (hwe _ (List.mem_map.2 ⟨_, List.getElem_mem hil, rfl⟩))
   rw [List.drop_zero] at q3
   exact ⟨parts.flatten, by simp only [Typ, hu]; exact ⟨parts, rfl, q1, q2⟩, q3⟩
  ·cases ho
theorem arg_of_trod (hl : laidOutB P = true) (n : Nat) {t : TypeId} {v : Value} {d : DataW H} {ps : List MemPlace} (ht : t < P.types.size) (ho : okTy P n t = true) (hv : Value.okWide P w .any 0 t v) (h : DataW.Trod enc P w 0 sp held t v d ps) (hwt : ∀ k ∈ d.weights P t, k ≤ reachBytes) :
  ∃ az, Typ P n t az ∧ RelV (argG w) w (mkV P t az) v := by
 obtain ⟨m, hm⟩ := h
 obtain ⟨az, h1, h2⟩ := typ_of_trod hl n m t _ _ ht ho hm hwt
 refine ⟨az, h1, ?_⟩
 have hone : ∀ {a : AV}, az = [a] → (∀ cs, v ≠ .agg cs) → RelV (argG w) w a v := by
  rintro a rfl hx
  have hc : v.cells.toList = [v] := by cases v <;> first | rfl | exact absurd rfl (hx _)
  rw [hc] at h2
  exact h2.2 0 a v rfl rfl
 cases n with
 | zero => exact h1.elim
 | succ n =>
  unfold mkV
  simp only [Typ] at h1
  split at h1 <;> rename_i hu
  ·obtain ⟨b, rfl⟩ := h1
   rw [hu]
   obtain ⟨c, hc⟩ := okWide_bool hu hv
   exact hone rfl (by rw [hc]; intro cs e; cases e)
  ·obtain ⟨b, rfl, _⟩ := h1
   rw [hu]
   obtain ⟨c, hc⟩ := okWide_int hu hv
   exact hone rfl (by rw [hc]; intro cs e; cases e)
  ·obtain ⟨b, rfl, _⟩ := h1
   rw [hu]
   obtain ⟨c, hc⟩ := okWide_string hu hv
   exact hone rfl (by rw [hc]; intro cs e; cases e)
  ·obtain ⟨b, rfl, _⟩ := h1
   rw [hu]
   obtain ⟨_, _, _, hc⟩ := okWide_slice hu hv
   exact hone rfl (by rw [hc]; intro cs e; cases e)
  ·rw [hu]
   unfold Value.okWide at hv
   rw [hu] at hv
   obtain ⟨cs, rfl, _, _⟩ := hv
   refine .agg ?_ fun i a u e1 e2 => ?_
   ·have := h2.1; simpa [Value.cells] using this.symm
   ·exact h2.2 i a u e1 (by simpa [Value.cells] using e2)
  ·rw [hu]
   unfold Value.okWide at hv
   rw [hu] at hv
   obtain ⟨cs, rfl, _, _⟩ := hv
   refine .agg ?_ fun i a u e1 e2 => ?_
   ·have := h2.1; simpa [Value.cells] using this.symm
   ·exact h2.2 i a u e1 (by simpa [Value.cells] using e2)
  ·exact h1.elim
theorem relArgs_cons {G : Gh} {a : AV} {v : Value} {az : List AV} {vs : List Value} (h : RelV G w a v) (hs : RelArgs G w az vs.toArray) : RelArgs G w (a :: az) (v :: vs).toArray := by
 refine ⟨by have := hs.1; simp at this; simp [this], fun i x u e1 e2 => ?_⟩
 cases i with
 | zero => simp at e1 e2; subst e1; subst e2; exact h
 | succ i => exact hs.2 i x u (by simpa using e1) (by simpa using e2)
def Parts (P : Program) (n : Nat) : List TypeId → List AV → Prop
 | [], cs => cs = []
 | t :: ts, cs => ∃ a b, cs = a ++ b ∧ Typ P n t a ∧ Parts P n ts b
theorem parts_of {n : Nat} : ∀ (fl : List Field) (parts : List (List AV)), parts.length = fl.length → (∀ (i : Nat) f p, fl[i]? = some f → parts[i]? = some p → Typ P n f.type p) → Parts P n (fl.map Field.type) parts.flatten
 | [], parts, hl, _ => by rw [List.length_eq_zero_iff.1 hl]; rfl
 | f :: fl, [], hl, _ => by simp at hl
 | f :: fl, p :: parts, hl, h => ⟨p, parts.flatten, rfl, h 0 f p rfl rfl, parts_of fl parts (by simpa using hl) fun i g q e1 e2 => h (i + 1) g q (by simpa using e1) (by simpa using e2)⟩
theorem typ_struct {n : Nat} {t : TypeId} {fs : Array Field} {cs : List AV} (hu : P.underlying t = some (.struct fs)) (h : Typ P (n + 1) t cs) : Parts P n (fs.toList.map Field.type) cs := by
 simp only [Typ, hu] at h
 obtain ⟨parts, rfl, h1, h2⟩ := h
 exact parts_of fs.toList parts h1 h2
theorem typ_int {n : Nat} {t : TypeId} {k : IntKind} {cs : List AV} (hu : P.underlying t = some (.int k)) (h : Typ P (n + 1) t cs) : ∃ m, cs = [.int k m] ∧ (Lit.int k m).wf = true := by
 simp only [Typ, hu] at h; exact h
theorem typ_bool {n : Nat} {t : TypeId} {cs : List AV} (hu : P.underlying t = some .bool) (h : Typ P (n + 1) t cs) : ∃ b, cs = [.bool b] := by
 simp only [Typ, hu] at h; exact h
theorem typ_str {n : Nat} {t : TypeId} {cs : List AV} (hu : P.underlying t = some .string) (h : Typ P (n + 1) t cs) : ∃ s : ByteArray, cs = [.str s] ∧ s.size ≤ maxLen := by
 simp only [Typ, hu] at h; exact h
theorem typ_slice {n : Nat} {t e : TypeId} {cs : List AV} {α : Type} {f : α → AV} {Q : α → Prop} (hu : P.underlying t = some (.slice e)) (h : Typ P (n + 1) t cs) (hq : ∀ y, Typ P n e y → ∃ x, mkV P e y = f x ∧ Q x) : ∃ l : List α, cs = [.lit (l.map f) false none] ∧ (l.length < 9223372036854775808 ∧ l.length * P.bytesOf e ≤ reachBytes) ∧ ∀ x ∈ l, Q x := by
 simp only [Typ, hu] at h
 obtain ⟨ys, rfl, ⟨h1, h1b⟩, h2⟩ := h
 have key : ∀ ys : List (List AV), (∀ y ∈ ys, Typ P n e y) → ∃ l : List α, ys.map (mkV P e) = l.map f ∧ l.length = ys.length ∧ ∀ x ∈ l, Q x := by
  intro ys
  induction ys with
  | nil => intro _; exact ⟨[], rfl, rfl, by simp⟩
  | cons y ys ih =>
   intro hy
   obtain ⟨x, q1, q2⟩ := hq y (hy y (by simp))
   obtain ⟨l, q3, q4, q5⟩ := ih fun z hz => hy z (List.mem_cons_of_mem _ hz)
   exact ⟨x :: l, by simp [q1, q3], by simp [q4], fun z hz => by
    rcases List.mem_cons.1 hz with rfl | hz
    ·exact q2
    ·exact q5 z hz⟩
 obtain ⟨l, q1, q2, q3⟩ := key ys h2
 exact ⟨l, by rw [q1], ⟨by simp only [maxLen] at h1; omega, by rw [q2]; exact h1b⟩, q3⟩
theorem mkV_struct {t : TypeId} {fs : Array Field} {cs : List AV} (hu : P.underlying t = some (.struct fs)) : mkV P t cs = .agg cs := by simp [mkV, hu]
theorem mkV_one {t : TypeId} {a : AV} (hu : ∀ fs, P.underlying t ≠ some (.struct fs)) (hu2 : ∀ k e, P.underlying t ≠ some (.array k e)) : mkV P t [a] = a := by
 unfold mkV
 split
 ·rename_i fs h; exact absurd h (hu fs)
 ·rename_i k e h; exact absurd h (hu2 k e)
 ·rfl
theorem wf_u8 {m : Int} (h : (Lit.int .u8 m).wf = true) : 0 ≤ m ∧ m < 256 := by
 simp [Lit.wf, IntKind.min, IntKind.max, IntKind.signed, IntKind.bits] at h
 omega
end Go.Am
namespace Go.Am
variable {T : FuncId → Option AFunc}
theorem V_rem (k : IntKind) (a b : Int) (h : b ≠ 0) : binAV .rem (.int k a) (.int k b) = some (.int k (a.tmod b)) := by simp [binAV, binInt, h]
theorem app_full {sz b : Nat} {σ : St} {xs ys : List AV} {tk t : Option Nat} {f : Bool} (h : AppOk sz b xs ys) (h0 : ys.length ≠ 0) :
  appendAV sz b σ (.lit xs true tk) (.lit ys f t) = some (.lit (xs ++ ys) false (some σ.length), σ ++ [.tok sz (xs.length + ys.length) true]) := by
 obtain ⟨h1, h2, h3, h4⟩ := h
 simp [appendAV, view, sized, h0, h1, h2, h3, h4]
theorem app_nil {sz b : Nat} {σ : St} {xs : List AV} {tk t : Option Nat} {f f' : Bool} : appendAV sz b σ (.lit xs f' tk) (.lit [] f t) = some (.lit xs f' tk, σ) := by
 simp [appendAV, view]
theorem call_fnS {f : FuncId} {args args0 : List AV} {v : AV} {σ : St} (h : Pure T f args0 v) (ha : snapMs σ 0 20 args = some args0) (hv : Scal v) : Run T (.call f args σ) fun o => o.v = v ∧ o.σ = σ := by
 unfold snapMs at ha
 cases hs : snaps σ 0 20 args with
 | none => rw [hs] at ha; cases ha
 | some as1 =>
  rw [hs] at ha
  simp at ha
  exact .frameS hs (.inr ha.symm) (h []) fun o ho => ⟨ho.2, by rw [ho.1]; exact hv, ho.1, rfl⟩
theorem callK_s {f : FuncId} {first cap args args0 : List AV} {v : AV} {σ : St} {K : AV → St → Prop} (h : Pure T f args0 v) (ha : snapMs σ 0 20 (first ++ args ++ cap) = some args0) (hv : Scal v) (k : K v σ) : cK (K := ⟨K⟩) T (.func f first cap) args σ :=
 .callf (.mono (call_fnS h ha hv) fun o ho => by rw [ho.1, ho.2]; exact k)
theorem callD_s {f : FuncId} {first cap args args0 : List AV} {v : AV} {σ : St} {K : AV → St → Prop} (h : Pure T f args0 v) (ha : snapMs σ 0 20 (first ++ args ++ cap) = some args0) (hv : Scal v) (k : K v σ) : cD (K := ⟨K⟩) T (.func f first cap) args σ :=
 ⟨v, σ, .callf (call_fnS h ha hv), k⟩
end Go.Am
namespace Go.Am
variable {T : FuncId → Option AFunc}
def intss (l : List (List Int)) : AV := .lit (l.map ints) false none
theorem data_intss (l : List (List Int)) : Data (intss l) := data_list data_ints l
end Go.Am
namespace Go.Am
instance (l : List (List Int)) : Dat (intss l) := ⟨data_intss l⟩
end Go.Am
namespace Go.Am.Room
theorem in_ok (n lo hi : Int) : Pure T 49 [.int .i64 n, .int .i64 lo, .int .i64 hi] (.bool (inR n lo hi)) := by
 refine pure_fn (af := a49) rfl (by simp [a49]) dd ?_
 (repeat (first | simp only [↓QA, QB, Nat.reduceLT, reduceIte, Nat.reduceEqDiff, Nat.reduceAdd, Nat.reduceLeDiff, Nat.reduceMul, Nat.reduceBEq, a49] | refine rd0 rfl ?_))
 refine iteP_intro (fun h => ?_) fun h => ?_
 all_goals
  (repeat (first | simp only [↓QA, QB, Nat.reduceLT, reduceIte, Nat.reduceEqDiff, Nat.reduceAdd, Nat.reduceLeDiff, Nat.reduceMul, Nat.reduceBEq, h] | refine rd0 rfl ?_))
  simp [inR, h]
theorem inside_ok (n : Int) (s : Span) : Pure T 41 [.int .i64 n, encSpan s] (.bool (inR n s.lo s.hi)) := by
 refine pure_fn (af := a41) rfl (by simp [a41]) dd ?_
 (repeat (first | simp only [↓QA, QB, Nat.reduceLT, reduceIte, Nat.reduceEqDiff, Nat.reduceAdd, Nat.reduceLeDiff, Nat.reduceMul, Nat.reduceBEq, a41, encSpan_eq] | refine rd0 rfl ?_))
 refine callK_d (in_ok _ _ _) rfl dd ?_
 (repeat (first | simp only [↓QA, QB, Nat.reduceLT, reduceIte, Nat.reduceEqDiff, Nat.reduceAdd, Nat.reduceLeDiff, Nat.reduceMul, Nat.reduceBEq] | refine rd0 rfl ?_))
theorem ends_ok (s : Span) (lo hi : Int) : Pure T 56 [encSpan s, .int .i64 lo, .int .i64 hi] (.int .i64 (ends s lo hi)) := by
 refine pure_fn (af := a56) rfl (by simp [a56]) dd ?_
 (repeat (first | simp only [↓QA, QB, Nat.reduceLT, reduceIte, Nat.reduceEqDiff, Nat.reduceAdd, Nat.reduceLeDiff, Nat.reduceMul, Nat.reduceBEq, a56, encSpan_eq] | refine rd0 rfl ?_))
 refine callK_d (in_ok _ _ _) rfl dd ?_
 (repeat (first | simp only [↓QA, QB, Nat.reduceLT, reduceIte, Nat.reduceEqDiff, Nat.reduceAdd, Nat.reduceLeDiff, Nat.reduceMul, Nat.reduceBEq] | refine rd0 rfl ?_))
 cases h1 : inR s.lo lo hi
 ·(repeat (first | simp only [↓QA, QB, Nat.reduceLT, reduceIte, Nat.reduceEqDiff, Nat.reduceAdd, Nat.reduceLeDiff, Nat.reduceMul, Nat.reduceBEq] | refine rd0 rfl ?_))
  simp [ends, h1]
 ·(repeat (first | simp only [↓QA, QB, Nat.reduceLT, reduceIte, Nat.reduceEqDiff, Nat.reduceAdd, Nat.reduceLeDiff, Nat.reduceMul, Nat.reduceBEq] | refine rd0 rfl ?_))
  refine callK_d (in_ok _ _ _) rfl dd ?_
  (repeat (first | simp only [↓QA, QB, Nat.reduceLT, reduceIte, Nat.reduceEqDiff, Nat.reduceAdd, Nat.reduceLeDiff, Nat.reduceMul, Nat.reduceBEq] | refine rd0 rfl ?_))
  cases h2 : inR s.hi lo hi
  ·(repeat (first | simp only [↓QA, QB, Nat.reduceLT, reduceIte, Nat.reduceEqDiff, Nat.reduceAdd, Nat.reduceLeDiff, Nat.reduceMul, Nat.reduceBEq] | refine rd0 rfl ?_))
   simp [ends, h1, h2]
  ·(repeat (first | simp only [↓QA, QB, Nat.reduceLT, reduceIte, Nat.reduceEqDiff, Nat.reduceAdd, Nat.reduceLeDiff, Nat.reduceMul, Nat.reduceBEq] | refine rd0 rfl ?_))
   refine iteP_intro (fun h => ?_) fun h => ?_
   all_goals
    (repeat (first | simp only [↓QA, QB, Nat.reduceLT, reduceIte, Nat.reduceEqDiff, Nat.reduceAdd, Nat.reduceLeDiff, Nat.reduceMul, Nat.reduceBEq, h] | refine rd0 rfl ?_))
    simp [ends, h1, h2]
    simpa using h
theorem has_ok (l : List Int) (n : Int) (hl : l.length < 9223372036854775808) : Pure T 42 [ints l, .int .i64 n] (.bool (l.contains n)) := by
 refine pure_fn (af := a42) rfl (by simp [a42]) dd ?_
 (repeat (first | simp only [↓QA, QB, Nat.reduceLT, reduceIte, Nat.reduceEqDiff, Nat.reduceAdd, Nat.reduceLeDiff, Nat.reduceMul, Nat.reduceBEq, a42] | refine rd0 rfl ?_))
 refine loopE (S := Nat) 0 (· ≤ l.length) (fun k => l.length - k) (fun k => [(0, ints l), (1, .int .i64 n), (5, .bool ((l.take k).contains n)), (6, .int .i64 k)]) (fun _ => []) (Nat.zero_le _) rfl ?_ fun k hk => ?_
 ·try simp only [TrimX, QE, Nat.reduceLT, reduceIte, Nat.reduceEqDiff, Nat.reduceAdd, Nat.reduceLeDiff, Nat.reduceMul, Nat.reduceBEq]
  try simp
 ·(repeat (first | simp only [↓QA, QB, Nat.reduceLT, reduceIte, Nat.reduceEqDiff, Nat.reduceAdd, Nat.reduceLeDiff, Nat.reduceMul, Nat.reduceBEq, L42_0] | refine rd0 rfl ?_))
  refine iteP_intro (fun h => ?_) fun h => ?_
  ·have hk1 : k < l.length := by simpa using h
   (repeat (first | simp only [↓QA, QB, Nat.reduceLT, reduceIte, Nat.reduceEqDiff, Nat.reduceAdd, Nat.reduceLeDiff, Nat.reduceMul, Nat.reduceBEq] | refine rd0 rfl ?_))
   refine iteP_intro (fun h2 => ?_) fun h2 => ?_
   all_goals
    (repeat (first | simp only [↓QA, QB, Nat.reduceLT, reduceIte, Nat.reduceEqDiff, Nat.reduceAdd, Nat.reduceLeDiff, Nat.reduceMul, Nat.reduceBEq, h2, hk1] | refine rd0 rfl ?_))
    refine ⟨k + 1, by omega, by omega, ?_⟩
    try simp only [TrimX, QE, Nat.reduceLT, reduceIte, Nat.reduceEqDiff, Nat.reduceAdd, Nat.reduceLeDiff, Nat.reduceMul, Nat.reduceBEq, wrapN hk1 hl]
    simp only [List.take_succ_eq_append_getElem hk1, List.contains_append, h2]
    simp
    try (rw [Bool.eq_iff_iff]; simp; exact eq_comm)
  ·have : k = l.length := by simp at h; omega
   (repeat (first | simp only [↓QA, QB, Nat.reduceLT, reduceIte, Nat.reduceEqDiff, Nat.reduceAdd, Nat.reduceLeDiff, Nat.reduceMul, Nat.reduceBEq] | refine rd0 rfl ?_))
   simp [this]
def whereI (s : ByteArray) (l : List ByteArray) : Int := if ahead s l = l.length then -1 else ahead s l
theorem ahead_step {s : ByteArray} {l : List ByteArray} {k : Nat} (h : k < l.length) (hx : l[k] ≠ s) : k + ahead s (l.drop k) = k + 1 + ahead s (l.drop (k + 1)) := by
 rw [List.drop_eq_getElem_cons h]; simp [ahead, hx]; omega
theorem where_ok (l : List ByteArray) (s : ByteArray) (hl : l.length < 9223372036854775808) : Pure T 91 [strs l, .str s] (.int .i64 (whereI s l)) := by
 refine pure_fn (af := a91) rfl (by simp [a91]) dd ?_
 (repeat (first | simp only [↓QA, QB, Nat.reduceLT, reduceIte, Nat.reduceEqDiff, Nat.reduceAdd, Nat.reduceLeDiff, Nat.reduceMul, Nat.reduceBEq, a91] | refine rd0 rfl ?_))
 refine loopE (S := Nat) 0 (fun k => k ≤ l.length ∧ k + ahead s (l.drop k) = ahead s l) (fun k => l.length - k) (fun k => [(0, strs l), (1, .str s), (5, .int .i64 k)]) (fun _ => []) ⟨Nat.zero_le _, by simp⟩ rfl ?_ fun k hk => ?_
 ·try simp only [TrimX, QE, Nat.reduceLT, reduceIte, Nat.reduceEqDiff, Nat.reduceAdd, Nat.reduceLeDiff, Nat.reduceMul, Nat.reduceBEq]
  try simp
 ·obtain ⟨hkl, ha⟩ := hk
  (repeat (first | simp only [↓QA, QB, Nat.reduceLT, reduceIte, Nat.reduceEqDiff, Nat.reduceAdd, Nat.reduceLeDiff, Nat.reduceMul, Nat.reduceBEq, L91_0, str_beq] | refine rd0 rfl ?_))
  refine iteP_intro (fun h => ?_) fun h => ?_
  ·have hk1 : k < l.length := by simpa using h
   have e2 : ((k : Int) == l.length) = false := by simp; omega
   (repeat (first | simp only [↓QA, QB, Nat.reduceLT, reduceIte, Nat.reduceEqDiff, Nat.reduceAdd, Nat.reduceLeDiff, Nat.reduceMul, Nat.reduceBEq, h, hk1, str_beq] | refine rd0 rfl ?_))
   refine iteP_intro (fun h3 => ?_) fun h3 => ?_
   ·have h3' : l[k] ≠ s := by simpa using h3
    (repeat (first | simp only [↓QA, QB, Nat.reduceLT, reduceIte, Nat.reduceEqDiff, Nat.reduceAdd, Nat.reduceLeDiff, Nat.reduceMul, Nat.reduceBEq, h3] | refine rd0 rfl ?_))
    refine ⟨k + 1, ⟨by omega, by rw [← ahead_step hk1 h3']; exact ha⟩, by omega, ?_⟩
    try simp only [TrimX, QE, Nat.reduceLT, reduceIte, Nat.reduceEqDiff, Nat.reduceAdd, Nat.reduceLeDiff, Nat.reduceMul, Nat.reduceBEq, wrapN hk1 hl]
   ·have h3' : l[k] = s := by simpa using h3
    have h4 : ahead s (l.drop k) = 0 := by rw [List.drop_eq_getElem_cons hk1]; simp [ahead, h3']
    (repeat (first | simp only [↓QA, QB, Nat.reduceLT, reduceIte, Nat.reduceEqDiff, Nat.reduceAdd, Nat.reduceLeDiff, Nat.reduceMul, Nat.reduceBEq, h3, e2] | refine rd0 rfl ?_))
    simp only [whereI]
    rw [if_neg (by omega)]
    simp; omega
  ·have hk1 : k = l.length := by simp at h; omega
   have e2 : ((k : Int) == l.length) = true := by simp; omega
   have h4 : ahead s (l.drop k) = 0 := by rw [hk1, List.drop_length]; rfl
   (repeat (first | simp only [↓QA, QB, Nat.reduceLT, reduceIte, Nat.reduceEqDiff, Nat.reduceAdd, Nat.reduceLeDiff, Nat.reduceMul, Nat.reduceBEq, h, e2] | refine rd0 rfl ?_))
   simp only [whereI]
   rw [if_pos (by omega)]
theorem name_ok (s : ByteArray) (hs : s.size < 9223372036854775808) : Pure T 92 [.str s] (.bool (nameOk s)) := by
 refine pure_fn (af := a92) rfl (by simp [a92]) dd ?_
 (repeat (first | simp only [↓QA, QB, Nat.reduceLT, reduceIte, Nat.reduceEqDiff, Nat.reduceAdd, Nat.reduceLeDiff, Nat.reduceMul, Nat.reduceBEq, a92] | refine rd0 rfl ?_))
 ((first | refine callK_d (in_ok _ _ _) rfl dd ?_ | refine callD_d (in_ok _ _ _) rfl dd ?_); (repeat (first | simp only [↓QA, QB, Nat.reduceLT, reduceIte, Nat.reduceEqDiff, Nat.reduceAdd, Nat.reduceLeDiff, Nat.reduceMul, Nat.reduceBEq] | refine rd0 rfl ?_)))
 refine loopE (S := Nat) 0 (fun k => k ≤ s.size) (fun k => s.size - k) (fun k => [(0, .str s), (3, .bool (inR s.size 1 16 && okUpTo s k)), (4, .int .i64 k)]) (fun _ => []) (Nat.zero_le _) rfl ?_ fun k hk => ?_
 ·try simp only [TrimX, QE, Nat.reduceLT, reduceIte, Nat.reduceEqDiff, Nat.reduceAdd, Nat.reduceLeDiff, Nat.reduceMul, Nat.reduceBEq, okUpTo]
  try simp
 ·(repeat (first | simp only [↓QA, QB, Nat.reduceLT, reduceIte, Nat.reduceEqDiff, Nat.reduceAdd, Nat.reduceLeDiff, Nat.reduceMul, Nat.reduceBEq, L92_0] | refine rd0 rfl ?_))
  refine iteP_intro (fun h => ?_) fun h => ?_
  ·have hk1 : k < s.size := by simpa using h
   have hb := byteAt_lt s k
   have hw : IntKind.i64.wrap (byteAt s k) = byteAt s k := wrap64 ⟨by omega, by omega⟩
   have fin : ∀ (later : Bool), later = (decide (0 < k) && (byteAt s k == 46 || inR (byteAt s k) 48 57)) → (inR s.size 1 16 && okUpTo s k && (inR (byteAt s k) 97 122 || later)) = (inR s.size 1 16 && okUpTo s (k + 1)) := by
    rintro _ rfl
    simp only [okUpTo, okByte, Bool.and_assoc]
   have tail : ∀ (later : Bool) (e : Env), later = (decide (0 < k) && (byteAt s k == 46 || inR (byteAt s k) 48 57)) → True := fun _ _ _ => trivial
   (repeat (first | simp only [↓QA, QB, Nat.reduceLT, reduceIte, Nat.reduceEqDiff, Nat.reduceAdd, Nat.reduceLeDiff, Nat.reduceMul, Nat.reduceBEq, hk1, hw] | refine rd0 rfl ?_))
   cases h0 : decide ((0 : Int) < k)
   ·have h0' : decide (0 < k) = false := by simpa using h0
    (repeat (first | simp only [↓QA, QB, Nat.reduceLT, reduceIte, Nat.reduceEqDiff, Nat.reduceAdd, Nat.reduceLeDiff, Nat.reduceMul, Nat.reduceBEq, hk1, hw] | refine rd0 rfl ?_))
    cases hf : (inR s.size 1 16 && okUpTo s k)
    ·(repeat (first | simp only [↓QA, QB, Nat.reduceLT, reduceIte, Nat.reduceEqDiff, Nat.reduceAdd, Nat.reduceLeDiff, Nat.reduceMul, Nat.reduceBEq, hk1, hw, hf] | refine rd0 rfl ?_))
     refine ⟨k + 1, by omega, by omega, ?_⟩
     try simp only [TrimX, QE, Nat.reduceLT, reduceIte, Nat.reduceEqDiff, Nat.reduceAdd, Nat.reduceLeDiff, Nat.reduceMul, Nat.reduceBEq, wrapN hk1 hs, ← fin false (by simp [h0']), hf]
     try simp
    ·(repeat (first | simp only [↓QA, QB, Nat.reduceLT, reduceIte, Nat.reduceEqDiff, Nat.reduceAdd, Nat.reduceLeDiff, Nat.reduceMul, Nat.reduceBEq, hk1, hw, hf] | refine rd0 rfl ?_))
     ((first | refine callK_d (in_ok _ _ _) rfl dd ?_ | refine callD_d (in_ok _ _ _) rfl dd ?_); (repeat (first | simp only [↓QA, QB, Nat.reduceLT, reduceIte, Nat.reduceEqDiff, Nat.reduceAdd, Nat.reduceLeDiff, Nat.reduceMul, Nat.reduceBEq] | refine rd0 rfl ?_)))
     cases h2 : inR (byteAt s k) 97 122
     all_goals
      (repeat (first | simp only [↓QA, QB, Nat.reduceLT, reduceIte, Nat.reduceEqDiff, Nat.reduceAdd, Nat.reduceLeDiff, Nat.reduceMul, Nat.reduceBEq, hk1, hw, hf] | refine rd0 rfl ?_))
      refine ⟨k + 1, by omega, by omega, ?_⟩
      try simp only [TrimX, QE, Nat.reduceLT, reduceIte, Nat.reduceEqDiff, Nat.reduceAdd, Nat.reduceLeDiff, Nat.reduceMul, Nat.reduceBEq, wrapN hk1 hs, ← fin false (by simp [h0']), hf, h2]
      try simp
   ·have h0' : decide (0 < k) = true := by simpa using h0
    (repeat (first | simp only [↓QA, QB, Nat.reduceLT, reduceIte, Nat.reduceEqDiff, Nat.reduceAdd, Nat.reduceLeDiff, Nat.reduceMul, Nat.reduceBEq, hk1, hw] | refine rd0 rfl ?_))
    cases h1 : (byteAt s k == 46)
    ·(repeat (first | simp only [↓QA, QB, Nat.reduceLT, reduceIte, Nat.reduceEqDiff, Nat.reduceAdd, Nat.reduceLeDiff, Nat.reduceMul, Nat.reduceBEq, hk1, hw] | refine rd0 rfl ?_))
     ((first | refine callK_d (in_ok _ _ _) rfl dd ?_ | refine callD_d (in_ok _ _ _) rfl dd ?_); (repeat (first | simp only [↓QA, QB, Nat.reduceLT, reduceIte, Nat.reduceEqDiff, Nat.reduceAdd, Nat.reduceLeDiff, Nat.reduceMul, Nat.reduceBEq] | refine rd0 rfl ?_)))
     cases hf : (inR s.size 1 16 && okUpTo s k)
     ·(repeat (first | simp only [↓QA, QB, Nat.reduceLT, reduceIte, Nat.reduceEqDiff, Nat.reduceAdd, Nat.reduceLeDiff, Nat.reduceMul, Nat.reduceBEq, hk1, hw, hf] | refine rd0 rfl ?_))
      refine ⟨k + 1, by omega, by omega, ?_⟩
      try simp only [TrimX, QE, Nat.reduceLT, reduceIte, Nat.reduceEqDiff, Nat.reduceAdd, Nat.reduceLeDiff, Nat.reduceMul, Nat.reduceBEq, wrapN hk1 hs, ← fin _ rfl, hf]
      try simp
     ·(repeat (first | simp only [↓QA, QB, Nat.reduceLT, reduceIte, Nat.reduceEqDiff, Nat.reduceAdd, Nat.reduceLeDiff, Nat.reduceMul, Nat.reduceBEq, hk1, hw, hf] | refine rd0 rfl ?_))
      ((first | refine callK_d (in_ok _ _ _) rfl dd ?_ | refine callD_d (in_ok _ _ _) rfl dd ?_); (repeat (first | simp only [↓QA, QB, Nat.reduceLT, reduceIte, Nat.reduceEqDiff, Nat.reduceAdd, Nat.reduceLeDiff, Nat.reduceMul, Nat.reduceBEq] | refine rd0 rfl ?_)))
      cases h2 : inR (byteAt s k) 97 122
      all_goals
       (repeat (first | simp only [↓QA, QB, Nat.reduceLT, reduceIte, Nat.reduceEqDiff, Nat.reduceAdd, Nat.reduceLeDiff, Nat.reduceMul, Nat.reduceBEq, hk1, hw, hf] | refine rd0 rfl ?_))
       refine ⟨k + 1, by omega, by omega, ?_⟩
       try simp only [TrimX, QE, Nat.reduceLT, reduceIte, Nat.reduceEqDiff, Nat.reduceAdd, Nat.reduceLeDiff, Nat.reduceMul, Nat.reduceBEq, wrapN hk1 hs, ← fin _ rfl, hf, h2, h0', h1]
       try simp
    ·(repeat (first | simp only [↓QA, QB, Nat.reduceLT, reduceIte, Nat.reduceEqDiff, Nat.reduceAdd, Nat.reduceLeDiff, Nat.reduceMul, Nat.reduceBEq, hk1, hw] | refine rd0 rfl ?_))
     cases hf : (inR s.size 1 16 && okUpTo s k)
     ·(repeat (first | simp only [↓QA, QB, Nat.reduceLT, reduceIte, Nat.reduceEqDiff, Nat.reduceAdd, Nat.reduceLeDiff, Nat.reduceMul, Nat.reduceBEq, hk1, hw, hf] | refine rd0 rfl ?_))
      refine ⟨k + 1, by omega, by omega, ?_⟩
      try simp only [TrimX, QE, Nat.reduceLT, reduceIte, Nat.reduceEqDiff, Nat.reduceAdd, Nat.reduceLeDiff, Nat.reduceMul, Nat.reduceBEq, wrapN hk1 hs, ← fin _ rfl, hf]
      try simp
     ·(repeat (first | simp only [↓QA, QB, Nat.reduceLT, reduceIte, Nat.reduceEqDiff, Nat.reduceAdd, Nat.reduceLeDiff, Nat.reduceMul, Nat.reduceBEq, hk1, hw, hf] | refine rd0 rfl ?_))
      ((first | refine callK_d (in_ok _ _ _) rfl dd ?_ | refine callD_d (in_ok _ _ _) rfl dd ?_); (repeat (first | simp only [↓QA, QB, Nat.reduceLT, reduceIte, Nat.reduceEqDiff, Nat.reduceAdd, Nat.reduceLeDiff, Nat.reduceMul, Nat.reduceBEq] | refine rd0 rfl ?_)))
      cases h2 : inR (byteAt s k) 97 122
      all_goals
       (repeat (first | simp only [↓QA, QB, Nat.reduceLT, reduceIte, Nat.reduceEqDiff, Nat.reduceAdd, Nat.reduceLeDiff, Nat.reduceMul, Nat.reduceBEq, hk1, hw, hf] | refine rd0 rfl ?_))
       refine ⟨k + 1, by omega, by omega, ?_⟩
       try simp only [TrimX, QE, Nat.reduceLT, reduceIte, Nat.reduceEqDiff, Nat.reduceAdd, Nat.reduceLeDiff, Nat.reduceMul, Nat.reduceBEq, wrapN hk1 hs, ← fin _ rfl, hf, h2, h0', h1]
       try simp
  ·have hk1 : k = s.size := by simp at h; omega
   (repeat (first | simp only [↓QA, QB, Nat.reduceLT, reduceIte, Nat.reduceEqDiff, Nat.reduceAdd, Nat.reduceLeDiff, Nat.reduceMul, Nat.reduceBEq] | refine rd0 rfl ?_))
   simp [nameOk, hk1]
theorem fresh_ok (s : ByteArray) (l : List ByteArray) (hs : s.size < 9223372036854775808) (hl : l.length < 9223372036854775808) : Pure T 57 [.str s, strs l] (.int .i64 (fresh s l)) := by
 refine pure_fn (af := a57) rfl (by simp [a57]) dd ?_
 (repeat (first | simp only [↓QA, QB, Nat.reduceLT, reduceIte, Nat.reduceEqDiff, Nat.reduceAdd, Nat.reduceLeDiff, Nat.reduceMul, Nat.reduceBEq, a57] | refine rd0 rfl ?_))
 ((first | refine callK_d (where_ok l s hl) rfl dd ?_ | refine callD_d (where_ok l s hl) rfl dd ?_); (repeat (first | simp only [↓QA, QB, Nat.reduceLT, reduceIte, Nat.reduceEqDiff, Nat.reduceAdd, Nat.reduceLeDiff, Nat.reduceMul, Nat.reduceBEq] | refine rd0 rfl ?_)))
 refine iteP_intro (fun h => ?_) fun h => ?_
 ·have hin : ahead s l ≠ l.length := by
   intro e
   simp [whereI, e] at h
  (repeat (first | simp only [↓QA, QB, Nat.reduceLT, reduceIte, Nat.reduceEqDiff, Nat.reduceAdd, Nat.reduceLeDiff, Nat.reduceMul, Nat.reduceBEq] | refine rd0 rfl ?_))
  ((first | refine callK_d (name_ok s hs) rfl dd ?_ | refine callD_d (name_ok s hs) rfl dd ?_); (repeat (first | simp only [↓QA, QB, Nat.reduceLT, reduceIte, Nat.reduceEqDiff, Nat.reduceAdd, Nat.reduceLeDiff, Nat.reduceMul, Nat.reduceBEq] | refine rd0 rfl ?_)))
  cases hn : nameOk s
  all_goals
   (repeat (first | simp only [↓QA, QB, Nat.reduceLT, reduceIte, Nat.reduceEqDiff, Nat.reduceAdd, Nat.reduceLeDiff, Nat.reduceMul, Nat.reduceBEq] | refine rd0 rfl ?_))
   simp [fresh, hn, hin]
 ·have hin : ahead s l = l.length := by
   simp only [whereI] at h
   split at h
   ·assumption
   ·simp at h
  (repeat (first | simp only [↓QA, QB, Nat.reduceLT, reduceIte, Nat.reduceEqDiff, Nat.reduceAdd, Nat.reduceLeDiff, Nat.reduceMul, Nat.reduceBEq] | refine rd0 rfl ?_))
  ((first | refine callK_d (name_ok s hs) rfl dd ?_ | refine callD_d (name_ok s hs) rfl dd ?_); (repeat (first | simp only [↓QA, QB, Nat.reduceLT, reduceIte, Nat.reduceEqDiff, Nat.reduceAdd, Nat.reduceLeDiff, Nat.reduceMul, Nat.reduceBEq] | refine rd0 rfl ?_)))
  cases hn : nameOk s
  all_goals
   (repeat (first | simp only [↓QA, QB, Nat.reduceLT, reduceIte, Nat.reduceEqDiff, Nat.reduceAdd, Nat.reduceLeDiff, Nat.reduceMul, Nat.reduceBEq] | refine rd0 rfl ?_))
   simp [fresh, hn, hin]
theorem flat_le {α β : Type} (f : α → List β) (b : Nat) : ∀ l : List α, (∀ x ∈ l, (f x).length ≤ b) → (l.flatMap f).length ≤ l.length * b
 | [], _ => by simp
 | x :: l, h => by
  have h1 := h x (by simp)
  have h2 := flat_le f b l fun y hy => h y (List.mem_cons_of_mem _ hy)
  simp only [List.flatMap_cons, List.length_append, List.length_cons, Nat.add_mul]
  omega
theorem allCells_ints (l : List (List Int)) : allCells 1 (l.map ints) = true := L_allM 1 ints l fun x => C_lit _ _ _
open Go
variable {P : Program}
def IsStruct (P : Program) (t : TypeId) (ts : List TypeId) : Prop := ∃ fs, P.underlying t = some (.struct fs) ∧ fs.toList.map Field.type = ts
theorem typ_st {n : Nat} {t : TypeId} {ts : List TypeId} {cs : List AV} (hu : IsStruct P t ts) (h : Typ P (n + 1) t cs) : mkV P t cs = .agg cs ∧ Parts P n ts cs := by
 obtain ⟨fs, h1, h2⟩ := hu
 have := typ_struct h1 h
 rw [h2] at this
 exact ⟨mkV_struct h1, this⟩
theorem mkV_ne {t : TypeId} {a : AV} {d : TypeDesc} (hu : P.underlying t = some d) (hd : ∀ fs, d ≠ .struct fs := by intro fs h; cases h) (hd2 : ∀ k e, d ≠ .array k e := by intro k e h; cases h) : mkV P t [a] = a := mkV_one (by rw [hu]; intro fs e; cases e; exact hd _ rfl) (by rw [hu]; intro k e h; cases h; exact hd2 _ _ rfl)
theorem tc_span {n : Nat} {i t : TypeId} {cs : List AV} (hi : P.underlying i = some (.int .i64)) (hs : IsStruct P t [i, i]) (h : Typ P (n + 2) t cs) : ∃ s : Span, cs = [.int .i64 s.lo, .int .i64 s.hi] := by
 obtain ⟨_, a, b, rfl, h1, c, d, rfl, h2, rfl⟩ := typ_st hs h
 obtain ⟨x, rfl, _⟩ := typ_int hi h1
 obtain ⟨y, rfl, _⟩ := typ_int hi h2
 exact ⟨⟨x, y⟩, rfl⟩
theorem tc_u8 {n : Nat} {t : TypeId} {cs : List AV} (hi : P.underlying t = some (.int .u8)) (h : Typ P (n + 1) t cs) : ∃ x : Int, mkV P t cs = .int .u8 x ∧ (0 ≤ x ∧ x < 256) := by
 obtain ⟨x, rfl, hw⟩ := typ_int hi h
 exact ⟨x, mkV_ne hi, wf_u8 hw⟩
theorem tc_u8s {n : Nat} {t i : TypeId} {cs : List AV} (hi : P.underlying i = some (.int .u8)) (hs : P.underlying t = some (.slice i)) (h : Typ P (n + 2) t cs) : ∃ l : List Int, mkV P t cs = .lit (l.map (.int .u8)) false none ∧ (∀ x ∈ l, 0 ≤ x ∧ x < 256) ∧ l.length < 9223372036854775808 := by
 obtain ⟨l, rfl, ⟨h1, _⟩, h2⟩ := typ_slice (f := fun x : Int => AV.int .u8 x) hs h fun y hy => tc_u8 hi hy
 exact ⟨l, mkV_ne hs, h2, h1⟩
end Go.Am.Room
namespace Go.Am.Room
theorem ends_of {s : Span} {lo hi : Int} (h : lo ≤ s.lo ∧ s.lo ≤ s.hi ∧ s.hi ≤ hi) : ends s lo hi = 0 := by
 unfold ends
 rw [inR_iff.2 ⟨h.1, by omega⟩, inR_iff.2 ⟨by omega, h.2.2⟩]
 simp
 omega
theorem firstBad_no {α : Type} {f : Nat → α → Int} : ∀ {l : List α} {i : Nat}, (∀ x ∈ l, ∀ k, f k x = 0) → firstBad f l i = none
 | [], _, _ => rfl
 | x :: xs, i, h => by
  simp only [firstBad]
  rw [if_pos (h x (by simp) i)]
  exact firstBad_no fun y hy => h y (by simp [hy])
theorem firstBad_noI {α : Type} {f : Nat → α → Int} : ∀ {l : List α} {i : Nat}, (∀ k (h : k < l.length), f (i + k) l[k] = 0) → firstBad f l i = none
 | [], _, _ => rfl
 | x :: xs, i, h => by
  simp only [firstBad]
  rw [if_pos (show f i x = 0 from h 0 (by simp))]
  exact firstBad_noI fun k hk => by have := h (k + 1) (by simpa using hk); simpa [Nat.add_assoc, Nat.add_comm 1 k] using this
def encTn (t : Tn) : AV := .agg [.int .i64 t.hour, .int .i64 t.door]
theorem encTn_eq (t : Tn) : encTn t = .agg [.int .i64 t.hour, .int .i64 t.door] := by simp only [encTn]
theorem data_tn (t : Tn) : Data (encTn t) := data_agg (datas_cons (data_int _ _) (datas_cons (data_int _ _) datas_nil))
instance (t : Tn) : Dat (encTn t) := ⟨data_tn t⟩
instance (l : List Tn) : Dats (l.map encTn) := ⟨datas_map data_tn l⟩
theorem S_mapTn (σ : St) (m d : Nat) (l : List Tn) : snapMs σ m d (l.map encTn) = some (l.map encTn) := S_datas (datas_map data_tn l) σ m d
def tns (l : List Tn) : AV := .lit (l.map encTn) false none
theorem tns_eq (l : List Tn) : tns l = .lit (l.map encTn) false none := by simp only [tns]
theorem data_tns (l : List Tn) : Data (tns l) := data_list data_tn l
instance (l : List Tn) : Dat (tns l) := ⟨data_tns l⟩
instance (l : List (List Tn)) : Dats (l.map tns) := ⟨datas_map data_tns l⟩
theorem S_mapTns (σ : St) (m d : Nat) (l : List (List Tn)) : snapMs σ m d (l.map tns) = some (l.map tns) := S_datas (datas_map data_tns l) σ m d
open Go
variable {P : Program}
structure Tys (P : Program) : Prop where
 int : P.underlying 3 = some (.int .i64)
 bool : P.underlying 4 = some .bool
 u8 : P.underlying 5 = some (.int .u8)
 str : P.underlying 9 = some .string
 span : IsStruct P 23 [3, 3]
 keepers : P.underlying 24 = some (.slice 90)
 doors : P.underlying 25 = some (.slice 57)
 looks : P.underlying 26 = some (.slice 47)
 voy : IsStruct P 28 [3, 23, 24, 25, 3, 26]
 look : IsStruct P 47 [3, 3, 4]
 u8s : P.underlying 49 = some (.slice 5)
 door : IsStruct P 57 [3, 4]
 a2 : P.underlying 76 = some (.array 2 5)
 kp : IsStruct P 90 [9, 3]
 lookB : P.bytesOf 47 = 24
theorem ty_kp {n : Nat} {cs : List AV} (T : Tys P) (h : Typ P (n + 2) 90 cs) : ∃ s : Kp, mkV P 90 cs = encKp s ∧ s.name.size < 9223372036854775808 := by
 obtain ⟨e, a, b, rfl, h1, c, d, rfl, h2, rfl⟩ := typ_st T.kp h
 obtain ⟨x, rfl, hx⟩ := typ_str T.str h1
 obtain ⟨y, rfl, _⟩ := typ_int T.int h2
 exact ⟨⟨x, y⟩, e, by simp only [maxLen] at hx; simp only; omega⟩
theorem ty_door {n : Nat} {cs : List AV} (T : Tys P) (h : Typ P (n + 2) 57 cs) : ∃ s : Door, mkV P 57 cs = encDoor s ∧ True := by
 obtain ⟨e, a, b, rfl, h1, c, d, rfl, h2, rfl⟩ := typ_st T.door h
 obtain ⟨x, rfl, _⟩ := typ_int T.int h1
 obtain ⟨y, rfl⟩ := typ_bool T.bool h2
 exact ⟨⟨x, y⟩, e, trivial⟩
theorem ty_look {n : Nat} {cs : List AV} (T : Tys P) (h : Typ P (n + 2) 47 cs) : ∃ s : Look, mkV P 47 cs = encLook s ∧ True := by
 obtain ⟨e, a, b, rfl, h1, c, d, rfl, h2, c2, d2, rfl, h3, rfl⟩ := typ_st T.look h
 obtain ⟨x, rfl, _⟩ := typ_int T.int h1
 obtain ⟨y, rfl, _⟩ := typ_int T.int h2
 obtain ⟨z, rfl⟩ := typ_bool T.bool h3
 exact ⟨⟨x, y, z⟩, e, trivial⟩
theorem ty_u8s {n : Nat} {cs : List AV} (T : Tys P) (h : Typ P (n + 2) 49 cs) : ∃ l : List Int, mkV P 49 cs = .lit (l.map (.int .u8)) false none ∧ (∀ x ∈ l, 0 ≤ x ∧ x < 256) ∧ l.length < 9223372036854775808 := tc_u8s T.u8 T.u8s h
theorem ty_voyB {n : Nat} {cs : List AV} (T : Tys P) (h : Typ P (n + 4) 28 cs) : ∃ s : Voy, mkV P 28 cs = encVoy s ∧ Fits s ∧ s.looks.length * 24 ≤ 140737488351232 := by
 obtain ⟨e, a1, b1, rfl, h1, a2, b2, rfl, h2, a3, b3, rfl, h3, a4, b4, rfl, h4, a5, b5, rfl, h5, a6, b6, rfl, h6, rfl⟩ := typ_st T.voy h
 obtain ⟨x1, rfl, _⟩ := typ_int T.int h1
 obtain ⟨x2, rfl⟩ := tc_span T.int T.span h2
 obtain ⟨x3, rfl, ⟨l3, _⟩, q3⟩ := typ_slice T.keepers h3 fun y hy => ty_kp T hy
 obtain ⟨x4, rfl, ⟨l4, _⟩, _⟩ := typ_slice T.doors h4 fun y hy => ty_door T hy
 obtain ⟨x5, rfl, _⟩ := typ_int T.int h5
 obtain ⟨x6, rfl, ⟨l6, b6⟩, _⟩ := typ_slice T.looks h6 fun y hy => ty_look T hy
 exact ⟨⟨x1, x2, x3, x4, x5, x6⟩, e, ⟨l3, l4, l6, q3⟩, by rw [T.lookB] at b6; simpa [reachBytes] using b6⟩
theorem ty_voy {n : Nat} {cs : List AV} (T : Tys P) (h : Typ P (n + 4) 28 cs) : ∃ s : Voy, mkV P 28 cs = encVoy s ∧ Fits s := by
 obtain ⟨r, h1, h2, _⟩ := ty_voyB T h
 exact ⟨r, h1, h2⟩
end Go.Am.Room
namespace Go.Am.Room
theorem check_of_vd {v : Voy} (h : Vd v) : check v = (0, 0, 0) := by
 have h1 := h.nkp
 have h2 := h.ndr
 have h3 := h.nlk
 have h4 := h.lots
 have g1 : firstBad (kpErr v) v.keepers 0 = none := firstBad_noI fun k hk => by simpa using h.kp k hk
 have g2 : firstBad (drErr v) v.doors 0 = none := firstBad_no fun d hd k => by simp [drErr, inR_iff.2 (h.dr d hd)]
 have g3 : firstBad (lkErr v) v.looks 0 = none := firstBad_no fun x hx k => by
  have := h.lk x hx
  have a : inR x.lot 0 (v.lots - 1) = true := inR_iff.2 (by omega)
  simp [lkErr, a, inR_iff.2 this.2]
 have e4 : check4 v = (0, 0, 0) := by rw [check4, if_neg (by omega), g3]
 have e3 : check3 v = (0, 0, 0) := by rw [check3, if_neg (by omega), g2]; exact e4
 have e2 : check2 v = (0, 0, 0) := by rw [check2, if_neg (by simp [inR_iff.2 (show (1 : Int) ≤ v.keepers.length ∧ (v.keepers.length : Int) ≤ 5 by omega)]), g1]; exact e3
 have e0 : ends v.delay 0 8 = 0 := ends_of h.delay
 rw [check, if_neg (by simp [inR_iff.2 h.hours, inR_iff.2 h4, e0]), if_pos e0]
 exact e2
end Go.Am.Room
set_option maxRecDepth 4000
namespace Go.Am.Room
def QXDDrC1 := And.intro @encVoy_eq (And.intro @voyCells_eq (And.intro @encKp_eq (And.intro @encDoor_eq (And.intro @encLook_eq (And.intro @encSpan_eq (And.intro @S_mapKp (And.intro @S_mapDoor (@S_mapLook))))))))
theorem rhour_ok (v : Voy) (n : Int) : Pure T 59 [encVoy v, .int .i64 n] (.bool (inR n 0 v.hours)) := by
 refine pure_fn (af := a59) rfl (by simp [a59]) dd ?_
 (repeat (first | simp only [↓QA, QB, Nat.reduceLT, reduceIte, Nat.reduceEqDiff, Nat.reduceAdd, Nat.reduceLeDiff, Nat.reduceMul, Nat.reduceBEq, QXDDrC1, a59] | refine rd0 rfl ?_))
 ((first | refine callK_d (in_ok n 0 v.hours) rfl dd ?_ | refine callD_d (in_ok n 0 v.hours) rfl dd ?_); (repeat (first | simp only [↓QA, QB, Nat.reduceLT, reduceIte, Nat.reduceEqDiff, Nat.reduceAdd, Nat.reduceLeDiff, Nat.reduceMul, Nat.reduceBEq, QXDDrC1] | refine rd0 rfl ?_)))
theorem rkeeper_ok (v : Voy) (i : Nat) (hf : Fits v) (hi : i < v.keepers.length) : Pure T 58 [encVoy v, .int .i64 i] (.int .i64 (kpErr2 v i)) := by
 refine pure_fn (af := a58) rfl (by simp [a58]) dd ?_
 have hfk := hf.keepers
 have he := frm_at hi
 have hk : kpErr2 v i = if inR (frmAt v i) 0 v.hours = false then 7 else if (i = 0 ∧ frmAt v i ≠ 0) ∨ (0 < i ∧ frmAt v i ≤ frmAt v (i - 1)) then 2 else 0 := rfl
 obtain ⟨E, hE⟩ : ∃ E, kpErr2 v i = E := ⟨_, rfl⟩
 rw [hE] at hk ⊢
 obtain ⟨F, hF⟩ : ∃ F, frmAt v i = F := ⟨_, rfl⟩
 rw [hF] at hk he
 (repeat (first | simp only [↓QA, QB, Nat.reduceLT, reduceIte, Nat.reduceEqDiff, Nat.reduceAdd, Nat.reduceLeDiff, Nat.reduceMul, Nat.reduceBEq, QXDDrC1, a58, hi, ← he] | refine rd0 rfl ?_))
 ((first | refine callK_d (rhour_ok v F) rfl dd ?_ | refine callD_d (rhour_ok v F) rfl dd ?_); (repeat (first | simp only [↓QA, QB, Nat.reduceLT, reduceIte, Nat.reduceEqDiff, Nat.reduceAdd, Nat.reduceLeDiff, Nat.reduceMul, Nat.reduceBEq, QXDDrC1] | refine rd0 rfl ?_)))
 cases h1 : inR F 0 v.hours
 ·rw [h1] at hk
  (repeat (first | simp only [↓QA, QB, Nat.reduceLT, reduceIte, Nat.reduceEqDiff, Nat.reduceAdd, Nat.reduceLeDiff, Nat.reduceMul, Nat.reduceBEq, QXDDrC1] | refine rd0 rfl ?_))
  rw [hk]; rfl
 ·rw [h1] at hk
  simp only [Bool.true_eq_false, if_false] at hk
  by_cases h0 : i = 0
  ·subst h0
   cases h2 : (F == 0)
   ·have h2' : F ≠ 0 := by simpa using h2
    have : E = 2 := by rw [hk, if_pos (.inl ⟨rfl, h2'⟩)]
    (repeat (first | simp only [↓QA, QB, Nat.reduceLT, reduceIte, Nat.reduceEqDiff, Nat.reduceAdd, Nat.reduceLeDiff, Nat.reduceMul, Nat.reduceBEq, QXDDrC1, h2, show (((0 : Nat) : Int) == 0) = true from rfl] | refine rd0 rfl ?_))
    rw [this]
   ·have h2' : F = 0 := by simpa using h2
    have : E = 0 := by rw [hk, if_neg (by omega)]
    (repeat (first | simp only [↓QA, QB, Nat.reduceLT, reduceIte, Nat.reduceEqDiff, Nat.reduceAdd, Nat.reduceLeDiff, Nat.reduceMul, Nat.reduceBEq, QXDDrC1, h2, show (((0 : Nat) : Int) == 0) = true from rfl, show decide ((0 : Int) < ((0 : Nat) : Int)) = false from rfl] | refine rd0 rfl ?_))
    rw [this]
  ·have g0 : ((i : Int) == 0) = false := by simp; omega
   have g1 : decide ((0 : Int) < (i : Int)) = true := by simp; omega
   have hw : IntKind.i64.wrap ((i : Int) - 1) = ((i - 1 : Nat) : Int) := by rw [wrap64 ⟨by omega, by omega⟩]; omega
   have hi1 : i - 1 < v.keepers.length := by omega
   have he1 := frm_at hi1
   obtain ⟨G, hG⟩ : ∃ G, frmAt v (i - 1) = G := ⟨_, rfl⟩
   rw [hG] at hk he1
   cases h2 : decide (F ≤ G)
   ·have h2' : ¬ F ≤ G := by simpa using h2
    have : E = 0 := by rw [hk, if_neg (by omega)]
    (repeat (first | simp only [↓QA, QB, Nat.reduceLT, reduceIte, Nat.reduceEqDiff, Nat.reduceAdd, Nat.reduceLeDiff, Nat.reduceMul, Nat.reduceBEq, QXDDrC1, g0, g1, hw, hi1, ← he1, h2] | refine rd0 rfl ?_))
    rw [this]
   ·have h2' : F ≤ G := by simpa using h2
    have : E = 2 := by rw [hk, if_pos (.inr ⟨by omega, h2'⟩)]
    (repeat (first | simp only [↓QA, QB, Nat.reduceLT, reduceIte, Nat.reduceEqDiff, Nat.reduceAdd, Nat.reduceLeDiff, Nat.reduceMul, Nat.reduceBEq, QXDDrC1, g0, g1, hw, hi1, ← he1, h2] | refine rd0 rfl ?_))
    rw [this]
theorem append_str {k : Nat} {ns : List ByteArray} {s : ByteArray} {b : ABlk} {ex : Bool} (hk : ns.length = k) (hn : k < 16) : appendAV 1 16 [b, .tok 1 k ex] (.lit (ns.map .str) false (some 1)) (.lit [.str s] true none) = some (.lit ((ns ++ [s]).map .str) false (some 1), [b, .tok 1 (k + 1) true]) := by
 rw [app_tok (ex := ex) ⟨L_allM 1 _ ns (fun x => C_str _), by simp [allCells, AV.cells, AV.cell], by simp [room, hk]; omega, by simp [room, hk]; omega⟩ (by simp) (by simp [hk])]
 simp [hk]
theorem take_name {v : Voy} {k : Nat} (h : k < v.keepers.length) : (v.keepers.take (k + 1)).map Kp.name = (v.keepers.take k).map Kp.name ++ [v.keepers[k].name] := by
 rw [List.take_succ_eq_append_getElem h, List.map_append]; rfl
theorem refcheck_ok (v : Voy) (h : Fits v) : Pure T 17 [encVoy v] (enc3 (check v)) := by
 refine pure_fn (af := a17) rfl (by simp [a17]) dd ?_
 have hfk := h.keepers
 have hfd := h.doors
 have hfl := h.looks
 (repeat (first | simp only [↓QA, QB, Nat.reduceLT, reduceIte, Nat.reduceEqDiff, Nat.reduceAdd, Nat.reduceLeDiff, Nat.reduceMul, Nat.reduceBEq, QXDDrC1, a17] | refine rd0 rfl ?_))
 ((first | refine callK_d (ends_ok v.delay 0 8) rfl dd ?_ | refine callD_d (ends_ok v.delay 0 8) rfl dd ?_); (repeat (first | simp only [↓QA, QB, Nat.reduceLT, reduceIte, Nat.reduceEqDiff, Nat.reduceAdd, Nat.reduceLeDiff, Nat.reduceMul, Nat.reduceBEq, QXDDrC1] | refine rd0 rfl ?_)))
 ((first | refine callK_d (in_ok v.hours 1 24) rfl dd ?_ | refine callD_d (in_ok v.hours 1 24) rfl dd ?_); (repeat (first | simp only [↓QA, QB, Nat.reduceLT, reduceIte, Nat.reduceEqDiff, Nat.reduceAdd, Nat.reduceLeDiff, Nat.reduceMul, Nat.reduceBEq, QXDDrC1] | refine rd0 rfl ?_)))
 cases h1 : inR v.hours 1 24
 ·(repeat (first | simp only [↓QA, QB, Nat.reduceLT, reduceIte, Nat.reduceEqDiff, Nat.reduceAdd, Nat.reduceLeDiff, Nat.reduceMul, Nat.reduceBEq, QXDDrC1] | refine rd0 rfl ?_))
  simp [check, h1, enc3]
 ·(repeat (first | simp only [↓QA, QB, Nat.reduceLT, reduceIte, Nat.reduceEqDiff, Nat.reduceAdd, Nat.reduceLeDiff, Nat.reduceMul, Nat.reduceBEq, QXDDrC1] | refine rd0 rfl ?_))
  cases h2 : (ends v.delay 0 8 == 7)
  ·have h2' : ends v.delay 0 8 ≠ 7 := by simpa using h2
   (repeat (first | simp only [↓QA, QB, Nat.reduceLT, reduceIte, Nat.reduceEqDiff, Nat.reduceAdd, Nat.reduceLeDiff, Nat.reduceMul, Nat.reduceBEq, QXDDrC1, h2] | refine rd0 rfl ?_))
   ((first | refine callK_d (in_ok v.lots 1 3) rfl dd ?_ | refine callD_d (in_ok v.lots 1 3) rfl dd ?_); (repeat (first | simp only [↓QA, QB, Nat.reduceLT, reduceIte, Nat.reduceEqDiff, Nat.reduceAdd, Nat.reduceLeDiff, Nat.reduceMul, Nat.reduceBEq, QXDDrC1] | refine rd0 rfl ?_)))
   cases h3 : inR v.lots 1 3
   ·(repeat (first | simp only [↓QA, QB, Nat.reduceLT, reduceIte, Nat.reduceEqDiff, Nat.reduceAdd, Nat.reduceLeDiff, Nat.reduceMul, Nat.reduceBEq, QXDDrC1] | refine rd0 rfl ?_))
    simp [check, h3, enc3]
   ·(repeat (first | simp only [↓QA, QB, Nat.reduceLT, reduceIte, Nat.reduceEqDiff, Nat.reduceAdd, Nat.reduceLeDiff, Nat.reduceMul, Nat.reduceBEq, QXDDrC1] | refine rd0 rfl ?_))
    cases h4 : (ends v.delay 0 8 == 0)
    ·have h4' : ends v.delay 0 8 ≠ 0 := by simpa using h4
     (repeat (first | simp only [↓QA, QB, Nat.reduceLT, reduceIte, Nat.reduceEqDiff, Nat.reduceAdd, Nat.reduceLeDiff, Nat.reduceMul, Nat.reduceBEq, QXDDrC1, h4] | refine rd0 rfl ?_))
     simp [check, h1, h2', h3, h4', enc3]
    ·have h4' : ends v.delay 0 8 = 0 := by simpa using h4
     have hlo := h3
     rw [inR_iff] at hlo
     have hc : check v = check2 v := by simp [check, h1, h3, h4']
     rw [hc]
     (repeat (first | simp only [↓QA, QB, Nat.reduceLT, reduceIte, Nat.reduceEqDiff, Nat.reduceAdd, Nat.reduceLeDiff, Nat.reduceMul, Nat.reduceBEq, QXDDrC1, h4] | refine rd0 rfl ?_))
     ((first | refine callK_d (in_ok v.keepers.length 1 5) rfl dd ?_ | refine callD_d (in_ok v.keepers.length 1 5) rfl dd ?_); (repeat (first | simp only [↓QA, QB, Nat.reduceLT, reduceIte, Nat.reduceEqDiff, Nat.reduceAdd, Nat.reduceLeDiff, Nat.reduceMul, Nat.reduceBEq, QXDDrC1] | refine rd0 rfl ?_)))
     cases h5 : inR v.keepers.length 1 5
     ·(repeat (first | simp only [↓QA, QB, Nat.reduceLT, reduceIte, Nat.reduceEqDiff, Nat.reduceAdd, Nat.reduceLeDiff, Nat.reduceMul, Nat.reduceBEq, QXDDrC1] | refine rd0 rfl ?_))
      simp [check2, h5, enc3]
     ·have h5' : v.keepers.length ≤ 5 := by simp [inR] at h5; omega
      have hc : check2 v = match firstBad (kpErr v) v.keepers 0 with | some (i, e) => (2, (i : Int), e) | none => check3 v := by simp only [check2, h5, Bool.true_eq_false, if_false]; rfl
      rw [hc]
      (repeat (first | simp only [↓QA, QB, Nat.reduceLT, reduceIte, Nat.reduceEqDiff, Nat.reduceAdd, Nat.reduceLeDiff, Nat.reduceMul, Nat.reduceBEq, QXDDrC1] | refine rd0 rfl ?_))
      refine ghostK 6 1 [] rfl ?_
      refine loopE (S := Nat × Bool) (0, false) (fun s => s.1 ≤ v.keepers.length ∧ firstBad (kpErr v) (v.keepers.drop s.1) s.1 = firstBad (kpErr v) v.keepers 0) (fun s => v.keepers.length - s.1)
       (fun s => [(1, .ptr 0 0), (6, .lit (((v.keepers.take s.1).map Kp.name).map .str) false (some 1)), (7, .int .i64 s.1)]) (fun s => [.cells (voyCells v), .tok 1 s.1 s.2]) ⟨Nat.zero_le _, by simp⟩ (by simp [voyCells, ints]) ?_ fun s hs => ?_
      ·try simp only [TrimX, QE, Nat.reduceLT, reduceIte, Nat.reduceEqDiff, Nat.reduceAdd, Nat.reduceLeDiff, Nat.reduceMul, Nat.reduceBEq, QXDDrC1]
       try simp
      ·obtain ⟨k, ex⟩ := s
       obtain ⟨hk, hb⟩ := hs
       simp only at hk hb
       have hlen : ((v.keepers.take k).map Kp.name).length = k := by simp [hk]
       (repeat (first | simp only [↓QA, QB, Nat.reduceLT, reduceIte, Nat.reduceEqDiff, Nat.reduceAdd, Nat.reduceLeDiff, Nat.reduceMul, Nat.reduceBEq, QXDDrC1, L17_0] | refine rd0 rfl ?_))
       refine iteP_intro (fun hd => ?_) fun hd => ?_
       ·have hk1 : k < v.keepers.length := by simpa using hd
        rw [firstBad_step hk1] at hb
        have hw := wrapN hk1 hfk
        have hap := append_str (k := k) (ns := (v.keepers.take k).map Kp.name) (s := v.keepers[k].name) (b := .cells (voyCells v)) (ex := ex) hlen (by omega)
        rw [voyCells_eq] at hap
        have hset : kpErr v k v.keepers[k] = if fresh v.keepers[k].name ((v.keepers.take k).map Kp.name) = 0 then kpErr2 v k else fresh v.keepers[k].name ((v.keepers.take k).map Kp.name) := rfl
        (repeat (first | simp only [↓QA, QB, Nat.reduceLT, reduceIte, Nat.reduceEqDiff, Nat.reduceAdd, Nat.reduceLeDiff, Nat.reduceMul, Nat.reduceBEq, QXDDrC1, hk1, hw] | refine rd0 rfl ?_))
        ((first | refine callK_s (fresh_ok v.keepers[k].name ((v.keepers.take k).map Kp.name) (h.names _ (List.getElem_mem hk1)) (by rw [hlen]; omega)) (by try simp only [QS, QC, Nat.reduceLT, reduceIte, Nat.reduceEqDiff, Nat.reduceAdd, Nat.reduceLeDiff, Nat.reduceMul, Nat.reduceBEq, QXDDrC1]) trivial ?_ | refine callD_s (fresh_ok v.keepers[k].name ((v.keepers.take k).map Kp.name) (h.names _ (List.getElem_mem hk1)) (by rw [hlen]; omega)) (by try simp only [QS, QC, Nat.reduceLT, reduceIte, Nat.reduceEqDiff, Nat.reduceAdd, Nat.reduceLeDiff, Nat.reduceMul, Nat.reduceBEq, QXDDrC1]) trivial ?_); (repeat (first | simp only [↓QA, QB, Nat.reduceLT, reduceIte, Nat.reduceEqDiff, Nat.reduceAdd, Nat.reduceLeDiff, Nat.reduceMul, Nat.reduceBEq, QXDDrC1, hk1, hw, hap] | refine rd0 rfl ?_)))
        cases hf : (fresh v.keepers[k].name ((v.keepers.take k).map Kp.name) == 0)
        ·have hf' : fresh v.keepers[k].name ((v.keepers.take k).map Kp.name) ≠ 0 := by simpa using hf
         rw [hset, if_neg hf', if_neg hf'] at hb
         rw [← hb]
         (repeat (first | simp only [↓QA, QB, Nat.reduceLT, reduceIte, Nat.reduceEqDiff, Nat.reduceAdd, Nat.reduceLeDiff, Nat.reduceMul, Nat.reduceBEq, QXDDrC1, hf] | refine rd0 rfl ?_))
         rfl
        ·have hf' : fresh v.keepers[k].name ((v.keepers.take k).map Kp.name) = 0 := by simpa using hf
         rw [hset, if_pos hf'] at hb
         (repeat (first | simp only [↓QA, QB, Nat.reduceLT, reduceIte, Nat.reduceEqDiff, Nat.reduceAdd, Nat.reduceLeDiff, Nat.reduceMul, Nat.reduceBEq, QXDDrC1, hf, hk1] | refine rd0 rfl ?_))
         ((first | refine callK_d (rkeeper_ok v k h hk1) rfl dd ?_ | refine callD_d (rkeeper_ok v k h hk1) rfl dd ?_); (repeat (first | simp only [↓QA, QB, Nat.reduceLT, reduceIte, Nat.reduceEqDiff, Nat.reduceAdd, Nat.reduceLeDiff, Nat.reduceMul, Nat.reduceBEq, QXDDrC1] | refine rd0 rfl ?_)))
         cases hg : (kpErr2 v k == 0)
         ·have hg' : kpErr2 v k ≠ 0 := by simpa using hg
          rw [if_neg hg'] at hb
          rw [← hb]
          (repeat (first | simp only [↓QA, QB, Nat.reduceLT, reduceIte, Nat.reduceEqDiff, Nat.reduceAdd, Nat.reduceLeDiff, Nat.reduceMul, Nat.reduceBEq, QXDDrC1, hg] | refine rd0 rfl ?_))
          rfl
         ·have hg' : kpErr2 v k = 0 := by simpa using hg
          (repeat (first | simp only [↓QA, QB, Nat.reduceLT, reduceIte, Nat.reduceEqDiff, Nat.reduceAdd, Nat.reduceLeDiff, Nat.reduceMul, Nat.reduceBEq, QXDDrC1, hg, hw] | refine rd0 rfl ?_))
          refine ⟨(k + 1, true), ⟨by simp only; omega, by rw [← hb, if_pos hg']⟩, by simp only; omega, ?_⟩
          try simp only [TrimX, QE, Nat.reduceLT, reduceIte, Nat.reduceEqDiff, Nat.reduceAdd, Nat.reduceLeDiff, Nat.reduceMul, Nat.reduceBEq, QXDDrC1, take_name hk1, hw]
          try simp [okBlk]
       ·have hk1 : k = v.keepers.length := by simp at hd; omega
        rw [firstBad_end hk1] at hb
        rw [← hb, hk1]
        (repeat (first | simp only [↓QA, QB, Nat.reduceLT, reduceIte, Nat.reduceEqDiff, Nat.reduceAdd, Nat.reduceLeDiff, Nat.reduceMul, Nat.reduceBEq, QXDDrC1] | refine rd0 rfl ?_))
        cases h6 : decide ((4 : Int) < (v.doors.length : Int))
        ·have h6' : ¬ 4 < v.doors.length := by first | (have := of_decide_eq_false h6; omega) | (have := of_decide_eq_true h6; omega)
         have hc : check3 v = match firstBad (drErr v) v.doors 0 with | some (i, e) => (3, (i : Int), e) | none => check4 v := by simp only [check3, h6', if_false]; rfl
         rw [hc]
         (repeat (first | simp only [↓QA, QB, Nat.reduceLT, reduceIte, Nat.reduceEqDiff, Nat.reduceAdd, Nat.reduceLeDiff, Nat.reduceMul, Nat.reduceBEq, QXDDrC1] | refine rd0 rfl ?_))
         refine loopE (S := Nat) 0 (fun k => k ≤ v.doors.length ∧ firstBad (drErr v) (v.doors.drop k) k = firstBad (drErr v) v.doors 0) (fun k => v.doors.length - k)
          (fun k => [(1, .ptr 0 0), (9, .int .i64 k)]) (fun _ => [.cells (voyCells v), .tok 1 v.keepers.length ex]) ⟨Nat.zero_le _, by simp⟩ (by simp [voyCells, ints]) ?_ fun j hj => ?_
         ·try simp only [TrimX, QE, Nat.reduceLT, reduceIte, Nat.reduceEqDiff, Nat.reduceAdd, Nat.reduceLeDiff, Nat.reduceMul, Nat.reduceBEq, QXDDrC1]
          try simp
         ·obtain ⟨hj, hbj⟩ := hj
          (repeat (first | simp only [↓QA, QB, Nat.reduceLT, reduceIte, Nat.reduceEqDiff, Nat.reduceAdd, Nat.reduceLeDiff, Nat.reduceMul, Nat.reduceBEq, QXDDrC1, L17_2] | refine rd0 rfl ?_))
          refine iteP_intro (fun hd2 => ?_) fun hd2 => ?_
          ·have hj1 : j < v.doors.length := by simpa using hd2
           rw [firstBad_step hj1] at hbj
           have hw2 := wrapN hj1 hfd
           have hde : drErr v j v.doors[j] = if inR v.doors[j].hour 0 v.hours = true then 0 else 7 := rfl
           rw [hde] at hbj
           (repeat (first | simp only [↓QA, QB, Nat.reduceLT, reduceIte, Nat.reduceEqDiff, Nat.reduceAdd, Nat.reduceLeDiff, Nat.reduceMul, Nat.reduceBEq, QXDDrC1, hj1] | refine rd0 rfl ?_))
           ((first | refine callK_d (rhour_ok v v.doors[j].hour) rfl dd ?_ | refine callD_d (rhour_ok v v.doors[j].hour) rfl dd ?_); (repeat (first | simp only [↓QA, QB, Nat.reduceLT, reduceIte, Nat.reduceEqDiff, Nat.reduceAdd, Nat.reduceLeDiff, Nat.reduceMul, Nat.reduceBEq, QXDDrC1, hj1] | refine rd0 rfl ?_)))
           cases hi : inR v.doors[j].hour 0 v.hours
           ·rw [hi] at hbj
            rw [← hbj]
            (repeat (first | simp only [↓QA, QB, Nat.reduceLT, reduceIte, Nat.reduceEqDiff, Nat.reduceAdd, Nat.reduceLeDiff, Nat.reduceMul, Nat.reduceBEq, QXDDrC1, hj1] | refine rd0 rfl ?_))
            rfl
           ·rw [hi] at hbj
            (repeat (first | simp only [↓QA, QB, Nat.reduceLT, reduceIte, Nat.reduceEqDiff, Nat.reduceAdd, Nat.reduceLeDiff, Nat.reduceMul, Nat.reduceBEq, QXDDrC1, hj1, hw2] | refine rd0 rfl ?_))
            refine ⟨j + 1, ⟨by omega, by rw [← hbj]; rfl⟩, by omega, ?_⟩
            try simp only [TrimX, QE, Nat.reduceLT, reduceIte, Nat.reduceEqDiff, Nat.reduceAdd, Nat.reduceLeDiff, Nat.reduceMul, Nat.reduceBEq, QXDDrC1, hw2]
            try simp
          ·have hj1 : j = v.doors.length := by simp at hd2; omega
           rw [firstBad_end hj1] at hbj
           rw [← hbj]
           (repeat (first | simp only [↓QA, QB, Nat.reduceLT, reduceIte, Nat.reduceEqDiff, Nat.reduceAdd, Nat.reduceLeDiff, Nat.reduceMul, Nat.reduceBEq, QXDDrC1] | refine rd0 rfl ?_))
           cases h7 : decide ((5 : Int) < (v.looks.length : Int))
           ·have h7' : ¬ 5 < v.looks.length := by first | (have := of_decide_eq_false h7; omega) | (have := of_decide_eq_true h7; omega)
            have hc : check4 v = match firstBad (lkErr v) v.looks 0 with | some (i, e) => (4, (i : Int), e) | none => (0, 0, 0) := by simp only [check4, h7', if_false]; rfl
            rw [hc]
            have hwl : IntKind.i64.wrap (v.lots - 1) = v.lots - 1 := wrap64 ⟨by omega, by omega⟩
            (repeat (first | simp only [↓QA, QB, Nat.reduceLT, reduceIte, Nat.reduceEqDiff, Nat.reduceAdd, Nat.reduceLeDiff, Nat.reduceMul, Nat.reduceBEq, QXDDrC1] | refine rd0 rfl ?_))
            refine loopE (S := Nat) 0 (fun k => k ≤ v.looks.length ∧ firstBad (lkErr v) (v.looks.drop k) k = firstBad (lkErr v) v.looks 0) (fun k => v.looks.length - k)
             (fun k => [(1, .ptr 0 0), (10, .int .i64 k)]) (fun _ => [.cells (voyCells v), .tok 1 v.keepers.length ex]) ⟨Nat.zero_le _, by simp⟩ (by simp [voyCells, ints]) ?_ fun m hm => ?_
            ·try simp only [TrimX, QE, Nat.reduceLT, reduceIte, Nat.reduceEqDiff, Nat.reduceAdd, Nat.reduceLeDiff, Nat.reduceMul, Nat.reduceBEq, QXDDrC1]
             try simp
            ·obtain ⟨hm, hbm⟩ := hm
             (repeat (first | simp only [↓QA, QB, Nat.reduceLT, reduceIte, Nat.reduceEqDiff, Nat.reduceAdd, Nat.reduceLeDiff, Nat.reduceMul, Nat.reduceBEq, QXDDrC1, L17_4] | refine rd0 rfl ?_))
             refine iteP_intro (fun hd3 => ?_) fun hd3 => ?_
             ·have hm1 : m < v.looks.length := by simpa using hd3
              rw [firstBad_step hm1] at hbm
              have hw3 := wrapN hm1 hfl
              have hle : lkErr v m v.looks[m] = if inR v.looks[m].lot 0 (v.lots - 1) = false then 4 else if inR v.looks[m].hour 0 v.hours = true then 0 else 7 := rfl
              rw [hle] at hbm
              (repeat (first | simp only [↓QA, QB, Nat.reduceLT, reduceIte, Nat.reduceEqDiff, Nat.reduceAdd, Nat.reduceLeDiff, Nat.reduceMul, Nat.reduceBEq, QXDDrC1, hm1, hwl] | refine rd0 rfl ?_))
              ((first | refine callK_d (in_ok v.looks[m].lot 0 (v.lots - 1)) rfl dd ?_ | refine callD_d (in_ok v.looks[m].lot 0 (v.lots - 1)) rfl dd ?_); (repeat (first | simp only [↓QA, QB, Nat.reduceLT, reduceIte, Nat.reduceEqDiff, Nat.reduceAdd, Nat.reduceLeDiff, Nat.reduceMul, Nat.reduceBEq, QXDDrC1, hm1] | refine rd0 rfl ?_)))
              cases hi : inR v.looks[m].lot 0 (v.lots - 1)
              ·rw [hi] at hbm
               rw [← hbm]
               (repeat (first | simp only [↓QA, QB, Nat.reduceLT, reduceIte, Nat.reduceEqDiff, Nat.reduceAdd, Nat.reduceLeDiff, Nat.reduceMul, Nat.reduceBEq, QXDDrC1, hm1] | refine rd0 rfl ?_))
               rfl
              ·rw [hi] at hbm
               (repeat (first | simp only [↓QA, QB, Nat.reduceLT, reduceIte, Nat.reduceEqDiff, Nat.reduceAdd, Nat.reduceLeDiff, Nat.reduceMul, Nat.reduceBEq, QXDDrC1, hm1] | refine rd0 rfl ?_))
               ((first | refine callK_d (rhour_ok v v.looks[m].hour) rfl dd ?_ | refine callD_d (rhour_ok v v.looks[m].hour) rfl dd ?_); (repeat (first | simp only [↓QA, QB, Nat.reduceLT, reduceIte, Nat.reduceEqDiff, Nat.reduceAdd, Nat.reduceLeDiff, Nat.reduceMul, Nat.reduceBEq, QXDDrC1, hm1] | refine rd0 rfl ?_)))
               cases hi2 : inR v.looks[m].hour 0 v.hours
               ·rw [hi2] at hbm
                rw [← hbm]
                (repeat (first | simp only [↓QA, QB, Nat.reduceLT, reduceIte, Nat.reduceEqDiff, Nat.reduceAdd, Nat.reduceLeDiff, Nat.reduceMul, Nat.reduceBEq, QXDDrC1, hm1] | refine rd0 rfl ?_))
                rfl
               ·rw [hi2] at hbm
                (repeat (first | simp only [↓QA, QB, Nat.reduceLT, reduceIte, Nat.reduceEqDiff, Nat.reduceAdd, Nat.reduceLeDiff, Nat.reduceMul, Nat.reduceBEq, QXDDrC1, hm1, hw3] | refine rd0 rfl ?_))
                refine ⟨m + 1, ⟨by omega, by rw [← hbm]; rfl⟩, by omega, ?_⟩
                try simp only [TrimX, QE, Nat.reduceLT, reduceIte, Nat.reduceEqDiff, Nat.reduceAdd, Nat.reduceLeDiff, Nat.reduceMul, Nat.reduceBEq, QXDDrC1, hw3]
                try simp
             ·have hm1 : m = v.looks.length := by simp at hd3; omega
              rw [firstBad_end hm1] at hbm
              rw [← hbm]
              (repeat (first | simp only [↓QA, QB, Nat.reduceLT, reduceIte, Nat.reduceEqDiff, Nat.reduceAdd, Nat.reduceLeDiff, Nat.reduceMul, Nat.reduceBEq, QXDDrC1] | refine rd0 rfl ?_))
              rfl
           ·have h7' : 5 < v.looks.length := by first | (have := of_decide_eq_false h7; omega) | (have := of_decide_eq_true h7; omega)
            (repeat (first | simp only [↓QA, QB, Nat.reduceLT, reduceIte, Nat.reduceEqDiff, Nat.reduceAdd, Nat.reduceLeDiff, Nat.reduceMul, Nat.reduceBEq, QXDDrC1] | refine rd0 rfl ?_))
            simp [check4, h7', enc3]
        ·have h6' : 4 < v.doors.length := by first | (have := of_decide_eq_false h6; omega) | (have := of_decide_eq_true h6; omega)
         (repeat (first | simp only [↓QA, QB, Nat.reduceLT, reduceIte, Nat.reduceEqDiff, Nat.reduceAdd, Nat.reduceLeDiff, Nat.reduceMul, Nat.reduceBEq, QXDDrC1] | refine rd0 rfl ?_))
         simp [check3, h6', enc3]
  ·have h2' : ends v.delay 0 8 = 7 := by simpa using h2
   (repeat (first | simp only [↓QA, QB, Nat.reduceLT, reduceIte, Nat.reduceEqDiff, Nat.reduceAdd, Nat.reduceLeDiff, Nat.reduceMul, Nat.reduceBEq, QXDDrC1, h2] | refine rd0 rfl ?_))
   simp [check, h2', enc3]
def app0 (sz : Nat) (σ : St) (xs : List AV) : AV × St := if xs.length = 0 then (.lit [] true none, σ) else (.lit xs false (some σ.length), σ ++ [.tok sz xs.length true])
theorem app0_eq {sz b : Nat} {σ : St} {xs : List AV} {f : Bool} {tk : Option Nat} (h : AppOk sz b [] xs) : appendAV sz b σ (.lit [] true none) (.lit xs f tk) = some ((app0 sz σ xs).1, (app0 sz σ xs).2) := by
 by_cases h0 : xs.length = 0
 ·have : xs = [] := List.length_eq_zero_iff.1 h0
  subst this
  rw [app_nil]; simp [app0]
 ·rw [app_full h h0]; simp [app0, h0]
theorem app0_more {sz b : Nat} {σ : St} {xs ys : List AV} {f : Bool} {tk : Option Nat} (h : AppOk sz b xs ys) (hy : ys.length ≠ 0) : appendAV sz b (app0 sz σ xs).2 (app0 sz σ xs).1 (.lit ys f tk) = some (.lit (xs ++ ys) false (some σ.length), σ ++ [.tok sz (xs.length + ys.length) true]) := by
 by_cases h0 : xs.length = 0
 ·have : xs = [] := List.length_eq_zero_iff.1 h0
  subst this
  simp only [app0, List.length_nil, if_true]
  rw [app_full h hy]
  simp
 ·simp only [app0, h0, if_false]
  rw [app_tok (ex := true) h hy (by simp)]
  simp
theorem allCells_lit {xs l : List AV} {f : Bool} {t : Option Nat} (h : allCells 1 xs = true) : allCells 1 (xs ++ [.lit l f t]) = true := by
 unfold allCells at *
 rw [List.all_append, h]
 rfl
end Go.Am.Room
set_option maxRecDepth 4000
namespace Go.Am.Room
def QXDDrC2 := And.intro @encVoy_eq (And.intro @voyCells_eq (And.intro @encKp_eq (And.intro @encDoor_eq (And.intro @encLook_eq (And.intro @encSpan_eq (And.intro @S_mapKp (And.intro @S_mapDoor (And.intro @S_mapLook (And.intro @encTn_eq (And.intro @S_mapTn (@S_mapTns)))))))))))
theorem rso_ok (x : Look) (n : Int) : Pure T 99 [encLook x, .int .i64 n] (.bool (soAt x n)) := by
 refine pure_fn (af := a99) rfl (by simp [a99]) dd ?_
 have hs : soAt x n = (x.turned == (!(n == -1) && decide (n ≤ x.hour))) := by
  simp only [soAt]
  congr 2
  rw [Bool.eq_iff_iff]; simp
 rw [hs]
 cases h : (n == -1)
 ·(repeat (first | simp only [↓QA, QB, Nat.reduceLT, reduceIte, Nat.reduceEqDiff, Nat.reduceAdd, Nat.reduceLeDiff, Nat.reduceMul, Nat.reduceBEq, QXDDrC2, a99, h] | refine rd0 rfl ?_))
 ·(repeat (first | simp only [↓QA, QB, Nat.reduceLT, reduceIte, Nat.reduceEqDiff, Nat.reduceAdd, Nat.reduceLeDiff, Nat.reduceMul, Nat.reduceBEq, QXDDrC2, a99, h, Bool.false_and] | refine rd0 rfl ?_))
theorem keeperFrom_succ {v : Voy} {k : Nat} (hk : k < v.keepers.length) (a : Int) : keeperFrom v a (k + 1) = if v.keepers[k].frm ≤ a then (k : Int) else keeperFrom v a k := by
 simp only [keeperFrom, frm_at hk]
theorem rkeeperAt_ok (v : Voy) (n : Int) (hf : Fits v) : Pure T 40 [encVoy v, .int .i64 n] (.int .i64 (keeperAt v n)) := by
 refine pure_fn (af := a40) rfl (by simp [a40]) dd ?_
 have hfk := hf.keepers
 (repeat (first | simp only [↓QA, QB, Nat.reduceLT, reduceIte, Nat.reduceEqDiff, Nat.reduceAdd, Nat.reduceLeDiff, Nat.reduceMul, Nat.reduceBEq, QXDDrC2, a40] | refine rd0 rfl ?_))
 refine loopE (S := Nat) 0 (fun k => k ≤ v.keepers.length) (fun k => v.keepers.length - k) (fun k => [(1, .int .i64 n), (2, .ptr 0 0), (5, .int .i64 (keeperFrom v n k)), (6, .int .i64 k)]) (fun _ => [.cells (voyCells v)]) (Nat.zero_le _) (by simp [voyCells, ints]) ?_ fun k hk => ?_
 ·try simp only [TrimX, QE, Nat.reduceLT, reduceIte, Nat.reduceEqDiff, Nat.reduceAdd, Nat.reduceLeDiff, Nat.reduceMul, Nat.reduceBEq, QXDDrC2]
  try simp [keeperFrom]
 ·(repeat (first | simp only [↓QA, QB, Nat.reduceLT, reduceIte, Nat.reduceEqDiff, Nat.reduceAdd, Nat.reduceLeDiff, Nat.reduceMul, Nat.reduceBEq, QXDDrC2, L40_0] | refine rd0 rfl ?_))
  refine iteP_intro (fun h => ?_) fun h => ?_
  ·have hk1 : k < v.keepers.length := by simpa using h
   have hw := wrapN hk1 hfk
   have hs := keeperFrom_succ hk1 n
   (repeat (first | simp only [↓QA, QB, Nat.reduceLT, reduceIte, Nat.reduceEqDiff, Nat.reduceAdd, Nat.reduceLeDiff, Nat.reduceMul, Nat.reduceBEq, QXDDrC2, hk1] | refine rd0 rfl ?_))
   cases hc : decide (v.keepers[k].frm ≤ n)
   ·have hc' : ¬ v.keepers[k].frm ≤ n := by simpa using hc
    rw [if_neg hc'] at hs
    (repeat (first | simp only [↓QA, QB, Nat.reduceLT, reduceIte, Nat.reduceEqDiff, Nat.reduceAdd, Nat.reduceLeDiff, Nat.reduceMul, Nat.reduceBEq, QXDDrC2, hc, hw] | refine rd0 rfl ?_))
    refine ⟨k + 1, by omega, by omega, ?_⟩
    try simp only [TrimX, QE, Nat.reduceLT, reduceIte, Nat.reduceEqDiff, Nat.reduceAdd, Nat.reduceLeDiff, Nat.reduceMul, Nat.reduceBEq, QXDDrC2, hw, hs]
    try simp
   ·have hc' : v.keepers[k].frm ≤ n := by simpa using hc
    rw [if_pos hc'] at hs
    (repeat (first | simp only [↓QA, QB, Nat.reduceLT, reduceIte, Nat.reduceEqDiff, Nat.reduceAdd, Nat.reduceLeDiff, Nat.reduceMul, Nat.reduceBEq, QXDDrC2, hc, hw] | refine rd0 rfl ?_))
    refine ⟨k + 1, by omega, by omega, ?_⟩
    try simp only [TrimX, QE, Nat.reduceLT, reduceIte, Nat.reduceEqDiff, Nat.reduceAdd, Nat.reduceLeDiff, Nat.reduceMul, Nat.reduceBEq, QXDDrC2, hw, hs]
    try simp
  ·have hk1 : k = v.keepers.length := by simp at h; omega
   subst hk1
   (repeat (first | simp only [↓QA, QB, Nat.reduceLT, reduceIte, Nat.reduceEqDiff, Nat.reduceAdd, Nat.reduceLeDiff, Nat.reduceMul, Nat.reduceBEq, QXDDrC2, keeperAt] | refine rd0 rfl ?_))
theorem sets_ne {v : Voy} : 0 < (setsOf v).length := List.length_pos_iff.2 (List.ne_nil_of_mem (sureDs_set v))
theorem wrong_law {v : Voy} (hv : Vd v) : wrongL v ∈ choices v.looks.length (wrongL v).length ∧ someB v (wrongL v) = true ∧ ∀ m, ∀ c ∈ choices v.looks.length m, someB v c = true → fewer c (wrongL v) = false := by
 have hl := hv.nlk
 exact (firstFrom_spec (someB v) v.looks.length (by omega) _ 0 (fun m' h => by omega)).1 _ (wrong_first hv)
theorem nil_choice (n : Nat) : [] ∈ choices n 0 := by simp [choices]
theorem wrong_nil {v : Voy} (hv : Vd v) (hs : someB v [] = true) : wrongL v = [] := by
 obtain ⟨a, b, c⟩ := wrong_law hv
 have := c 0 [] (nil_choice _) hs
 cases h : wrongL v with
 | nil => rfl
 | cons x l => rw [h] at this; simp [fewer] at this
theorem mem_whose {v : Voy} {ds : List Int} {k : Int} : k ∈ whoseIn v ds ↔ (0 ≤ k ∧ k < v.keepers.length) ∧ ∃ d ∈ ds, keeperAt v (doorHour v d) = k := by
 simp only [whoseIn, List.mem_filter, numbers_mem, List.any_eq_true, decide_eq_true_eq]
 exact ⟨fun ⟨h1, h2⟩ => ⟨by omega, h2⟩, fun ⟨h1, h2⟩ => ⟨by omega, h2⟩⟩
theorem in_whose {v : Voy} (hv : Vd v) {n : Nat} (hn : n < v.lots.toNat) {w : Tn} (hw : w ∈ turnsIn (truths v []) n) (h : w.hour ≠ -1) : w.door ∈ causesIn v (truths v []) n ∧ keeperAt v (doorHour v w.door) ∈ whoseIn v (causesIn v (truths v []) n) ∧ (0 ≤ w.door ∧ w.door < v.doors.length) ∧ w.hour ∈ hoursIn (truths v []) n := by
 rcases way_in hn hw with e | e
 ·rw [e] at h; simp at h
 ·have hc : w.door ∈ causesIn v (truths v []) n := mem_causes.2 ⟨⟨e.2.2.1, e.2.2.2⟩, w, hw, rfl⟩
  exact ⟨hc, mem_whose.2 ⟨keeper_in hv _, w.door, hc, rfl⟩, e.2.2, mem_hours.2 ⟨h, w, hw, rfl⟩⟩
def plainV (v : Voy) : Voy := { v with looks := [] }
theorem plain_ok (v : Voy) (lot : Int) (but : List Int) (w : Tn) : turnOk (plainV v) lot but w = true := turn_iff.2 fun k hk => absurd hk (by simp [plainV])
theorem plain_vd {v : Voy} (hv : Vd v) : Vd (plainV v) := ⟨hv.hours, hv.delay, hv.lots, hv.nkp, hv.kp, hv.ndr, hv.dr, by simp [plainV], fun x hx => by cases hx⟩
theorem told_vd {v : Voy} (hv : Vd v) (τ : Nat → Tn) : Vd (told v τ) := by
 refine ⟨hv.hours, hv.delay, hv.lots, hv.nkp, hv.kp, hv.ndr, hv.dr, by simp [told]; exact hv.nlk, fun x hx => ?_⟩
 obtain ⟨y, hy, rfl⟩ := List.mem_map.1 hx
 exact hv.lk y hy
theorem told_up (v : Voy) (τ : Nat → Tn) : ∀ n, setsUp (told v τ) n = setsUp v n
 | 0 => rfl
 | n + 1 => by simp only [setsUp, told_up v τ n]; rfl
structure TruthOf (v : Voy) (op : List Int) (τ : Nat → Tn) : Prop where
 set : op ∈ setsOf v
 turns : ∀ n : Nat, n < v.lots.toNat → τ n ∈ allTurns v op
theorem told_turn {v : Voy} {op : List Int} {τ : Nat → Tn} (h : TruthOf v op τ) {n : Nat} (hn : n < v.lots.toNat) : τ n ∈ turnsOf (told v τ) (n : Int) op [] := by
 refine mem_turns.2 ⟨h.turns n hn, turn_iff.2 fun k hk => ?_⟩
 have hk2 : k < v.looks.length := by simpa [told] using hk
 have e : (told v τ).looks[k] = toldLook τ v.looks[k] := by simp [told]
 rw [e]
 simp only [lookOk]
 by_cases e2 : v.looks[k].lot = (n : Int)
 ·have e3 : v.looks[k].lot.toNat = n := by omega
  have : soAt (toldLook τ v.looks[k]) (τ n).hour = true := by simp [soAt, toldLook, e3]
  rw [this]; simp
 ·have : (toldLook τ v.looks[k]).lot = v.looks[k].lot := rfl
  rw [this]; simp [e2]
theorem told_truth {v : Voy} {op : List Int} {τ : Nat → Tn} (h : TruthOf v op τ) : ∃ t ∈ truths (told v τ) [], t.op = op := by
 have hs : setsOf (told v τ) = setsOf v := told_up v τ _
 exact ⟨⟨op, (List.range v.lots.toNat).map fun (n : Nat) => turnsOf (told v τ) (n : Int) op []⟩, mem_truths.2 ⟨by rw [hs]; exact h.set, rfl, fun n hn => List.ne_nil_of_mem (told_turn h hn)⟩, rfl⟩
theorem told_some {v : Voy} {op : List Int} {τ : Nat → Tn} (h : TruthOf v op τ) : someB (told v τ) [] = true := by
 obtain ⟨t, ht, _⟩ := told_truth h
 exact some_iffT.2 ⟨t, ht⟩
theorem told_in {v : Voy} {op : List Int} {τ : Nat → Tn} (h : TruthOf v op τ) {n : Nat} (hn : n < v.lots.toNat) : τ n ∈ turnsIn (truths (told v τ) []) n := by
 obtain ⟨t, ht, e⟩ := told_truth h
 exact (mem_turnsIn (v := told v τ) hn).2 ⟨t, ht, by rw [e]; exact told_turn h hn⟩
end Go.Am.Room
set_option maxRecDepth 4000
namespace Go.Am.Room
def QXDDrC3 := And.intro @encVoy_eq (And.intro @voyCells_eq (And.intro @encKp_eq (And.intro @encDoor_eq (And.intro @encLook_eq (And.intro @encSpan_eq (And.intro @S_mapKp (And.intro @S_mapDoor (@S_mapLook))))))))
theorem grow_len (x : Door) (n : Nat) (l : List Int) : (grow x n l).length ≤ 2 := by
 simp only [grow, List.length_append]
 split <;> simp
theorem setsUp_len (s : Voy) : ∀ n, (setsUp s n).length ≤ 2 ^ n
 | 0 => by simp [setsUp]
 | n + 1 => by
  have h1 := setsUp_len s n
  simp only [setsUp]
  split
  ·rename_i x _
   have h2 := flat_le (grow x n) 2 (setsUp s n) fun c _ => grow_len x n c
   rw [Nat.pow_succ]
   exact Nat.le_trans h2 (Nat.mul_le_mul_right _ h1)
  ·rw [Nat.pow_succ]; omega
theorem setsUp_in (s : Voy) : ∀ n, ∀ c ∈ setsUp s n, c.length ≤ n
 | 0 => by simp [setsUp]
 | n + 1 => by
  intro c hc
  simp only [setsUp] at hc
  split at hc
  ·simp only [List.mem_flatMap, grow, List.mem_append] at hc
   obtain ⟨d, hd, h⟩ := hc
   have := setsUp_in s n d hd
   rcases h with h | h
   ·split at h
    ·simp at h
    ·simp at h; subst h; omega
   ·simp at h; subst h; simp; omega
  ·have := setsUp_in s n c hc
   omega
theorem sets_small {s : Voy} (hv : Vd s) : (setsOf s).length ≤ 16 ∧ ∀ c ∈ setsOf s, c.length ≤ 4 := by
 have h := hv.ndr
 refine ⟨Nat.le_trans (setsUp_len s _) ?_, fun c hc => Nat.le_trans (setsUp_in s _ c hc) h⟩
 calc 2 ^ s.doors.length ≤ 2 ^ 4 := Nat.pow_le_pow_right (by omega) h
  _ = 16 := by decide
theorem rsets_ok (s : Voy) (hv : Vd s) : Pure T 75 [encVoy s] (intss (setsOf s)) := by
 refine pure_fn (af := a75) rfl (by simp [a75]) dd ?_
 have hno := hv.ndr
 rw [show setsOf s = setsUp s s.doors.length from rfl]
 (repeat (first | simp only [↓QA, QB, Nat.reduceLT, reduceIte, Nat.reduceEqDiff, Nat.reduceAdd, Nat.reduceLeDiff, Nat.reduceMul, Nat.reduceBEq, QXDDrC3, a75] | refine rd0 rfl ?_))
 refine loopE (S := Nat) 0 (fun n => n ≤ s.doors.length) (fun n => s.doors.length - n) (fun n => [(1, .ptr 0 0), (3, intss (setsUp s n)), (4, .int .i64 n)]) (fun _ => [.cells (voyCells s)]) (Nat.zero_le _) (by simp [voyCells, ints]) ?_ fun n hn => ?_
 ·try simp only [TrimX, QE, Nat.reduceLT, reduceIte, Nat.reduceEqDiff, Nat.reduceAdd, Nat.reduceLeDiff, Nat.reduceMul, Nat.reduceBEq, QXDDrC3]
  simp [intss, ints, setsUp, clr, clrs]
 ·(repeat (first | simp only [↓QA, QB, Nat.reduceLT, reduceIte, Nat.reduceEqDiff, Nat.reduceAdd, Nat.reduceLeDiff, Nat.reduceMul, Nat.reduceBEq, QXDDrC3, L75_0, intss] | refine rd0 rfl ?_))
  refine iteP_intro (fun h => ?_) fun h => ?_
  ·have hn1 : n < s.doors.length := by simpa using h
   have hwn : IntKind.i64.wrap ((n : Int) + 1) = ((n + 1 : Nat) : Int) := wrapN hn1 (by omega)
   have hsl : (setsUp s n).length ≤ 16 := Nat.le_trans (setsUp_len s n) (by
    calc 2 ^ n ≤ 2 ^ 4 := Nat.pow_le_pow_right (by omega) (by omega)
     _ = 16 := by decide)
   have hsl1 : (setsUp s (n + 1)).length ≤ 16 := Nat.le_trans (setsUp_len s (n + 1)) (by
    calc 2 ^ (n + 1) ≤ 2 ^ 4 := Nat.pow_le_pow_right (by omega) (by omega)
     _ = 16 := by decide)
   obtain ⟨x, hx⟩ : ∃ x, s.doors[n] = x := ⟨_, rfl⟩
   obtain ⟨R, hR⟩ : ∃ R, setsUp s (n + 1) = R := ⟨_, rfl⟩
   have hspec := setsUp_succ hn1
   rw [hR, hx] at hspec
   rw [hR] at hsl1
   (repeat (first | simp only [↓QA, QB, Nat.reduceLT, reduceIte, Nat.reduceEqDiff, Nat.reduceAdd, Nat.reduceLeDiff, Nat.reduceMul, Nat.reduceBEq, QXDDrC3] | refine rd0 rfl ?_))
   refine ghostK 5 1 [] rfl ?_
   refine loopE (S := Nat × List (List Int) × Bool) (0, [], false) (fun k => k.1 ≤ (setsUp s n).length ∧ k.2.1 ++ ((setsUp s n).drop k.1).flatMap (grow x n) = R) (fun k => (setsUp s n).length - k.1)
    (fun k => [(1, .ptr 0 0), (3, intss (setsUp s n)), (4, .int .i64 n), (5, .lit (k.2.1.map ints) false (some 1)), (6, .int .i64 k.1)]) (fun k => [.cells (voyCells s), .tok 1 k.2.1.length k.2.2]) ⟨Nat.zero_le _, by simp [hspec]⟩ (by simp [voyCells, ints]) ?_ fun k hk => ?_
   ·try simp only [TrimX, QE, Nat.reduceLT, reduceIte, Nat.reduceEqDiff, Nat.reduceAdd, Nat.reduceLeDiff, Nat.reduceMul, Nat.reduceBEq, QXDDrC3, intss]
    try simp
   ·obtain ⟨k, acc, ex⟩ := k
    obtain ⟨hk, hacc⟩ := hk
    simp only at hk hacc
    (repeat (first | simp only [↓QA, QB, Nat.reduceLT, reduceIte, Nat.reduceEqDiff, Nat.reduceAdd, Nat.reduceLeDiff, Nat.reduceMul, Nat.reduceBEq, QXDDrC3, L75_2, intss] | refine rd0 rfl ?_))
    refine iteP_intro (fun h2 => ?_) fun h2 => ?_
    ·have hk1 : k < (setsUp s n).length := by simpa using h2
     have hmem := List.getElem_mem hk1
     obtain ⟨c, hc⟩ : ∃ c, (setsUp s n)[k] = c := ⟨_, rfl⟩
     rw [hc] at hmem
     have hlen := setsUp_in s n c hmem
     rw [List.drop_eq_getElem_cons hk1, hc, List.flatMap_cons] at hacc
     have hacl : acc.length ≤ 16 := by
      have := congrArg List.length hacc
      simp only [List.length_append] at this
      omega
     have hwk : IntKind.i64.wrap ((k : Int) + 1) = ((k + 1 : Nat) : Int) := wrapN hk1 (by omega)
     have a0 : ∀ (σ : St), appendAV 1 8 σ (.lit [] true none) (.lit (c.map (.int .i64)) false none) = some ((app0 1 σ (c.map (.int .i64))).1, (app0 1 σ (c.map (.int .i64))).2) := fun σ => app0_eq ⟨rfl, allCells_int c, by simp [room]; omega, by simp [room]; omega⟩
     have a1 : ∀ (σ : St), appendAV 1 8 (app0 1 σ (c.map (.int .i64))).2 (app0 1 σ (c.map (.int .i64))).1 (.lit [.int .i64 n] true none) = some (.lit (c.map (.int .i64) ++ [.int .i64 n]) false (some σ.length), σ ++ [.tok 1 (c.length + 1) true]) := fun σ => by
      rw [app0_more ⟨allCells_int c, by simp [allCells, AV.cells, AV.cell], by simp [room]; omega, by simp [room]; omega⟩ (by simp)]
      simp
     have a2 : ∀ (b : ABlk) (τ : St) (ex : Bool) (xs : List AV) (m : Nat) (y : AV), xs.length = m → m ≤ 20 → allCells 1 (xs ++ [y]) = true → appendAV 1 24 (b :: .tok 1 m ex :: τ) (.lit xs false (some 1)) (.lit [y] true none) = some (.lit (xs ++ [y]) false (some 1), b :: .tok 1 (m + 1) true :: τ) := fun b τ ex xs m y hm hm2 hal => by
      simp only [allCells, List.all_append, Bool.and_eq_true] at hal
      rw [append_at (t := 1) (ex := ex) (sz := 1) ⟨hal.1, hal.2, by simp [room]; omega, by simp [room]; omega⟩ (by simp) m hm.symm rfl]
      simp
     have hca : allCells 1 (acc.map ints) = true := allCells_ints acc
     have hap := fun (b : ABlk) (τ : St) (ex : Bool) (l : List AV) (f : Bool) (t : Option Nat) => a2 b τ ex (acc.map ints) acc.length (.lit l f t) (by simp) (by omega) (allCells_lit hca)
     have hap2 := fun (b : ABlk) (τ : St) (ex : Bool) (l l2 : List AV) (f f2 : Bool) (t t2 : Option Nat) => a2 b τ ex (acc.map ints ++ [.lit l f t]) (acc.length + 1) (.lit l2 f2 t2) (by simp) (by omega) (allCells_lit (allCells_lit hca))
     cases d1 : x.sure
     ·have hg : grow x n c = [c, c ++ [(n : Int)]] := by simp [grow, d1]
      rw [hg] at hacc
      (repeat (first | simp only [↓QA, QB, Nat.reduceLT, reduceIte, Nat.reduceEqDiff, Nat.reduceAdd, Nat.reduceLeDiff, Nat.reduceMul, Nat.reduceBEq, QXDDrC3, hk1, hn1, hx, d1, hc, ints, hap, a0, a1, hap2] | refine rd0 rfl ?_))
      refine ⟨(k + 1, acc ++ [c, c ++ [(n : Int)]], true), ⟨by simp only; omega, by simpa using hacc⟩, by simp only; omega, ?_⟩
      try simp only [TrimX, QE, Nat.reduceLT, reduceIte, Nat.reduceEqDiff, Nat.reduceAdd, Nat.reduceLeDiff, Nat.reduceMul, Nat.reduceBEq, QXDDrC3, hwk, List.map_append, List.length_append, List.map_cons, List.map_nil, intss]
      try simp [okBlk]
     ·have hg : grow x n c = [c ++ [(n : Int)]] := by simp [grow, d1]
      rw [hg] at hacc
      (repeat (first | simp only [↓QA, QB, Nat.reduceLT, reduceIte, Nat.reduceEqDiff, Nat.reduceAdd, Nat.reduceLeDiff, Nat.reduceMul, Nat.reduceBEq, QXDDrC3, hk1, hn1, hx, d1, hc, ints, a0, a1, hap] | refine rd0 rfl ?_))
      refine ⟨(k + 1, acc ++ [c ++ [(n : Int)]], true), ⟨by simp only; omega, by simpa using hacc⟩, by simp only; omega, ?_⟩
      try simp only [TrimX, QE, Nat.reduceLT, reduceIte, Nat.reduceEqDiff, Nat.reduceAdd, Nat.reduceLeDiff, Nat.reduceMul, Nat.reduceBEq, QXDDrC3, hwk, List.map_append, List.length_append, List.map_cons, List.map_nil, intss]
      try simp [okBlk]
    ·have hk1 : k = (setsUp s n).length := by simp at h2; omega
     have hfin : acc = R := by rw [← hacc, hk1, List.drop_length]; simp
     (repeat (first | simp only [↓QA, QB, Nat.reduceLT, reduceIte, Nat.reduceEqDiff, Nat.reduceAdd, Nat.reduceLeDiff, Nat.reduceMul, Nat.reduceBEq, QXDDrC3] | refine rd0 rfl ?_))
     refine ⟨n + 1, by omega, by omega, ?_⟩
     try simp only [TrimX, QE, Nat.reduceLT, reduceIte, Nat.reduceEqDiff, Nat.reduceAdd, Nat.reduceLeDiff, Nat.reduceMul, Nat.reduceBEq, QXDDrC3, hwn, intss, hfin, hR]
  ·have hn1 : n = s.doors.length := by simp at h; omega
   subst hn1
   (repeat (first | simp only [↓QA, QB, Nat.reduceLT, reduceIte, Nat.reduceEqDiff, Nat.reduceAdd, Nat.reduceLeDiff, Nat.reduceMul, Nat.reduceBEq, QXDDrC3, intss] | refine rd0 rfl ?_))
end Go.Am.Room
set_option maxRecDepth 4000
namespace Go.Am.Room
def QXDDrC4 := And.intro @encVoy_eq (And.intro @voyCells_eq (And.intro @encKp_eq (And.intro @encDoor_eq (And.intro @encLook_eq (And.intro @encSpan_eq (And.intro @S_mapKp (And.intro @S_mapDoor (And.intro @S_mapLook (And.intro @encTn_eq (And.intro @S_mapTn (And.intro @S_mapTns (And.intro @T_sapp (@T_sapp0)))))))))))))
theorem allCells_tn (l : List Tn) : allCells 2 (l.map encTn) = true := L_allM 2 encTn l fun y => by simp [cellsOk, encTn, AV.cells, AV.cell]
theorem append_tn {σ : St} {l : List Tn} {t : Nat} {ex : Bool} (a b : Int) (hl : l.length ≤ 100) (ht : σ[t]? = some (.tok 2 l.length ex)) :
  appendAV 2 16 σ (.lit (l.map encTn) false (some t)) (.lit [.agg [.int .i64 a, .int .i64 b]] true none) = some (.lit ((l ++ [(⟨a, b⟩ : Tn)]).map encTn) false (some t), σ.set t (.tok 2 (l.length + 1) true)) := by
 have h1 : allCells 2 [encTn ⟨a, b⟩] = true := allCells_tn [⟨a, b⟩]
 have := app_tok (σ := σ) (sz := 2) (b := 16) (xs := l.map encTn) (ys := [encTn ⟨a, b⟩]) (t := t) (tk := none) (f := true) (ex := ex) ⟨allCells_tn l, h1, by simp [room]; omega, by simp [room]; omega⟩ (by simp) (by simpa using ht)
 simpa [encTn] using this
def wayAt (v : Voy) (d n : Int) : Option Tn := if inR (doorHour v d + n) 0 v.hours then some ⟨doorHour v d + n, d⟩ else none
theorem ways_eq (v : Voy) (d : Int) : waysOf v d = (numbers v.delay.lo (v.delay.hi + 1 - v.delay.lo).toNat).filterMap (wayAt v d) := rfl
theorem ways_len {v : Voy} (hv : Vd v) (d : Int) : (waysOf v d).length ≤ 9 := by
 have := hv.delay
 rw [ways_eq]
 refine Nat.le_trans (List.length_filterMap_le _ _) ?_
 rw [numbers_len]; omega
theorem all_len {v : Voy} (hv : Vd v) (op : List Int) (ho : op.length ≤ 4) : (allTurns v op).length ≤ 37 := by
 have := flat_le (waysOf v) 9 op fun d _ => ways_len hv d
 simp only [allTurns, List.length_cons]; omega
theorem turns_len {v : Voy} (hv : Vd v) (lot : Int) (op but : List Int) (ho : op.length ≤ 4) : (turnsOf v lot op but).length ≤ 37 := Nat.le_trans (List.length_filter_le _ _) (all_len hv op ho)
def turnUpTo (v : Voy) (lot : Int) (but : List Int) (t : Tn) (k : Nat) : Bool := (List.range k).all fun i => match v.looks[i]? with | some x => lookOk lot but t i x | none => true
theorem turnUpTo_succ {v : Voy} {k : Nat} (hk : k < v.looks.length) (lot : Int) (but : List Int) (t : Tn) : turnUpTo v lot but t (k + 1) = (turnUpTo v lot but t k && lookOk lot but t k v.looks[k]) := by
 simp [turnUpTo, List.range_succ, List.all_append, hk]
set_option maxHeartbeats 1000000 in
theorem rturns_ok (v : Voy) (hv : Vd v) (lot : Int) (op but : List Int) (hop : ∀ d ∈ op, 0 ≤ d ∧ d < v.doors.length) (ho : op.length ≤ 4) (hbu : but.length < 9223372036854775808) :
  Pure T 76 [encVoy v, .int .i64 lot, ints op, ints but] (tns (turnsOf v lot op but)) := by
 refine pure_fn (af := a76) rfl (by simp [a76]) dd ?_
 have hde := hv.delay
 have hhr := hv.hours
 have hnl := hv.nlk
 have hal := all_len hv op ho
 obtain ⟨R1, hR1⟩ : ∃ R1, allTurns v op = R1 := ⟨_, rfl⟩
 obtain ⟨R, hR⟩ : ∃ R, turnsOf v lot op but = R := ⟨_, rfl⟩
 have hRf : R1.filter (turnOk v lot but) = R := by rw [← hR1]; exact hR
 rw [hR1] at hal
 rw [hR]
 have h0 : [(⟨-1, -1⟩ : Tn)] ++ (op.drop 0).flatMap (waysOf v) = R1 := hR1
 obtain ⟨K, hK⟩ : ∃ K, (v.delay.hi + 1 - v.delay.lo).toNat = K := ⟨_, rfl⟩
 (repeat (first | simp only [↓QA, QB, Nat.reduceLT, reduceIte, Nat.reduceEqDiff, Nat.reduceAdd, Nat.reduceLeDiff, Nat.reduceMul, Nat.reduceBEq, QXDDrC4, a76] | refine rd0 rfl ?_))
 refine ghostK 9 2 [.agg [.int .i64 (-1), .int .i64 (-1)]] rfl ?_
 refine loopE (S := Nat × List Tn × Bool) (0, [⟨-1, -1⟩], false) (fun s => s.1 ≤ op.length ∧ s.2.1 ++ (op.drop s.1).flatMap (waysOf v) = R1) (fun s => op.length - s.1)
  (fun s => [(1, .int .i64 lot), (2, ints op), (3, ints but), (4, .ptr 0 0), (9, .lit (s.2.1.map encTn) false (some 1)), (10, .int .i64 s.1)]) (fun s => [.cells (voyCells v), .tok 2 s.2.1.length s.2.2]) ⟨Nat.zero_le _, h0⟩ (by simp [voyCells, ints]) ?_ fun s hs => ?_
 ·try simp only [TrimX, QE, Nat.reduceLT, reduceIte, Nat.reduceEqDiff, Nat.reduceAdd, Nat.reduceLeDiff, Nat.reduceMul, Nat.reduceBEq, QXDDrC4, List.map_cons, List.map_nil]
  try simp
 ·obtain ⟨i, acc, ex⟩ := s
  obtain ⟨hi, hacc⟩ := hs
  simp only at hi hacc
  (repeat (first | simp only [↓QA, QB, Nat.reduceLT, reduceIte, Nat.reduceEqDiff, Nat.reduceAdd, Nat.reduceLeDiff, Nat.reduceMul, Nat.reduceBEq, QXDDrC4, L76_0] | refine rd0 rfl ?_))
  refine iteP_intro (fun h => ?_) fun h => ?_
  ·have hi1 : i < op.length := by simpa using h
   have hwi := wrapN hi1 (by omega)
   have hd := hop _ (List.getElem_mem hi1)
   rw [List.drop_eq_getElem_cons hi1, List.flatMap_cons] at hacc
   obtain ⟨d, hde2⟩ : ∃ d, op[i] = d := ⟨_, rfl⟩
   rw [hde2] at hd hacc
   have hd0 : 0 ≤ d := hd.1
   have hd1 : d.toNat < v.doors.length := by omega
   have hho := hv.dr _ (List.getElem_mem hd1)
   have hdh : doorHour v d = v.doors[d.toNat].hour := by simp [doorHour, hd1]
   obtain ⟨H, hH⟩ : ∃ H, v.doors[d.toNat].hour = H := ⟨_, rfl⟩
   rw [hH] at hho hdh
   rw [ways_eq, hK] at hacc
   obtain ⟨Z, hZ⟩ : ∃ Z, (op.drop (i + 1)).flatMap (waysOf v) = Z := ⟨_, rfl⟩
   rw [hZ] at hacc
   (repeat (first | simp only [↓QA, QB, Nat.reduceLT, reduceIte, Nat.reduceEqDiff, Nat.reduceAdd, Nat.reduceLeDiff, Nat.reduceMul, Nat.reduceBEq, QXDDrC4] | refine rd0 rfl ?_))
   refine loopE (S := Nat × List Tn × Bool) (0, acc, ex) (fun s => s.1 ≤ K ∧ s.2.1 ++ ((numbers (v.delay.lo + (s.1 : Int)) (K - s.1)).filterMap (wayAt v d) ++ Z) = R1) (fun s => K - s.1)
    (fun s => [(1, .int .i64 lot), (2, ints op), (3, ints but), (4, .ptr 0 0), (9, .lit (s.2.1.map encTn) false (some 1)), (10, .int .i64 i), (11, .int .i64 (v.delay.lo + (s.1 : Int)))]) (fun s => [.cells (voyCells v), .tok 2 s.2.1.length s.2.2]) ⟨Nat.zero_le _, by simpa using hacc⟩ (by simp [voyCells, ints]) ?_ fun s hs => ?_
   ·try simp only [TrimX, QE, Nat.reduceLT, reduceIte, Nat.reduceEqDiff, Nat.reduceAdd, Nat.reduceLeDiff, Nat.reduceMul, Nat.reduceBEq, QXDDrC4]
    try simp
   ·obtain ⟨j, acc, ex⟩ := s
    obtain ⟨hj, hacc⟩ := hs
    simp only at hj hacc
    (repeat (first | simp only [↓QA, QB, Nat.reduceLT, reduceIte, Nat.reduceEqDiff, Nat.reduceAdd, Nat.reduceLeDiff, Nat.reduceMul, Nat.reduceBEq, QXDDrC4, L76_2] | refine rd0 rfl ?_))
    refine iteP_intro (fun h2 => ?_) fun h2 => ?_
    ·have hj1 : j < K := by have := of_decide_eq_true h2; omega
     have hwj : IntKind.i64.wrap (v.delay.lo + (j : Int) + 1) = v.delay.lo + ((j + 1 : Nat) : Int) := by rw [wrap64 ⟨by omega, by omega⟩]; omega
     have hwa : IntKind.i64.wrap (H + (v.delay.lo + (j : Int))) = H + (v.delay.lo + (j : Int)) := wrap64 ⟨by omega, by omega⟩
     rw [show K - j = (K - (j + 1)) + 1 by omega] at hacc
     simp only [numbers, List.filterMap_cons] at hacc
     rw [show v.delay.lo + (j : Int) + 1 = v.delay.lo + ((j + 1 : Nat) : Int) by omega] at hacc
     have hac : acc.length ≤ 37 := by
      have := congrArg List.length hacc
      simp only [List.length_append] at this
      omega
     have hwy : wayAt v d (v.delay.lo + (j : Int)) = if inR (H + (v.delay.lo + (j : Int))) 0 v.hours = true then some ⟨H + (v.delay.lo + (j : Int)), d⟩ else none := by simp only [wayAt, hdh]
     rw [hwy] at hacc
     (repeat (first | simp only [↓QA, QB, Nat.reduceLT, reduceIte, Nat.reduceEqDiff, Nat.reduceAdd, Nat.reduceLeDiff, Nat.reduceMul, Nat.reduceBEq, QXDDrC4, hi1, hde2, V_idxI, hd0, hd1, hH, hwa] | refine rd0 rfl ?_))
     ((first | refine callK_d (rhour_ok v (H + (v.delay.lo + (j : Int)))) rfl dd ?_ | refine callD_d (rhour_ok v (H + (v.delay.lo + (j : Int)))) rfl dd ?_); (repeat (first | simp only [↓QA, QB, Nat.reduceLT, reduceIte, Nat.reduceEqDiff, Nat.reduceAdd, Nat.reduceLeDiff, Nat.reduceMul, Nat.reduceBEq, QXDDrC4] | refine rd0 rfl ?_)))
     cases hin : inR (H + (v.delay.lo + (j : Int))) 0 v.hours
     ·rw [hin] at hacc
      simp only [Bool.false_eq_true, if_false] at hacc
      (repeat (first | simp only [↓QA, QB, Nat.reduceLT, reduceIte, Nat.reduceEqDiff, Nat.reduceAdd, Nat.reduceLeDiff, Nat.reduceMul, Nat.reduceBEq, QXDDrC4, hwj] | refine rd0 rfl ?_))
      refine ⟨(j + 1, acc, ex), ⟨by simp only; omega, hacc⟩, by simp only; omega, ?_⟩
      try simp only [TrimX, QE, Nat.reduceLT, reduceIte, Nat.reduceEqDiff, Nat.reduceAdd, Nat.reduceLeDiff, Nat.reduceMul, Nat.reduceBEq, QXDDrC4, hwj]
      try simp [okBlk]
     ·rw [hin] at hacc
      simp only [if_true] at hacc
      have hap := fun (b0 : ABlk) (τ : St) => append_tn (σ := b0 :: .tok 2 acc.length ex :: τ) (l := acc) (t := 1) (ex := ex) (H + (v.delay.lo + (j : Int))) d (by omega) rfl
      (repeat (first | simp only [↓QA, QB, Nat.reduceLT, reduceIte, Nat.reduceEqDiff, Nat.reduceAdd, Nat.reduceLeDiff, Nat.reduceMul, Nat.reduceBEq, QXDDrC4, hi1, hde2, hap, hwj] | refine rd0 rfl ?_))
      refine ⟨(j + 1, acc ++ [⟨H + (v.delay.lo + (j : Int)), d⟩], true), ⟨by simp only; omega, by rw [← hacc]; simp⟩, by simp only; omega, ?_⟩
      try simp only [TrimX, QE, Nat.reduceLT, reduceIte, Nat.reduceEqDiff, Nat.reduceAdd, Nat.reduceLeDiff, Nat.reduceMul, Nat.reduceBEq, QXDDrC4, hwj, List.map_append, List.map_cons, List.map_nil]
      try simp [okBlk]
    ·have hj1 : j = K := by have := of_decide_eq_false h2; omega
     rw [hj1, Nat.sub_self] at hacc
     simp only [numbers, List.filterMap_nil, List.nil_append] at hacc
     (repeat (first | simp only [↓QA, QB, Nat.reduceLT, reduceIte, Nat.reduceEqDiff, Nat.reduceAdd, Nat.reduceLeDiff, Nat.reduceMul, Nat.reduceBEq, QXDDrC4, hwi] | refine rd0 rfl ?_))
     refine ⟨(i + 1, acc, ex), ⟨by simp only; omega, by simp only; rw [hZ]; exact hacc⟩, by simp only; omega, ?_⟩
     try simp only [TrimX, QE, Nat.reduceLT, reduceIte, Nat.reduceEqDiff, Nat.reduceAdd, Nat.reduceLeDiff, Nat.reduceMul, Nat.reduceBEq, QXDDrC4, hwi]
     try simp [okBlk]
  ·have hi1 : i = op.length := by simp at h; omega
   rw [hi1, List.drop_length] at hacc
   simp only [List.flatMap_nil, List.append_nil] at hacc
   subst hacc
   have hRf' : [] ++ (acc.drop 0).filter (turnOk v lot but) = R := hRf
   (repeat (first | simp only [↓QA, QB, Nat.reduceLT, reduceIte, Nat.reduceEqDiff, Nat.reduceAdd, Nat.reduceLeDiff, Nat.reduceMul, Nat.reduceBEq, QXDDrC4] | refine rd0 rfl ?_))
   refine ghostK 13 2 [] rfl ?_
   refine loopE (S := Nat × List Tn × Bool) (0, [], false) (fun s => s.1 ≤ acc.length ∧ s.2.1.length ≤ s.1 ∧ s.2.1 ++ (acc.drop s.1).filter (turnOk v lot but) = R) (fun s => acc.length - s.1)
    (fun s => [(1, .int .i64 lot), (3, ints but), (4, .ptr 0 0), (9, .lit (acc.map encTn) false (some 1)), (13, .lit (s.2.1.map encTn) false (some 2)), (14, .int .i64 s.1)]) (fun s => [.cells (voyCells v), .tok 2 acc.length ex, .tok 2 s.2.1.length s.2.2]) ⟨Nat.zero_le _, by simp, hRf'⟩ (by simp [voyCells, ints]) ?_ fun s hs => ?_
   ·try simp only [TrimX, QE, Nat.reduceLT, reduceIte, Nat.reduceEqDiff, Nat.reduceAdd, Nat.reduceLeDiff, Nat.reduceMul, Nat.reduceBEq, QXDDrC4]
    try simp
   ·obtain ⟨i, out, ex2⟩ := s
    obtain ⟨hi, hol, hout⟩ := hs
    simp only at hi hol hout
    (repeat (first | simp only [↓QA, QB, Nat.reduceLT, reduceIte, Nat.reduceEqDiff, Nat.reduceAdd, Nat.reduceLeDiff, Nat.reduceMul, Nat.reduceBEq, QXDDrC4, L76_4] | refine rd0 rfl ?_))
    refine iteP_intro (fun h => ?_) fun h => ?_
    ·have hi1 : i < acc.length := by simpa using h
     have hwi := wrapN hi1 (by omega)
     rw [List.drop_eq_getElem_cons hi1, List.filter_cons] at hout
     obtain ⟨w, hw⟩ : ∃ w, acc[i] = w := ⟨_, rfl⟩
     rw [hw] at hout
     (repeat (first | simp only [↓QA, QB, Nat.reduceLT, reduceIte, Nat.reduceEqDiff, Nat.reduceAdd, Nat.reduceLeDiff, Nat.reduceMul, Nat.reduceBEq, QXDDrC4] | refine rd0 rfl ?_))
     refine loopE (S := Nat) 0 (fun k => k ≤ v.looks.length) (fun k => v.looks.length - k)
      (fun k => [(1, .int .i64 lot), (3, ints but), (4, .ptr 0 0), (9, .lit (acc.map encTn) false (some 1)), (13, .lit (out.map encTn) false (some 2)), (14, .int .i64 i), (15, .bool (turnUpTo v lot but w k)), (16, .int .i64 k)]) (fun _ => [.cells (voyCells v), .tok 2 acc.length ex, .tok 2 out.length ex2]) (Nat.zero_le _) (by simp [voyCells, ints]) ?_ fun k hk => ?_
     ·try simp only [TrimX, QE, Nat.reduceLT, reduceIte, Nat.reduceEqDiff, Nat.reduceAdd, Nat.reduceLeDiff, Nat.reduceMul, Nat.reduceBEq, QXDDrC4]
      try simp [turnUpTo]
     ·(repeat (first | simp only [↓QA, QB, Nat.reduceLT, reduceIte, Nat.reduceEqDiff, Nat.reduceAdd, Nat.reduceLeDiff, Nat.reduceMul, Nat.reduceBEq, QXDDrC4, L76_6] | refine rd0 rfl ?_))
      refine iteP_intro (fun h2 => ?_) fun h2 => ?_
      ·have hk1 : k < v.looks.length := by simpa using h2
       have hwk := wrapN hk1 (by omega)
       have hsu := turnUpTo_succ hk1 lot but w
       obtain ⟨x, hx⟩ : ∃ x, v.looks[k] = x := ⟨_, rfl⟩
       rw [hx] at hsu
       simp only [lookOk] at hsu
       have hxl : decide (x.lot = lot) = (x.lot == lot) := by rw [Bool.eq_iff_iff]; simp
       rw [hxl] at hsu
       cases hc : turnUpTo v lot but w k
       ·rw [hc, Bool.false_and] at hsu
        (repeat (first | simp only [↓QA, QB, Nat.reduceLT, reduceIte, Nat.reduceEqDiff, Nat.reduceAdd, Nat.reduceLeDiff, Nat.reduceMul, Nat.reduceBEq, QXDDrC4, hk1, hx, hwk] | refine rd0 rfl ?_))
        refine ⟨k + 1, by omega, by omega, ?_⟩
        try simp only [TrimX, QE, Nat.reduceLT, reduceIte, Nat.reduceEqDiff, Nat.reduceAdd, Nat.reduceLeDiff, Nat.reduceMul, Nat.reduceBEq, QXDDrC4, hwk, hsu]
        try simp [okBlk]
       ·rw [hc, Bool.true_and] at hsu
        cases hl : (x.lot == lot)
        ·rw [hl] at hsu
         simp only [Bool.not_false, Bool.true_or] at hsu
         (repeat (first | simp only [↓QA, QB, Nat.reduceLT, reduceIte, Nat.reduceEqDiff, Nat.reduceAdd, Nat.reduceLeDiff, Nat.reduceMul, Nat.reduceBEq, QXDDrC4, hk1, hx, hl, hwk] | refine rd0 rfl ?_))
         refine ⟨k + 1, by omega, by omega, ?_⟩
         try simp only [TrimX, QE, Nat.reduceLT, reduceIte, Nat.reduceEqDiff, Nat.reduceAdd, Nat.reduceLeDiff, Nat.reduceMul, Nat.reduceBEq, QXDDrC4, hwk, hsu]
         try simp [okBlk]
        ·rw [hl] at hsu
         simp only [Bool.not_true, Bool.false_or] at hsu
         (repeat (first | simp only [↓QA, QB, Nat.reduceLT, reduceIte, Nat.reduceEqDiff, Nat.reduceAdd, Nat.reduceLeDiff, Nat.reduceMul, Nat.reduceBEq, QXDDrC4, hk1, hx, hl] | refine rd0 rfl ?_))
         ((first | refine callK_d (has_ok but (k : Int) hbu) rfl dd ?_ | refine callD_d (has_ok but (k : Int) hbu) rfl dd ?_); (repeat (first | simp only [↓QA, QB, Nat.reduceLT, reduceIte, Nat.reduceEqDiff, Nat.reduceAdd, Nat.reduceLeDiff, Nat.reduceMul, Nat.reduceBEq, QXDDrC4] | refine rd0 rfl ?_)))
         cases hb : but.contains (k : Int)
         ·rw [hb, Bool.false_or] at hsu
          (repeat (first | simp only [↓QA, QB, Nat.reduceLT, reduceIte, Nat.reduceEqDiff, Nat.reduceAdd, Nat.reduceLeDiff, Nat.reduceMul, Nat.reduceBEq, QXDDrC4, hi1, hw] | refine rd0 rfl ?_))
          ((first | refine callK_d (rso_ok x w.hour) rfl dd ?_ | refine callD_d (rso_ok x w.hour) rfl dd ?_); (repeat (first | simp only [↓QA, QB, Nat.reduceLT, reduceIte, Nat.reduceEqDiff, Nat.reduceAdd, Nat.reduceLeDiff, Nat.reduceMul, Nat.reduceBEq, QXDDrC4, hi1, hw, hwk] | refine rd0 rfl ?_)))
          refine ⟨k + 1, by omega, by omega, ?_⟩
          try simp only [TrimX, QE, Nat.reduceLT, reduceIte, Nat.reduceEqDiff, Nat.reduceAdd, Nat.reduceLeDiff, Nat.reduceMul, Nat.reduceBEq, QXDDrC4, hwk, hsu]
          try simp [okBlk]
         ·rw [hb, Bool.true_or] at hsu
          (repeat (first | simp only [↓QA, QB, Nat.reduceLT, reduceIte, Nat.reduceEqDiff, Nat.reduceAdd, Nat.reduceLeDiff, Nat.reduceMul, Nat.reduceBEq, QXDDrC4, hwk] | refine rd0 rfl ?_))
          refine ⟨k + 1, by omega, by omega, ?_⟩
          try simp only [TrimX, QE, Nat.reduceLT, reduceIte, Nat.reduceEqDiff, Nat.reduceAdd, Nat.reduceLeDiff, Nat.reduceMul, Nat.reduceBEq, QXDDrC4, hwk, hsu]
          try simp [okBlk]
      ·have hk1 : k = v.looks.length := by simp at h2; omega
       subst hk1
       have hto : turnUpTo v lot but w v.looks.length = turnOk v lot but w := rfl
       rw [hto]
       cases hc : turnOk v lot but w
       ·rw [hc] at hout
        simp only [Bool.false_eq_true, if_false] at hout
        (repeat (first | simp only [↓QA, QB, Nat.reduceLT, reduceIte, Nat.reduceEqDiff, Nat.reduceAdd, Nat.reduceLeDiff, Nat.reduceMul, Nat.reduceBEq, QXDDrC4, hwi] | refine rd0 rfl ?_))
        refine ⟨(i + 1, out, ex2), ⟨by simp only; omega, by simp only; omega, hout⟩, by simp only; omega, ?_⟩
        try simp only [TrimX, QE, Nat.reduceLT, reduceIte, Nat.reduceEqDiff, Nat.reduceAdd, Nat.reduceLeDiff, Nat.reduceMul, Nat.reduceBEq, QXDDrC4, hwi]
        try simp [okBlk]
       ·rw [hc] at hout
        simp only [if_true] at hout
        have hap := fun (b0 b1 : ABlk) (τ : St) => append_tn (σ := b0 :: b1 :: .tok 2 out.length ex2 :: τ) (l := out) (t := 2) (ex := ex2) w.hour w.door (by omega) rfl
        (repeat (first | simp only [↓QA, QB, Nat.reduceLT, reduceIte, Nat.reduceEqDiff, Nat.reduceAdd, Nat.reduceLeDiff, Nat.reduceMul, Nat.reduceBEq, QXDDrC4, hi1, hw, hap, hwi] | refine rd0 rfl ?_))
        refine ⟨(i + 1, out ++ [w], true), ⟨by simp only; omega, by simp only [List.length_append, List.length_cons, List.length_nil]; omega, by rw [← hout]; simp⟩, by simp only; omega, ?_⟩
        try simp only [TrimX, QE, Nat.reduceLT, reduceIte, Nat.reduceEqDiff, Nat.reduceAdd, Nat.reduceLeDiff, Nat.reduceMul, Nat.reduceBEq, QXDDrC4, hwi, List.map_append, List.map_cons, List.map_nil]
        try simp [okBlk]
    ·have hi1 : i = acc.length := by simp at h; omega
     rw [hi1, List.drop_length] at hout
     simp only [List.filter_nil, List.append_nil] at hout
     subst hout
     (repeat (first | simp only [↓QA, QB, Nat.reduceLT, reduceIte, Nat.reduceEqDiff, Nat.reduceAdd, Nat.reduceLeDiff, Nat.reduceMul, Nat.reduceBEq, QXDDrC4, tns] | refine rd0 rfl ?_))
variable {α : Type}
variable {enc : α → AV} {c : α → List AV} {sz : Nat}
theorem flatC_at (h : Cells enc c sz) : ∀ (l : List α) (k : Nat) (hk : k < l.length), ((flatC c l).drop (k * sz)).take sz = c l[k]
 | [], k, hk => by simp at hk
 | y :: l, 0, hk => by
  simp only [flatC, Nat.zero_mul, List.drop_zero, List.getElem_cons_zero]
  rw [← h.len y, List.take_left]
 | y :: l, k + 1, hk => by
  have := flatC_at h l k (by simpa using hk)
  have e : (k + 1) * sz = (c y).length + k * sz := by rw [h.len, Nat.add_mul]; omega
  simp only [flatC, e, List.getElem_cons_succ]
  rw [List.drop_append, List.drop_eq_nil_of_le (by omega), List.nil_append, Nat.add_sub_cancel_left]
  exact this
theorem flatC_set (h : Cells enc c sz) : ∀ (l : List α) (k : Nat) (z : α), k < l.length → (flatC c l).take (k * sz) ++ c z ++ (flatC c l).drop (k * sz + sz) = flatC c (l.set k z)
 | [], k, z, hk => by simp at hk
 | y :: l, 0, z, hk => by
  simp only [flatC, Nat.zero_mul, List.take_zero, List.nil_append, Nat.zero_add, List.set_cons_zero]
  rw [← h.len y, List.drop_left]
 | y :: l, k + 1, z, hk => by
  have := flatC_set h l k z (by simpa using hk)
  have e : (k + 1) * sz = (c y).length + k * sz := by rw [h.len, Nat.add_mul]; omega
  have e2 : (k + 1) * sz + sz = (c y).length + (k * sz + sz) := by omega
  simp only [flatC, List.set_cons_succ]
  rw [e, show (c y).length + k * sz + sz = (c y).length + (k * sz + sz) by omega, List.take_append, List.drop_append, List.drop_eq_nil_of_le (by omega), List.take_of_length_le (by omega), Nat.add_sub_cancel_left, Nat.add_sub_cancel_left, List.nil_append, ← this]
  simp only [List.append_assoc]
theorem flatC_chop (h : Cells enc c sz) : ∀ l : List α, chop sz l.length (flatC c l) = l.map enc
 | [] => rfl
 | y :: l => by
  have h1 := h.one.1
  simp only [List.length_cons, chop, flatC, List.map_cons, h1, false_and, if_false]
  rw [← h.len y, List.take_left, List.drop_left, h.len y, flatC_chop h l, h.agg]
theorem flatC_snapA (h : Cells enc c sz) {σ : St} {m id d : Nat} {l : List α} (hm : ¬ id < m) (hl : cellsAt σ id = some (flatC c l)) : snap σ m (d + 1) (.ref id 0 l.length sz) = some (.lit (l.map enc) false none) := by
 have hv : view σ (.ref id 0 l.length sz) = some (l.map enc) := by
  simp only [view, hl, flatC_len h, Nat.zero_add, Nat.le_refl, if_true, List.drop_zero, flatC_chop h]
 have h0 := h.one.2
 have h1 : decide (0 < sz) = true := by simp; omega
 have hs : snaps σ m d (l.map enc) = some (l.map enc) := snaps_ok0 σ m d _ (datas_map h.data l).1
 simp only [snap, hm, if_false, hv, flatC_all h, h1, Bool.and_self, if_true, hs]
theorem flatC_snap (h : Cells enc c sz) {σ : St} {id : Nat} {l : List α} (hl : cellsAt σ id = some (flatC c l)) : snapM σ 0 20 (.ref id 0 l.length sz) = some (.lit (l.map enc) false none) := by
 rw [snapM, flatC_snapA h (by omega) hl]
 simp [clr, (datas_map h.data l).2]
theorem flatC_apref (h : Cells enc c sz) {b : Nat} {σ : St} {l : List α} (h0 : l ≠ []) (hl : l.length * b ≤ room) (hl2 : l.length ≤ room) : aprefAV sz b σ (.lit [] true none) (.lit (l.map enc) false none) = some (.ref σ.length 0 l.length sz, σ ++ [.cells (flatC c l)]) := by
 have h1 : l.length ≠ 0 := fun e => h0 (List.length_eq_zero_iff.1 e)
 simp only [aprefAV, view, List.length_map, h1, if_false, List.length_nil, Nat.zero_add, List.nil_append, flatC_map h]
 simp [sized, flatC_all h, hl, hl2]
end Go.Am.Room
set_option maxRecDepth 8000
namespace Go.Am.Room
def turnOf (l : List Int) (n : Nat) : Int := if l.length = 0 then 0 else (l[n % l.length]?).getD 0
def u8s (l : List Int) : AV := .lit (l.map (.int .u8)) false none
theorem data_u8s (l : List Int) : Data (u8s l) := data_list (data_int .u8) l
instance (l : List Int) : Dat (u8s l) := ⟨data_u8s l⟩
theorem S_u8s (σ : St) (m d : Nat) (l : List Int) : snapMs σ m d (l.map (.int .u8)) = some (l.map (.int .u8)) := S_datas (datas_map (data_int .u8) l) σ m d
def Bytes (l : List Int) : Prop := (∀ x ∈ l, 0 ≤ x ∧ x < 256) ∧ l.length < 9223372036854775808
theorem turnOf_bd {l : List Int} (h : Bytes l) (n : Nat) : 0 ≤ turnOf l n ∧ turnOf l n < 256 := by
 unfold turnOf
 split
 ·omega
 ·rename_i h0
  have hlt : n % l.length < l.length := Nat.mod_lt _ (by omega)
  rw [List.getElem?_eq_getElem hlt, Option.getD_some]
  exact h.1 _ (List.getElem_mem hlt)
theorem turn_ok (l : List Int) (n : Nat) (h : Bytes l) (hn : n < 9223372036854775808) : Pure T 46 [u8s l, .int .i64 n] (.int .i64 (turnOf l n)) := by
 refine pure_fn (af := a46) rfl (by simp [a46]) (datas_cons (data_u8s l) (datas_cons (data_int _ _) datas_nil)) ?_
 have hl := h.2
 (repeat (first | simp only [↓QA, QB, Nat.reduceLT, reduceIte, Nat.reduceEqDiff, Nat.reduceAdd, Nat.reduceLeDiff, Nat.reduceMul, Nat.reduceBEq, QXDLawC, a46, u8s] | refine rd0 rfl ?_))
 refine iteP_intro (fun h0 => ?_) fun h0 => ?_
 ·have h0' : l.length = 0 := by simp at h0; simp [h0]
  (repeat (first | simp only [↓QA, QB, Nat.reduceLT, reduceIte, Nat.reduceEqDiff, Nat.reduceAdd, Nat.reduceLeDiff, Nat.reduceMul, Nat.reduceBEq, QXDLawC, turnOf, h0'] | refine rd0 rfl ?_))
 ·have h0' : l.length ≠ 0 := by intro e; rw [e] at h0; simp at h0
  have hlt : n % l.length < l.length := Nat.mod_lt _ (by omega)
  have hb := h.1 _ (List.getElem_mem hlt)
  have hm : ((n : Int).tmod (l.length : Int)) = ((n % l.length : Nat) : Int) := by rw [Int.tmod_eq_emod_of_nonneg (by omega)]; norm_cast
  have hw : IntKind.i64.wrap l[n % l.length] = l[n % l.length] := wrap64 ⟨by omega, by omega⟩
  (repeat (first | simp only [↓QA, QB, Nat.reduceLT, reduceIte, Nat.reduceEqDiff, Nat.reduceAdd, Nat.reduceLeDiff, Nat.reduceMul, Nat.reduceBEq, QXDLawC, V_rem _ _ _ (show ((l.length : Nat) : Int) ≠ 0 by omega), hm, hlt, hw] | refine rd0 rfl ?_))
  simp [turnOf, h0', hlt]
theorem subset_ok (a b : List Int) (ha : a.length < 9223372036854775808) (hb : b.length < 9223372036854775808) : Pure T 39 [ints a, ints b] (.bool (a.all b.contains)) := by
 refine pure_fn (af := a39) rfl (by simp [a39]) dd ?_
 (repeat (first | simp only [↓QA, QB, Nat.reduceLT, reduceIte, Nat.reduceEqDiff, Nat.reduceAdd, Nat.reduceLeDiff, Nat.reduceMul, Nat.reduceBEq, QXDLawC, a39] | refine rd0 rfl ?_))
 refine loopE (S := Nat) 0 (fun k => k ≤ a.length ∧ (a.drop k).all b.contains = a.all b.contains) (fun k => a.length - k) (fun k => [(0, ints a), (1, ints b), (5, .int .i64 k)]) (fun _ => []) ⟨by simp, by simp⟩ rfl ?_ fun k hk => ?_
 ·try simp only [TrimX, QE, Nat.reduceLT, reduceIte, Nat.reduceEqDiff, Nat.reduceAdd, Nat.reduceLeDiff, Nat.reduceMul, Nat.reduceBEq, QXDLawC]
  try simp
 ·obtain ⟨hk, hq⟩ := hk
  (repeat (first | simp only [↓QA, QB, Nat.reduceLT, reduceIte, Nat.reduceEqDiff, Nat.reduceAdd, Nat.reduceLeDiff, Nat.reduceMul, Nat.reduceBEq, QXDLawC, L39_0] | refine rd0 rfl ?_))
  refine iteP_intro (fun h => ?_) fun h => ?_
  ·have hk1 : k < a.length := by simpa using h
   have hw := wrapN hk1 ha
   rw [List.drop_eq_getElem_cons hk1, List.all_cons] at hq
   (repeat (first | simp only [↓QA, QB, Nat.reduceLT, reduceIte, Nat.reduceEqDiff, Nat.reduceAdd, Nat.reduceLeDiff, Nat.reduceMul, Nat.reduceBEq, QXDLawC, hk1] | refine rd0 rfl ?_))
   ((first | refine callK_d (has_ok b a[k] hb) rfl dd ?_ | refine callD_d (has_ok b a[k] hb) rfl dd ?_); (repeat (first | simp only [↓QA, QB, Nat.reduceLT, reduceIte, Nat.reduceEqDiff, Nat.reduceAdd, Nat.reduceLeDiff, Nat.reduceMul, Nat.reduceBEq, QXDLawC, hk1] | refine rd0 rfl ?_)))
   cases h2 : b.contains a[k]
   ·rw [h2, Bool.false_and] at hq
    (repeat (first | simp only [↓QA, QB, Nat.reduceLT, reduceIte, Nat.reduceEqDiff, Nat.reduceAdd, Nat.reduceLeDiff, Nat.reduceMul, Nat.reduceBEq, QXDLawC, ← hq] | refine rd0 rfl ?_))
   ·rw [h2, Bool.true_and] at hq
    (repeat (first | simp only [↓QA, QB, Nat.reduceLT, reduceIte, Nat.reduceEqDiff, Nat.reduceAdd, Nat.reduceLeDiff, Nat.reduceMul, Nat.reduceBEq, QXDLawC, hk1] | refine rd0 rfl ?_))
    refine ⟨k + 1, ⟨by omega, hq⟩, by omega, ?_⟩
    try simp only [TrimX, QE, Nat.reduceLT, reduceIte, Nat.reduceEqDiff, Nat.reduceAdd, Nat.reduceLeDiff, Nat.reduceMul, Nat.reduceBEq, QXDLawC, hw]
  ·have hk1 : k = a.length := by simp at h; omega
   rw [hk1, List.drop_length, List.all_nil] at hq
   (repeat (first | simp only [↓QA, QB, Nat.reduceLT, reduceIte, Nat.reduceEqDiff, Nat.reduceAdd, Nat.reduceLeDiff, Nat.reduceMul, Nat.reduceBEq, QXDLawC, ← hq] | refine rd0 rfl ?_))
end Go.Am.Room
set_option maxRecDepth 8000
namespace Go.Am.Room
theorem valid_ok (v : Voy) (hf : Fits v) : Pure T 37 [encVoy v] (.bool (decide ((check v).2.2 = 0))) := by
 refine pure_fn (af := a37) rfl (by simp [a37]) dd ?_
 (repeat (first | simp only [↓QA, QB, Nat.reduceLT, reduceIte, Nat.reduceEqDiff, Nat.reduceAdd, Nat.reduceLeDiff, Nat.reduceMul, Nat.reduceBEq, QXDDrQ1, a37] | refine rd0 rfl ?_))
 ((first | refine callK_d (refcheck_ok v hf) rfl dd ?_ | refine callD_d (refcheck_ok v hf) rfl dd ?_); (repeat (first | simp only [↓QA, QB, Nat.reduceLT, reduceIte, Nat.reduceEqDiff, Nat.reduceAdd, Nat.reduceLeDiff, Nat.reduceMul, Nat.reduceBEq, QXDDrQ1, enc3] | refine rd0 rfl ?_)))
 try rfl
 try (simp; rfl)
def someV (v : Voy) : Bool := decide ((check v).2.2 = 0) && someB v []
end Go.Am.Room
set_option maxRecDepth 8000
namespace Go.Am.Room
theorem lst5 {n m : Nat} (h : m ≤ n) (p : Int → Bool) : ((numbers 0 m).filter p).length ≤ n := by
 have := List.length_filter_le p (numbers 0 m)
 rw [numbers_len] at this
 omega
theorem causes_lenO (v : Voy) (n : Int) : (causesOf v n).1.length ≤ 4 := by
 unfold causesOf
 split
 ·rename_i h0
  exact lst5 (errAsk_ok (errKnown_ok h0).1).1.ndr _
 ·simp
theorem whose_lenO (v : Voy) (n : Int) : (whoseOf v n).1.length ≤ 5 := by
 unfold whoseOf
 split
 ·rename_i h0
  exact lst5 (errAsk_ok (errKnown_ok h0).1).1.nkp.2 _
 ·simp
theorem opened_lenO (v : Voy) : (openedOf v).1.length ≤ 4 ∧ (openedOf v).2.1.length ≤ 4 := by
 unfold openedOf
 split
 ·rename_i h0
  have hv := vd_of_check (errKnown_ok h0).1
  exact ⟨lst5 hv.ndr _, lst5 hv.ndr _⟩
 ·simp
end Go.Am.Room
set_option maxRecDepth 8000
namespace Go.Am.Room
theorem some_iff {v : Voy} : someV v = true ↔ (check v).2.2 = 0 ∧ someB v [] = true := by simp [someV]
theorem known0 {v : Voy} (h : someV v = true) : errKnown v 0 = 0 := by
 have := (some_iff.1 h).2
 simp only [someB, Bool.not_eq_true'] at this
 simp [errKnown, this]
theorem whole0 {v : Voy} (h : someV v = true) : wholeErr v = 0 := by rw [wholeErr, (some_iff.1 h).1]; exact known0 h
theorem lot0 {v : Voy} (h : someV v = true) {n : Nat} (hn : n < v.lots.toNat) : lotErr v n = 0 := by
 have : inR (n : Int) 0 (v.lots - 1) = true := inR_iff.2 (by omega)
 rw [lotErr, errAsk, if_pos (some_iff.1 h).1, this]
 exact known0 h
theorem nat_rem {a : Int} {n : Nat} (ha : 0 ≤ a) (hn : 0 < n) : ∃ j : Nat, a.tmod (n : Int) = (j : Int) ∧ j < n := by
 refine ⟨(a.tmod n).toNat, ?_, ?_⟩
 ·have := Int.tmod_nonneg (n : Int) ha; omega
 ·have := Int.tmod_nonneg (n : Int) ha
  have := Int.tmod_lt_of_pos a (show (0 : Int) < n by omega)
  omega
theorem turned_tr {v : Voy} (h : someV v = true) {n : Nat} (hn : n < v.lots.toNat) : turnedOf v n = (spanIn (truths v []) n, howIn (truths v []) n, 0) := by
 rw [turnedOf, if_pos (lot0 h hn), Int.toNat_natCast]; rfl
theorem causes_tr {v : Voy} (h : someV v = true) {n : Nat} (hn : n < v.lots.toNat) : causesOf v n = (causesIn v (truths v []) n, 0) := by
 rw [causesOf, if_pos (lot0 h hn), Int.toNat_natCast]
theorem whose_tr {v : Voy} (h : someV v = true) {n : Nat} (hn : n < v.lots.toNat) : whoseOf v n = (whoseIn v (causesIn v (truths v []) n), 0) := by
 rw [whoseOf, if_pos (lot0 h hn), Int.toNat_natCast]
theorem opened_tr {v : Voy} (h : someV v = true) : openedOf v = ((numbers 0 v.doors.length).filter (sureOp (truths v [])), (numbers 0 v.doors.length).filter (mayOp (truths v [])), 0) := by rw [openedOf, if_pos (whole0 h)]
end Go.Am.Room
set_option maxRecDepth 8000
namespace Go.Am.Room
def plainC (v : Voy) : List AV := [.int .i64 v.hours, .int .i64 v.delay.lo, .int .i64 v.delay.hi, .lit (v.keepers.map encKp) false none, .lit (v.doors.map encDoor) false none, .int .i64 v.lots, .lit [] true none]
theorem plainC_ok (v : Voy) : okVs 0 [.agg (plainC v)] := by
 simp [plainC, okV, okVs, (datas_map data_kp v.keepers).1, (datas_map data_door v.doors).1]
end Go.Am.Room
set_option maxRecDepth 8000
namespace Go.Am.Room
def QXDDrQA := And.intro @encVoy_eq (And.intro @voyCells_eq (And.intro @encKp_eq (And.intro @encDoor_eq (And.intro @encLook_eq (And.intro @encSpan_eq (And.intro @S_mapKp (And.intro @S_mapDoor (And.intro @S_mapLook (And.intro @T_sapp (And.intro @List.length_append.{0} (And.intro @encTn_eq (And.intro @S_mapTn (And.intro @S_mapTns (And.intro @tns_eq (And.intro @S_u8s (@Int.toNat_natCast))))))))))))))))
def setX (v : Voy) (x : List Int) : List Int := ((setsOf v)[((turnOf x 0).tmod ((setsOf v).length : Int)).toNat]?).getD []
def tnX (v : Voy) (x : List Int) (n : Nat) : Tn := ((turnsOf (plainV v) (n : Int) (setX v x) [])[((turnOf x (1 + n)).tmod ((turnsOf (plainV v) (n : Int) (setX v x) []).length : Int)).toNat]?).getD ⟨-1, -1⟩
def tsX (v : Voy) (x : List Int) (k : Nat) : List Tn := (List.range k).map (tnX v x)
theorem tsX_len (v : Voy) (x : List Int) (k : Nat) : (tsX v x k).length = k := by simp [tsX]
theorem tsX_succ (v : Voy) (x : List Int) (k : Nat) : tsX v x (k + 1) = tsX v x k ++ [tnX v x k] := by simp [tsX, List.range_succ]
theorem tsX_get (v : Voy) (x : List Int) {k h : Nat} (hh : h < (tsX v x k).length) : (tsX v x k)[h] = tnX v x h := by simp [tsX]
theorem plain_turns (v : Voy) (lot : Int) (op : List Int) : turnsOf (plainV v) lot op [] = allTurns v op := by
 have : turnsOf (plainV v) lot op [] = (allTurns (plainV v) op).filter (turnOk (plainV v) lot []) := rfl
 rw [this, List.filter_eq_self.2 fun w _ => plain_ok v lot [] w]
 rfl
theorem set_of {v : Voy} {x : List Int} (hx : Bytes x) : setX v x ∈ setsOf v := by
 obtain ⟨j, hj, hl⟩ := nat_rem (turnOf_bd hx 0).1 (sets_ne (v := v))
 rw [setX, hj, Int.toNat_natCast, List.getElem?_eq_getElem hl, Option.getD_some]
 exact List.getElem_mem hl
theorem all_pos (v : Voy) (op : List Int) : 0 < (allTurns v op).length := by simp [allTurns]
theorem truth_of {v : Voy} {x : List Int} (hx : Bytes x) : TruthOf v (setX v x) (tnX v x) := by
 refine ⟨set_of hx, fun n hn => ?_⟩
 rw [tnX, plain_turns]
 obtain ⟨j, hj, hl⟩ := nat_rem (turnOf_bd hx (1 + n)).1 (all_pos v (setX v x))
 rw [hj, Int.toNat_natCast, List.getElem?_eq_getElem hl, Option.getD_some]
 exact List.getElem_mem hl
def toldX (v : Voy) (x : List Int) : Voy := told v (tnX v x)
def toldTo (v : Voy) (x : List Int) (k : Nat) : List Look := (v.looks.map (toldLook (tnX v x))).take k ++ v.looks.drop k
theorem toldTo_len (v : Voy) (x : List Int) (k : Nat) : (toldTo v x k).length = v.looks.length := by simp [toldTo]; omega
theorem toldTo_get (v : Voy) (x : List Int) {k : Nat} (h : k < v.looks.length) : (toldTo v x k)[k]'(by rw [toldTo_len]; exact h) = v.looks[k] := by
 have hl : ((v.looks.map (toldLook (tnX v x))).take k).length = k := by simp; omega
 simp only [toldTo]
 rw [List.getElem_append_right (by omega)]
 simp [hl]
theorem toldTo_set (v : Voy) (x : List Int) {k : Nat} (h : k < v.looks.length) : (toldTo v x k).set k (toldLook (tnX v x) v.looks[k]) = toldTo v x (k + 1) := by
 have hl : ((v.looks.map (toldLook (tnX v x))).take k).length = k := by simp; omega
 have hk : k < (v.looks.map (toldLook (tnX v x))).length := by simpa using h
 simp only [toldTo]
 rw [List.set_append_right _ _ (by omega), hl, Nat.sub_self, List.drop_eq_getElem_cons h, List.set_cons_zero, List.take_add_one, List.getElem?_eq_getElem hk]
 simp
theorem toldTo_end (v : Voy) (x : List Int) : toldTo v x v.looks.length = (toldX v x).looks := by
 have h : (v.looks.map (toldLook (tnX v x))).length ≤ v.looks.length := by simp
 rw [toldTo, List.take_of_length_le h, List.drop_length, List.append_nil]
 rfl
theorem tplain_clr (v : Voy) (n : Int) (W : List Int) : clrs [.agg (plainC v), .int .i64 n, .lit (W.map (.int .i64)) false none, .lit [] true none] = [encVoy (plainV v), .int .i64 n, ints W, ints []] := by
 simp [plainC, clr, clrs, encVoy, voyCells, plainV, ints, (datas_map data_kp v.keepers).2, (datas_map data_door v.doors).2, (datas_map (data_int .i64) W).2]
theorem tplain_ok (v : Voy) (n : Int) (W : List Int) : okVs 0 [.agg (plainC v), .int .i64 n, .lit (W.map (.int .i64)) false none, .lit [] true none] := by
 simp [plainC, okV, okVs, (datas_map data_kp v.keepers).1, (datas_map data_door v.doors).1, (datas_map (data_int .i64) W).1]
def zero7 : List AV := [.int .i64 0, .int .i64 0, .int .i64 0, .lit [] true none, .lit [] true none, .int .i64 0, .lit [] true none]
theorem zero7_eq : zero7 = [.int .i64 0, .int .i64 0, .int .i64 0, .lit [] true none, .lit [] true none, .int .i64 0, .lit [] true none] := rfl
def encTold (v : Voy) (x : List Int) : AV := .tuple [encVoy (toldX v x), ints (setX v x), tns (tsX v x v.lots.toNat)]
set_option maxHeartbeats 2000000 in
theorem told_ok (v : Voy) (x : List Int) (hv : Vd v) (hx : Bytes x) : Pure T 38 [encVoy v, u8s x] (encTold v x) := by
 refine pure_fn (af := a38) rfl (by simp [a38]) dd ?_
 have hlo := hv.lots
 have hll := hv.nlk
 have hvp := plain_vd hv
 have hrs := rsets_ok v hv
 have hset := set_of (v := v) hx
 obtain ⟨sl16, hsl⟩ := sets_small hv
 obtain ⟨j, hj, hjl⟩ := nat_rem (turnOf_bd hx 0).1 (sets_ne (v := v))
 have hjW : (setsOf v)[j] = setX v x := by rw [setX, hj, Int.toNat_natCast, List.getElem?_eq_getElem hjl]; rfl
 have hW4 := hsl _ hset
 have hWr : ∀ d ∈ setX v x, 0 ≤ d ∧ d < v.doors.length := fun d hd => setok_lt (mem_sets.1 hset) hd
 have htn : ∀ k : Nat, ∃ i : Nat, (turnOf x (1 + k)).tmod ((turnsOf (plainV v) (k : Int) (setX v x) []).length : Int) = (i : Int) ∧ ∃ hi : i < (turnsOf (plainV v) (k : Int) (setX v x) []).length, (turnsOf (plainV v) (k : Int) (setX v x) [])[i] = tnX v x k := fun k => by
  have hp : 0 < (turnsOf (plainV v) (k : Int) (setX v x) []).length := by rw [plain_turns]; exact all_pos v _
  obtain ⟨i, hi, hl⟩ := nat_rem (turnOf_bd hx (1 + k)).1 hp
  exact ⟨i, hi, hl, by rw [tnX, hi, Int.toNat_natCast, List.getElem?_eq_getElem hl]; rfl⟩
 have htl : ∀ k : Nat, (turnsOf (plainV v) (k : Int) (setX v x) []).length ≤ 37 := fun k => turns_len hvp _ _ _ hW4
 have hrt : ∀ k : Nat, Pure T 76 [encVoy (plainV v), .int .i64 k, ints (setX v x), ints []] (tns (turnsOf (plainV v) (k : Int) (setX v x) [])) := fun k => rturns_ok (plainV v) hvp k (setX v x) [] hWr hW4 (by simp)
 obtain ⟨A, hA⟩ : ∃ A, setsOf v = A := ⟨_, rfl⟩
 have hAne : ((A.length : Nat) : Int) ≠ 0 := by have := sets_ne (v := v); rw [hA] at this; omega
 obtain ⟨W, hW⟩ : ∃ W, setX v x = W := ⟨_, rfl⟩
 have hAW : ∃ h2 : j < A.length, A[j] = W := by subst hA; exact ⟨hjl, by rw [hjW, hW]⟩
 obtain ⟨hjA, hset2⟩ := hAW
 rw [hA] at hj hrs
 simp only [hW] at htn htl hrt hW4
 have hcl := fun n => tplain_clr v n W
 have hco := fun n => tplain_ok v n W
 simp only [plainC] at hcl hco
 obtain ⟨L, hL⟩ : ∃ L : Nat, v.lots = (L : Int) := ⟨v.lots.toNat, by omega⟩
 have hLn : v.lots.toNat = L := by omega
 obtain ⟨R, hR⟩ : ∃ R, encTold v x = R := ⟨_, rfl⟩
 rw [hR]
 (repeat (first | simp only [↓QA, QB, Nat.reduceLT, reduceIte, Nat.reduceEqDiff, Nat.reduceAdd, Nat.reduceLeDiff, Nat.reduceMul, Nat.reduceBEq, QXDDrQA, a38, u8s] | refine rd0 rfl ?_))
 ((first | refine callK_d (hrs) rfl dd ?_ | refine callD_d (hrs) rfl dd ?_); (repeat (first | simp only [↓QA, QB, Nat.reduceLT, reduceIte, Nat.reduceEqDiff, Nat.reduceAdd, Nat.reduceLeDiff, Nat.reduceMul, Nat.reduceBEq, QXDDrQA, intss] | refine rd0 rfl ?_)))
 ((first | refine callK_d (turn_ok x 0 hx (by omega)) rfl dd ?_ | refine callD_d (turn_ok x 0 hx (by omega)) rfl dd ?_); (repeat (first | simp only [↓QA, QB, Nat.reduceLT, reduceIte, Nat.reduceEqDiff, Nat.reduceAdd, Nat.reduceLeDiff, Nat.reduceMul, Nat.reduceBEq, QXDDrQA, V_rem _ _ _ hAne, hj, hjA, hset2] | refine rd0 rfl ?_)))
 refine ghostK 10 2 [] rfl ?_
 refine loopE (S := Nat × Bool) (0, false) (fun a => a.1 ≤ L) (fun a => L - a.1)
  (fun a => [(1, u8s x), (2, .ptr 0 0), (4, .ptr 1 0), (8, ints W), (9, .ptr 2 0), (10, .lit ((tsX v x a.1).map encTn) false (some 3)), (11, .int .i64 a.1)])
  (fun a => [.cells (voyCells v), .cells zero7, .cells (plainC v), .tok 2 a.1 a.2]) (by simp) (by simp [voyCells, ints, plainC, zero7]) ?_ fun a hk => ?_
 ·try simp only [TrimX, QE, Nat.reduceLT, reduceIte, Nat.reduceEqDiff, Nat.reduceAdd, Nat.reduceLeDiff, Nat.reduceMul, Nat.reduceBEq, QXDDrQA, u8s, tsX, List.range_zero, List.map_nil]
  try simp [ints]
 ·obtain ⟨k, ex⟩ := a
  simp only at hk
  (repeat (first | simp only [↓QA, QB, Nat.reduceLT, reduceIte, Nat.reduceEqDiff, Nat.reduceAdd, Nat.reduceLeDiff, Nat.reduceMul, Nat.reduceBEq, QXDDrQA, L38_0, u8s] | refine rd0 rfl ?_))
  refine iteP_intro (fun h => ?_) fun h => ?_
  ·have hk0 : (k : Int) < v.lots := by simpa using h
   have hk1 : k < L := by omega
   have hw := wrapN hk1 (by omega)
   have hw1 : IntKind.i64.wrap (1 + (k : Int)) = ((1 + k : Nat) : Int) := by rw [wrap64 ⟨by omega, by omega⟩]; omega
   obtain ⟨i, hi, hil, hie⟩ := htn k
   have htlk := htl k
   have hrk := hrt k
   obtain ⟨C, hC⟩ : ∃ C, turnsOf (plainV v) (k : Int) W [] = C := ⟨_, rfl⟩
   simp only [hC] at hi hil hie htlk hrk
   have hrC : (C.length : Int) ≠ 0 := by omega
   have hsu := tsX_succ v x k
   have hzl := tsX_len v x k
   obtain ⟨w, hwe⟩ : ∃ w, tnX v x k = w := ⟨_, rfl⟩
   rw [hwe] at hie hsu
   obtain ⟨Z, hZ⟩ : ∃ Z, tsX v x k = Z := ⟨_, rfl⟩
   rw [hZ] at hsu hzl
   rw [hZ]
   have q2 := fun (b0 b1 b2 : ABlk) (τ : St) => append_at (σ := b0 :: b1 :: b2 :: .tok 2 k ex :: τ) (t := 3) (ex := ex) (sz := 2) (b := 16) (xs := Z.map encTn) (ys := [.agg [.int .i64 w.hour, .int .i64 w.door]]) (f := true) (tk := none) ⟨allCells_tn Z, by simp [allCells, AV.cells, AV.cell], by simp [room, hzl]; omega, by simp [room, hzl]; omega⟩ (by simp) k (by simp [hzl]) rfl
   (repeat (first | simp only [↓QA, QB, Nat.reduceLT, reduceIte, Nat.reduceEqDiff, Nat.reduceAdd, Nat.reduceLeDiff, Nat.reduceMul, Nat.reduceBEq, QXDDrQA, plainC] | refine rd0 rfl ?_))
   refine callK_v hrk (hcl k) (hco k) ?_
   (repeat (first | simp only [↓QA, QB, Nat.reduceLT, reduceIte, Nat.reduceEqDiff, Nat.reduceAdd, Nat.reduceLeDiff, Nat.reduceMul, Nat.reduceBEq, QXDDrQA, hw1] | refine rd0 rfl ?_))
   ((first | refine callK_d (turn_ok x (1 + k) hx (by omega)) rfl dd ?_ | refine callD_d (turn_ok x (1 + k) hx (by omega)) rfl dd ?_); (repeat (first | simp only [↓QA, QB, Nat.reduceLT, reduceIte, Nat.reduceEqDiff, Nat.reduceAdd, Nat.reduceLeDiff, Nat.reduceMul, Nat.reduceBEq, QXDDrQA, V_rem _ _ _ hrC, hi, hil, hie, q2, hw] | refine rd0 rfl ?_)))
   refine ⟨(k + 1, true), by simp only; omega, by simp only; omega, ?_⟩
   try simp only [TrimX, QE, Nat.reduceLT, reduceIte, Nat.reduceEqDiff, Nat.reduceAdd, Nat.reduceLeDiff, Nat.reduceMul, Nat.reduceBEq, QXDDrQA, hw, u8s, hsu, List.map_append, List.map_cons, List.map_nil]
   try simp [okBlk, ints, plainC]
  ·have hk1 : k = L := by
    have : ¬ (k : Int) < v.lots := by simpa using h
    omega
   subst hk1
   have hzl := tsX_len v x k
   have hzg := fun {h} (hh : h < (tsX v x k).length) => tsX_get v x hh
   have hRe : R = .tuple [encVoy (toldX v x), ints W, tns (tsX v x k)] := by rw [← hR, encTold, hW, hLn]
   obtain ⟨Z, hZ⟩ : ∃ Z, tsX v x k = Z := ⟨_, rfl⟩
   have hzg2 : ∀ h (hh : h < Z.length), Z[h] = tnX v x h := by subst hZ; exact fun h hh => hzg hh
   clear hzg
   rw [hZ] at hzl hRe
   rw [hZ]
   by_cases hlk : v.looks = []
   ·have e : toldX v x = v := by
     show ({ v with looks := v.looks.map (toldLook (tnX v x)) } : Voy) = v
     rw [hlk, List.map_nil, ← hlk]
    rw [hRe, e]
    have hnil : List.map encLook v.looks = [] := by rw [hlk]; rfl
    have hap0 : ∀ σ : St, aprefAV 3 24 σ (.lit [] true none) (.lit [] false none) = some (.lit [] true none, σ) := fun σ => by simp [aprefAV, view]
    (repeat (first | simp only [↓QA, QB, Nat.reduceLT, reduceIte, Nat.reduceEqDiff, Nat.reduceAdd, Nat.reduceLeDiff, Nat.reduceMul, Nat.reduceBEq, QXDDrQA, hnil, hap0] | refine rd0 rfl ?_))
    refine loopE (S := Unit) () (fun _ => True) (fun _ => 0) (fun _ => [(2, .ptr 0 0), (4, .ptr 1 0), (8, ints W), (10, .lit (Z.map encTn) false (some 3)), (13, .int .i64 0)])
     (fun _ => [.cells [.int .i64 v.hours, .int .i64 v.delay.lo, .int .i64 v.delay.hi, .lit (v.keepers.map encKp) false none, .lit (v.doors.map encDoor) false none, .int .i64 v.lots, .lit [] true none], .cells zero7, .cells (plainC v), .tok 2 k ex]) trivial (by simp [zero7]) ?_ fun _ _ => ?_
    ·try simp only [TrimX, QE, Nat.reduceLT, reduceIte, Nat.reduceEqDiff, Nat.reduceAdd, Nat.reduceLeDiff, Nat.reduceMul, Nat.reduceBEq, QXDDrQA]
     try simp [ints, zero7]
    ·(repeat (first | simp only [↓QA, QB, Nat.reduceLT, reduceIte, Nat.reduceEqDiff, Nat.reduceAdd, Nat.reduceLeDiff, Nat.reduceMul, Nat.reduceBEq, QXDDrQA, L38_2, show decide ((0 : Int) < ((0 : Nat) : Int)) = false from rfl, zero7_eq] | refine rd0 rfl ?_))
     rw [hnil]
     try try simp only [QS, QC, Nat.reduceLT, reduceIte, Nat.reduceEqDiff, Nat.reduceAdd, Nat.reduceLeDiff, Nat.reduceMul, Nat.reduceBEq, QXDDrQA]
   ·obtain ⟨M, hM⟩ : ∃ M, v.looks.length = M := ⟨_, rfl⟩
    have hh0 : toldTo v x 0 = v.looks := by simp [toldTo]
    have hhl : ∀ i, (toldTo v x i).length = M := fun i => by rw [toldTo_len, hM]
    have hfl : ∀ i, (flatC lookC (toldTo v x i)).length = M * 3 := fun i => by rw [flatC_len lookC_ok, hhl]
    have hap := fun σ : St => flatC_apref lookC_ok (b := 24) (σ := σ) hlk (by simp [room]; omega) (by simp [room]; omega)
    rw [hM] at hap
    (repeat (first | simp only [↓QA, QB, Nat.reduceLT, reduceIte, Nat.reduceEqDiff, Nat.reduceAdd, Nat.reduceLeDiff, Nat.reduceMul, Nat.reduceBEq, QXDDrQA, hap, hM] | refine rd0 rfl ?_))
    refine loopE (S := Nat) 0 (fun i => i ≤ M) (fun i => M - i) (fun i => [(2, .ptr 0 0), (4, .ptr 1 0), (8, ints W), (10, .lit (Z.map encTn) false (some 3)), (13, .int .i64 i)])
     (fun i => [.cells [.int .i64 v.hours, .int .i64 v.delay.lo, .int .i64 v.delay.hi, .lit (v.keepers.map encKp) false none, .lit (v.doors.map encDoor) false none, .int .i64 v.lots, .ref 4 0 M 3], .cells zero7, .cells (plainC v), .tok 2 k ex, .cells (flatC lookC (toldTo v x i))]) (by simp) (by rw [hh0]) ?_ fun i hi => ?_
    ·try simp only [TrimX, QE, Nat.reduceLT, reduceIte, Nat.reduceEqDiff, Nat.reduceAdd, Nat.reduceLeDiff, Nat.reduceMul, Nat.reduceBEq, QXDDrQA]
     try simp [ints]
    ·(repeat (first | simp only [↓QA, QB, Nat.reduceLT, reduceIte, Nat.reduceEqDiff, Nat.reduceAdd, Nat.reduceLeDiff, Nat.reduceMul, Nat.reduceBEq, QXDDrQA, L38_2] | refine rd0 rfl ?_))
     refine iteP_intro (fun h2 => ?_) fun h2 => ?_
     ·have hi1 : i < v.looks.length := by rw [hM]; simpa using h2
      have hw := wrapN hi1 (by omega)
      have i1 : (0 : Int) ≤ (i : Int) ∧ (i : Int) < ((M : Nat) : Int) ∧ 3 = 3 := ⟨by omega, by omega, rfl⟩
      have c1 : i * 3 + 3 ≤ M * 3 := by omega
      obtain ⟨y, hy⟩ : ∃ y, v.looks[i] = y := ⟨_, rfl⟩
      have hly := hv.lk _ (List.getElem_mem hi1)
      rw [hy] at hly
      have hat := flatC_at lookC_ok (toldTo v x i) i (by rw [hhl]; omega)
      rw [toldTo_get v x hi1, hy] at hat
      have hset3 := flatC_set lookC_ok (toldTo v x i) i (toldLook (tnX v x) y) (by rw [hhl]; omega)
      rw [← hy, toldTo_set v x hi1, hy] at hset3
      have hl0 : 0 ≤ y.lot := hly.1.1
      have hl1 : y.lot.toNat < Z.length := by omega
      have hZg := hzg2 _ hl1
      obtain ⟨w, hwe⟩ : ∃ w, tnX v x y.lot.toNat = w := ⟨_, rfl⟩
      rw [hwe] at hZg
      have etl : toldLook (tnX v x) y = ⟨y.lot, y.hour, decide (w.hour ≠ -1) && decide (w.hour ≤ y.hour)⟩ := by simp only [toldLook, hwe]
      rw [etl] at hset3
      simp only [lookC] at hat hset3
      have hokf : ∀ m i, okVs m (flatC lookC (toldTo v x i)) := fun m i => flatC_okVs lookC_ok m (lookC_okV m) _
      have hpl : ∀ m, okVs m (plainC v) := fun m => by
       have := okVs_up (m := m) _ (plainC_ok v)
       exact this.1
      cases h3 : (w.hour == -1)
      ·have h3' : w.hour ≠ -1 := by simpa using h3
       have e3 : (decide (w.hour ≠ -1) && decide (w.hour ≤ y.hour)) = decide (w.hour ≤ y.hour) := by simp [h3']
       rw [e3] at hset3
       (repeat (first | simp only [↓QA, QB, Nat.reduceLT, reduceIte, Nat.reduceEqDiff, Nat.reduceAdd, Nat.reduceLeDiff, Nat.reduceMul, Nat.reduceBEq, QXDDrQA, i1, c1, hfl, hat, Nat.zero_add, V_idxI, hl0, hl1, hZg, h3, hset3, hw] | refine rd0 rfl ?_))
       refine ⟨i + 1, by omega, by omega, ?_⟩
       try simp only [TrimX, QE, Nat.reduceLT, reduceIte, Nat.reduceEqDiff, Nat.reduceAdd, Nat.reduceLeDiff, Nat.reduceMul, Nat.reduceBEq, QXDDrQA, hw]
       simp [okBlk, hokf, hpl]
      ·have h3' : w.hour = -1 := by simpa using h3
       have e3 : (decide (w.hour ≠ -1) && decide (w.hour ≤ y.hour)) = false := by simp [h3']
       rw [e3] at hset3
       (repeat (first | simp only [↓QA, QB, Nat.reduceLT, reduceIte, Nat.reduceEqDiff, Nat.reduceAdd, Nat.reduceLeDiff, Nat.reduceMul, Nat.reduceBEq, QXDDrQA, i1, c1, hfl, hat, Nat.zero_add, V_idxI, hl0, hl1, hZg, h3, hset3, hw] | refine rd0 rfl ?_))
       refine ⟨i + 1, by omega, by omega, ?_⟩
       try simp only [TrimX, QE, Nat.reduceLT, reduceIte, Nat.reduceEqDiff, Nat.reduceAdd, Nat.reduceLeDiff, Nat.reduceMul, Nat.reduceBEq, QXDDrQA, hw]
       simp [okBlk, hokf, hpl]
     ·have hi1 : i = v.looks.length := by rw [hM]; simp at h2; omega
      subst hi1
      have hend := toldTo_end v x
      have hsl2 := toldTo_len v x v.looks.length
      obtain ⟨Q, hQ⟩ : ∃ Q, toldTo v x v.looks.length = Q := ⟨_, rfl⟩
      rw [hQ] at hend hsl2
      have hML : M = Q.length := by omega
      have hsn : ∀ (b0 b1 b2 b3 : ABlk) (τ : St), snapM (b0 :: b1 :: b2 :: b3 :: .cells (flatC lookC Q) :: τ) 0 20 (.ref 4 0 M 3) = some (.lit (Q.map encLook) false none) := fun b0 b1 b2 b3 τ => by
       rw [hML]
       exact flatC_snap lookC_ok (by simp [cellsAt])
      rw [hQ]
      have eT : encVoy (toldX v x) = .agg [.int .i64 v.hours, .int .i64 v.delay.lo, .int .i64 v.delay.hi, .lit (v.keepers.map encKp) false none, .lit (v.doors.map encDoor) false none, .int .i64 v.lots, .lit (Q.map encLook) false none] := by
       rw [hend]; simp only [encVoy, voyCells]; rfl
      rw [hRe, eT]
      (repeat (first | simp only [↓QA, QB, Nat.reduceLT, reduceIte, Nat.reduceEqDiff, Nat.reduceAdd, Nat.reduceLeDiff, Nat.reduceMul, Nat.reduceBEq, QXDDrQA, hsn, zero7_eq] | refine rd0 rfl ?_))
      try try simp only [QS, QC, Nat.reduceLT, reduceIte, Nat.reduceEqDiff, Nat.reduceAdd, Nat.reduceLeDiff, Nat.reduceMul, Nat.reduceBEq, QXDDrQA, hsn]
end Go.Am.Room
set_option maxRecDepth 8000
namespace Go.Am.Room
def QXDDrQB := And.intro @encVoy_eq (And.intro @voyCells_eq (And.intro @encKp_eq (And.intro @encDoor_eq (And.intro @encLook_eq (And.intro @encSpan_eq (And.intro @S_mapKp (And.intro @S_mapDoor (And.intro @S_mapLook (And.intro @T_sapp (And.intro @List.length_append.{0} (And.intro @encTn_eq (And.intro @S_mapTn (And.intro @S_mapTns (And.intro @tns_eq (And.intro @S_u8s (@Int.toNat_natCast))))))))))))))))
set_option maxHeartbeats 2000000 in
theorem doortrue_ok (v : Voy) (x : List Int) (hf : Fits v) (hx : Bytes x) : Pure T 8 [encVoy v, u8s x] (.bool true) := by
 refine pure_fn (af := a8) rfl (by simp [a8]) dd ?_
 have okz : ((0 : Int) == 0) = true := rfl
 by_cases hc : (check v).2.2 = 0
 ·have hd0 : decide ((check v).2.2 = 0) = true := by simpa using hc
  have hv := vd_of_check hc
  have hlo := hv.lots
  have htr := truth_of (v := v) hx
  have hvd : Vd (toldX v x) := told_vd hv _
  have hsd : someV (toldX v x) = true := some_iff.2 ⟨by rw [check_of_vd hvd], told_some htr⟩
  have hfd : Fits (toldX v x) := ⟨hf.keepers, hf.doors, by show (told v _).looks.length < _; simp [told]; exact hf.looks, hf.names⟩
  have hwr : wrongOf (toldX v x) = ([], 0) := by
   rw [wrongOf, if_pos (by rw [check_of_vd hvd]), wrong_nil hvd (told_some htr)]
  have hop := opened_tr hsd
  have ol := opened_lenO (toldX v x)
  rw [hop] at ol
  obtain ⟨t, ht, htb⟩ : ∃ t ∈ truths (toldX v x) [], t.op = setX v x := told_truth htr
  have hin : ∀ n : Nat, n < v.lots.toNat → tnX v x n ∈ turnsIn (truths (toldX v x) []) n := fun n hn => told_in htr hn
  have htold := told_ok v x hv hx
  have hW4 := (sets_small hv).2 _ htr.set
  have hWr : ∀ d ∈ setX v x, 0 ≤ d ∧ d < v.doors.length := fun d hd => setok_lt (mem_sets.1 htr.set) hd
  have hlen := tsX_len v x v.lots.toNat
  have hget := fun {h} (hh : h < (tsX v x v.lots.toNat).length) => tsX_get v x hh
  simp only [encTold] at htold
  obtain ⟨d, hd⟩ : ∃ d, toldX v x = d := ⟨_, rfl⟩
  have hdd : d.doors = v.doors := by rw [← hd]; rfl
  have hdl : d.lots = v.lots := by rw [← hd]; rfl
  simp only [hd] at hvd hsd hfd hwr hop ol ht hin htold
  obtain ⟨W, hW⟩ : ∃ W, setX v x = W := ⟨_, rfl⟩
  rw [hW] at htb hW4 hWr htold
  have s1 : ((numbers 0 d.doors.length).filter (sureOp (truths d []))).all W.contains = true := by
   rw [List.all_eq_true]
   intro a ha
   have := List.all_eq_true.1 (List.mem_filter.1 ha).2 t ht
   rwa [htb] at this
  have s2 : W.all ((numbers 0 d.doors.length).filter (mayOp (truths d []))).contains = true := by
   rw [List.all_eq_true]
   intro a ha
   rw [List.contains_iff_mem, List.mem_filter, numbers_mem]
   refine ⟨by have := hWr a ha; rw [hdd]; omega, List.any_eq_true.2 ⟨t, ht, by rw [htb]; simpa using ha⟩⟩
  obtain ⟨S1, hS1⟩ : ∃ S1, (numbers 0 d.doors.length).filter (sureOp (truths d [])) = S1 := ⟨_, rfl⟩
  obtain ⟨M1, hM1⟩ : ∃ M1, (numbers 0 d.doors.length).filter (mayOp (truths d [])) = M1 := ⟨_, rfl⟩
  rw [hS1, hM1] at hop ol
  rw [hS1] at s1
  rw [hM1] at s2
  try simp only at ol
  obtain ⟨Z, hZ⟩ : ∃ Z, tsX v x v.lots.toNat = Z := ⟨_, rfl⟩
  have hget2 : ∀ h (hh : h < Z.length), Z[h] = tnX v x h := by subst hZ; exact fun h hh => hget hh
  clear hget
  rw [hZ] at hlen htold
  have gz : decide ((0 : Int) < ((0 : Nat) : Int)) = false := rfl
  (repeat (first | simp only [↓QA, QB, Nat.reduceLT, reduceIte, Nat.reduceEqDiff, Nat.reduceAdd, Nat.reduceLeDiff, Nat.reduceMul, Nat.reduceBEq, QXDDrQB, a8, u8s] | refine rd0 rfl ?_))
  ((first | refine callK_d (valid_ok v hf) rfl dd ?_ | refine callD_d (valid_ok v hf) rfl dd ?_); (repeat (first | simp only [↓QA, QB, Nat.reduceLT, reduceIte, Nat.reduceEqDiff, Nat.reduceAdd, Nat.reduceLeDiff, Nat.reduceMul, Nat.reduceBEq, QXDDrQB, hd0] | refine rd0 rfl ?_)))
  ((first | refine callK_d (htold) rfl dd ?_ | refine callD_d (htold) rfl dd ?_); (repeat (first | simp only [↓QA, QB, Nat.reduceLT, reduceIte, Nat.reduceEqDiff, Nat.reduceAdd, Nat.reduceLeDiff, Nat.reduceMul, Nat.reduceBEq, QXDDrQB] | refine rd0 rfl ?_)))
  ((first | refine callK_d (pwrong_ok d hfd) rfl dd ?_ | refine callD_d (pwrong_ok d hfd) rfl dd ?_); (repeat (first | simp only [↓QA, QB, Nat.reduceLT, reduceIte, Nat.reduceEqDiff, Nat.reduceAdd, Nat.reduceLeDiff, Nat.reduceMul, Nat.reduceBEq, QXDDrQB, hwr, encLE] | refine rd0 rfl ?_)))
  ((first | refine callK_d (popened_ok d hfd) rfl dd ?_ | refine callD_d (popened_ok d hfd) rfl dd ?_); (repeat (first | simp only [↓QA, QB, Nat.reduceLT, reduceIte, Nat.reduceEqDiff, Nat.reduceAdd, Nat.reduceLeDiff, Nat.reduceMul, Nat.reduceBEq, QXDDrQB, hop, encLLE, okz, gz, List.map_nil] | refine rd0 rfl ?_)))
  ((first | refine callK_d (subset_ok S1 W (by omega) (by omega)) rfl dd ?_ | refine callD_d (subset_ok S1 W (by omega) (by omega)) rfl dd ?_); (repeat (first | simp only [↓QA, QB, Nat.reduceLT, reduceIte, Nat.reduceEqDiff, Nat.reduceAdd, Nat.reduceLeDiff, Nat.reduceMul, Nat.reduceBEq, QXDDrQB, s1] | refine rd0 rfl ?_)))
  ((first | refine callK_d (subset_ok W M1 (by omega) (by omega)) rfl dd ?_ | refine callD_d (subset_ok W M1 (by omega) (by omega)) rfl dd ?_); (repeat (first | simp only [↓QA, QB, Nat.reduceLT, reduceIte, Nat.reduceEqDiff, Nat.reduceAdd, Nat.reduceLeDiff, Nat.reduceMul, Nat.reduceBEq, QXDDrQB, s2] | refine rd0 rfl ?_)))
  refine loopE (S := Nat) 0 (fun h => h ≤ Z.length) (fun h => Z.length - h) (fun h => [(7, .ptr 1 0), (9, tns Z), (15, .int .i64 h)]) (fun _ => [.cells (voyCells v), .cells (voyCells d)]) (by simp) (by simp [voyCells, ints]) ?_ fun h hh => ?_
  ·try simp only [TrimX, QE, Nat.reduceLT, reduceIte, Nat.reduceEqDiff, Nat.reduceAdd, Nat.reduceLeDiff, Nat.reduceMul, Nat.reduceBEq, QXDDrQB]
   try simp
  ·(repeat (first | simp only [↓QA, QB, Nat.reduceLT, reduceIte, Nat.reduceEqDiff, Nat.reduceAdd, Nat.reduceLeDiff, Nat.reduceMul, Nat.reduceBEq, QXDDrQB, L8_0] | refine rd0 rfl ?_))
   refine iteP_intro (fun h2 => ?_) fun h2 => ?_
   ·have hh1 : h < Z.length := by simpa using h2
    have hhl : h < v.lots.toNat := by omega
    have hhd : h < d.lots.toNat := by rw [hdl]; exact hhl
    have hw := wrapN hh1 (by omega)
    have hZh := hget2 h hh1
    have hwin := hin h hhl
    have e1 := turned_tr hsd hhd
    have e2 := causes_tr hsd hhd
    have e3 := whose_tr hsd hhd
    have l2 := causes_lenO d h
    have l3 := whose_lenO d h
    rw [e2] at l2
    rw [e3] at l3
    have hiw := in_whose hvd hhd hwin
    have hone := @how_one (truths d []) h
    have htwo := @how_two (truths d []) h
    obtain ⟨w, hwe⟩ : ∃ w, tnX v x h = w := ⟨_, rfl⟩
    rw [hwe] at hZh hwin hiw
    obtain ⟨how, hhow⟩ : ∃ how, howIn (truths d []) h = how := ⟨_, rfl⟩
    have hsp : w.hour ≠ -1 → inR w.hour (spanIn (truths d []) h).lo (spanIn (truths d []) h).hi = true := fun hne => by
     have hm := (hiw hne).2.2.2
     exact inR_iff.2 ((spanL_spec (List.ne_nil_of_mem hm)).2.2 _ hm)
    obtain ⟨A, hA⟩ : ∃ A, spanIn (truths d []) h = A := ⟨_, rfl⟩
    obtain ⟨C, hC⟩ : ∃ C, causesIn d (truths d []) h = C := ⟨_, rfl⟩
    rw [hC] at e2 e3 l2 l3 hiw
    obtain ⟨Q, hQ⟩ : ∃ Q, whoseIn d C = Q := ⟨_, rfl⟩
    rw [hQ] at e3 l3 hiw
    rw [hA, hhow] at e1
    rw [hA] at hsp
    rw [hhow] at hone htwo
    simp only at l2 l3
    (repeat (first | simp only [↓QA, QB, Nat.reduceLT, reduceIte, Nat.reduceEqDiff, Nat.reduceAdd, Nat.reduceLeDiff, Nat.reduceMul, Nat.reduceBEq, QXDDrQB] | refine rd0 rfl ?_))
    ((first | refine callK_d (pturned_ok d h hfd) rfl dd ?_ | refine callD_d (pturned_ok d h hfd) rfl dd ?_); (repeat (first | simp only [↓QA, QB, Nat.reduceLT, reduceIte, Nat.reduceEqDiff, Nat.reduceAdd, Nat.reduceLeDiff, Nat.reduceMul, Nat.reduceBEq, QXDDrQB, e1, encSNE] | refine rd0 rfl ?_)))
    ((first | refine callK_d (pcauses_ok d h hfd) rfl dd ?_ | refine callD_d (pcauses_ok d h hfd) rfl dd ?_); (repeat (first | simp only [↓QA, QB, Nat.reduceLT, reduceIte, Nat.reduceEqDiff, Nat.reduceAdd, Nat.reduceLeDiff, Nat.reduceMul, Nat.reduceBEq, QXDDrQB, e2, encLE] | refine rd0 rfl ?_)))
    ((first | refine callK_d (pwhose_ok d h hfd) rfl dd ?_ | refine callD_d (pwhose_ok d h hfd) rfl dd ?_); (repeat (first | simp only [↓QA, QB, Nat.reduceLT, reduceIte, Nat.reduceEqDiff, Nat.reduceAdd, Nat.reduceLeDiff, Nat.reduceMul, Nat.reduceBEq, QXDDrQB, e3, encLE, okz, hh1, hZh] | refine rd0 rfl ?_)))
    cases h3 : (w.hour == -1)
    ·have h3' : w.hour ≠ -1 := by simpa using h3
     obtain ⟨q1, q2, q3, q4⟩ := hiw h3'
     have hd0' : 0 ≤ w.door := q3.1
     have hd1 : w.door.toNat < d.doors.length := by omega
     have hdh : doorHour d w.door = d.doors[w.door.toNat].hour := by simp [doorHour, hd1]
     have k1 : C.contains w.door = true := by rw [List.contains_iff_mem]; exact q1
     have k2 : Q.contains (keeperAt d (doorHour d w.door)) = true := by rw [List.contains_iff_mem]; exact q2
     have k3 : (how == 2) = false := by
      rw [Bool.eq_false_iff]
      intro e
      have := (htwo.1 (by simpa using e)).2 w hwin
      exact h3' this
     have k4 := hsp h3'
     rw [hdh] at k2
     obtain ⟨K, hK⟩ : ∃ K, keeperAt d d.doors[w.door.toNat].hour = K := ⟨_, rfl⟩
     rw [hK] at k2
     (repeat (first | simp only [↓QA, QB, Nat.reduceLT, reduceIte, Nat.reduceEqDiff, Nat.reduceAdd, Nat.reduceLeDiff, Nat.reduceMul, Nat.reduceBEq, QXDDrQB, h3, hh1, hZh, V_idxI, hd0', hd1] | refine rd0 rfl ?_))
     ((first | refine callK_d (rkeeperAt_ok d d.doors[w.door.toNat].hour hfd) rfl dd ?_ | refine callD_d (rkeeperAt_ok d d.doors[w.door.toNat].hour hfd) rfl dd ?_); (repeat (first | simp only [↓QA, QB, Nat.reduceLT, reduceIte, Nat.reduceEqDiff, Nat.reduceAdd, Nat.reduceLeDiff, Nat.reduceMul, Nat.reduceBEq, QXDDrQB, hK, hh1, hZh, V_idxI, hd0', hd1, k3] | refine rd0 rfl ?_)))
     ((first | refine callK_d (inside_ok w.hour A) rfl dd ?_ | refine callD_d (inside_ok w.hour A) rfl dd ?_); (repeat (first | simp only [↓QA, QB, Nat.reduceLT, reduceIte, Nat.reduceEqDiff, Nat.reduceAdd, Nat.reduceLeDiff, Nat.reduceMul, Nat.reduceBEq, QXDDrQB, k4, hh1, hZh] | refine rd0 rfl ?_)))
     ((first | refine callK_d (has_ok C w.door (by omega)) rfl dd ?_ | refine callD_d (has_ok C w.door (by omega)) rfl dd ?_); (repeat (first | simp only [↓QA, QB, Nat.reduceLT, reduceIte, Nat.reduceEqDiff, Nat.reduceAdd, Nat.reduceLeDiff, Nat.reduceMul, Nat.reduceBEq, QXDDrQB, k1, hh1, hZh] | refine rd0 rfl ?_)))
     ((first | refine callK_d (has_ok Q K (by omega)) rfl dd ?_ | refine callD_d (has_ok Q K (by omega)) rfl dd ?_); (repeat (first | simp only [↓QA, QB, Nat.reduceLT, reduceIte, Nat.reduceEqDiff, Nat.reduceAdd, Nat.reduceLeDiff, Nat.reduceMul, Nat.reduceBEq, QXDDrQB, k2, hh1, hZh, hw] | refine rd0 rfl ?_)))
     refine ⟨h + 1, by omega, by omega, ?_⟩
     try simp only [TrimX, QE, Nat.reduceLT, reduceIte, Nat.reduceEqDiff, Nat.reduceAdd, Nat.reduceLeDiff, Nat.reduceMul, Nat.reduceBEq, QXDDrQB, hw]
     try simp [okBlk]
    ·have h3' : w.hour = -1 := by simpa using h3
     have k3 : (how == 1) = false := by
      rw [Bool.eq_false_iff]
      intro e
      exact hone.1 (by simpa using e) w hwin h3'
     (repeat (first | simp only [↓QA, QB, Nat.reduceLT, reduceIte, Nat.reduceEqDiff, Nat.reduceAdd, Nat.reduceLeDiff, Nat.reduceMul, Nat.reduceBEq, QXDDrQB, h3, k3, hw] | refine rd0 rfl ?_))
     refine ⟨h + 1, by omega, by omega, ?_⟩
     try simp only [TrimX, QE, Nat.reduceLT, reduceIte, Nat.reduceEqDiff, Nat.reduceAdd, Nat.reduceLeDiff, Nat.reduceMul, Nat.reduceBEq, QXDDrQB, hw]
     try simp [okBlk]
   ·(repeat (first | simp only [↓QA, QB, Nat.reduceLT, reduceIte, Nat.reduceEqDiff, Nat.reduceAdd, Nat.reduceLeDiff, Nat.reduceMul, Nat.reduceBEq, QXDDrQB] | refine rd0 rfl ?_))
    refine callK_d awake_ok rfl datas_nil ?_
    (repeat (first | simp only [↓QA, QB, Nat.reduceLT, reduceIte, Nat.reduceEqDiff, Nat.reduceAdd, Nat.reduceLeDiff, Nat.reduceMul, Nat.reduceBEq, QXDDrQB] | refine rd0 rfl ?_))
 ·have hd0 : decide ((check v).2.2 = 0) = false := by simpa using hc
  have e1 : wrongOf v = ([], (check v).2.2) := if_neg hc
  have g : ((check v).2.2 == 0) = false := by simpa using hc
  (repeat (first | simp only [↓QA, QB, Nat.reduceLT, reduceIte, Nat.reduceEqDiff, Nat.reduceAdd, Nat.reduceLeDiff, Nat.reduceMul, Nat.reduceBEq, QXDDrQB, a8, u8s] | refine rd0 rfl ?_))
  ((first | refine callK_d (valid_ok v hf) rfl dd ?_ | refine callD_d (valid_ok v hf) rfl dd ?_); (repeat (first | simp only [↓QA, QB, Nat.reduceLT, reduceIte, Nat.reduceEqDiff, Nat.reduceAdd, Nat.reduceLeDiff, Nat.reduceMul, Nat.reduceBEq, QXDDrQB, hd0] | refine rd0 rfl ?_)))
  ((first | refine callK_d (pwrong_ok v hf) rfl dd ?_ | refine callD_d (pwrong_ok v hf) rfl dd ?_); (repeat (first | simp only [↓QA, QB, Nat.reduceLT, reduceIte, Nat.reduceEqDiff, Nat.reduceAdd, Nat.reduceLeDiff, Nat.reduceMul, Nat.reduceBEq, QXDDrQB, encLE, e1, g] | refine rd0 rfl ?_)))
  refine callK_d awake_ok rfl datas_nil ?_
  (repeat (first | simp only [↓QA, QB, Nat.reduceLT, reduceIte, Nat.reduceEqDiff, Nat.reduceAdd, Nat.reduceLeDiff, Nat.reduceMul, Nat.reduceBEq, QXDDrQB] | refine rd0 rfl ?_))
end Go.Am.Room
