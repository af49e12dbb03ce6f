/- A part of the proof of DoorNew: an abstract machine, or what functions come to on it. -/
import Derived.Test.YtefifnlhfmfnlaaAllQ6
import Derived.ChangeArms
import Derived.SizedLaws
import Derived.ChangeBears
import Derived.ChangeShapes
import Derived.WideShapes
import Derived.ProofKit
import Derived.OpenShut
import Derived.Lib.Strings
set_option linter.unusedVariables false
set_option linter.unusedSimpArgs false
set_option linter.defProp false
namespace Go.Am
open Go.ChangeShapes Go.WideShapes Go.ChangeAt Go.RowKit
variable {P : Program} {hh : String → Bool} {H : Type} {enc : TypeId × Value → H} {w : World} {sp : Nat → Bool} {held : Bool}
def mkV (P : Program) (t : TypeId) (cs : List AV) : AV := match P.underlying t with
 | some (.struct _) => .agg cs
 | some (.array _ _) => .agg cs
 | _ => cs.headD .undef
def Typ (P : Program) : Nat → TypeId → List AV → Prop
 | 0, _, _ => False
 | n + 1, t, cs =>
  match P.underlying t with
  | some .bool => ∃ b, cs = [.bool b]
  | some (.int k) => ∃ m, cs = [.int k m] ∧ (Lit.int k m).wf = true
  | some .string => ∃ s : ByteArray, cs = [.str s] ∧ s.size ≤ maxLen
  | some (.slice e) => ∃ ys : List (List AV), cs = [.lit (ys.map (mkV P e)) false none] ∧ (ys.length ≤ maxLen ∧ ys.length * P.bytesOf e ≤ reachBytes) ∧ ∀ y ∈ ys, Typ P n e y
  | some (.struct fs) => ∃ parts : List (List AV), cs = parts.flatten ∧ parts.length = fs.toList.length ∧ ∀ (i : Nat) f p, fs.toList[i]? = some f → parts[i]? = some p → Typ P n f.type p
  | some (.array k e) => ∃ parts : List (List AV), cs = parts.flatten ∧ parts.length = k ∧ ∀ p ∈ parts, Typ P n e p
  | _ => False
def okTy (P : Program) : Nat → TypeId → Bool
 | 0, _ => false
 | n + 1, t =>
  match P.underlying t with
  | some .bool | some (.int _) | some .string => true
  | some (.slice e) => decide (0 < P.cellsOf e) && okTy P n e
  | some (.struct fs) => fs.toList.all fun f => okTy P n f.type
  | some (.array _ e) => okTy P n e
  | _ => false
theorem mkV_cells {n : Nat} {t : TypeId} {cs : List AV} (h : Typ P n t cs) : (mkV P t cs).cells = cs := by
 cases n with
 | zero => exact h.elim
 | succ n =>
  simp only [Typ] at h
  unfold mkV
  split at h
  ·rename_i hu; rw [hu]; obtain ⟨b, rfl⟩ := h; rfl
  ·rename_i hu; rw [hu]; obtain ⟨b, rfl, _⟩ := h; rfl
  ·rename_i hu; rw [hu]; obtain ⟨b, rfl, _⟩ := h; rfl
  ·rename_i hu; rw [hu]; obtain ⟨b, rfl, _⟩ := h; rfl
  ·rename_i hu; rw [hu]; rfl
  ·rename_i hu; rw [hu]; rfl
  ·exact h.elim
theorem addr_add {a : Addr} {v : Value} (h : w.cell? a = some v) (n : Nat) : a.add n = ⟨a.block, a.off + n, none⟩ := by
 have hs : a.spot = none := by
  unfold World.cell? at h
  split at h
  ·split at h
   ·cases h
   ·rename_i hs; simpa using hs
  ·cases h
 obtain ⟨b, o, s⟩ := a
 simp only at hs
 subst hs
 unfold Addr.add
 split
 ·rename_i h0; simp [h0]
 ·rfl
theorem cell_lt {b o : Nat} {v : Value} (h : w.cell? ⟨b, o, none⟩ = some v) : ∃ L, limW w b = some L ∧ o < L := by
 unfold World.cell? at h
 split at h
 ·rename_i c T fr hb
  refine ⟨c.size, by simp only at hb; simp [limW, hb], ?_⟩
  simp at h
  exact (Array.getElem?_eq_some_iff.1 h).1
 ·cases h
theorem fields {G : Gh} {n : Nat} {cs : List Value} : ∀ (fl : List Field) (o : Nat), (∀ (j : Nat) f, fl[j]? = some f → f.offset = o + ((fl.take j).map fun f => P.cellsOf f.type).sum) → cs.length = o + (fl.map fun f => P.cellsOf f.type).sum →
  (∀ f ∈ fl, ∃ az, Typ P n f.type az ∧ RelL G w az ((cs.drop f.offset).take (P.cellsOf f.type))) →
  ∃ parts : List (List AV), parts.length = fl.length ∧ (∀ (i : Nat) f p, fl[i]? = some f → parts[i]? = some p → Typ P n f.type p) ∧ RelL G w parts.flatten (cs.drop o)
 | [], o, _, hl, _ => ⟨[], rfl, by simp, by
   have : cs.drop o = [] := List.drop_of_length_le (by simp at hl; omega)
   rw [this]; exact .nil⟩
 | f :: fl, o, ho, hl, ht => by
  have h0 := ho 0 f rfl
  simp only [List.take_zero, List.map_nil, List.sum_nil, Nat.add_zero] at h0
  simp only [List.map_cons, List.sum_cons] at hl
  obtain ⟨az, h1, h2⟩ := ht f (by simp)
  obtain ⟨parts, q1, q2, q3⟩ := fields fl (o + P.cellsOf f.type) (fun j g hj => by
   have := ho (j + 1) g (by simpa using hj)
   simp only [List.take_succ_cons, List.map_cons, List.sum_cons] at this
   omega) (by omega) fun g hg => ht g (List.mem_cons_of_mem _ hg)
  refine ⟨az :: parts, by simp [q1], fun i g p e1 e2 => ?_, ?_⟩
  ·cases i with
   | zero => simp at e1 e2; subst e1; subst e2; exact h1
   | succ i => exact q2 i g p (by simpa using e1) (by simpa using e2)
  ·rw [List.flatten_cons]
   have e : cs.drop o = (cs.drop o).take (P.cellsOf f.type) ++ cs.drop (o + P.cellsOf f.type) := by
    rw [← List.drop_drop, List.take_append_drop]
   rw [e]
   rw [h0] at h2
   exact h2.app q3
theorem items {G : Gh} {m : Nat} {e : TypeId} {cs : List Value} : ∀ (n o : Nat), cs.length = o + n * P.cellsOf e →
  (∀ i, i < n → ∃ az, Typ P m e az ∧ RelL G w az ((cs.drop (o + i * P.cellsOf e)).take (P.cellsOf e))) → ∃ parts : List (List AV), parts.length = n ∧ (∀ p ∈ parts, Typ P m e p) ∧ RelL G w parts.flatten (cs.drop o)
 | 0, o, hl, _ => ⟨[], rfl, by simp, by
   have : cs.drop o = [] := List.drop_of_length_le (by simp at hl; omega)
   rw [this]; exact .nil⟩
 | n + 1, o, hl, ht => by
  obtain ⟨az, h1, h2⟩ := ht 0 (by omega)
  rw [Nat.zero_mul, Nat.add_zero] at h2
  rw [Nat.add_mul, Nat.one_mul] at hl
  obtain ⟨parts, q1, q2, q3⟩ := items (e := e) (cs := cs) (m := m) n (o + P.cellsOf e) (by omega) fun i hi => by
   obtain ⟨az, k1, k2⟩ := ht (i + 1) (by omega)
   rw [Nat.add_mul, Nat.one_mul, Nat.add_comm (i * _), ← Nat.add_assoc] at k2
   exact ⟨az, k1, k2⟩
  refine ⟨az :: parts, by simp [q1], fun p hp => ?_, ?_⟩
  ·rcases List.mem_cons.1 hp with rfl | hp
   ·exact h1
   ·exact q2 p hp
  ·rw [List.flatten_cons]
   have e1 : cs.drop o = (cs.drop o).take (P.cellsOf e) ++ cs.drop (o + P.cellsOf e) := by
    rw [← List.drop_drop, List.take_append_drop]
   rw [e1]
   exact h2.app q3
theorem choose_list {α : Type} {Q : Nat → α → Prop} : ∀ n, (∀ i, i < n → ∃ x, Q i x) → ∃ l : List α, l.length = n ∧ ∀ (i : Nat) x, l[i]? = some x → Q i x
 | 0, _ => ⟨[], rfl, by simp⟩
 | n + 1, h => by
  obtain ⟨l, h1, h2⟩ := choose_list n fun i hi => h i (by omega)
  obtain ⟨x, hx⟩ := h n (by omega)
  refine ⟨l ++ [x], by simp [h1], fun i y e => ?_⟩
  by_cases hi : i < l.length
  ·rw [List.getElem?_append_left hi] at e; exact h2 i y e
  ·rw [List.getElem?_append_right (by omega)] at e
   have : i - l.length = 0 := by
    by_cases h0 : i - l.length = 0
    ·exact h0
    ·rw [List.getElem?_eq_none (by simp; omega)] at e; cases e
   rw [this] at e
   simp at e
   subst e
   rw [show i = n by omega]; exact hx
theorem typ_of_trod (hl : laidOutB P = true) : ∀ (n m : Nat) (t : TypeId) (cs : List Value) (x : DataW H × List MemPlace), t < P.types.size → okTy P n t = true → DataW.trod enc P w 0 sp held m t cs = some x → (∀ k ∈ x.1.weights P t, k ≤ reachBytes) →
  ∃ az, Typ P n t az ∧ RelL (argG w) w az cs
 | 0, m, t, cs, x, _, ho, _, _ => by simp [okTy] at ho
 | n + 1, m, t, cs, x, ht, ho, h, hwt => by
  simp only [okTy] at ho
  split at ho
  ·rename_i hu
   obtain ⟨b, rfl, _⟩ := DataW.trod_bool hu h
   exact ⟨[.bool b], by simp only [Typ, hu]; exact ⟨b, rfl⟩, .one (.bool b)⟩
  ·rename_i k hu
   obtain ⟨b, rfl, _, hw⟩ := DataW.trod_int hu h
   exact ⟨[.int k b], by simp only [Typ, hu]; exact ⟨b, rfl, hw⟩, .one (.int k b)⟩
  ·rename_i hu
   obtain ⟨s, rfl, _, hs⟩ := DataW.trod_string hu h
   exact ⟨[.str s], by simp only [Typ, hu]; exact ⟨s, rfl, hs⟩, .one (.str s)⟩
  ·rename_i e hu
   simp only [Bool.and_eq_true, decide_eq_true_eq] at ho
   rcases DataW.trod_slice hu h with ⟨rfl, _⟩ | ⟨a, len, cap, elems, rest, m', _, rfl, hxe, _, hlc, hcm, hel, hei, _, _⟩
   ·refine ⟨[.lit [] false none], by simp only [Typ, hu]; exact ⟨[], rfl, ⟨by simp, by simp⟩, by simp⟩, .one (.nil ⟨Nat.le_refl _, (fun e => by cases e), (fun t e => by cases e)⟩ fun _ => rfl)⟩
   ·
    have hws : ∀ k ∈ x.1.weights P t, k ≤ reachBytes := hwt
    rw [hxe] at hws
    simp only [DataW.weights, hu, List.mem_cons, List.mem_append, List.length_map] at hws
    have hwl : len * P.bytesOf e ≤ reachBytes := by
     have h1 := hws _ (.inl rfl)
     rw [hel] at h1
     exact Nat.le_trans (Nat.mul_le_mul_right _ (Nat.le_add_right _ _)) h1
    have hwe : ∀ (d : DataW H), d ∈ elems.map (·.1) → ∀ k ∈ d.weights P e, k ≤ reachBytes := by
     have key : ∀ (l : List (DataW H)) (d : DataW H), d ∈ l → ∀ k ∈ d.weights P e, k ∈ DataW.weightsAll P e l := by
      intro l
      induction l with
      | nil => intro d hd; cases hd
      | cons a l ih =>
       intro d hd k hk
       simp only [DataW.weightsAll, List.mem_append]
       rcases List.mem_cons.1 hd with rfl | hd
       ·exact .inl hk
       ·exact .inr (ih d hd k hk)
     exact fun d hd k hk => hws k (.inr (.inl (key _ d hd k hk)))
    have hel2 : ∀ i, i < len → ∃ y, Typ P n e y ∧ ∃ vs, w.cells? 0 (a.add (i * P.cellsOf e)) (P.cellsOf e) = some vs ∧ RelL (argG w) w y vs := by
     intro i hi
     have h1 := hei i hi
     rw [List.getElem?_eq_getElem (by omega), Option.bind_eq_some_iff] at h1
     obtain ⟨vs, q1, q2⟩ := h1
     obtain ⟨y, q3, q4⟩ := typ_of_trod hl n m' e vs _ (kid_slice hl ht hu) ho.2 q2 (hwe _ (List.mem_map.2 ⟨_, List.getElem_mem (by omega), rfl⟩))
     exact ⟨y, q3, vs, q1, q4⟩
    obtain ⟨ys, hyl, hys⟩ := choose_list len hel2
    refine ⟨[.lit (ys.map (mkV P e)) false none], by
     simp only [Typ, hu]
     refine ⟨ys, rfl, ⟨by omega, by rw [hyl]; exact hwl⟩, fun y hy => ?_⟩
     obtain ⟨i, hi⟩ := List.getElem?_of_mem hy
     exact (hys i y hi).1, .one ?_⟩
    by_cases h0 : len = 0
    ·subst h0
     obtain rfl : ys = [] := List.eq_nil_of_length_eq_zero hyl
     exact .nil ⟨Nat.zero_le _, (fun e => by cases e), (fun t e => by cases e)⟩ fun e => by cases e
    ·
     have hcell : ∀ i j, i < len → j < P.cellsOf e → ∃ v, w.cell? ((a.add (i * P.cellsOf e)).add j) = some v := by
      intro i j hi hj
      obtain ⟨y, _, vs, q1, _⟩ := hel2 i hi
      simp only [World.cells?, Nat.zero_le, if_true] at q1
      have hlen := mapM_some_length q1
      have := mapM_some_get q1 j j (by simp [hj])
      rw [List.length_range] at hlen
      rw [List.getElem?_eq_getElem (by omega)] at this
      exact ⟨_, this⟩
     obtain ⟨v0, hv0⟩ := hcell 0 0 (by omega) ho.1
     rw [Nat.zero_mul] at hv0
     have ha0 : a.add 0 = a := by simp [Addr.add]
     rw [ha0, ha0] at hv0
     have hplain : ∀ i, a.add i = ⟨a.block, a.off + i, none⟩ := addr_add hv0
     have hae : a = ⟨a.block, a.off, none⟩ := by have := hplain 0; rw [ha0] at this; simpa using this
     have hplain2 : ∀ i j, (a.add i).add j = ⟨a.block, a.off + (i + j), none⟩ := by
      intro i j
      rw [hplain]
      unfold Addr.add
      split
      ·rename_i h; simp [h]
      ·simp [Nat.add_assoc]
     have hcell2 : ∀ i j, i < len → j < P.cellsOf e → ∃ v, w.cell? ⟨a.block, a.off + (i * P.cellsOf e + j), none⟩ = some v := by
      intro i j hi hj
      have := hcell i j hi hj
      rw [hplain2] at this
      exact this
     rw [hae, show len = (ys.map (mkV P e)).length by simp [hyl]]
     have hsz : ∀ (i : Nat) (x : AV), (ys.map (mkV P e))[i]? = some x → ∃ y, ys[i]? = some y ∧ x = mkV P e y ∧ x.cells = y := by
      intro i x hx
      rw [List.getElem?_map] at hx
      cases hy : ys[i]? with
      | none => rw [hy] at hx; cases hx
      | some y =>
       rw [hy] at hx
       simp at hx
       exact ⟨y, rfl, hx.symm, by rw [← hx, mkV_cells (hys i y hy).1]⟩
     have hvl : ∀ (i : Nat) y, ys[i]? = some y → y.length = P.cellsOf e := by
      intro i y hy
      obtain ⟨_, vs, q1, q2⟩ := hys i y hy
      rw [q2.1]
      simp only [World.cells?, Nat.zero_le, if_true] at q1
      rw [mapM_some_length q1, List.length_range]
     refine .lit (sz := P.cellsOf e) ⟨by simp; omega, (fun e => by cases e), (fun t e => by cases e)⟩ ⟨?_, (fun t e => by cases e), fun i x hx => ?_, fun k hk => ?_⟩ fun i x j c u hx hc hu2 => ?_
     ·obtain ⟨v, hv⟩ := hcell2 (len - 1) (P.cellsOf e - 1) (by omega) (by omega)
      obtain ⟨L, q1, q2⟩ := cell_lt hv
      refine ⟨L, q1, ?_⟩
      rw [List.length_map, hyl]
      have : (len - 1) * P.cellsOf e + P.cellsOf e = len * P.cellsOf e := by
       rw [← Nat.succ_mul]; congr 1; omega
      omega
     ·obtain ⟨y, q1, q2, q3⟩ := hsz i x hx
      rw [q3]; exact hvl i y q1
     ·rw [List.length_map, hyl] at hk
      have hd : k / P.cellsOf e < len := Nat.div_lt_of_lt_mul (by rw [Nat.mul_comm]; exact hk)
      have hm : k % P.cellsOf e < P.cellsOf e := Nat.mod_lt _ ho.1
      obtain ⟨v, hv⟩ := hcell2 _ _ hd hm
      have : k / P.cellsOf e * P.cellsOf e + k % P.cellsOf e = k := by rw [Nat.mul_comm]; exact Nat.div_add_mod _ _
      rw [this] at hv
      rw [hv]; rfl
     ·obtain ⟨y, q1, q2, q3⟩ := hsz i x hx
      rw [q3] at hc
      obtain ⟨_, vs, p1, p2⟩ := hys i y q1
      have hjl : j < P.cellsOf e := by
       rw [← hvl i y q1]
       exact (List.getElem?_eq_some_iff.1 hc).1
      simp only [World.cells?, Nat.zero_le, if_true] at p1
      have hg := mapM_some_get p1 j j (by simp [hjl])
      rw [hplain2] at hg
      rw [hu2] at hg
      exact p2.2 j c u hc hg.symm
  ·rename_i fs hu
   rw [List.all_eq_true] at ho
   obtain ⟨xs, m', _, hxe, hcl, hxl, hf⟩ := DataW.trod_struct hu h
   obtain ⟨k1, k2, k3⟩ := kid_struct hl ht hu
   obtain ⟨parts, q1, q2, q3⟩ := fields (P := P) (G := argG w) (w := w) (n := n) (cs := cs) fs.toList 0 (fun j f hj => by rw [k3 j f hj]; omega) (by rw [hcl, k2]; omega) fun f hfm => by
    obtain ⟨i, hi⟩ := List.getElem?_of_mem hfm
    have h1 := hf i f (by simpa using hi)
    have hil : i < xs.length := by rw [hxl]; have := (List.getElem?_eq_some_iff.1 hi).1; simpa using this
    rw [List.getElem?_eq_getElem hil] at h1
    have hd : (xs.map (·.1))[i]? = some xs[i].1 := by rw [List.getElem?_map, List.getElem?_eq_getElem hil]; rfl
    have hty : (fs.toList.map (·.type))[i]? = some f.type := by rw [List.getElem?_map, hi]; rfl
    refine typ_of_trod hl n m' f.type _ _ (k1 f hfm) (ho f hfm) h1 fun k hk => hwt k ?_
    rw [hxe]
    simp only [DataW.weights, hu]
    exact DataW.weights_mem_each hty hd k hk
   rw [List.drop_zero] at q3
   exact ⟨parts.flatten, by simp only [Typ, hu]; exact ⟨parts, rfl, q1, q2⟩, q3⟩
  ·rename_i k e hu
   obtain ⟨xs, m', _, hxe, hcl, hxl, hf⟩ := DataW.trod_array hu h
   obtain ⟨k1, k2⟩ := kid_array hl ht hu
   have hwe : ∀ (d : DataW H), d ∈ xs.map (·.1) → ∀ q ∈ d.weights P e, q ≤ reachBytes := by
    have key : ∀ (l : List (DataW H)) (d : DataW H), d ∈ l → ∀ q ∈ d.weights P e, q ∈ DataW.weightsAll P e l := by
     intro l
     induction l with
     | nil => intro d hd; cases hd
     | cons a l ih =>
      intro d hd q hq
      simp only [DataW.weightsAll, List.mem_append]
      rcases List.mem_cons.1 hd with rfl | hd
      ·exact .inl hq
      ·exact .inr (ih d hd q hq)
    intro d hd q hq
    refine hwt q ?_
    rw [hxe]
    simp only [DataW.weights, hu]
    exact key _ d hd q hq
   obtain ⟨parts, q1, q2, q3⟩ := items (P := P) (G := argG w) (w := w) (m := n) (e := e) (cs := cs) k 0 (by rw [hcl, k2]; omega) fun i hi => by
    have h1 := hf i hi
    have hil : i < xs.length := by omega
    rw [List.getElem?_eq_getElem hil] at h1
    rw [Nat.zero_add]
    exact typ_of_trod hl n m' e _ _ k1 ho h1 (hwe _ (List.mem_map.2 ⟨_, List.getElem_mem hil, rfl⟩))
   rw [List.drop_zero] at q3
   exact ⟨parts.flatten, by simp only [Typ, hu]; exact ⟨parts, rfl, q1, q2⟩, q3⟩
  ·cases ho
theorem arg_of_trod (hl : laidOutB P = true) (n : Nat) {t : TypeId} {v : Value} {d : DataW H} {ps : List MemPlace} (ht : t < P.types.size) (ho : okTy P n t = true) (hv : Value.okWide P w .any 0 t v) (h : DataW.Trod enc P w 0 sp held t v d ps) (hwt : ∀ k ∈ d.weights P t, k ≤ reachBytes) :
  ∃ az, Typ P n t az ∧ RelV (argG w) w (mkV P t az) v := by
 obtain ⟨m, hm⟩ := h
 obtain ⟨az, h1, h2⟩ := typ_of_trod hl n m t _ _ ht ho hm hwt
 refine ⟨az, h1, ?_⟩
 have hone : ∀ {a : AV}, az = [a] → (∀ cs, v ≠ .agg cs) → RelV (argG w) w a v := by
  rintro a rfl hx
  have hc : v.cells.toList = [v] := by cases v <;> first | rfl | exact absurd rfl (hx _)
  rw [hc] at h2
  exact h2.2 0 a v rfl rfl
 cases n with
 | zero => exact h1.elim
 | succ n =>
  unfold mkV
  simp only [Typ] at h1
  split at h1 <;> rename_i hu
  ·obtain ⟨b, rfl⟩ := h1
   rw [hu]
   obtain ⟨c, hc⟩ := okWide_bool hu hv
   exact hone rfl (by rw [hc]; intro cs e; cases e)
  ·obtain ⟨b, rfl, _⟩ := h1
   rw [hu]
   obtain ⟨c, hc⟩ := okWide_int hu hv
   exact hone rfl (by rw [hc]; intro cs e; cases e)
  ·obtain ⟨b, rfl, _⟩ := h1
   rw [hu]
   obtain ⟨c, hc⟩ := okWide_string hu hv
   exact hone rfl (by rw [hc]; intro cs e; cases e)
  ·obtain ⟨b, rfl, _⟩ := h1
   rw [hu]
   obtain ⟨_, _, _, hc⟩ := okWide_slice hu hv
   exact hone rfl (by rw [hc]; intro cs e; cases e)
  ·rw [hu]
   unfold Value.okWide at hv
   rw [hu] at hv
   obtain ⟨cs, rfl, _, _⟩ := hv
   refine .agg ?_ fun i a u e1 e2 => ?_
   ·have := h2.1; simpa [Value.cells] using this.symm
   ·exact h2.2 i a u e1 (by simpa [Value.cells] using e2)
  ·rw [hu]
   unfold Value.okWide at hv
   rw [hu] at hv
   obtain ⟨cs, rfl, _, _⟩ := hv
   refine .agg ?_ fun i a u e1 e2 => ?_
   ·have := h2.1; simpa [Value.cells] using this.symm
   ·exact h2.2 i a u e1 (by simpa [Value.cells] using e2)
  ·exact h1.elim
theorem relArgs_cons {G : Gh} {a : AV} {v : Value} {az : List AV} {vs : List Value} (h : RelV G w a v) (hs : RelArgs G w az vs.toArray) : RelArgs G w (a :: az) (v :: vs).toArray := by
 refine ⟨by have := hs.1; simp at this; simp [this], fun i x u e1 e2 => ?_⟩
 cases i with
 | zero => simp at e1 e2; subst e1; subst e2; exact h
 | succ i => exact hs.2 i x u (by simpa using e1) (by simpa using e2)
def Parts (P : Program) (n : Nat) : List TypeId → List AV → Prop
 | [], cs => cs = []
 | t :: ts, cs => ∃ a b, cs = a ++ b ∧ Typ P n t a ∧ Parts P n ts b
theorem parts_of {n : Nat} : ∀ (fl : List Field) (parts : List (List AV)), parts.length = fl.length → (∀ (i : Nat) f p, fl[i]? = some f → parts[i]? = some p → Typ P n f.type p) → Parts P n (fl.map Field.type) parts.flatten
 | [], parts, hl, _ => by rw [List.length_eq_zero_iff.1 hl]; rfl
 | f :: fl, [], hl, _ => by simp at hl
 | f :: fl, p :: parts, hl, h => ⟨p, parts.flatten, rfl, h 0 f p rfl rfl, parts_of fl parts (by simpa using hl) fun i g q e1 e2 => h (i + 1) g q (by simpa using e1) (by simpa using e2)⟩
theorem typ_struct {n : Nat} {t : TypeId} {fs : Array Field} {cs : List AV} (hu : P.underlying t = some (.struct fs)) (h : Typ P (n + 1) t cs) : Parts P n (fs.toList.map Field.type) cs := by
 simp only [Typ, hu] at h
 obtain ⟨parts, rfl, h1, h2⟩ := h
 exact parts_of fs.toList parts h1 h2
theorem typ_int {n : Nat} {t : TypeId} {k : IntKind} {cs : List AV} (hu : P.underlying t = some (.int k)) (h : Typ P (n + 1) t cs) : ∃ m, cs = [.int k m] ∧ (Lit.int k m).wf = true := by
 simp only [Typ, hu] at h; exact h
theorem typ_bool {n : Nat} {t : TypeId} {cs : List AV} (hu : P.underlying t = some .bool) (h : Typ P (n + 1) t cs) : ∃ b, cs = [.bool b] := by
 simp only [Typ, hu] at h; exact h
theorem typ_str {n : Nat} {t : TypeId} {cs : List AV} (hu : P.underlying t = some .string) (h : Typ P (n + 1) t cs) : ∃ s : ByteArray, cs = [.str s] ∧ s.size ≤ maxLen := by
 simp only [Typ, hu] at h; exact h
theorem typ_slice {n : Nat} {t e : TypeId} {cs : List AV} {α : Type} {f : α → AV} {Q : α → Prop} (hu : P.underlying t = some (.slice e)) (h : Typ P (n + 1) t cs) (hq : ∀ y, Typ P n e y → ∃ x, mkV P e y = f x ∧ Q x) : ∃ l : List α, cs = [.lit (l.map f) false none] ∧ (l.length < 9223372036854775808 ∧ l.length * P.bytesOf e ≤ reachBytes) ∧ ∀ x ∈ l, Q x := by
 simp only [Typ, hu] at h
 obtain ⟨ys, rfl, ⟨h1, h1b⟩, h2⟩ := h
 have key : ∀ ys : List (List AV), (∀ y ∈ ys, Typ P n e y) → ∃ l : List α, ys.map (mkV P e) = l.map f ∧ l.length = ys.length ∧ ∀ x ∈ l, Q x := by
  intro ys
  induction ys with
  | nil => intro _; exact ⟨[], rfl, rfl, by simp⟩
  | cons y ys ih =>
   intro hy
   obtain ⟨x, q1, q2⟩ := hq y (hy y (by simp))
   obtain ⟨l, q3, q4, q5⟩ := ih fun z hz => hy z (List.mem_cons_of_mem _ hz)
   exact ⟨x :: l, by simp [q1, q3], by simp [q4], fun z hz => by
    rcases List.mem_cons.1 hz with rfl | hz
    ·exact q2
    ·exact q5 z hz⟩
 obtain ⟨l, q1, q2, q3⟩ := key ys h2
 exact ⟨l, by rw [q1], ⟨by simp only [maxLen] at h1; omega, by rw [q2]; exact h1b⟩, q3⟩
theorem mkV_struct {t : TypeId} {fs : Array Field} {cs : List AV} (hu : P.underlying t = some (.struct fs)) : mkV P t cs = .agg cs := by simp [mkV, hu]
theorem mkV_one {t : TypeId} {a : AV} (hu : ∀ fs, P.underlying t ≠ some (.struct fs)) (hu2 : ∀ k e, P.underlying t ≠ some (.array k e)) : mkV P t [a] = a := by
 unfold mkV
 split
 ·rename_i fs h; exact absurd h (hu fs)
 ·rename_i k e h; exact absurd h (hu2 k e)
 ·rfl
theorem wf_u8 {m : Int} (h : (Lit.int .u8 m).wf = true) : 0 ≤ m ∧ m < 256 := by
 simp [Lit.wf, IntKind.min, IntKind.max, IntKind.signed, IntKind.bits] at h
 omega
end Go.Am
namespace Go.Am
variable {T : FuncId → Option AFunc}
theorem V_rem (k : IntKind) (a b : Int) (h : b ≠ 0) : binAV .rem (.int k a) (.int k b) = some (.int k (a.tmod b)) := by simp [binAV, binInt, h]
theorem app_full {sz b : Nat} {σ : St} {xs ys : List AV} {tk t : Option Nat} {f : Bool} (h : AppOk sz b xs ys) (h0 : ys.length ≠ 0) :
  appendAV sz b σ (.lit xs true tk) (.lit ys f t) = some (.lit (xs ++ ys) false (some σ.length), σ ++ [.tok sz (xs.length + ys.length) true]) := by
 obtain ⟨h1, h2, h3, h4⟩ := h
 simp [appendAV, view, sized, h0, h1, h2, h3, h4]
theorem app_nil {sz b : Nat} {σ : St} {xs : List AV} {tk t : Option Nat} {f f' : Bool} : appendAV sz b σ (.lit xs f' tk) (.lit [] f t) = some (.lit xs f' tk, σ) := by
 simp [appendAV, view]
theorem call_fnS {f : FuncId} {args args0 : List AV} {v : AV} {σ : St} (h : Pure T f args0 v) (ha : snapMs σ 0 20 args = some args0) (hv : Scal v) : Run T (.call f args σ) fun o => o.v = v ∧ o.σ = σ := by
 unfold snapMs at ha
 cases hs : snaps σ 0 20 args with
 | none => rw [hs] at ha; cases ha
 | some as1 =>
  rw [hs] at ha
  simp at ha
  exact .frameS hs (.inr ha.symm) (h []) fun o ho => ⟨ho.2, by rw [ho.1]; exact hv, ho.1, rfl⟩
theorem callK_s {f : FuncId} {first cap args args0 : List AV} {v : AV} {σ : St} {K : AV → St → Prop} (h : Pure T f args0 v) (ha : snapMs σ 0 20 (first ++ args ++ cap) = some args0) (hv : Scal v) (k : K v σ) : cK (K := ⟨K⟩) T (.func f first cap) args σ :=
 .callf (.mono (call_fnS h ha hv) fun o ho => by rw [ho.1, ho.2]; exact k)
theorem callD_s {f : FuncId} {first cap args args0 : List AV} {v : AV} {σ : St} {K : AV → St → Prop} (h : Pure T f args0 v) (ha : snapMs σ 0 20 (first ++ args ++ cap) = some args0) (hv : Scal v) (k : K v σ) : cD (K := ⟨K⟩) T (.func f first cap) args σ :=
 ⟨v, σ, .callf (call_fnS h ha hv), k⟩
end Go.Am
namespace Go.Am
variable {T : FuncId → Option AFunc}
def intss (l : List (List Int)) : AV := .lit (l.map ints) false none
theorem data_intss (l : List (List Int)) : Data (intss l) := data_list data_ints l
end Go.Am
namespace Go.Am
variable {T : FuncId → Option AFunc}
theorem pure_run {f : FuncId} {args : List AV} {v : AV} {af : AFunc} (hf : T f = some af) (hn : args.length ≤ af.ntmps) (hk : Datas args) (h : Run T (.code af.body (argsEnv 0 args) []) fun o => RetK af.results v o.j o.env o.σ) : Pure T f args v := by
 intro σ
 refine .frame hk.1 (.inl rfl) (R := fun o => o.v = v ∧ o.σ = []) (.call hf hn h fun o ho => ?_) fun o ho => ⟨ho.2, ho.1, rfl⟩
 obtain ⟨h1, v0, h2, h3⟩ := ho
 refine ⟨h1, v0, h2, ?_⟩
 unfold snapM at h3
 cases hs : snap o.σ 0 20 v0 with
 | none => rw [hs] at h3; cases h3
 | some v1 =>
  rw [hs] at h3
  simp at h3
  exact .inr ⟨20, v1, v, hs, .inr h3.symm, fun i hi => absurd hi (by simp), by simp, rfl, by simp⟩
theorem seq_run {a b : ACode} {e : Env} {σ : St} {Q : Out → Prop} (R : Env → St → Prop) (h : wp T a e σ fun j e' σ' => j = none ∧ R e' σ') (h2 : ∀ e' σ', R e' σ' → Run T (.code b e' σ') Q) : Run T (.code (.seq a b) e σ) Q :=
 .seq (run_wp h fun o ho => ho) (fun o ho _ => h2 _ _ ho.2) fun o ho hj => absurd ho.1 hj
theorem code_run {a : ACode} {e : Env} {σ : St} {K : KJ} (h : wp T a e σ K) : Run T (.code a e σ) fun o => K o.j o.env o.σ := run_wp h fun o ho => ho
theorem chain2 {a b c : ACode} {e : Env} {σ : St} {Q : Out → Prop} (R S : Env → St → Prop) (h : wp T (.seq a b) e σ fun j e' σ' => j = none ∧ R e' σ')
  (h2 : ∀ e' σ', R e' σ' → ∃ env1 σ1 env2 σ2, Trims2 σ e' σ' env1 σ1 ∧ ((env2 = env1 ∧ σ2 = σ1) ∨ Thaws σ.length env1 σ1 env2 σ2) ∧ S env2 σ2)
  (h3 : ∀ e σ, S e σ → Run T (.code c e σ) Q) : Run T (.code (.seq a (.seq b c)) e σ) Q := by
 refine Run.chain (a0 := a) (az := [b]) (c := c) (R := fun o => o.j = none ∧ R o.env o.σ) (S := S) ?_ (fun o ho hj => absurd ho.1 hj) (fun o ho _ => h2 _ _ ho.2) h3
 refine .chainCons (run_wp (show wp T a e σ _ from by simpa only [wp] using h) fun o ho => ho) (fun o ho hj => ?_) fun o ho hj => ?_
 ·rw [hj] at ho
  simp only [thenK] at ho
  exact .chainCons (run_wp ho fun o ho => ho) (fun o ho _ => .chainNil ⟨rfl, ho.2⟩) fun o ho hj => absurd ho.1 hj
 ·cases hq : o.j with
  | none => exact absurd hq hj
  | some q => rw [hq] at ho; simp only [thenK] at ho; exact absurd ho.1 (by simp)
end Go.Am
namespace Go.Am
instance (l : List (List Int)) : Dat (intss l) := ⟨data_intss l⟩
end Go.Am
namespace Go.Am.Room
theorem in_ok (n lo hi : Int) : Pure T 49 [.int .i64 n, .int .i64 lo, .int .i64 hi] (.bool (inR n lo hi)) := by
 refine pure_fn (af := a49) rfl (by simp [a49]) dd ?_
 (repeat (first | simp only [↓QA, QB, Nat.reduceLT, reduceIte, Nat.reduceEqDiff, Nat.reduceAdd, Nat.reduceLeDiff, Nat.reduceMul, Nat.reduceBEq, a49] | refine rd0 rfl ?_))
 refine iteP_intro (fun h => ?_) fun h => ?_
 all_goals
  (repeat (first | simp only [↓QA, QB, Nat.reduceLT, reduceIte, Nat.reduceEqDiff, Nat.reduceAdd, Nat.reduceLeDiff, Nat.reduceMul, Nat.reduceBEq, h] | refine rd0 rfl ?_))
  simp [inR, h]
theorem ends_ok (s : Span) (lo hi : Int) : Pure T 56 [encSpan s, .int .i64 lo, .int .i64 hi] (.int .i64 (ends s lo hi)) := by
 refine pure_fn (af := a56) rfl (by simp [a56]) dd ?_
 (repeat (first | simp only [↓QA, QB, Nat.reduceLT, reduceIte, Nat.reduceEqDiff, Nat.reduceAdd, Nat.reduceLeDiff, Nat.reduceMul, Nat.reduceBEq, a56, encSpan_eq] | refine rd0 rfl ?_))
 refine callK_d (in_ok _ _ _) rfl dd ?_
 (repeat (first | simp only [↓QA, QB, Nat.reduceLT, reduceIte, Nat.reduceEqDiff, Nat.reduceAdd, Nat.reduceLeDiff, Nat.reduceMul, Nat.reduceBEq] | refine rd0 rfl ?_))
 cases h1 : inR s.lo lo hi
 ·(repeat (first | simp only [↓QA, QB, Nat.reduceLT, reduceIte, Nat.reduceEqDiff, Nat.reduceAdd, Nat.reduceLeDiff, Nat.reduceMul, Nat.reduceBEq] | refine rd0 rfl ?_))
  simp [ends, h1]
 ·(repeat (first | simp only [↓QA, QB, Nat.reduceLT, reduceIte, Nat.reduceEqDiff, Nat.reduceAdd, Nat.reduceLeDiff, Nat.reduceMul, Nat.reduceBEq] | refine rd0 rfl ?_))
  refine callK_d (in_ok _ _ _) rfl dd ?_
  (repeat (first | simp only [↓QA, QB, Nat.reduceLT, reduceIte, Nat.reduceEqDiff, Nat.reduceAdd, Nat.reduceLeDiff, Nat.reduceMul, Nat.reduceBEq] | refine rd0 rfl ?_))
  cases h2 : inR s.hi lo hi
  ·(repeat (first | simp only [↓QA, QB, Nat.reduceLT, reduceIte, Nat.reduceEqDiff, Nat.reduceAdd, Nat.reduceLeDiff, Nat.reduceMul, Nat.reduceBEq] | refine rd0 rfl ?_))
   simp [ends, h1, h2]
  ·(repeat (first | simp only [↓QA, QB, Nat.reduceLT, reduceIte, Nat.reduceEqDiff, Nat.reduceAdd, Nat.reduceLeDiff, Nat.reduceMul, Nat.reduceBEq] | refine rd0 rfl ?_))
   refine iteP_intro (fun h => ?_) fun h => ?_
   all_goals
    (repeat (first | simp only [↓QA, QB, Nat.reduceLT, reduceIte, Nat.reduceEqDiff, Nat.reduceAdd, Nat.reduceLeDiff, Nat.reduceMul, Nat.reduceBEq, h] | refine rd0 rfl ?_))
    simp [ends, h1, h2]
    simpa using h
theorem has_ok (l : List Int) (n : Int) (hl : l.length < 9223372036854775808) : Pure T 42 [ints l, .int .i64 n] (.bool (l.contains n)) := by
 refine pure_fn (af := a42) rfl (by simp [a42]) dd ?_
 (repeat (first | simp only [↓QA, QB, Nat.reduceLT, reduceIte, Nat.reduceEqDiff, Nat.reduceAdd, Nat.reduceLeDiff, Nat.reduceMul, Nat.reduceBEq, a42] | refine rd0 rfl ?_))
 refine loopE (S := Nat) 0 (· ≤ l.length) (fun k => l.length - k) (fun k => [(0, ints l), (1, .int .i64 n), (5, .bool ((l.take k).contains n)), (6, .int .i64 k)]) (fun _ => []) (Nat.zero_le _) rfl ?_ fun k hk => ?_
 ·try simp only [TrimX, QE, Nat.reduceLT, reduceIte, Nat.reduceEqDiff, Nat.reduceAdd, Nat.reduceLeDiff, Nat.reduceMul, Nat.reduceBEq]
  try simp
 ·(repeat (first | simp only [↓QA, QB, Nat.reduceLT, reduceIte, Nat.reduceEqDiff, Nat.reduceAdd, Nat.reduceLeDiff, Nat.reduceMul, Nat.reduceBEq, L42_0] | refine rd0 rfl ?_))
  refine iteP_intro (fun h => ?_) fun h => ?_
  ·have hk1 : k < l.length := by simpa using h
   (repeat (first | simp only [↓QA, QB, Nat.reduceLT, reduceIte, Nat.reduceEqDiff, Nat.reduceAdd, Nat.reduceLeDiff, Nat.reduceMul, Nat.reduceBEq] | refine rd0 rfl ?_))
   refine iteP_intro (fun h2 => ?_) fun h2 => ?_
   all_goals
    (repeat (first | simp only [↓QA, QB, Nat.reduceLT, reduceIte, Nat.reduceEqDiff, Nat.reduceAdd, Nat.reduceLeDiff, Nat.reduceMul, Nat.reduceBEq, h2, hk1] | refine rd0 rfl ?_))
    refine ⟨k + 1, by omega, by omega, ?_⟩
    try simp only [TrimX, QE, Nat.reduceLT, reduceIte, Nat.reduceEqDiff, Nat.reduceAdd, Nat.reduceLeDiff, Nat.reduceMul, Nat.reduceBEq, wrapN hk1 hl]
    simp only [List.take_succ_eq_append_getElem hk1, List.contains_append, h2]
    simp
    try (rw [Bool.eq_iff_iff]; simp; exact eq_comm)
  ·have : k = l.length := by simp at h; omega
   (repeat (first | simp only [↓QA, QB, Nat.reduceLT, reduceIte, Nat.reduceEqDiff, Nat.reduceAdd, Nat.reduceLeDiff, Nat.reduceMul, Nat.reduceBEq] | refine rd0 rfl ?_))
   simp [this]
def whereI (s : ByteArray) (l : List ByteArray) : Int := if ahead s l = l.length then -1 else ahead s l
theorem ahead_step {s : ByteArray} {l : List ByteArray} {k : Nat} (h : k < l.length) (hx : l[k] ≠ s) : k + ahead s (l.drop k) = k + 1 + ahead s (l.drop (k + 1)) := by
 rw [List.drop_eq_getElem_cons h]; simp [ahead, hx]; omega
theorem where_ok (l : List ByteArray) (s : ByteArray) (hl : l.length < 9223372036854775808) : Pure T 91 [strs l, .str s] (.int .i64 (whereI s l)) := by
 refine pure_fn (af := a91) rfl (by simp [a91]) dd ?_
 (repeat (first | simp only [↓QA, QB, Nat.reduceLT, reduceIte, Nat.reduceEqDiff, Nat.reduceAdd, Nat.reduceLeDiff, Nat.reduceMul, Nat.reduceBEq, a91] | refine rd0 rfl ?_))
 refine loopE (S := Nat) 0 (fun k => k ≤ l.length ∧ k + ahead s (l.drop k) = ahead s l) (fun k => l.length - k) (fun k => [(0, strs l), (1, .str s), (5, .int .i64 k)]) (fun _ => []) ⟨Nat.zero_le _, by simp⟩ rfl ?_ fun k hk => ?_
 ·try simp only [TrimX, QE, Nat.reduceLT, reduceIte, Nat.reduceEqDiff, Nat.reduceAdd, Nat.reduceLeDiff, Nat.reduceMul, Nat.reduceBEq]
  try simp
 ·obtain ⟨hkl, ha⟩ := hk
  (repeat (first | simp only [↓QA, QB, Nat.reduceLT, reduceIte, Nat.reduceEqDiff, Nat.reduceAdd, Nat.reduceLeDiff, Nat.reduceMul, Nat.reduceBEq, L91_0, str_beq] | refine rd0 rfl ?_))
  refine iteP_intro (fun h => ?_) fun h => ?_
  ·have hk1 : k < l.length := by simpa using h
   have e2 : ((k : Int) == l.length) = false := by simp; omega
   (repeat (first | simp only [↓QA, QB, Nat.reduceLT, reduceIte, Nat.reduceEqDiff, Nat.reduceAdd, Nat.reduceLeDiff, Nat.reduceMul, Nat.reduceBEq, h, hk1, str_beq] | refine rd0 rfl ?_))
   refine iteP_intro (fun h3 => ?_) fun h3 => ?_
   ·have h3' : l[k] ≠ s := by simpa using h3
    (repeat (first | simp only [↓QA, QB, Nat.reduceLT, reduceIte, Nat.reduceEqDiff, Nat.reduceAdd, Nat.reduceLeDiff, Nat.reduceMul, Nat.reduceBEq, h3] | refine rd0 rfl ?_))
    refine ⟨k + 1, ⟨by omega, by rw [← ahead_step hk1 h3']; exact ha⟩, by omega, ?_⟩
    try simp only [TrimX, QE, Nat.reduceLT, reduceIte, Nat.reduceEqDiff, Nat.reduceAdd, Nat.reduceLeDiff, Nat.reduceMul, Nat.reduceBEq, wrapN hk1 hl]
   ·have h3' : l[k] = s := by simpa using h3
    have h4 : ahead s (l.drop k) = 0 := by rw [List.drop_eq_getElem_cons hk1]; simp [ahead, h3']
    (repeat (first | simp only [↓QA, QB, Nat.reduceLT, reduceIte, Nat.reduceEqDiff, Nat.reduceAdd, Nat.reduceLeDiff, Nat.reduceMul, Nat.reduceBEq, h3, e2] | refine rd0 rfl ?_))
    simp only [whereI]
    rw [if_neg (by omega)]
    simp; omega
  ·have hk1 : k = l.length := by simp at h; omega
   have e2 : ((k : Int) == l.length) = true := by simp; omega
   have h4 : ahead s (l.drop k) = 0 := by rw [hk1, List.drop_length]; rfl
   (repeat (first | simp only [↓QA, QB, Nat.reduceLT, reduceIte, Nat.reduceEqDiff, Nat.reduceAdd, Nat.reduceLeDiff, Nat.reduceMul, Nat.reduceBEq, h, e2] | refine rd0 rfl ?_))
   simp only [whereI]
   rw [if_pos (by omega)]
theorem name_ok (s : ByteArray) (hs : s.size < 9223372036854775808) : Pure T 92 [.str s] (.bool (nameOk s)) := by
 refine pure_fn (af := a92) rfl (by simp [a92]) dd ?_
 (repeat (first | simp only [↓QA, QB, Nat.reduceLT, reduceIte, Nat.reduceEqDiff, Nat.reduceAdd, Nat.reduceLeDiff, Nat.reduceMul, Nat.reduceBEq, a92] | refine rd0 rfl ?_))
 ((first | refine callK_d (in_ok _ _ _) rfl dd ?_ | refine callD_d (in_ok _ _ _) rfl dd ?_); (repeat (first | simp only [↓QA, QB, Nat.reduceLT, reduceIte, Nat.reduceEqDiff, Nat.reduceAdd, Nat.reduceLeDiff, Nat.reduceMul, Nat.reduceBEq] | refine rd0 rfl ?_)))
 refine loopE (S := Nat) 0 (fun k => k ≤ s.size) (fun k => s.size - k) (fun k => [(0, .str s), (3, .bool (inR s.size 1 16 && okUpTo s k)), (4, .int .i64 k)]) (fun _ => []) (Nat.zero_le _) rfl ?_ fun k hk => ?_
 ·try simp only [TrimX, QE, Nat.reduceLT, reduceIte, Nat.reduceEqDiff, Nat.reduceAdd, Nat.reduceLeDiff, Nat.reduceMul, Nat.reduceBEq, okUpTo]
  try simp
 ·(repeat (first | simp only [↓QA, QB, Nat.reduceLT, reduceIte, Nat.reduceEqDiff, Nat.reduceAdd, Nat.reduceLeDiff, Nat.reduceMul, Nat.reduceBEq, L92_0] | refine rd0 rfl ?_))
  refine iteP_intro (fun h => ?_) fun h => ?_
  ·have hk1 : k < s.size := by simpa using h
   have hb := byteAt_lt s k
   have hw : IntKind.i64.wrap (byteAt s k) = byteAt s k := wrap64 ⟨by omega, by omega⟩
   have fin : ∀ (later : Bool), later = (decide (0 < k) && (byteAt s k == 46 || inR (byteAt s k) 48 57)) → (inR s.size 1 16 && okUpTo s k && (inR (byteAt s k) 97 122 || later)) = (inR s.size 1 16 && okUpTo s (k + 1)) := by
    rintro _ rfl
    simp only [okUpTo, okByte, Bool.and_assoc]
   have tail : ∀ (later : Bool) (e : Env), later = (decide (0 < k) && (byteAt s k == 46 || inR (byteAt s k) 48 57)) → True := fun _ _ _ => trivial
   (repeat (first | simp only [↓QA, QB, Nat.reduceLT, reduceIte, Nat.reduceEqDiff, Nat.reduceAdd, Nat.reduceLeDiff, Nat.reduceMul, Nat.reduceBEq, hk1, hw] | refine rd0 rfl ?_))
   cases h0 : decide ((0 : Int) < k)
   ·have h0' : decide (0 < k) = false := by simpa using h0
    (repeat (first | simp only [↓QA, QB, Nat.reduceLT, reduceIte, Nat.reduceEqDiff, Nat.reduceAdd, Nat.reduceLeDiff, Nat.reduceMul, Nat.reduceBEq, hk1, hw] | refine rd0 rfl ?_))
    cases hf : (inR s.size 1 16 && okUpTo s k)
    ·(repeat (first | simp only [↓QA, QB, Nat.reduceLT, reduceIte, Nat.reduceEqDiff, Nat.reduceAdd, Nat.reduceLeDiff, Nat.reduceMul, Nat.reduceBEq, hk1, hw, hf] | refine rd0 rfl ?_))
     refine ⟨k + 1, by omega, by omega, ?_⟩
     try simp only [TrimX, QE, Nat.reduceLT, reduceIte, Nat.reduceEqDiff, Nat.reduceAdd, Nat.reduceLeDiff, Nat.reduceMul, Nat.reduceBEq, wrapN hk1 hs, ← fin false (by simp [h0']), hf]
     try simp
    ·(repeat (first | simp only [↓QA, QB, Nat.reduceLT, reduceIte, Nat.reduceEqDiff, Nat.reduceAdd, Nat.reduceLeDiff, Nat.reduceMul, Nat.reduceBEq, hk1, hw, hf] | refine rd0 rfl ?_))
     ((first | refine callK_d (in_ok _ _ _) rfl dd ?_ | refine callD_d (in_ok _ _ _) rfl dd ?_); (repeat (first | simp only [↓QA, QB, Nat.reduceLT, reduceIte, Nat.reduceEqDiff, Nat.reduceAdd, Nat.reduceLeDiff, Nat.reduceMul, Nat.reduceBEq] | refine rd0 rfl ?_)))
     cases h2 : inR (byteAt s k) 97 122
     all_goals
      (repeat (first | simp only [↓QA, QB, Nat.reduceLT, reduceIte, Nat.reduceEqDiff, Nat.reduceAdd, Nat.reduceLeDiff, Nat.reduceMul, Nat.reduceBEq, hk1, hw, hf] | refine rd0 rfl ?_))
      refine ⟨k + 1, by omega, by omega, ?_⟩
      try simp only [TrimX, QE, Nat.reduceLT, reduceIte, Nat.reduceEqDiff, Nat.reduceAdd, Nat.reduceLeDiff, Nat.reduceMul, Nat.reduceBEq, wrapN hk1 hs, ← fin false (by simp [h0']), hf, h2]
      try simp
   ·have h0' : decide (0 < k) = true := by simpa using h0
    (repeat (first | simp only [↓QA, QB, Nat.reduceLT, reduceIte, Nat.reduceEqDiff, Nat.reduceAdd, Nat.reduceLeDiff, Nat.reduceMul, Nat.reduceBEq, hk1, hw] | refine rd0 rfl ?_))
    cases h1 : (byteAt s k == 46)
    ·(repeat (first | simp only [↓QA, QB, Nat.reduceLT, reduceIte, Nat.reduceEqDiff, Nat.reduceAdd, Nat.reduceLeDiff, Nat.reduceMul, Nat.reduceBEq, hk1, hw] | refine rd0 rfl ?_))
     ((first | refine callK_d (in_ok _ _ _) rfl dd ?_ | refine callD_d (in_ok _ _ _) rfl dd ?_); (repeat (first | simp only [↓QA, QB, Nat.reduceLT, reduceIte, Nat.reduceEqDiff, Nat.reduceAdd, Nat.reduceLeDiff, Nat.reduceMul, Nat.reduceBEq] | refine rd0 rfl ?_)))
     cases hf : (inR s.size 1 16 && okUpTo s k)
     ·(repeat (first | simp only [↓QA, QB, Nat.reduceLT, reduceIte, Nat.reduceEqDiff, Nat.reduceAdd, Nat.reduceLeDiff, Nat.reduceMul, Nat.reduceBEq, hk1, hw, hf] | refine rd0 rfl ?_))
      refine ⟨k + 1, by omega, by omega, ?_⟩
      try simp only [TrimX, QE, Nat.reduceLT, reduceIte, Nat.reduceEqDiff, Nat.reduceAdd, Nat.reduceLeDiff, Nat.reduceMul, Nat.reduceBEq, wrapN hk1 hs, ← fin _ rfl, hf]
      try simp
     ·(repeat (first | simp only [↓QA, QB, Nat.reduceLT, reduceIte, Nat.reduceEqDiff, Nat.reduceAdd, Nat.reduceLeDiff, Nat.reduceMul, Nat.reduceBEq, hk1, hw, hf] | refine rd0 rfl ?_))
      ((first | refine callK_d (in_ok _ _ _) rfl dd ?_ | refine callD_d (in_ok _ _ _) rfl dd ?_); (repeat (first | simp only [↓QA, QB, Nat.reduceLT, reduceIte, Nat.reduceEqDiff, Nat.reduceAdd, Nat.reduceLeDiff, Nat.reduceMul, Nat.reduceBEq] | refine rd0 rfl ?_)))
      cases h2 : inR (byteAt s k) 97 122
      all_goals
       (repeat (first | simp only [↓QA, QB, Nat.reduceLT, reduceIte, Nat.reduceEqDiff, Nat.reduceAdd, Nat.reduceLeDiff, Nat.reduceMul, Nat.reduceBEq, hk1, hw, hf] | refine rd0 rfl ?_))
       refine ⟨k + 1, by omega, by omega, ?_⟩
       try simp only [TrimX, QE, Nat.reduceLT, reduceIte, Nat.reduceEqDiff, Nat.reduceAdd, Nat.reduceLeDiff, Nat.reduceMul, Nat.reduceBEq, wrapN hk1 hs, ← fin _ rfl, hf, h2, h0', h1]
       try simp
    ·(repeat (first | simp only [↓QA, QB, Nat.reduceLT, reduceIte, Nat.reduceEqDiff, Nat.reduceAdd, Nat.reduceLeDiff, Nat.reduceMul, Nat.reduceBEq, hk1, hw] | refine rd0 rfl ?_))
     cases hf : (inR s.size 1 16 && okUpTo s k)
     ·(repeat (first | simp only [↓QA, QB, Nat.reduceLT, reduceIte, Nat.reduceEqDiff, Nat.reduceAdd, Nat.reduceLeDiff, Nat.reduceMul, Nat.reduceBEq, hk1, hw, hf] | refine rd0 rfl ?_))
      refine ⟨k + 1, by omega, by omega, ?_⟩
      try simp only [TrimX, QE, Nat.reduceLT, reduceIte, Nat.reduceEqDiff, Nat.reduceAdd, Nat.reduceLeDiff, Nat.reduceMul, Nat.reduceBEq, wrapN hk1 hs, ← fin _ rfl, hf]
      try simp
     ·(repeat (first | simp only [↓QA, QB, Nat.reduceLT, reduceIte, Nat.reduceEqDiff, Nat.reduceAdd, Nat.reduceLeDiff, Nat.reduceMul, Nat.reduceBEq, hk1, hw, hf] | refine rd0 rfl ?_))
      ((first | refine callK_d (in_ok _ _ _) rfl dd ?_ | refine callD_d (in_ok _ _ _) rfl dd ?_); (repeat (first | simp only [↓QA, QB, Nat.reduceLT, reduceIte, Nat.reduceEqDiff, Nat.reduceAdd, Nat.reduceLeDiff, Nat.reduceMul, Nat.reduceBEq] | refine rd0 rfl ?_)))
      cases h2 : inR (byteAt s k) 97 122
      all_goals
       (repeat (first | simp only [↓QA, QB, Nat.reduceLT, reduceIte, Nat.reduceEqDiff, Nat.reduceAdd, Nat.reduceLeDiff, Nat.reduceMul, Nat.reduceBEq, hk1, hw, hf] | refine rd0 rfl ?_))
       refine ⟨k + 1, by omega, by omega, ?_⟩
       try simp only [TrimX, QE, Nat.reduceLT, reduceIte, Nat.reduceEqDiff, Nat.reduceAdd, Nat.reduceLeDiff, Nat.reduceMul, Nat.reduceBEq, wrapN hk1 hs, ← fin _ rfl, hf, h2, h0', h1]
       try simp
  ·have hk1 : k = s.size := by simp at h; omega
   (repeat (first | simp only [↓QA, QB, Nat.reduceLT, reduceIte, Nat.reduceEqDiff, Nat.reduceAdd, Nat.reduceLeDiff, Nat.reduceMul, Nat.reduceBEq] | refine rd0 rfl ?_))
   simp [nameOk, hk1]
theorem fresh_ok (s : ByteArray) (l : List ByteArray) (hs : s.size < 9223372036854775808) (hl : l.length < 9223372036854775808) : Pure T 57 [.str s, strs l] (.int .i64 (fresh s l)) := by
 refine pure_fn (af := a57) rfl (by simp [a57]) dd ?_
 (repeat (first | simp only [↓QA, QB, Nat.reduceLT, reduceIte, Nat.reduceEqDiff, Nat.reduceAdd, Nat.reduceLeDiff, Nat.reduceMul, Nat.reduceBEq, a57] | refine rd0 rfl ?_))
 ((first | refine callK_d (where_ok l s hl) rfl dd ?_ | refine callD_d (where_ok l s hl) rfl dd ?_); (repeat (first | simp only [↓QA, QB, Nat.reduceLT, reduceIte, Nat.reduceEqDiff, Nat.reduceAdd, Nat.reduceLeDiff, Nat.reduceMul, Nat.reduceBEq] | refine rd0 rfl ?_)))
 refine iteP_intro (fun h => ?_) fun h => ?_
 ·have hin : ahead s l ≠ l.length := by
   intro e
   simp [whereI, e] at h
  (repeat (first | simp only [↓QA, QB, Nat.reduceLT, reduceIte, Nat.reduceEqDiff, Nat.reduceAdd, Nat.reduceLeDiff, Nat.reduceMul, Nat.reduceBEq] | refine rd0 rfl ?_))
  ((first | refine callK_d (name_ok s hs) rfl dd ?_ | refine callD_d (name_ok s hs) rfl dd ?_); (repeat (first | simp only [↓QA, QB, Nat.reduceLT, reduceIte, Nat.reduceEqDiff, Nat.reduceAdd, Nat.reduceLeDiff, Nat.reduceMul, Nat.reduceBEq] | refine rd0 rfl ?_)))
  cases hn : nameOk s
  all_goals
   (repeat (first | simp only [↓QA, QB, Nat.reduceLT, reduceIte, Nat.reduceEqDiff, Nat.reduceAdd, Nat.reduceLeDiff, Nat.reduceMul, Nat.reduceBEq] | refine rd0 rfl ?_))
   simp [fresh, hn, hin]
 ·have hin : ahead s l = l.length := by
   simp only [whereI] at h
   split at h
   ·assumption
   ·simp at h
  (repeat (first | simp only [↓QA, QB, Nat.reduceLT, reduceIte, Nat.reduceEqDiff, Nat.reduceAdd, Nat.reduceLeDiff, Nat.reduceMul, Nat.reduceBEq] | refine rd0 rfl ?_))
  ((first | refine callK_d (name_ok s hs) rfl dd ?_ | refine callD_d (name_ok s hs) rfl dd ?_); (repeat (first | simp only [↓QA, QB, Nat.reduceLT, reduceIte, Nat.reduceEqDiff, Nat.reduceAdd, Nat.reduceLeDiff, Nat.reduceMul, Nat.reduceBEq] | refine rd0 rfl ?_)))
  cases hn : nameOk s
  all_goals
   (repeat (first | simp only [↓QA, QB, Nat.reduceLT, reduceIte, Nat.reduceEqDiff, Nat.reduceAdd, Nat.reduceLeDiff, Nat.reduceMul, Nat.reduceBEq] | refine rd0 rfl ?_))
   simp [fresh, hn, hin]
theorem flat_le {α β : Type} (f : α → List β) (b : Nat) : ∀ l : List α, (∀ x ∈ l, (f x).length ≤ b) → (l.flatMap f).length ≤ l.length * b
 | [], _ => by simp
 | x :: l, h => by
  have h1 := h x (by simp)
  have h2 := flat_le f b l fun y hy => h y (List.mem_cons_of_mem _ hy)
  simp only [List.flatMap_cons, List.length_append, List.length_cons, Nat.add_mul]
  omega
theorem allCells_ints (l : List (List Int)) : allCells 1 (l.map ints) = true := L_allM 1 ints l fun x => C_lit _ _ _
open Go
variable {P : Program}
def IsStruct (P : Program) (t : TypeId) (ts : List TypeId) : Prop := ∃ fs, P.underlying t = some (.struct fs) ∧ fs.toList.map Field.type = ts
theorem typ_st {n : Nat} {t : TypeId} {ts : List TypeId} {cs : List AV} (hu : IsStruct P t ts) (h : Typ P (n + 1) t cs) : mkV P t cs = .agg cs ∧ Parts P n ts cs := by
 obtain ⟨fs, h1, h2⟩ := hu
 have := typ_struct h1 h
 rw [h2] at this
 exact ⟨mkV_struct h1, this⟩
theorem mkV_ne {t : TypeId} {a : AV} {d : TypeDesc} (hu : P.underlying t = some d) (hd : ∀ fs, d ≠ .struct fs := by intro fs h; cases h) (hd2 : ∀ k e, d ≠ .array k e := by intro k e h; cases h) : mkV P t [a] = a := mkV_one (by rw [hu]; intro fs e; cases e; exact hd _ rfl) (by rw [hu]; intro k e h; cases h; exact hd2 _ _ rfl)
theorem tc_span {n : Nat} {i t : TypeId} {cs : List AV} (hi : P.underlying i = some (.int .i64)) (hs : IsStruct P t [i, i]) (h : Typ P (n + 2) t cs) : ∃ s : Span, cs = [.int .i64 s.lo, .int .i64 s.hi] := by
 obtain ⟨_, a, b, rfl, h1, c, d, rfl, h2, rfl⟩ := typ_st hs h
 obtain ⟨x, rfl, _⟩ := typ_int hi h1
 obtain ⟨y, rfl, _⟩ := typ_int hi h2
 exact ⟨⟨x, y⟩, rfl⟩
theorem tc_u8 {n : Nat} {t : TypeId} {cs : List AV} (hi : P.underlying t = some (.int .u8)) (h : Typ P (n + 1) t cs) : ∃ x : Int, mkV P t cs = .int .u8 x ∧ (0 ≤ x ∧ x < 256) := by
 obtain ⟨x, rfl, hw⟩ := typ_int hi h
 exact ⟨x, mkV_ne hi, wf_u8 hw⟩
end Go.Am.Room
namespace Go.Am.Room
theorem ends_of {s : Span} {lo hi : Int} (h : lo ≤ s.lo ∧ s.lo ≤ s.hi ∧ s.hi ≤ hi) : ends s lo hi = 0 := by
 unfold ends
 rw [inR_iff.2 ⟨h.1, by omega⟩, inR_iff.2 ⟨by omega, h.2.2⟩]
 simp
 omega
theorem firstBad_no {α : Type} {f : Nat → α → Int} : ∀ {l : List α} {i : Nat}, (∀ x ∈ l, ∀ k, f k x = 0) → firstBad f l i = none
 | [], _, _ => rfl
 | x :: xs, i, h => by
  simp only [firstBad]
  rw [if_pos (h x (by simp) i)]
  exact firstBad_no fun y hy => h y (by simp [hy])
theorem firstBad_noI {α : Type} {f : Nat → α → Int} : ∀ {l : List α} {i : Nat}, (∀ k (h : k < l.length), f (i + k) l[k] = 0) → firstBad f l i = none
 | [], _, _ => rfl
 | x :: xs, i, h => by
  simp only [firstBad]
  rw [if_pos (show f i x = 0 from h 0 (by simp))]
  exact firstBad_noI fun k hk => by have := h (k + 1) (by simpa using hk); simpa [Nat.add_assoc, Nat.add_comm 1 k] using this
def encTn (t : Tn) : AV := .agg [.int .i64 t.hour, .int .i64 t.door]
theorem encTn_eq (t : Tn) : encTn t = .agg [.int .i64 t.hour, .int .i64 t.door] := by simp only [encTn]
theorem data_tn (t : Tn) : Data (encTn t) := data_agg (datas_cons (data_int _ _) (datas_cons (data_int _ _) datas_nil))
instance (t : Tn) : Dat (encTn t) := ⟨data_tn t⟩
instance (l : List Tn) : Dats (l.map encTn) := ⟨datas_map data_tn l⟩
theorem S_mapTn (σ : St) (m d : Nat) (l : List Tn) : snapMs σ m d (l.map encTn) = some (l.map encTn) := S_datas (datas_map data_tn l) σ m d
def tns (l : List Tn) : AV := .lit (l.map encTn) false none
theorem tns_eq (l : List Tn) : tns l = .lit (l.map encTn) false none := by simp only [tns]
theorem data_tns (l : List Tn) : Data (tns l) := data_list data_tn l
instance (l : List Tn) : Dat (tns l) := ⟨data_tns l⟩
instance (l : List (List Tn)) : Dats (l.map tns) := ⟨datas_map data_tns l⟩
theorem S_mapTns (σ : St) (m d : Nat) (l : List (List Tn)) : snapMs σ m d (l.map tns) = some (l.map tns) := S_datas (datas_map data_tns l) σ m d
def encTruth (t : Truth) : AV := .agg [ints t.op, .lit (t.turns.map tns) false none]
theorem encTruth_eq (t : Truth) : encTruth t = .agg [ints t.op, .lit (t.turns.map tns) false none] := by simp only [encTruth]
theorem data_truth (t : Truth) : Data (encTruth t) := data_agg (datas_cons (data_ints _) (datas_cons (data_list data_tns _) datas_nil))
instance (t : Truth) : Dat (encTruth t) := ⟨data_truth t⟩
def truthsAV (l : List Truth) : AV := .lit (l.map encTruth) false none
theorem data_truths (l : List Truth) : Data (truthsAV l) := data_list data_truth l
instance (l : List Truth) : Dat (truthsAV l) := ⟨data_truths l⟩
instance (l : List Truth) : Dats (l.map encTruth) := ⟨datas_map data_truth l⟩
theorem S_mapT (σ : St) (m d : Nat) (l : List Truth) : snapMs σ m d (l.map encTruth) = some (l.map encTruth) := S_datas (datas_map data_truth l) σ m d
open Go
variable {P : Program}
structure Tys (P : Program) : Prop where
 int : P.underlying 3 = some (.int .i64)
 bool : P.underlying 4 = some .bool
 u8 : P.underlying 5 = some (.int .u8)
 str : P.underlying 9 = some .string
 span : IsStruct P 23 [3, 3]
 keepers : P.underlying 24 = some (.slice 90)
 doors : P.underlying 25 = some (.slice 57)
 looks : P.underlying 26 = some (.slice 47)
 voy : IsStruct P 28 [3, 23, 24, 25, 3, 26]
 look : IsStruct P 47 [3, 3, 4]
 u8s : P.underlying 49 = some (.slice 5)
 door : IsStruct P 57 [3, 4]
 a2 : P.underlying 76 = some (.array 2 5)
 kp : IsStruct P 90 [9, 3]
 lookB : P.bytesOf 47 = 24
theorem ty_kp {n : Nat} {cs : List AV} (T : Tys P) (h : Typ P (n + 2) 90 cs) : ∃ s : Kp, mkV P 90 cs = encKp s ∧ s.name.size < 9223372036854775808 := by
 obtain ⟨e, a, b, rfl, h1, c, d, rfl, h2, rfl⟩ := typ_st T.kp h
 obtain ⟨x, rfl, hx⟩ := typ_str T.str h1
 obtain ⟨y, rfl, _⟩ := typ_int T.int h2
 exact ⟨⟨x, y⟩, e, by simp only [maxLen] at hx; simp only; omega⟩
theorem ty_door {n : Nat} {cs : List AV} (T : Tys P) (h : Typ P (n + 2) 57 cs) : ∃ s : Door, mkV P 57 cs = encDoor s ∧ True := by
 obtain ⟨e, a, b, rfl, h1, c, d, rfl, h2, rfl⟩ := typ_st T.door h
 obtain ⟨x, rfl, _⟩ := typ_int T.int h1
 obtain ⟨y, rfl⟩ := typ_bool T.bool h2
 exact ⟨⟨x, y⟩, e, trivial⟩
theorem ty_look {n : Nat} {cs : List AV} (T : Tys P) (h : Typ P (n + 2) 47 cs) : ∃ s : Look, mkV P 47 cs = encLook s ∧ True := by
 obtain ⟨e, a, b, rfl, h1, c, d, rfl, h2, c2, d2, rfl, h3, rfl⟩ := typ_st T.look h
 obtain ⟨x, rfl, _⟩ := typ_int T.int h1
 obtain ⟨y, rfl, _⟩ := typ_int T.int h2
 obtain ⟨z, rfl⟩ := typ_bool T.bool h3
 exact ⟨⟨x, y, z⟩, e, trivial⟩
theorem ty_u8 {n : Nat} {cs : List AV} (T : Tys P) (h : Typ P (n + 1) 5 cs) : ∃ x : Int, mkV P 5 cs = .int .u8 x ∧ (0 ≤ x ∧ x < 256) := tc_u8 T.u8 h
theorem ty_voyB {n : Nat} {cs : List AV} (T : Tys P) (h : Typ P (n + 4) 28 cs) : ∃ s : Voy, mkV P 28 cs = encVoy s ∧ Fits s ∧ s.looks.length * 24 ≤ 140737488351232 := by
 obtain ⟨e, a1, b1, rfl, h1, a2, b2, rfl, h2, a3, b3, rfl, h3, a4, b4, rfl, h4, a5, b5, rfl, h5, a6, b6, rfl, h6, rfl⟩ := typ_st T.voy h
 obtain ⟨x1, rfl, _⟩ := typ_int T.int h1
 obtain ⟨x2, rfl⟩ := tc_span T.int T.span h2
 obtain ⟨x3, rfl, ⟨l3, _⟩, q3⟩ := typ_slice T.keepers h3 fun y hy => ty_kp T hy
 obtain ⟨x4, rfl, ⟨l4, _⟩, _⟩ := typ_slice T.doors h4 fun y hy => ty_door T hy
 obtain ⟨x5, rfl, _⟩ := typ_int T.int h5
 obtain ⟨x6, rfl, ⟨l6, b6⟩, _⟩ := typ_slice T.looks h6 fun y hy => ty_look T hy
 exact ⟨⟨x1, x2, x3, x4, x5, x6⟩, e, ⟨l3, l4, l6, q3⟩, by rw [T.lookB] at b6; simpa [reachBytes] using b6⟩
theorem ty_voy {n : Nat} {cs : List AV} (T : Tys P) (h : Typ P (n + 4) 28 cs) : ∃ s : Voy, mkV P 28 cs = encVoy s ∧ Fits s := by
 obtain ⟨r, h1, h2, _⟩ := ty_voyB T h
 exact ⟨r, h1, h2⟩
end Go.Am.Room
namespace Go.Am.Room
theorem check_of_vd {v : Voy} (h : Vd v) : check v = (0, 0, 0) := by
 have h1 := h.nkp
 have h2 := h.ndr
 have h3 := h.nlk
 have h4 := h.lots
 have g1 : firstBad (kpErr v) v.keepers 0 = none := firstBad_noI fun k hk => by simpa using h.kp k hk
 have g2 : firstBad (drErr v) v.doors 0 = none := firstBad_no fun d hd k => by simp [drErr, inR_iff.2 (h.dr d hd)]
 have g3 : firstBad (lkErr v) v.looks 0 = none := firstBad_no fun x hx k => by
  have := h.lk x hx
  have a : inR x.lot 0 (v.lots - 1) = true := inR_iff.2 (by omega)
  simp [lkErr, a, inR_iff.2 this.2]
 have e4 : check4 v = (0, 0, 0) := by rw [check4, if_neg (by omega), g3]
 have e3 : check3 v = (0, 0, 0) := by rw [check3, if_neg (by omega), g2]; exact e4
 have e2 : check2 v = (0, 0, 0) := by rw [check2, if_neg (by simp [inR_iff.2 (show (1 : Int) ≤ v.keepers.length ∧ (v.keepers.length : Int) ≤ 5 by omega)]), g1]; exact e3
 have e0 : ends v.delay 0 8 = 0 := ends_of h.delay
 rw [check, if_neg (by simp [inR_iff.2 h.hours, inR_iff.2 h4, e0]), if_pos e0]
 exact e2
end Go.Am.Room
set_option maxRecDepth 4000
namespace Go.Am.Room
def QXDDrC1 := And.intro @encVoy_eq (And.intro @voyCells_eq (And.intro @encKp_eq (And.intro @encDoor_eq (And.intro @encLook_eq (And.intro @encSpan_eq (And.intro @S_mapKp (And.intro @S_mapDoor (@S_mapLook))))))))
theorem rhour_ok (v : Voy) (n : Int) : Pure T 59 [encVoy v, .int .i64 n] (.bool (inR n 0 v.hours)) := by
 refine pure_fn (af := a59) rfl (by simp [a59]) dd ?_
 (repeat (first | simp only [↓QA, QB, Nat.reduceLT, reduceIte, Nat.reduceEqDiff, Nat.reduceAdd, Nat.reduceLeDiff, Nat.reduceMul, Nat.reduceBEq, QXDDrC1, a59] | refine rd0 rfl ?_))
 ((first | refine callK_d (in_ok n 0 v.hours) rfl dd ?_ | refine callD_d (in_ok n 0 v.hours) rfl dd ?_); (repeat (first | simp only [↓QA, QB, Nat.reduceLT, reduceIte, Nat.reduceEqDiff, Nat.reduceAdd, Nat.reduceLeDiff, Nat.reduceMul, Nat.reduceBEq, QXDDrC1] | refine rd0 rfl ?_)))
theorem rkeeper_ok (v : Voy) (i : Nat) (hf : Fits v) (hi : i < v.keepers.length) : Pure T 58 [encVoy v, .int .i64 i] (.int .i64 (kpErr2 v i)) := by
 refine pure_fn (af := a58) rfl (by simp [a58]) dd ?_
 have hfk := hf.keepers
 have he := frm_at hi
 have hk : kpErr2 v i = if inR (frmAt v i) 0 v.hours = false then 7 else if (i = 0 ∧ frmAt v i ≠ 0) ∨ (0 < i ∧ frmAt v i ≤ frmAt v (i - 1)) then 2 else 0 := rfl
 obtain ⟨E, hE⟩ : ∃ E, kpErr2 v i = E := ⟨_, rfl⟩
 rw [hE] at hk ⊢
 obtain ⟨F, hF⟩ : ∃ F, frmAt v i = F := ⟨_, rfl⟩
 rw [hF] at hk he
 (repeat (first | simp only [↓QA, QB, Nat.reduceLT, reduceIte, Nat.reduceEqDiff, Nat.reduceAdd, Nat.reduceLeDiff, Nat.reduceMul, Nat.reduceBEq, QXDDrC1, a58, hi, ← he] | refine rd0 rfl ?_))
 ((first | refine callK_d (rhour_ok v F) rfl dd ?_ | refine callD_d (rhour_ok v F) rfl dd ?_); (repeat (first | simp only [↓QA, QB, Nat.reduceLT, reduceIte, Nat.reduceEqDiff, Nat.reduceAdd, Nat.reduceLeDiff, Nat.reduceMul, Nat.reduceBEq, QXDDrC1] | refine rd0 rfl ?_)))
 cases h1 : inR F 0 v.hours
 ·rw [h1] at hk
  (repeat (first | simp only [↓QA, QB, Nat.reduceLT, reduceIte, Nat.reduceEqDiff, Nat.reduceAdd, Nat.reduceLeDiff, Nat.reduceMul, Nat.reduceBEq, QXDDrC1] | refine rd0 rfl ?_))
  rw [hk]; rfl
 ·rw [h1] at hk
  simp only [Bool.true_eq_false, if_false] at hk
  by_cases h0 : i = 0
  ·subst h0
   cases h2 : (F == 0)
   ·have h2' : F ≠ 0 := by simpa using h2
    have : E = 2 := by rw [hk, if_pos (.inl ⟨rfl, h2'⟩)]
    (repeat (first | simp only [↓QA, QB, Nat.reduceLT, reduceIte, Nat.reduceEqDiff, Nat.reduceAdd, Nat.reduceLeDiff, Nat.reduceMul, Nat.reduceBEq, QXDDrC1, h2, show (((0 : Nat) : Int) == 0) = true from rfl] | refine rd0 rfl ?_))
    rw [this]
   ·have h2' : F = 0 := by simpa using h2
    have : E = 0 := by rw [hk, if_neg (by omega)]
    (repeat (first | simp only [↓QA, QB, Nat.reduceLT, reduceIte, Nat.reduceEqDiff, Nat.reduceAdd, Nat.reduceLeDiff, Nat.reduceMul, Nat.reduceBEq, QXDDrC1, h2, show (((0 : Nat) : Int) == 0) = true from rfl, show decide ((0 : Int) < ((0 : Nat) : Int)) = false from rfl] | refine rd0 rfl ?_))
    rw [this]
  ·have g0 : ((i : Int) == 0) = false := by simp; omega
   have g1 : decide ((0 : Int) < (i : Int)) = true := by simp; omega
   have hw : IntKind.i64.wrap ((i : Int) - 1) = ((i - 1 : Nat) : Int) := by rw [wrap64 ⟨by omega, by omega⟩]; omega
   have hi1 : i - 1 < v.keepers.length := by omega
   have he1 := frm_at hi1
   obtain ⟨G, hG⟩ : ∃ G, frmAt v (i - 1) = G := ⟨_, rfl⟩
   rw [hG] at hk he1
   cases h2 : decide (F ≤ G)
   ·have h2' : ¬ F ≤ G := by simpa using h2
    have : E = 0 := by rw [hk, if_neg (by omega)]
    (repeat (first | simp only [↓QA, QB, Nat.reduceLT, reduceIte, Nat.reduceEqDiff, Nat.reduceAdd, Nat.reduceLeDiff, Nat.reduceMul, Nat.reduceBEq, QXDDrC1, g0, g1, hw, hi1, ← he1, h2] | refine rd0 rfl ?_))
    rw [this]
   ·have h2' : F ≤ G := by simpa using h2
    have : E = 2 := by rw [hk, if_pos (.inr ⟨by omega, h2'⟩)]
    (repeat (first | simp only [↓QA, QB, Nat.reduceLT, reduceIte, Nat.reduceEqDiff, Nat.reduceAdd, Nat.reduceLeDiff, Nat.reduceMul, Nat.reduceBEq, QXDDrC1, g0, g1, hw, hi1, ← he1, h2] | refine rd0 rfl ?_))
    rw [this]
theorem append_str {k : Nat} {ns : List ByteArray} {s : ByteArray} {b : ABlk} {ex : Bool} (hk : ns.length = k) (hn : k < 16) : appendAV 1 16 [b, .tok 1 k ex] (.lit (ns.map .str) false (some 1)) (.lit [.str s] true none) = some (.lit ((ns ++ [s]).map .str) false (some 1), [b, .tok 1 (k + 1) true]) := by
 rw [app_tok (ex := ex) ⟨L_allM 1 _ ns (fun x => C_str _), by simp [allCells, AV.cells, AV.cell], by simp [room, hk]; omega, by simp [room, hk]; omega⟩ (by simp) (by simp [hk])]
 simp [hk]
theorem take_name {v : Voy} {k : Nat} (h : k < v.keepers.length) : (v.keepers.take (k + 1)).map Kp.name = (v.keepers.take k).map Kp.name ++ [v.keepers[k].name] := by
 rw [List.take_succ_eq_append_getElem h, List.map_append]; rfl
theorem refcheck_ok (v : Voy) (h : Fits v) : Pure T 17 [encVoy v] (enc3 (check v)) := by
 refine pure_fn (af := a17) rfl (by simp [a17]) dd ?_
 have hfk := h.keepers
 have hfd := h.doors
 have hfl := h.looks
 (repeat (first | simp only [↓QA, QB, Nat.reduceLT, reduceIte, Nat.reduceEqDiff, Nat.reduceAdd, Nat.reduceLeDiff, Nat.reduceMul, Nat.reduceBEq, QXDDrC1, a17] | refine rd0 rfl ?_))
 ((first | refine callK_d (ends_ok v.delay 0 8) rfl dd ?_ | refine callD_d (ends_ok v.delay 0 8) rfl dd ?_); (repeat (first | simp only [↓QA, QB, Nat.reduceLT, reduceIte, Nat.reduceEqDiff, Nat.reduceAdd, Nat.reduceLeDiff, Nat.reduceMul, Nat.reduceBEq, QXDDrC1] | refine rd0 rfl ?_)))
 ((first | refine callK_d (in_ok v.hours 1 24) rfl dd ?_ | refine callD_d (in_ok v.hours 1 24) rfl dd ?_); (repeat (first | simp only [↓QA, QB, Nat.reduceLT, reduceIte, Nat.reduceEqDiff, Nat.reduceAdd, Nat.reduceLeDiff, Nat.reduceMul, Nat.reduceBEq, QXDDrC1] | refine rd0 rfl ?_)))
 cases h1 : inR v.hours 1 24
 ·(repeat (first | simp only [↓QA, QB, Nat.reduceLT, reduceIte, Nat.reduceEqDiff, Nat.reduceAdd, Nat.reduceLeDiff, Nat.reduceMul, Nat.reduceBEq, QXDDrC1] | refine rd0 rfl ?_))
  simp [check, h1, enc3]
 ·(repeat (first | simp only [↓QA, QB, Nat.reduceLT, reduceIte, Nat.reduceEqDiff, Nat.reduceAdd, Nat.reduceLeDiff, Nat.reduceMul, Nat.reduceBEq, QXDDrC1] | refine rd0 rfl ?_))
  cases h2 : (ends v.delay 0 8 == 7)
  ·have h2' : ends v.delay 0 8 ≠ 7 := by simpa using h2
   (repeat (first | simp only [↓QA, QB, Nat.reduceLT, reduceIte, Nat.reduceEqDiff, Nat.reduceAdd, Nat.reduceLeDiff, Nat.reduceMul, Nat.reduceBEq, QXDDrC1, h2] | refine rd0 rfl ?_))
   ((first | refine callK_d (in_ok v.lots 1 3) rfl dd ?_ | refine callD_d (in_ok v.lots 1 3) rfl dd ?_); (repeat (first | simp only [↓QA, QB, Nat.reduceLT, reduceIte, Nat.reduceEqDiff, Nat.reduceAdd, Nat.reduceLeDiff, Nat.reduceMul, Nat.reduceBEq, QXDDrC1] | refine rd0 rfl ?_)))
   cases h3 : inR v.lots 1 3
   ·(repeat (first | simp only [↓QA, QB, Nat.reduceLT, reduceIte, Nat.reduceEqDiff, Nat.reduceAdd, Nat.reduceLeDiff, Nat.reduceMul, Nat.reduceBEq, QXDDrC1] | refine rd0 rfl ?_))
    simp [check, h3, enc3]
   ·(repeat (first | simp only [↓QA, QB, Nat.reduceLT, reduceIte, Nat.reduceEqDiff, Nat.reduceAdd, Nat.reduceLeDiff, Nat.reduceMul, Nat.reduceBEq, QXDDrC1] | refine rd0 rfl ?_))
    cases h4 : (ends v.delay 0 8 == 0)
    ·have h4' : ends v.delay 0 8 ≠ 0 := by simpa using h4
     (repeat (first | simp only [↓QA, QB, Nat.reduceLT, reduceIte, Nat.reduceEqDiff, Nat.reduceAdd, Nat.reduceLeDiff, Nat.reduceMul, Nat.reduceBEq, QXDDrC1, h4] | refine rd0 rfl ?_))
     simp [check, h1, h2', h3, h4', enc3]
    ·have h4' : ends v.delay 0 8 = 0 := by simpa using h4
     have hlo := h3
     rw [inR_iff] at hlo
     have hc : check v = check2 v := by simp [check, h1, h3, h4']
     rw [hc]
     (repeat (first | simp only [↓QA, QB, Nat.reduceLT, reduceIte, Nat.reduceEqDiff, Nat.reduceAdd, Nat.reduceLeDiff, Nat.reduceMul, Nat.reduceBEq, QXDDrC1, h4] | refine rd0 rfl ?_))
     ((first | refine callK_d (in_ok v.keepers.length 1 5) rfl dd ?_ | refine callD_d (in_ok v.keepers.length 1 5) rfl dd ?_); (repeat (first | simp only [↓QA, QB, Nat.reduceLT, reduceIte, Nat.reduceEqDiff, Nat.reduceAdd, Nat.reduceLeDiff, Nat.reduceMul, Nat.reduceBEq, QXDDrC1] | refine rd0 rfl ?_)))
     cases h5 : inR v.keepers.length 1 5
     ·(repeat (first | simp only [↓QA, QB, Nat.reduceLT, reduceIte, Nat.reduceEqDiff, Nat.reduceAdd, Nat.reduceLeDiff, Nat.reduceMul, Nat.reduceBEq, QXDDrC1] | refine rd0 rfl ?_))
      simp [check2, h5, enc3]
     ·have h5' : v.keepers.length ≤ 5 := by simp [inR] at h5; omega
      have hc : check2 v = match firstBad (kpErr v) v.keepers 0 with | some (i, e) => (2, (i : Int), e) | none => check3 v := by simp only [check2, h5, Bool.true_eq_false, if_false]; rfl
      rw [hc]
      (repeat (first | simp only [↓QA, QB, Nat.reduceLT, reduceIte, Nat.reduceEqDiff, Nat.reduceAdd, Nat.reduceLeDiff, Nat.reduceMul, Nat.reduceBEq, QXDDrC1] | refine rd0 rfl ?_))
      refine ghostK 6 1 [] rfl ?_
      refine loopE (S := Nat × Bool) (0, false) (fun s => s.1 ≤ v.keepers.length ∧ firstBad (kpErr v) (v.keepers.drop s.1) s.1 = firstBad (kpErr v) v.keepers 0) (fun s => v.keepers.length - s.1)
       (fun s => [(1, .ptr 0 0), (6, .lit (((v.keepers.take s.1).map Kp.name).map .str) false (some 1)), (7, .int .i64 s.1)]) (fun s => [.cells (voyCells v), .tok 1 s.1 s.2]) ⟨Nat.zero_le _, by simp⟩ (by simp [voyCells, ints]) ?_ fun s hs => ?_
      ·try simp only [TrimX, QE, Nat.reduceLT, reduceIte, Nat.reduceEqDiff, Nat.reduceAdd, Nat.reduceLeDiff, Nat.reduceMul, Nat.reduceBEq, QXDDrC1]
       try simp
      ·obtain ⟨k, ex⟩ := s
       obtain ⟨hk, hb⟩ := hs
       simp only at hk hb
       have hlen : ((v.keepers.take k).map Kp.name).length = k := by simp [hk]
       (repeat (first | simp only [↓QA, QB, Nat.reduceLT, reduceIte, Nat.reduceEqDiff, Nat.reduceAdd, Nat.reduceLeDiff, Nat.reduceMul, Nat.reduceBEq, QXDDrC1, L17_0] | refine rd0 rfl ?_))
       refine iteP_intro (fun hd => ?_) fun hd => ?_
       ·have hk1 : k < v.keepers.length := by simpa using hd
        rw [firstBad_step hk1] at hb
        have hw := wrapN hk1 hfk
        have hap := append_str (k := k) (ns := (v.keepers.take k).map Kp.name) (s := v.keepers[k].name) (b := .cells (voyCells v)) (ex := ex) hlen (by omega)
        rw [voyCells_eq] at hap
        have hset : kpErr v k v.keepers[k] = if fresh v.keepers[k].name ((v.keepers.take k).map Kp.name) = 0 then kpErr2 v k else fresh v.keepers[k].name ((v.keepers.take k).map Kp.name) := rfl
        (repeat (first | simp only [↓QA, QB, Nat.reduceLT, reduceIte, Nat.reduceEqDiff, Nat.reduceAdd, Nat.reduceLeDiff, Nat.reduceMul, Nat.reduceBEq, QXDDrC1, hk1, hw] | refine rd0 rfl ?_))
        ((first | refine callK_s (fresh_ok v.keepers[k].name ((v.keepers.take k).map Kp.name) (h.names _ (List.getElem_mem hk1)) (by rw [hlen]; omega)) (by try simp only [QS, QC, Nat.reduceLT, reduceIte, Nat.reduceEqDiff, Nat.reduceAdd, Nat.reduceLeDiff, Nat.reduceMul, Nat.reduceBEq, QXDDrC1]) trivial ?_ | refine callD_s (fresh_ok v.keepers[k].name ((v.keepers.take k).map Kp.name) (h.names _ (List.getElem_mem hk1)) (by rw [hlen]; omega)) (by try simp only [QS, QC, Nat.reduceLT, reduceIte, Nat.reduceEqDiff, Nat.reduceAdd, Nat.reduceLeDiff, Nat.reduceMul, Nat.reduceBEq, QXDDrC1]) trivial ?_); (repeat (first | simp only [↓QA, QB, Nat.reduceLT, reduceIte, Nat.reduceEqDiff, Nat.reduceAdd, Nat.reduceLeDiff, Nat.reduceMul, Nat.reduceBEq, QXDDrC1, hk1, hw, hap] | refine rd0 rfl ?_)))
        cases hf : (fresh v.keepers[k].name ((v.keepers.take k).map Kp.name) == 0)
        ·have hf' : fresh v.keepers[k].name ((v.keepers.take k).map Kp.name) ≠ 0 := by simpa using hf
         rw [hset, if_neg hf', if_neg hf'] at hb
         rw [← hb]
         (repeat (first | simp only [↓QA, QB, Nat.reduceLT, reduceIte, Nat.reduceEqDiff, Nat.reduceAdd, Nat.reduceLeDiff, Nat.reduceMul, Nat.reduceBEq, QXDDrC1, hf] | refine rd0 rfl ?_))
         rfl
        ·have hf' : fresh v.keepers[k].name ((v.keepers.take k).map Kp.name) = 0 := by simpa using hf
         rw [hset, if_pos hf'] at hb
         (repeat (first | simp only [↓QA, QB, Nat.reduceLT, reduceIte, Nat.reduceEqDiff, Nat.reduceAdd, Nat.reduceLeDiff, Nat.reduceMul, Nat.reduceBEq, QXDDrC1, hf, hk1] | refine rd0 rfl ?_))
         ((first | refine callK_d (rkeeper_ok v k h hk1) rfl dd ?_ | refine callD_d (rkeeper_ok v k h hk1) rfl dd ?_); (repeat (first | simp only [↓QA, QB, Nat.reduceLT, reduceIte, Nat.reduceEqDiff, Nat.reduceAdd, Nat.reduceLeDiff, Nat.reduceMul, Nat.reduceBEq, QXDDrC1] | refine rd0 rfl ?_)))
         cases hg : (kpErr2 v k == 0)
         ·have hg' : kpErr2 v k ≠ 0 := by simpa using hg
          rw [if_neg hg'] at hb
          rw [← hb]
          (repeat (first | simp only [↓QA, QB, Nat.reduceLT, reduceIte, Nat.reduceEqDiff, Nat.reduceAdd, Nat.reduceLeDiff, Nat.reduceMul, Nat.reduceBEq, QXDDrC1, hg] | refine rd0 rfl ?_))
          rfl
         ·have hg' : kpErr2 v k = 0 := by simpa using hg
          (repeat (first | simp only [↓QA, QB, Nat.reduceLT, reduceIte, Nat.reduceEqDiff, Nat.reduceAdd, Nat.reduceLeDiff, Nat.reduceMul, Nat.reduceBEq, QXDDrC1, hg, hw] | refine rd0 rfl ?_))
          refine ⟨(k + 1, true), ⟨by simp only; omega, by rw [← hb, if_pos hg']⟩, by simp only; omega, ?_⟩
          try simp only [TrimX, QE, Nat.reduceLT, reduceIte, Nat.reduceEqDiff, Nat.reduceAdd, Nat.reduceLeDiff, Nat.reduceMul, Nat.reduceBEq, QXDDrC1, take_name hk1, hw]
          try simp [okBlk]
       ·have hk1 : k = v.keepers.length := by simp at hd; omega
        rw [firstBad_end hk1] at hb
        rw [← hb, hk1]
        (repeat (first | simp only [↓QA, QB, Nat.reduceLT, reduceIte, Nat.reduceEqDiff, Nat.reduceAdd, Nat.reduceLeDiff, Nat.reduceMul, Nat.reduceBEq, QXDDrC1] | refine rd0 rfl ?_))
        cases h6 : decide ((4 : Int) < (v.doors.length : Int))
        ·have h6' : ¬ 4 < v.doors.length := by first | (have := of_decide_eq_false h6; omega) | (have := of_decide_eq_true h6; omega)
         have hc : check3 v = match firstBad (drErr v) v.doors 0 with | some (i, e) => (3, (i : Int), e) | none => check4 v := by simp only [check3, h6', if_false]; rfl
         rw [hc]
         (repeat (first | simp only [↓QA, QB, Nat.reduceLT, reduceIte, Nat.reduceEqDiff, Nat.reduceAdd, Nat.reduceLeDiff, Nat.reduceMul, Nat.reduceBEq, QXDDrC1] | refine rd0 rfl ?_))
         refine loopE (S := Nat) 0 (fun k => k ≤ v.doors.length ∧ firstBad (drErr v) (v.doors.drop k) k = firstBad (drErr v) v.doors 0) (fun k => v.doors.length - k)
          (fun k => [(1, .ptr 0 0), (9, .int .i64 k)]) (fun _ => [.cells (voyCells v), .tok 1 v.keepers.length ex]) ⟨Nat.zero_le _, by simp⟩ (by simp [voyCells, ints]) ?_ fun j hj => ?_
         ·try simp only [TrimX, QE, Nat.reduceLT, reduceIte, Nat.reduceEqDiff, Nat.reduceAdd, Nat.reduceLeDiff, Nat.reduceMul, Nat.reduceBEq, QXDDrC1]
          try simp
         ·obtain ⟨hj, hbj⟩ := hj
          (repeat (first | simp only [↓QA, QB, Nat.reduceLT, reduceIte, Nat.reduceEqDiff, Nat.reduceAdd, Nat.reduceLeDiff, Nat.reduceMul, Nat.reduceBEq, QXDDrC1, L17_2] | refine rd0 rfl ?_))
          refine iteP_intro (fun hd2 => ?_) fun hd2 => ?_
          ·have hj1 : j < v.doors.length := by simpa using hd2
           rw [firstBad_step hj1] at hbj
           have hw2 := wrapN hj1 hfd
           have hde : drErr v j v.doors[j] = if inR v.doors[j].hour 0 v.hours = true then 0 else 7 := rfl
           rw [hde] at hbj
           (repeat (first | simp only [↓QA, QB, Nat.reduceLT, reduceIte, Nat.reduceEqDiff, Nat.reduceAdd, Nat.reduceLeDiff, Nat.reduceMul, Nat.reduceBEq, QXDDrC1, hj1] | refine rd0 rfl ?_))
           ((first | refine callK_d (rhour_ok v v.doors[j].hour) rfl dd ?_ | refine callD_d (rhour_ok v v.doors[j].hour) rfl dd ?_); (repeat (first | simp only [↓QA, QB, Nat.reduceLT, reduceIte, Nat.reduceEqDiff, Nat.reduceAdd, Nat.reduceLeDiff, Nat.reduceMul, Nat.reduceBEq, QXDDrC1, hj1] | refine rd0 rfl ?_)))
           cases hi : inR v.doors[j].hour 0 v.hours
           ·rw [hi] at hbj
            rw [← hbj]
            (repeat (first | simp only [↓QA, QB, Nat.reduceLT, reduceIte, Nat.reduceEqDiff, Nat.reduceAdd, Nat.reduceLeDiff, Nat.reduceMul, Nat.reduceBEq, QXDDrC1, hj1] | refine rd0 rfl ?_))
            rfl
           ·rw [hi] at hbj
            (repeat (first | simp only [↓QA, QB, Nat.reduceLT, reduceIte, Nat.reduceEqDiff, Nat.reduceAdd, Nat.reduceLeDiff, Nat.reduceMul, Nat.reduceBEq, QXDDrC1, hj1, hw2] | refine rd0 rfl ?_))
            refine ⟨j + 1, ⟨by omega, by rw [← hbj]; rfl⟩, by omega, ?_⟩
            try simp only [TrimX, QE, Nat.reduceLT, reduceIte, Nat.reduceEqDiff, Nat.reduceAdd, Nat.reduceLeDiff, Nat.reduceMul, Nat.reduceBEq, QXDDrC1, hw2]
            try simp
          ·have hj1 : j = v.doors.length := by simp at hd2; omega
           rw [firstBad_end hj1] at hbj
           rw [← hbj]
           (repeat (first | simp only [↓QA, QB, Nat.reduceLT, reduceIte, Nat.reduceEqDiff, Nat.reduceAdd, Nat.reduceLeDiff, Nat.reduceMul, Nat.reduceBEq, QXDDrC1] | refine rd0 rfl ?_))
           cases h7 : decide ((5 : Int) < (v.looks.length : Int))
           ·have h7' : ¬ 5 < v.looks.length := by first | (have := of_decide_eq_false h7; omega) | (have := of_decide_eq_true h7; omega)
            have hc : check4 v = match firstBad (lkErr v) v.looks 0 with | some (i, e) => (4, (i : Int), e) | none => (0, 0, 0) := by simp only [check4, h7', if_false]; rfl
            rw [hc]
            have hwl : IntKind.i64.wrap (v.lots - 1) = v.lots - 1 := wrap64 ⟨by omega, by omega⟩
            (repeat (first | simp only [↓QA, QB, Nat.reduceLT, reduceIte, Nat.reduceEqDiff, Nat.reduceAdd, Nat.reduceLeDiff, Nat.reduceMul, Nat.reduceBEq, QXDDrC1] | refine rd0 rfl ?_))
            refine loopE (S := Nat) 0 (fun k => k ≤ v.looks.length ∧ firstBad (lkErr v) (v.looks.drop k) k = firstBad (lkErr v) v.looks 0) (fun k => v.looks.length - k)
             (fun k => [(1, .ptr 0 0), (10, .int .i64 k)]) (fun _ => [.cells (voyCells v), .tok 1 v.keepers.length ex]) ⟨Nat.zero_le _, by simp⟩ (by simp [voyCells, ints]) ?_ fun m hm => ?_
            ·try simp only [TrimX, QE, Nat.reduceLT, reduceIte, Nat.reduceEqDiff, Nat.reduceAdd, Nat.reduceLeDiff, Nat.reduceMul, Nat.reduceBEq, QXDDrC1]
             try simp
            ·obtain ⟨hm, hbm⟩ := hm
             (repeat (first | simp only [↓QA, QB, Nat.reduceLT, reduceIte, Nat.reduceEqDiff, Nat.reduceAdd, Nat.reduceLeDiff, Nat.reduceMul, Nat.reduceBEq, QXDDrC1, L17_4] | refine rd0 rfl ?_))
             refine iteP_intro (fun hd3 => ?_) fun hd3 => ?_
             ·have hm1 : m < v.looks.length := by simpa using hd3
              rw [firstBad_step hm1] at hbm
              have hw3 := wrapN hm1 hfl
              have hle : lkErr v m v.looks[m] = if inR v.looks[m].lot 0 (v.lots - 1) = false then 4 else if inR v.looks[m].hour 0 v.hours = true then 0 else 7 := rfl
              rw [hle] at hbm
              (repeat (first | simp only [↓QA, QB, Nat.reduceLT, reduceIte, Nat.reduceEqDiff, Nat.reduceAdd, Nat.reduceLeDiff, Nat.reduceMul, Nat.reduceBEq, QXDDrC1, hm1, hwl] | refine rd0 rfl ?_))
              ((first | refine callK_d (in_ok v.looks[m].lot 0 (v.lots - 1)) rfl dd ?_ | refine callD_d (in_ok v.looks[m].lot 0 (v.lots - 1)) rfl dd ?_); (repeat (first | simp only [↓QA, QB, Nat.reduceLT, reduceIte, Nat.reduceEqDiff, Nat.reduceAdd, Nat.reduceLeDiff, Nat.reduceMul, Nat.reduceBEq, QXDDrC1, hm1] | refine rd0 rfl ?_)))
              cases hi : inR v.looks[m].lot 0 (v.lots - 1)
              ·rw [hi] at hbm
               rw [← hbm]
               (repeat (first | simp only [↓QA, QB, Nat.reduceLT, reduceIte, Nat.reduceEqDiff, Nat.reduceAdd, Nat.reduceLeDiff, Nat.reduceMul, Nat.reduceBEq, QXDDrC1, hm1] | refine rd0 rfl ?_))
               rfl
              ·rw [hi] at hbm
               (repeat (first | simp only [↓QA, QB, Nat.reduceLT, reduceIte, Nat.reduceEqDiff, Nat.reduceAdd, Nat.reduceLeDiff, Nat.reduceMul, Nat.reduceBEq, QXDDrC1, hm1] | refine rd0 rfl ?_))
               ((first | refine callK_d (rhour_ok v v.looks[m].hour) rfl dd ?_ | refine callD_d (rhour_ok v v.looks[m].hour) rfl dd ?_); (repeat (first | simp only [↓QA, QB, Nat.reduceLT, reduceIte, Nat.reduceEqDiff, Nat.reduceAdd, Nat.reduceLeDiff, Nat.reduceMul, Nat.reduceBEq, QXDDrC1, hm1] | refine rd0 rfl ?_)))
               cases hi2 : inR v.looks[m].hour 0 v.hours
               ·rw [hi2] at hbm
                rw [← hbm]
                (repeat (first | simp only [↓QA, QB, Nat.reduceLT, reduceIte, Nat.reduceEqDiff, Nat.reduceAdd, Nat.reduceLeDiff, Nat.reduceMul, Nat.reduceBEq, QXDDrC1, hm1] | refine rd0 rfl ?_))
                rfl
               ·rw [hi2] at hbm
                (repeat (first | simp only [↓QA, QB, Nat.reduceLT, reduceIte, Nat.reduceEqDiff, Nat.reduceAdd, Nat.reduceLeDiff, Nat.reduceMul, Nat.reduceBEq, QXDDrC1, hm1, hw3] | refine rd0 rfl ?_))
                refine ⟨m + 1, ⟨by omega, by rw [← hbm]; rfl⟩, by omega, ?_⟩
                try simp only [TrimX, QE, Nat.reduceLT, reduceIte, Nat.reduceEqDiff, Nat.reduceAdd, Nat.reduceLeDiff, Nat.reduceMul, Nat.reduceBEq, QXDDrC1, hw3]
                try simp
             ·have hm1 : m = v.looks.length := by simp at hd3; omega
              rw [firstBad_end hm1] at hbm
              rw [← hbm]
              (repeat (first | simp only [↓QA, QB, Nat.reduceLT, reduceIte, Nat.reduceEqDiff, Nat.reduceAdd, Nat.reduceLeDiff, Nat.reduceMul, Nat.reduceBEq, QXDDrC1] | refine rd0 rfl ?_))
              rfl
           ·have h7' : 5 < v.looks.length := by first | (have := of_decide_eq_false h7; omega) | (have := of_decide_eq_true h7; omega)
            (repeat (first | simp only [↓QA, QB, Nat.reduceLT, reduceIte, Nat.reduceEqDiff, Nat.reduceAdd, Nat.reduceLeDiff, Nat.reduceMul, Nat.reduceBEq, QXDDrC1] | refine rd0 rfl ?_))
            simp [check4, h7', enc3]
        ·have h6' : 4 < v.doors.length := by first | (have := of_decide_eq_false h6; omega) | (have := of_decide_eq_true h6; omega)
         (repeat (first | simp only [↓QA, QB, Nat.reduceLT, reduceIte, Nat.reduceEqDiff, Nat.reduceAdd, Nat.reduceLeDiff, Nat.reduceMul, Nat.reduceBEq, QXDDrC1] | refine rd0 rfl ?_))
         simp [check3, h6', enc3]
  ·have h2' : ends v.delay 0 8 = 7 := by simpa using h2
   (repeat (first | simp only [↓QA, QB, Nat.reduceLT, reduceIte, Nat.reduceEqDiff, Nat.reduceAdd, Nat.reduceLeDiff, Nat.reduceMul, Nat.reduceBEq, QXDDrC1, h2] | refine rd0 rfl ?_))
   simp [check, h2', enc3]
def app0 (sz : Nat) (σ : St) (xs : List AV) : AV × St := if xs.length = 0 then (.lit [] true none, σ) else (.lit xs false (some σ.length), σ ++ [.tok sz xs.length true])
theorem app0_eq {sz b : Nat} {σ : St} {xs : List AV} {f : Bool} {tk : Option Nat} (h : AppOk sz b [] xs) : appendAV sz b σ (.lit [] true none) (.lit xs f tk) = some ((app0 sz σ xs).1, (app0 sz σ xs).2) := by
 by_cases h0 : xs.length = 0
 ·have : xs = [] := List.length_eq_zero_iff.1 h0
  subst this
  rw [app_nil]; simp [app0]
 ·rw [app_full h h0]; simp [app0, h0]
theorem app0_more {sz b : Nat} {σ : St} {xs ys : List AV} {f : Bool} {tk : Option Nat} (h : AppOk sz b xs ys) (hy : ys.length ≠ 0) : appendAV sz b (app0 sz σ xs).2 (app0 sz σ xs).1 (.lit ys f tk) = some (.lit (xs ++ ys) false (some σ.length), σ ++ [.tok sz (xs.length + ys.length) true]) := by
 by_cases h0 : xs.length = 0
 ·have : xs = [] := List.length_eq_zero_iff.1 h0
  subst this
  simp only [app0, List.length_nil, if_true]
  rw [app_full h hy]
  simp
 ·simp only [app0, h0, if_false]
  rw [app_tok (ex := true) h hy (by simp)]
  simp
theorem allCells_lit {xs l : List AV} {f : Bool} {t : Option Nat} (h : allCells 1 xs = true) : allCells 1 (xs ++ [.lit l f t]) = true := by
 unfold allCells at *
 rw [List.all_append, h]
 rfl
end Go.Am.Room
set_option maxRecDepth 4000
namespace Go.Am.Room
def QXDDrC2 := And.intro @encVoy_eq (And.intro @voyCells_eq (And.intro @encKp_eq (And.intro @encDoor_eq (And.intro @encLook_eq (And.intro @encSpan_eq (And.intro @S_mapKp (And.intro @S_mapDoor (And.intro @S_mapLook (And.intro @encTn_eq (And.intro @S_mapTn (@S_mapTns)))))))))))
theorem rso_ok (x : Look) (n : Int) : Pure T 99 [encLook x, .int .i64 n] (.bool (soAt x n)) := by
 refine pure_fn (af := a99) rfl (by simp [a99]) dd ?_
 have hs : soAt x n = (x.turned == (!(n == -1) && decide (n ≤ x.hour))) := by
  simp only [soAt]
  congr 2
  rw [Bool.eq_iff_iff]; simp
 rw [hs]
 cases h : (n == -1)
 ·(repeat (first | simp only [↓QA, QB, Nat.reduceLT, reduceIte, Nat.reduceEqDiff, Nat.reduceAdd, Nat.reduceLeDiff, Nat.reduceMul, Nat.reduceBEq, QXDDrC2, a99, h] | refine rd0 rfl ?_))
 ·(repeat (first | simp only [↓QA, QB, Nat.reduceLT, reduceIte, Nat.reduceEqDiff, Nat.reduceAdd, Nat.reduceLeDiff, Nat.reduceMul, Nat.reduceBEq, QXDDrC2, a99, h, Bool.false_and] | refine rd0 rfl ?_))
theorem spanL_sub {l k : List Int} (hl : l ≠ []) (h : ∀ x ∈ l, x ∈ k) : (spanL k).lo ≤ (spanL l).lo ∧ (spanL l).hi ≤ (spanL k).hi := by
 have hk : k ≠ [] := by
  intro e; subst e
  exact absurd (h _ (spanL_spec hl).1) (by simp)
 have a := spanL_spec hl
 have b := spanL_spec hk
 exact ⟨(b.2.2 _ (h _ a.1)).1, (b.2.2 _ (h _ a.2.1)).2⟩
theorem how_not2 {l : List Truth} {n : Nat} (h : howIn l n ≠ 2) (hne : turnsIn l n ≠ []) : hoursIn l n ≠ [] := by
 intro e
 refine h (how_two.2 ⟨hne, fun w hw => ?_⟩)
 by_cases h1 : w.hour = -1
 ·exact h1
 ·have : w.hour ∈ hoursIn l n := mem_hours.2 ⟨h1, w, hw, rfl⟩
  rw [e] at this; cases this
theorem best_spec : ∀ (l : List (List Int)) (a : List Int), (l.foldl best a = a ∨ l.foldl best a ∈ l) ∧ fewer a (l.foldl best a) = false ∧ ∀ b ∈ l, fewer b (l.foldl best a) = false
 | [], a => ⟨.inl rfl, fewer_irr a, fun b hb => by cases hb⟩
 | c :: l, a => by
  obtain ⟨h1, h2, h3⟩ := best_spec l (best a c)
  simp only [List.foldl_cons]
  have hb : fewer a (best a c) = false ∧ fewer c (best a c) = false ∧ (best a c = a ∨ best a c = c) := by
   unfold best
   split
   ·rename_i h
    refine ⟨?_, fewer_irr c, .inr rfl⟩
    rw [Bool.eq_false_iff]
    intro h4
    have := fewer_trans h h4
    rw [fewer_irr] at this; cases this
   ·rename_i h
    exact ⟨fewer_irr a, by simpa using h, .inl rfl⟩
  refine ⟨?_, nfewer_trans h2 hb.1, fun b hm => ?_⟩
  ·rcases h1 with h1 | h1
   ·rcases hb.2.2 with e | e
    ·left; rw [h1, e]
    ·right; rw [h1, e]; simp
   ·right; simp [h1]
  ·rcases List.mem_cons.1 hm with rfl | hm
   ·exact nfewer_trans h2 hb.2.1
   ·exact h3 b hm
theorem fewest_spec {v : Voy} {l : List Truth} (h : l ≠ []) : (∃ t ∈ l, fewestL v l = unsure v t.op) ∧ ∀ t ∈ l, fewer (unsure v t.op) (fewestL v l) = false := by
 cases l with
 | nil => exact absurd rfl h
 | cons t l =>
  obtain ⟨h1, h2, h3⟩ := best_spec (l.map fun u => unsure v u.op) (unsure v t.op)
  simp only [fewestL]
  refine ⟨?_, fun u hu => ?_⟩
  ·rcases h1 with e | e
   ·exact ⟨t, by simp, e⟩
   ·obtain ⟨u, hu, e2⟩ := List.mem_map.1 e
    exact ⟨u, by simp [hu], e2.symm⟩
  ·rcases List.mem_cons.1 hu with rfl | hu
   ·exact h2
   ·exact h3 _ (List.mem_map.2 ⟨u, hu, rfl⟩)
theorem some_ne {v : Voy} {but : List Int} (h : someB v but = true) : truths v but ≠ [] := by
 simpa [someB] using h
theorem fewer_len {a b : List Int} (h : fewer a b = false) : b.length ≤ a.length := by
 unfold fewer at h
 split at h
 ·omega
 ·simp at h; omega
def newD (v : Voy) (h : Int) : Voy := { v with doors := v.doors ++ [⟨h, false⟩] }
theorem new_vd {v : Voy} (hv : Vd v) {h : Int} (h1 : v.doors.length < 4) (h2 : 0 ≤ h ∧ h ≤ v.hours) : Vd (newD v h) := by
 refine ⟨hv.hours, hv.delay, hv.lots, hv.nkp, hv.kp, by simp [newD]; omega, fun d hd => ?_, hv.nlk, hv.lk⟩
 simp only [newD, List.mem_append, List.mem_singleton] at hd
 rcases hd with hd | rfl
 ·exact hv.dr d hd
 ·exact h2
theorem new_set {v : Voy} {h : Int} {bl : List Int} (hb : bl ∈ setsOf v) : bl ∈ setsOf (newD v h) := by
 have a := mem_sets.1 hb
 refine mem_sets.2 ⟨?_, fun k hk _ hs => ?_⟩
 ·have hl : (newD v h).doors.length = v.doors.length + 1 := by simp [newD]
  have hnl : ¬ (v.doors.length : Int) ∈ bl := fun hx => by have := setok_lt a hx; omega
  rw [hl, numbers_snoc, List.filter_append]
  have : List.filter (fun h => bl.contains h) [(0 : Int) + v.doors.length] = [] := by simp; exact hnl
  rw [this, List.append_nil]
  exact a.1
 ·by_cases h1 : k < v.doors.length
  ·have e : (newD v h).doors[k] = v.doors[k] := by simp only [newD]; exact List.getElem_append_left h1
   rw [e] at hs
   exact a.2 k h1 h1 hs
  ·have e0 : k = v.doors.length := by simp [newD] at hk; omega
   subst e0
   have e : (newD v h).doors[v.doors.length] = ⟨h, false⟩ := by simp [newD]
   rw [e] at hs; cases hs
theorem new_hour {v : Voy} {h d : Int} (hd : 0 ≤ d ∧ d < v.doors.length) : doorHour (newD v h) d = doorHour v d := by
 have h1 : d.toNat < v.doors.length := by omega
 simp only [doorHour, newD]
 rw [List.getElem?_append_left h1]
theorem new_sure {v : Voy} {h d : Int} (hd : 0 ≤ d ∧ d < v.doors.length) : isSure (newD v h) d = isSure v d := by
 have h1 : d.toNat < v.doors.length := by omega
 simp only [isSure, newD]
 rw [List.getElem?_append_left h1]
theorem new_turns {v : Voy} {h : Int} {bl but : List Int} {lot : Int} (hb : bl ∈ setsOf v) {w : Tn} (hw : w ∈ turnsOf v lot bl but) : w ∈ turnsOf (newD v h) lot bl but := by
 obtain ⟨h1, h2⟩ := mem_turns.1 hw
 refine mem_turns.2 ⟨?_, h2⟩
 rcases mem_all.1 h1 with e | ⟨d, hd, hw⟩
 ·exact mem_all.2 (.inl e)
 ·refine mem_all.2 (.inr ⟨d, hd, ?_⟩)
  rw [mem_ways] at hw ⊢
  rw [new_hour (setok_lt (mem_sets.1 hb) hd)]
  exact hw
theorem new_truth {v : Voy} {h : Int} {but : List Int} {t : Truth} (ht : t ∈ truths v but) : ∃ u ∈ truths (newD v h) but, u.op = t.op := by
 obtain ⟨h1, _, h3⟩ := mem_truths.1 ht
 refine ⟨⟨t.op, (List.range v.lots.toNat).map fun (n : Nat) => turnsOf (newD v h) (n : Int) t.op but⟩, mem_truths.2 ⟨new_set h1, rfl, fun n hn => ?_⟩, rfl⟩
 obtain ⟨w, hw⟩ := List.exists_mem_of_ne_nil _ (h3 n hn)
 exact List.ne_nil_of_mem (new_turns h1 hw)
theorem new_in {v : Voy} {h : Int} {but : List Int} {n : Nat} (hn : n < v.lots.toNat) {w : Tn} (hw : w ∈ turnsIn (truths v but) n) : w ∈ turnsIn (truths (newD v h) but) n := by
 obtain ⟨t, ht, h1⟩ := (mem_turnsIn hn).1 hw
 obtain ⟨u, hu, e⟩ := new_truth (h := h) ht
 exact (mem_turnsIn (v := newD v h) hn).2 ⟨u, hu, by rw [e]; exact new_turns (mem_truths.1 ht).1 h1⟩
theorem new_some {v : Voy} {h : Int} {but : List Int} (hs : someB v but = true) : someB (newD v h) but = true := by
 obtain ⟨t, ht⟩ := some_iffT.1 hs
 obtain ⟨u, hu, _⟩ := new_truth (h := h) ht
 exact some_iffT.2 ⟨u, hu⟩
theorem new_turned {v : Voy} {h : Int} (hs : someB v [] = true) {n : Nat} (hn : n < v.lots.toNat) :
  (howIn (truths v []) n ≠ 2 → howIn (truths (newD v h) []) n ≠ 2 ∧ (spanIn (truths (newD v h) []) n).lo ≤ (spanIn (truths v []) n).lo ∧ (spanIn (truths v []) n).hi ≤ (spanIn (truths (newD v h) []) n).hi) ∧ (howIn (truths v []) n ≠ 1 → howIn (truths (newD v h) []) n ≠ 1) := by
 have hne := turns_ne hs hn
 refine ⟨fun h1 => ⟨fun e => ?_, ?_⟩, fun h1 e => h1 (how_one.2 fun w hw => how_one.1 e w (new_in hn hw))⟩
 ·exact h1 (how_two.2 ⟨hne, fun w hw => (how_two.1 e).2 w (new_in hn hw)⟩)
 ·refine spanL_sub (how_not2 h1 hne) fun y hy => ?_
  obtain ⟨h2, w, hw, e⟩ := mem_hours.1 hy
  exact mem_hours.2 ⟨h2, w, new_in hn hw, e⟩
theorem new_causes {v : Voy} {h : Int} {n : Nat} (hn : n < v.lots.toNat) {d : Int} (hd : d ∈ causesIn v (truths v []) n) : d ∈ causesIn (newD v h) (truths (newD v h) []) n := by
 obtain ⟨h1, w, hw, e⟩ := mem_causes.1 hd
 exact mem_causes.2 ⟨by simp only [newD, List.length_append, List.length_cons, List.length_nil]; omega, w, new_in hn hw, e⟩
theorem new_fewest {v : Voy} {h : Int} (hs : someB v [] = true) : (fewestL (newD v h) (truths (newD v h) [])).length ≤ (fewestL v (truths v [])).length := by
 obtain ⟨t, ht, e⟩ := (fewest_spec (v := v) (some_ne hs)).1
 obtain ⟨u, hu, e2⟩ := new_truth (h := h) ht
 have e3 : unsure (newD v h) u.op = unsure v t.op := by
  rw [e2]
  refine List.filter_congr fun d hd => ?_
  rw [new_sure (setok_lt (mem_sets.1 (mem_truths.1 ht).1) hd)]
 rw [e, ← e3]
 exact fewer_len ((fewest_spec (v := newD v h) (some_ne (new_some hs))).2 u hu)
def plainV (v : Voy) : Voy := { v with looks := [] }
theorem plain_ok (v : Voy) (lot : Int) (but : List Int) (w : Tn) : turnOk (plainV v) lot but w = true := turn_iff.2 fun k hk => absurd hk (by simp [plainV])
theorem plain_vd {v : Voy} (hv : Vd v) : Vd (plainV v) := ⟨hv.hours, hv.delay, hv.lots, hv.nkp, hv.kp, hv.ndr, hv.dr, by simp [plainV], fun x hx => by cases hx⟩
theorem plain_some (v : Voy) : someB (plainV v) [] = true := some_free fun lot => plain_ok v lot _ _
theorem plain_fewest (v : Voy) : fewestL (plainV v) (truths (plainV v) []) = [] := by
 have ht : (⟨sureDs v, (List.range v.lots.toNat).map fun (n : Nat) => turnsOf (plainV v) (n : Int) (sureDs v) []⟩ : Truth) ∈ truths (plainV v) [] :=
  mem_truths.2 ⟨sureDs_set (plainV v), rfl, fun n hn => List.ne_nil_of_mem (never_turns (plain_ok v n [] _))⟩
 have h := (fewest_spec (v := plainV v) (some_ne (plain_some v))).2 _ ht
 have e : unsure (plainV v) (sureDs v) = [] := by
  simp only [unsure, sureDs, List.filter_filter, List.filter_eq_nil_iff]
  intro a _
  have : isSure (plainV v) a = isSure v a := rfl
  rw [this]
  cases isSure v a <;> simp
 rw [e] at h
 have := fewer_len h
 exact List.length_eq_zero_iff.1 (by simpa using this)
end Go.Am.Room
set_option maxRecDepth 4000
namespace Go.Am.Room
def QXDDrC3 := And.intro @encVoy_eq (And.intro @voyCells_eq (And.intro @encKp_eq (And.intro @encDoor_eq (And.intro @encLook_eq (And.intro @encSpan_eq (And.intro @S_mapKp (And.intro @S_mapDoor (@S_mapLook))))))))
theorem grow_len (x : Door) (n : Nat) (l : List Int) : (grow x n l).length ≤ 2 := by
 simp only [grow, List.length_append]
 split <;> simp
theorem setsUp_len (s : Voy) : ∀ n, (setsUp s n).length ≤ 2 ^ n
 | 0 => by simp [setsUp]
 | n + 1 => by
  have h1 := setsUp_len s n
  simp only [setsUp]
  split
  ·rename_i x _
   have h2 := flat_le (grow x n) 2 (setsUp s n) fun c _ => grow_len x n c
   rw [Nat.pow_succ]
   exact Nat.le_trans h2 (Nat.mul_le_mul_right _ h1)
  ·rw [Nat.pow_succ]; omega
theorem setsUp_in (s : Voy) : ∀ n, ∀ c ∈ setsUp s n, c.length ≤ n
 | 0 => by simp [setsUp]
 | n + 1 => by
  intro c hc
  simp only [setsUp] at hc
  split at hc
  ·simp only [List.mem_flatMap, grow, List.mem_append] at hc
   obtain ⟨d, hd, h⟩ := hc
   have := setsUp_in s n d hd
   rcases h with h | h
   ·split at h
    ·simp at h
    ·simp at h; subst h; omega
   ·simp at h; subst h; simp; omega
  ·have := setsUp_in s n c hc
   omega
theorem sets_small {s : Voy} (hv : Vd s) : (setsOf s).length ≤ 16 ∧ ∀ c ∈ setsOf s, c.length ≤ 4 := by
 have h := hv.ndr
 refine ⟨Nat.le_trans (setsUp_len s _) ?_, fun c hc => Nat.le_trans (setsUp_in s _ c hc) h⟩
 calc 2 ^ s.doors.length ≤ 2 ^ 4 := Nat.pow_le_pow_right (by omega) h
  _ = 16 := by decide
theorem rsets_ok (s : Voy) (hv : Vd s) : Pure T 75 [encVoy s] (intss (setsOf s)) := by
 refine pure_fn (af := a75) rfl (by simp [a75]) dd ?_
 have hno := hv.ndr
 rw [show setsOf s = setsUp s s.doors.length from rfl]
 (repeat (first | simp only [↓QA, QB, Nat.reduceLT, reduceIte, Nat.reduceEqDiff, Nat.reduceAdd, Nat.reduceLeDiff, Nat.reduceMul, Nat.reduceBEq, QXDDrC3, a75] | refine rd0 rfl ?_))
 refine loopE (S := Nat) 0 (fun n => n ≤ s.doors.length) (fun n => s.doors.length - n) (fun n => [(1, .ptr 0 0), (3, intss (setsUp s n)), (4, .int .i64 n)]) (fun _ => [.cells (voyCells s)]) (Nat.zero_le _) (by simp [voyCells, ints]) ?_ fun n hn => ?_
 ·try simp only [TrimX, QE, Nat.reduceLT, reduceIte, Nat.reduceEqDiff, Nat.reduceAdd, Nat.reduceLeDiff, Nat.reduceMul, Nat.reduceBEq, QXDDrC3]
  simp [intss, ints, setsUp, clr, clrs]
 ·(repeat (first | simp only [↓QA, QB, Nat.reduceLT, reduceIte, Nat.reduceEqDiff, Nat.reduceAdd, Nat.reduceLeDiff, Nat.reduceMul, Nat.reduceBEq, QXDDrC3, L75_0, intss] | refine rd0 rfl ?_))
  refine iteP_intro (fun h => ?_) fun h => ?_
  ·have hn1 : n < s.doors.length := by simpa using h
   have hwn : IntKind.i64.wrap ((n : Int) + 1) = ((n + 1 : Nat) : Int) := wrapN hn1 (by omega)
   have hsl : (setsUp s n).length ≤ 16 := Nat.le_trans (setsUp_len s n) (by
    calc 2 ^ n ≤ 2 ^ 4 := Nat.pow_le_pow_right (by omega) (by omega)
     _ = 16 := by decide)
   have hsl1 : (setsUp s (n + 1)).length ≤ 16 := Nat.le_trans (setsUp_len s (n + 1)) (by
    calc 2 ^ (n + 1) ≤ 2 ^ 4 := Nat.pow_le_pow_right (by omega) (by omega)
     _ = 16 := by decide)
   obtain ⟨x, hx⟩ : ∃ x, s.doors[n] = x := ⟨_, rfl⟩
   obtain ⟨R, hR⟩ : ∃ R, setsUp s (n + 1) = R := ⟨_, rfl⟩
   have hspec := setsUp_succ hn1
   rw [hR, hx] at hspec
   rw [hR] at hsl1
   (repeat (first | simp only [↓QA, QB, Nat.reduceLT, reduceIte, Nat.reduceEqDiff, Nat.reduceAdd, Nat.reduceLeDiff, Nat.reduceMul, Nat.reduceBEq, QXDDrC3] | refine rd0 rfl ?_))
   refine ghostK 5 1 [] rfl ?_
   refine loopE (S := Nat × List (List Int) × Bool) (0, [], false) (fun k => k.1 ≤ (setsUp s n).length ∧ k.2.1 ++ ((setsUp s n).drop k.1).flatMap (grow x n) = R) (fun k => (setsUp s n).length - k.1)
    (fun k => [(1, .ptr 0 0), (3, intss (setsUp s n)), (4, .int .i64 n), (5, .lit (k.2.1.map ints) false (some 1)), (6, .int .i64 k.1)]) (fun k => [.cells (voyCells s), .tok 1 k.2.1.length k.2.2]) ⟨Nat.zero_le _, by simp [hspec]⟩ (by simp [voyCells, ints]) ?_ fun k hk => ?_
   ·try simp only [TrimX, QE, Nat.reduceLT, reduceIte, Nat.reduceEqDiff, Nat.reduceAdd, Nat.reduceLeDiff, Nat.reduceMul, Nat.reduceBEq, QXDDrC3, intss]
    try simp
   ·obtain ⟨k, acc, ex⟩ := k
    obtain ⟨hk, hacc⟩ := hk
    simp only at hk hacc
    (repeat (first | simp only [↓QA, QB, Nat.reduceLT, reduceIte, Nat.reduceEqDiff, Nat.reduceAdd, Nat.reduceLeDiff, Nat.reduceMul, Nat.reduceBEq, QXDDrC3, L75_2, intss] | refine rd0 rfl ?_))
    refine iteP_intro (fun h2 => ?_) fun h2 => ?_
    ·have hk1 : k < (setsUp s n).length := by simpa using h2
     have hmem := List.getElem_mem hk1
     obtain ⟨c, hc⟩ : ∃ c, (setsUp s n)[k] = c := ⟨_, rfl⟩
     rw [hc] at hmem
     have hlen := setsUp_in s n c hmem
     rw [List.drop_eq_getElem_cons hk1, hc, List.flatMap_cons] at hacc
     have hacl : acc.length ≤ 16 := by
      have := congrArg List.length hacc
      simp only [List.length_append] at this
      omega
     have hwk : IntKind.i64.wrap ((k : Int) + 1) = ((k + 1 : Nat) : Int) := wrapN hk1 (by omega)
     have a0 : ∀ (σ : St), appendAV 1 8 σ (.lit [] true none) (.lit (c.map (.int .i64)) false none) = some ((app0 1 σ (c.map (.int .i64))).1, (app0 1 σ (c.map (.int .i64))).2) := fun σ => app0_eq ⟨rfl, allCells_int c, by simp [room]; omega, by simp [room]; omega⟩
     have a1 : ∀ (σ : St), appendAV 1 8 (app0 1 σ (c.map (.int .i64))).2 (app0 1 σ (c.map (.int .i64))).1 (.lit [.int .i64 n] true none) = some (.lit (c.map (.int .i64) ++ [.int .i64 n]) false (some σ.length), σ ++ [.tok 1 (c.length + 1) true]) := fun σ => by
      rw [app0_more ⟨allCells_int c, by simp [allCells, AV.cells, AV.cell], by simp [room]; omega, by simp [room]; omega⟩ (by simp)]
      simp
     have a2 : ∀ (b : ABlk) (τ : St) (ex : Bool) (xs : List AV) (m : Nat) (y : AV), xs.length = m → m ≤ 20 → allCells 1 (xs ++ [y]) = true → appendAV 1 24 (b :: .tok 1 m ex :: τ) (.lit xs false (some 1)) (.lit [y] true none) = some (.lit (xs ++ [y]) false (some 1), b :: .tok 1 (m + 1) true :: τ) := fun b τ ex xs m y hm hm2 hal => by
      simp only [allCells, List.all_append, Bool.and_eq_true] at hal
      rw [append_at (t := 1) (ex := ex) (sz := 1) ⟨hal.1, hal.2, by simp [room]; omega, by simp [room]; omega⟩ (by simp) m hm.symm rfl]
      simp
     have hca : allCells 1 (acc.map ints) = true := allCells_ints acc
     have hap := fun (b : ABlk) (τ : St) (ex : Bool) (l : List AV) (f : Bool) (t : Option Nat) => a2 b τ ex (acc.map ints) acc.length (.lit l f t) (by simp) (by omega) (allCells_lit hca)
     have hap2 := fun (b : ABlk) (τ : St) (ex : Bool) (l l2 : List AV) (f f2 : Bool) (t t2 : Option Nat) => a2 b τ ex (acc.map ints ++ [.lit l f t]) (acc.length + 1) (.lit l2 f2 t2) (by simp) (by omega) (allCells_lit (allCells_lit hca))
     cases d1 : x.sure
     ·have hg : grow x n c = [c, c ++ [(n : Int)]] := by simp [grow, d1]
      rw [hg] at hacc
      (repeat (first | simp only [↓QA, QB, Nat.reduceLT, reduceIte, Nat.reduceEqDiff, Nat.reduceAdd, Nat.reduceLeDiff, Nat.reduceMul, Nat.reduceBEq, QXDDrC3, hk1, hn1, hx, d1, hc, ints, hap, a0, a1, hap2] | refine rd0 rfl ?_))
      refine ⟨(k + 1, acc ++ [c, c ++ [(n : Int)]], true), ⟨by simp only; omega, by simpa using hacc⟩, by simp only; omega, ?_⟩
      try simp only [TrimX, QE, Nat.reduceLT, reduceIte, Nat.reduceEqDiff, Nat.reduceAdd, Nat.reduceLeDiff, Nat.reduceMul, Nat.reduceBEq, QXDDrC3, hwk, List.map_append, List.length_append, List.map_cons, List.map_nil, intss]
      try simp [okBlk]
     ·have hg : grow x n c = [c ++ [(n : Int)]] := by simp [grow, d1]
      rw [hg] at hacc
      (repeat (first | simp only [↓QA, QB, Nat.reduceLT, reduceIte, Nat.reduceEqDiff, Nat.reduceAdd, Nat.reduceLeDiff, Nat.reduceMul, Nat.reduceBEq, QXDDrC3, hk1, hn1, hx, d1, hc, ints, a0, a1, hap] | refine rd0 rfl ?_))
      refine ⟨(k + 1, acc ++ [c ++ [(n : Int)]], true), ⟨by simp only; omega, by simpa using hacc⟩, by simp only; omega, ?_⟩
      try simp only [TrimX, QE, Nat.reduceLT, reduceIte, Nat.reduceEqDiff, Nat.reduceAdd, Nat.reduceLeDiff, Nat.reduceMul, Nat.reduceBEq, QXDDrC3, hwk, List.map_append, List.length_append, List.map_cons, List.map_nil, intss]
      try simp [okBlk]
    ·have hk1 : k = (setsUp s n).length := by simp at h2; omega
     have hfin : acc = R := by rw [← hacc, hk1, List.drop_length]; simp
     (repeat (first | simp only [↓QA, QB, Nat.reduceLT, reduceIte, Nat.reduceEqDiff, Nat.reduceAdd, Nat.reduceLeDiff, Nat.reduceMul, Nat.reduceBEq, QXDDrC3] | refine rd0 rfl ?_))
     refine ⟨n + 1, by omega, by omega, ?_⟩
     try simp only [TrimX, QE, Nat.reduceLT, reduceIte, Nat.reduceEqDiff, Nat.reduceAdd, Nat.reduceLeDiff, Nat.reduceMul, Nat.reduceBEq, QXDDrC3, hwn, intss, hfin, hR]
  ·have hn1 : n = s.doors.length := by simp at h; omega
   subst hn1
   (repeat (first | simp only [↓QA, QB, Nat.reduceLT, reduceIte, Nat.reduceEqDiff, Nat.reduceAdd, Nat.reduceLeDiff, Nat.reduceMul, Nat.reduceBEq, QXDDrC3, intss] | refine rd0 rfl ?_))
end Go.Am.Room
set_option maxRecDepth 4000
namespace Go.Am.Room
def QXDDrC4 := And.intro @encVoy_eq (And.intro @voyCells_eq (And.intro @encKp_eq (And.intro @encDoor_eq (And.intro @encLook_eq (And.intro @encSpan_eq (And.intro @S_mapKp (And.intro @S_mapDoor (And.intro @S_mapLook (And.intro @encTn_eq (And.intro @S_mapTn (And.intro @S_mapTns (And.intro @T_sapp (@T_sapp0)))))))))))))
theorem allCells_tn (l : List Tn) : allCells 2 (l.map encTn) = true := L_allM 2 encTn l fun y => by simp [cellsOk, encTn, AV.cells, AV.cell]
theorem append_tn {σ : St} {l : List Tn} {t : Nat} {ex : Bool} (a b : Int) (hl : l.length ≤ 100) (ht : σ[t]? = some (.tok 2 l.length ex)) :
  appendAV 2 16 σ (.lit (l.map encTn) false (some t)) (.lit [.agg [.int .i64 a, .int .i64 b]] true none) = some (.lit ((l ++ [(⟨a, b⟩ : Tn)]).map encTn) false (some t), σ.set t (.tok 2 (l.length + 1) true)) := by
 have h1 : allCells 2 [encTn ⟨a, b⟩] = true := allCells_tn [⟨a, b⟩]
 have := app_tok (σ := σ) (sz := 2) (b := 16) (xs := l.map encTn) (ys := [encTn ⟨a, b⟩]) (t := t) (tk := none) (f := true) (ex := ex) ⟨allCells_tn l, h1, by simp [room]; omega, by simp [room]; omega⟩ (by simp) (by simpa using ht)
 simpa [encTn] using this
def wayAt (v : Voy) (d n : Int) : Option Tn := if inR (doorHour v d + n) 0 v.hours then some ⟨doorHour v d + n, d⟩ else none
theorem ways_eq (v : Voy) (d : Int) : waysOf v d = (numbers v.delay.lo (v.delay.hi + 1 - v.delay.lo).toNat).filterMap (wayAt v d) := rfl
theorem ways_len {v : Voy} (hv : Vd v) (d : Int) : (waysOf v d).length ≤ 9 := by
 have := hv.delay
 rw [ways_eq]
 refine Nat.le_trans (List.length_filterMap_le _ _) ?_
 rw [numbers_len]; omega
theorem all_len {v : Voy} (hv : Vd v) (op : List Int) (ho : op.length ≤ 4) : (allTurns v op).length ≤ 37 := by
 have := flat_le (waysOf v) 9 op fun d _ => ways_len hv d
 simp only [allTurns, List.length_cons]; omega
theorem turns_len {v : Voy} (hv : Vd v) (lot : Int) (op but : List Int) (ho : op.length ≤ 4) : (turnsOf v lot op but).length ≤ 37 := Nat.le_trans (List.length_filter_le _ _) (all_len hv op ho)
def turnUpTo (v : Voy) (lot : Int) (but : List Int) (t : Tn) (k : Nat) : Bool := (List.range k).all fun i => match v.looks[i]? with | some x => lookOk lot but t i x | none => true
theorem turnUpTo_succ {v : Voy} {k : Nat} (hk : k < v.looks.length) (lot : Int) (but : List Int) (t : Tn) : turnUpTo v lot but t (k + 1) = (turnUpTo v lot but t k && lookOk lot but t k v.looks[k]) := by
 simp [turnUpTo, List.range_succ, List.all_append, hk]
set_option maxHeartbeats 1000000 in
theorem rturns_ok (v : Voy) (hv : Vd v) (lot : Int) (op but : List Int) (hop : ∀ d ∈ op, 0 ≤ d ∧ d < v.doors.length) (ho : op.length ≤ 4) (hbu : but.length < 9223372036854775808) :
  Pure T 76 [encVoy v, .int .i64 lot, ints op, ints but] (tns (turnsOf v lot op but)) := by
 refine pure_fn (af := a76) rfl (by simp [a76]) dd ?_
 have hde := hv.delay
 have hhr := hv.hours
 have hnl := hv.nlk
 have hal := all_len hv op ho
 obtain ⟨R1, hR1⟩ : ∃ R1, allTurns v op = R1 := ⟨_, rfl⟩
 obtain ⟨R, hR⟩ : ∃ R, turnsOf v lot op but = R := ⟨_, rfl⟩
 have hRf : R1.filter (turnOk v lot but) = R := by rw [← hR1]; exact hR
 rw [hR1] at hal
 rw [hR]
 have h0 : [(⟨-1, -1⟩ : Tn)] ++ (op.drop 0).flatMap (waysOf v) = R1 := hR1
 obtain ⟨K, hK⟩ : ∃ K, (v.delay.hi + 1 - v.delay.lo).toNat = K := ⟨_, rfl⟩
 (repeat (first | simp only [↓QA, QB, Nat.reduceLT, reduceIte, Nat.reduceEqDiff, Nat.reduceAdd, Nat.reduceLeDiff, Nat.reduceMul, Nat.reduceBEq, QXDDrC4, a76] | refine rd0 rfl ?_))
 refine ghostK 9 2 [.agg [.int .i64 (-1), .int .i64 (-1)]] rfl ?_
 refine loopE (S := Nat × List Tn × Bool) (0, [⟨-1, -1⟩], false) (fun s => s.1 ≤ op.length ∧ s.2.1 ++ (op.drop s.1).flatMap (waysOf v) = R1) (fun s => op.length - s.1)
  (fun s => [(1, .int .i64 lot), (2, ints op), (3, ints but), (4, .ptr 0 0), (9, .lit (s.2.1.map encTn) false (some 1)), (10, .int .i64 s.1)]) (fun s => [.cells (voyCells v), .tok 2 s.2.1.length s.2.2]) ⟨Nat.zero_le _, h0⟩ (by simp [voyCells, ints]) ?_ fun s hs => ?_
 ·try simp only [TrimX, QE, Nat.reduceLT, reduceIte, Nat.reduceEqDiff, Nat.reduceAdd, Nat.reduceLeDiff, Nat.reduceMul, Nat.reduceBEq, QXDDrC4, List.map_cons, List.map_nil]
  try simp
 ·obtain ⟨i, acc, ex⟩ := s
  obtain ⟨hi, hacc⟩ := hs
  simp only at hi hacc
  (repeat (first | simp only [↓QA, QB, Nat.reduceLT, reduceIte, Nat.reduceEqDiff, Nat.reduceAdd, Nat.reduceLeDiff, Nat.reduceMul, Nat.reduceBEq, QXDDrC4, L76_0] | refine rd0 rfl ?_))
  refine iteP_intro (fun h => ?_) fun h => ?_
  ·have hi1 : i < op.length := by simpa using h
   have hwi := wrapN hi1 (by omega)
   have hd := hop _ (List.getElem_mem hi1)
   rw [List.drop_eq_getElem_cons hi1, List.flatMap_cons] at hacc
   obtain ⟨d, hde2⟩ : ∃ d, op[i] = d := ⟨_, rfl⟩
   rw [hde2] at hd hacc
   have hd0 : 0 ≤ d := hd.1
   have hd1 : d.toNat < v.doors.length := by omega
   have hho := hv.dr _ (List.getElem_mem hd1)
   have hdh : doorHour v d = v.doors[d.toNat].hour := by simp [doorHour, hd1]
   obtain ⟨H, hH⟩ : ∃ H, v.doors[d.toNat].hour = H := ⟨_, rfl⟩
   rw [hH] at hho hdh
   rw [ways_eq, hK] at hacc
   obtain ⟨Z, hZ⟩ : ∃ Z, (op.drop (i + 1)).flatMap (waysOf v) = Z := ⟨_, rfl⟩
   rw [hZ] at hacc
   (repeat (first | simp only [↓QA, QB, Nat.reduceLT, reduceIte, Nat.reduceEqDiff, Nat.reduceAdd, Nat.reduceLeDiff, Nat.reduceMul, Nat.reduceBEq, QXDDrC4] | refine rd0 rfl ?_))
   refine loopE (S := Nat × List Tn × Bool) (0, acc, ex) (fun s => s.1 ≤ K ∧ s.2.1 ++ ((numbers (v.delay.lo + (s.1 : Int)) (K - s.1)).filterMap (wayAt v d) ++ Z) = R1) (fun s => K - s.1)
    (fun s => [(1, .int .i64 lot), (2, ints op), (3, ints but), (4, .ptr 0 0), (9, .lit (s.2.1.map encTn) false (some 1)), (10, .int .i64 i), (11, .int .i64 (v.delay.lo + (s.1 : Int)))]) (fun s => [.cells (voyCells v), .tok 2 s.2.1.length s.2.2]) ⟨Nat.zero_le _, by simpa using hacc⟩ (by simp [voyCells, ints]) ?_ fun s hs => ?_
   ·try simp only [TrimX, QE, Nat.reduceLT, reduceIte, Nat.reduceEqDiff, Nat.reduceAdd, Nat.reduceLeDiff, Nat.reduceMul, Nat.reduceBEq, QXDDrC4]
    try simp
   ·obtain ⟨j, acc, ex⟩ := s
    obtain ⟨hj, hacc⟩ := hs
    simp only at hj hacc
    (repeat (first | simp only [↓QA, QB, Nat.reduceLT, reduceIte, Nat.reduceEqDiff, Nat.reduceAdd, Nat.reduceLeDiff, Nat.reduceMul, Nat.reduceBEq, QXDDrC4, L76_2] | refine rd0 rfl ?_))
    refine iteP_intro (fun h2 => ?_) fun h2 => ?_
    ·have hj1 : j < K := by have := of_decide_eq_true h2; omega
     have hwj : IntKind.i64.wrap (v.delay.lo + (j : Int) + 1) = v.delay.lo + ((j + 1 : Nat) : Int) := by rw [wrap64 ⟨by omega, by omega⟩]; omega
     have hwa : IntKind.i64.wrap (H + (v.delay.lo + (j : Int))) = H + (v.delay.lo + (j : Int)) := wrap64 ⟨by omega, by omega⟩
     rw [show K - j = (K - (j + 1)) + 1 by omega] at hacc
     simp only [numbers, List.filterMap_cons] at hacc
     rw [show v.delay.lo + (j : Int) + 1 = v.delay.lo + ((j + 1 : Nat) : Int) by omega] at hacc
     have hac : acc.length ≤ 37 := by
      have := congrArg List.length hacc
      simp only [List.length_append] at this
      omega
     have hwy : wayAt v d (v.delay.lo + (j : Int)) = if inR (H + (v.delay.lo + (j : Int))) 0 v.hours = true then some ⟨H + (v.delay.lo + (j : Int)), d⟩ else none := by simp only [wayAt, hdh]
     rw [hwy] at hacc
     (repeat (first | simp only [↓QA, QB, Nat.reduceLT, reduceIte, Nat.reduceEqDiff, Nat.reduceAdd, Nat.reduceLeDiff, Nat.reduceMul, Nat.reduceBEq, QXDDrC4, hi1, hde2, V_idxI, hd0, hd1, hH, hwa] | refine rd0 rfl ?_))
     ((first | refine callK_d (rhour_ok v (H + (v.delay.lo + (j : Int)))) rfl dd ?_ | refine callD_d (rhour_ok v (H + (v.delay.lo + (j : Int)))) rfl dd ?_); (repeat (first | simp only [↓QA, QB, Nat.reduceLT, reduceIte, Nat.reduceEqDiff, Nat.reduceAdd, Nat.reduceLeDiff, Nat.reduceMul, Nat.reduceBEq, QXDDrC4] | refine rd0 rfl ?_)))
     cases hin : inR (H + (v.delay.lo + (j : Int))) 0 v.hours
     ·rw [hin] at hacc
      simp only [Bool.false_eq_true, if_false] at hacc
      (repeat (first | simp only [↓QA, QB, Nat.reduceLT, reduceIte, Nat.reduceEqDiff, Nat.reduceAdd, Nat.reduceLeDiff, Nat.reduceMul, Nat.reduceBEq, QXDDrC4, hwj] | refine rd0 rfl ?_))
      refine ⟨(j + 1, acc, ex), ⟨by simp only; omega, hacc⟩, by simp only; omega, ?_⟩
      try simp only [TrimX, QE, Nat.reduceLT, reduceIte, Nat.reduceEqDiff, Nat.reduceAdd, Nat.reduceLeDiff, Nat.reduceMul, Nat.reduceBEq, QXDDrC4, hwj]
      try simp [okBlk]
     ·rw [hin] at hacc
      simp only [if_true] at hacc
      have hap := fun (b0 : ABlk) (τ : St) => append_tn (σ := b0 :: .tok 2 acc.length ex :: τ) (l := acc) (t := 1) (ex := ex) (H + (v.delay.lo + (j : Int))) d (by omega) rfl
      (repeat (first | simp only [↓QA, QB, Nat.reduceLT, reduceIte, Nat.reduceEqDiff, Nat.reduceAdd, Nat.reduceLeDiff, Nat.reduceMul, Nat.reduceBEq, QXDDrC4, hi1, hde2, hap, hwj] | refine rd0 rfl ?_))
      refine ⟨(j + 1, acc ++ [⟨H + (v.delay.lo + (j : Int)), d⟩], true), ⟨by simp only; omega, by rw [← hacc]; simp⟩, by simp only; omega, ?_⟩
      try simp only [TrimX, QE, Nat.reduceLT, reduceIte, Nat.reduceEqDiff, Nat.reduceAdd, Nat.reduceLeDiff, Nat.reduceMul, Nat.reduceBEq, QXDDrC4, hwj, List.map_append, List.map_cons, List.map_nil]
      try simp [okBlk]
    ·have hj1 : j = K := by have := of_decide_eq_false h2; omega
     rw [hj1, Nat.sub_self] at hacc
     simp only [numbers, List.filterMap_nil, List.nil_append] at hacc
     (repeat (first | simp only [↓QA, QB, Nat.reduceLT, reduceIte, Nat.reduceEqDiff, Nat.reduceAdd, Nat.reduceLeDiff, Nat.reduceMul, Nat.reduceBEq, QXDDrC4, hwi] | refine rd0 rfl ?_))
     refine ⟨(i + 1, acc, ex), ⟨by simp only; omega, by simp only; rw [hZ]; exact hacc⟩, by simp only; omega, ?_⟩
     try simp only [TrimX, QE, Nat.reduceLT, reduceIte, Nat.reduceEqDiff, Nat.reduceAdd, Nat.reduceLeDiff, Nat.reduceMul, Nat.reduceBEq, QXDDrC4, hwi]
     try simp [okBlk]
  ·have hi1 : i = op.length := by simp at h; omega
   rw [hi1, List.drop_length] at hacc
   simp only [List.flatMap_nil, List.append_nil] at hacc
   subst hacc
   have hRf' : [] ++ (acc.drop 0).filter (turnOk v lot but) = R := hRf
   (repeat (first | simp only [↓QA, QB, Nat.reduceLT, reduceIte, Nat.reduceEqDiff, Nat.reduceAdd, Nat.reduceLeDiff, Nat.reduceMul, Nat.reduceBEq, QXDDrC4] | refine rd0 rfl ?_))
   refine ghostK 13 2 [] rfl ?_
   refine loopE (S := Nat × List Tn × Bool) (0, [], false) (fun s => s.1 ≤ acc.length ∧ s.2.1.length ≤ s.1 ∧ s.2.1 ++ (acc.drop s.1).filter (turnOk v lot but) = R) (fun s => acc.length - s.1)
    (fun s => [(1, .int .i64 lot), (3, ints but), (4, .ptr 0 0), (9, .lit (acc.map encTn) false (some 1)), (13, .lit (s.2.1.map encTn) false (some 2)), (14, .int .i64 s.1)]) (fun s => [.cells (voyCells v), .tok 2 acc.length ex, .tok 2 s.2.1.length s.2.2]) ⟨Nat.zero_le _, by simp, hRf'⟩ (by simp [voyCells, ints]) ?_ fun s hs => ?_
   ·try simp only [TrimX, QE, Nat.reduceLT, reduceIte, Nat.reduceEqDiff, Nat.reduceAdd, Nat.reduceLeDiff, Nat.reduceMul, Nat.reduceBEq, QXDDrC4]
    try simp
   ·obtain ⟨i, out, ex2⟩ := s
    obtain ⟨hi, hol, hout⟩ := hs
    simp only at hi hol hout
    (repeat (first | simp only [↓QA, QB, Nat.reduceLT, reduceIte, Nat.reduceEqDiff, Nat.reduceAdd, Nat.reduceLeDiff, Nat.reduceMul, Nat.reduceBEq, QXDDrC4, L76_4] | refine rd0 rfl ?_))
    refine iteP_intro (fun h => ?_) fun h => ?_
    ·have hi1 : i < acc.length := by simpa using h
     have hwi := wrapN hi1 (by omega)
     rw [List.drop_eq_getElem_cons hi1, List.filter_cons] at hout
     obtain ⟨w, hw⟩ : ∃ w, acc[i] = w := ⟨_, rfl⟩
     rw [hw] at hout
     (repeat (first | simp only [↓QA, QB, Nat.reduceLT, reduceIte, Nat.reduceEqDiff, Nat.reduceAdd, Nat.reduceLeDiff, Nat.reduceMul, Nat.reduceBEq, QXDDrC4] | refine rd0 rfl ?_))
     refine loopE (S := Nat) 0 (fun k => k ≤ v.looks.length) (fun k => v.looks.length - k)
      (fun k => [(1, .int .i64 lot), (3, ints but), (4, .ptr 0 0), (9, .lit (acc.map encTn) false (some 1)), (13, .lit (out.map encTn) false (some 2)), (14, .int .i64 i), (15, .bool (turnUpTo v lot but w k)), (16, .int .i64 k)]) (fun _ => [.cells (voyCells v), .tok 2 acc.length ex, .tok 2 out.length ex2]) (Nat.zero_le _) (by simp [voyCells, ints]) ?_ fun k hk => ?_
     ·try simp only [TrimX, QE, Nat.reduceLT, reduceIte, Nat.reduceEqDiff, Nat.reduceAdd, Nat.reduceLeDiff, Nat.reduceMul, Nat.reduceBEq, QXDDrC4]
      try simp [turnUpTo]
     ·(repeat (first | simp only [↓QA, QB, Nat.reduceLT, reduceIte, Nat.reduceEqDiff, Nat.reduceAdd, Nat.reduceLeDiff, Nat.reduceMul, Nat.reduceBEq, QXDDrC4, L76_6] | refine rd0 rfl ?_))
      refine iteP_intro (fun h2 => ?_) fun h2 => ?_
      ·have hk1 : k < v.looks.length := by simpa using h2
       have hwk := wrapN hk1 (by omega)
       have hsu := turnUpTo_succ hk1 lot but w
       obtain ⟨x, hx⟩ : ∃ x, v.looks[k] = x := ⟨_, rfl⟩
       rw [hx] at hsu
       simp only [lookOk] at hsu
       have hxl : decide (x.lot = lot) = (x.lot == lot) := by rw [Bool.eq_iff_iff]; simp
       rw [hxl] at hsu
       cases hc : turnUpTo v lot but w k
       ·rw [hc, Bool.false_and] at hsu
        (repeat (first | simp only [↓QA, QB, Nat.reduceLT, reduceIte, Nat.reduceEqDiff, Nat.reduceAdd, Nat.reduceLeDiff, Nat.reduceMul, Nat.reduceBEq, QXDDrC4, hk1, hx, hwk] | refine rd0 rfl ?_))
        refine ⟨k + 1, by omega, by omega, ?_⟩
        try simp only [TrimX, QE, Nat.reduceLT, reduceIte, Nat.reduceEqDiff, Nat.reduceAdd, Nat.reduceLeDiff, Nat.reduceMul, Nat.reduceBEq, QXDDrC4, hwk, hsu]
        try simp [okBlk]
       ·rw [hc, Bool.true_and] at hsu
        cases hl : (x.lot == lot)
        ·rw [hl] at hsu
         simp only [Bool.not_false, Bool.true_or] at hsu
         (repeat (first | simp only [↓QA, QB, Nat.reduceLT, reduceIte, Nat.reduceEqDiff, Nat.reduceAdd, Nat.reduceLeDiff, Nat.reduceMul, Nat.reduceBEq, QXDDrC4, hk1, hx, hl, hwk] | refine rd0 rfl ?_))
         refine ⟨k + 1, by omega, by omega, ?_⟩
         try simp only [TrimX, QE, Nat.reduceLT, reduceIte, Nat.reduceEqDiff, Nat.reduceAdd, Nat.reduceLeDiff, Nat.reduceMul, Nat.reduceBEq, QXDDrC4, hwk, hsu]
         try simp [okBlk]
        ·rw [hl] at hsu
         simp only [Bool.not_true, Bool.false_or] at hsu
         (repeat (first | simp only [↓QA, QB, Nat.reduceLT, reduceIte, Nat.reduceEqDiff, Nat.reduceAdd, Nat.reduceLeDiff, Nat.reduceMul, Nat.reduceBEq, QXDDrC4, hk1, hx, hl] | refine rd0 rfl ?_))
         ((first | refine callK_d (has_ok but (k : Int) hbu) rfl dd ?_ | refine callD_d (has_ok but (k : Int) hbu) rfl dd ?_); (repeat (first | simp only [↓QA, QB, Nat.reduceLT, reduceIte, Nat.reduceEqDiff, Nat.reduceAdd, Nat.reduceLeDiff, Nat.reduceMul, Nat.reduceBEq, QXDDrC4] | refine rd0 rfl ?_)))
         cases hb : but.contains (k : Int)
         ·rw [hb, Bool.false_or] at hsu
          (repeat (first | simp only [↓QA, QB, Nat.reduceLT, reduceIte, Nat.reduceEqDiff, Nat.reduceAdd, Nat.reduceLeDiff, Nat.reduceMul, Nat.reduceBEq, QXDDrC4, hi1, hw] | refine rd0 rfl ?_))
          ((first | refine callK_d (rso_ok x w.hour) rfl dd ?_ | refine callD_d (rso_ok x w.hour) rfl dd ?_); (repeat (first | simp only [↓QA, QB, Nat.reduceLT, reduceIte, Nat.reduceEqDiff, Nat.reduceAdd, Nat.reduceLeDiff, Nat.reduceMul, Nat.reduceBEq, QXDDrC4, hi1, hw, hwk] | refine rd0 rfl ?_)))
          refine ⟨k + 1, by omega, by omega, ?_⟩
          try simp only [TrimX, QE, Nat.reduceLT, reduceIte, Nat.reduceEqDiff, Nat.reduceAdd, Nat.reduceLeDiff, Nat.reduceMul, Nat.reduceBEq, QXDDrC4, hwk, hsu]
          try simp [okBlk]
         ·rw [hb, Bool.true_or] at hsu
          (repeat (first | simp only [↓QA, QB, Nat.reduceLT, reduceIte, Nat.reduceEqDiff, Nat.reduceAdd, Nat.reduceLeDiff, Nat.reduceMul, Nat.reduceBEq, QXDDrC4, hwk] | refine rd0 rfl ?_))
          refine ⟨k + 1, by omega, by omega, ?_⟩
          try simp only [TrimX, QE, Nat.reduceLT, reduceIte, Nat.reduceEqDiff, Nat.reduceAdd, Nat.reduceLeDiff, Nat.reduceMul, Nat.reduceBEq, QXDDrC4, hwk, hsu]
          try simp [okBlk]
      ·have hk1 : k = v.looks.length := by simp at h2; omega
       subst hk1
       have hto : turnUpTo v lot but w v.looks.length = turnOk v lot but w := rfl
       rw [hto]
       cases hc : turnOk v lot but w
       ·rw [hc] at hout
        simp only [Bool.false_eq_true, if_false] at hout
        (repeat (first | simp only [↓QA, QB, Nat.reduceLT, reduceIte, Nat.reduceEqDiff, Nat.reduceAdd, Nat.reduceLeDiff, Nat.reduceMul, Nat.reduceBEq, QXDDrC4, hwi] | refine rd0 rfl ?_))
        refine ⟨(i + 1, out, ex2), ⟨by simp only; omega, by simp only; omega, hout⟩, by simp only; omega, ?_⟩
        try simp only [TrimX, QE, Nat.reduceLT, reduceIte, Nat.reduceEqDiff, Nat.reduceAdd, Nat.reduceLeDiff, Nat.reduceMul, Nat.reduceBEq, QXDDrC4, hwi]
        try simp [okBlk]
       ·rw [hc] at hout
        simp only [if_true] at hout
        have hap := fun (b0 b1 : ABlk) (τ : St) => append_tn (σ := b0 :: b1 :: .tok 2 out.length ex2 :: τ) (l := out) (t := 2) (ex := ex2) w.hour w.door (by omega) rfl
        (repeat (first | simp only [↓QA, QB, Nat.reduceLT, reduceIte, Nat.reduceEqDiff, Nat.reduceAdd, Nat.reduceLeDiff, Nat.reduceMul, Nat.reduceBEq, QXDDrC4, hi1, hw, hap, hwi] | refine rd0 rfl ?_))
        refine ⟨(i + 1, out ++ [w], true), ⟨by simp only; omega, by simp only [List.length_append, List.length_cons, List.length_nil]; omega, by rw [← hout]; simp⟩, by simp only; omega, ?_⟩
        try simp only [TrimX, QE, Nat.reduceLT, reduceIte, Nat.reduceEqDiff, Nat.reduceAdd, Nat.reduceLeDiff, Nat.reduceMul, Nat.reduceBEq, QXDDrC4, hwi, List.map_append, List.map_cons, List.map_nil]
        try simp [okBlk]
    ·have hi1 : i = acc.length := by simp at h; omega
     rw [hi1, List.drop_length] at hout
     simp only [List.filter_nil, List.append_nil] at hout
     subst hout
     (repeat (first | simp only [↓QA, QB, Nat.reduceLT, reduceIte, Nat.reduceEqDiff, Nat.reduceAdd, Nat.reduceLeDiff, Nat.reduceMul, Nat.reduceBEq, QXDDrC4, tns] | refine rd0 rfl ?_))
end Go.Am.Room
set_option maxRecDepth 4000
namespace Go.Am.Room
def QXDDrC5 := And.intro @encVoy_eq (And.intro @voyCells_eq (And.intro @encKp_eq (And.intro @encDoor_eq (And.intro @encLook_eq (And.intro @encSpan_eq (And.intro @S_mapKp (And.intro @S_mapDoor (And.intro @S_mapLook (And.intro @T_sapp (And.intro @T_sapp0 (And.intro @S_mapT (And.intro @encTn_eq (And.intro @S_mapTn (@S_mapTns))))))))))))))
theorem allCells_tns (l : List (List Tn)) : allCells 1 (l.map tns) = true := L_allM 1 tns l fun x => C_lit _ _ _
def turnsTo (v : Voy) (bl but : List Int) (k : Nat) : List (List Tn) := (List.range k).map fun (h : Nat) => turnsOf v (h : Int) bl but
def allIn (v : Voy) (bl but : List Int) (k : Nat) : Bool := (turnsTo v bl but k).all fun x => !x.isEmpty
theorem turnsTo_succ (v : Voy) (bl but : List Int) (k : Nat) : turnsTo v bl but (k + 1) = turnsTo v bl but k ++ [turnsOf v (k : Int) bl but] := by simp [turnsTo, List.range_succ]
theorem allIn_succ (v : Voy) (bl but : List Int) (k : Nat) : allIn v bl but (k + 1) = (allIn v bl but k && !(turnsOf v (k : Int) bl but).isEmpty) := by simp [allIn, turnsTo_succ, List.all_append]
theorem allIn_le {v : Voy} {bl but : List Int} {k : Nat} (h : allIn v bl but k = false) : ∀ j, k ≤ j → allIn v bl but j = false := by
  intro j hj
  induction j with
  | zero => have : k = 0 := by omega
            subst this; exact h
  | succ j ih =>
    by_cases hk : k = j + 1
    · subst hk; exact h
    · rw [allIn_succ, ih (by omega), Bool.false_and]
theorem truthOf_eq (v : Voy) (but bl : List Int) : truthOf v but bl = if allIn v bl but v.lots.toNat = true then some ⟨bl, turnsTo v bl but v.lots.toNat⟩ else none := rfl
theorem truths_len {v : Voy} (hv : Vd v) (but : List Int) : (truths v but).length ≤ 16 := Nat.le_trans (List.length_filterMap_le _ _) (sets_small hv).1
theorem truths_in (v : Voy) (hv : Vd v) (but : List Int) (hbu : but.length < 9223372036854775808) (bl : List Int) (hbl : bl.length ≤ 4) (hop : ∀ d ∈ bl, 0 ≤ d ∧ d < v.doors.length) (k : Nat) (hk : k < (setsOf v).length) (hkb : (setsOf v)[k] = bl) (acc : List Truth) (ex : Bool) (e : Env) (K : KJ)
  (e1 : Env.get e 1 = ints but) (e2 : Env.get e 2 = .ptr 0 0) (e5 : Env.get e 5 = intss (setsOf v)) (e6 : Env.get e 6 = .lit (acc.map encTruth) false (some 1)) (e7 : Env.get e 7 = .int .i64 k) (e8 : Env.get e 8 = .ptr 2 0) (e9 : Env.get e 9 = .bool true) (e10 : Env.get e 10 = .int .i64 0)
  (hK : ∀ e' xs f tk τ, (∀ t, tk = some t → 2 < t) → (allIn v bl but v.lots.toNat = true → xs = (turnsTo v bl but v.lots.toNat).map tns) → Env.get e' 1 = ints but → Env.get e' 2 = .ptr 0 0 → Env.get e' 5 = intss (setsOf v) → Env.get e' 6 = .lit (acc.map encTruth) false (some 1) → Env.get e' 7 = .int .i64 k → Env.get e' 8 = .ptr 2 0 → Env.get e' 9 = .bool (allIn v bl but v.lots.toNat) →
   K (some (.exit 2)) e' (.cells (voyCells v) :: .tok 2 acc.length ex :: .cells [.lit (bl.map (.int .i64)) false none, .lit xs f tk] :: τ)) :
  rK (K := ⟨K⟩) T (.loop L45_2) e [.cells (voyCells v), .tok 2 acc.length ex, .cells [.lit (bl.map (.int .i64)) false none, .lit [] true none]] := by
 have hno := hv.lots
 refine loopE (S := Nat × Bool × Option Nat × St) (0, true, none, []) (fun a => a.1 ≤ v.lots.toNat ∧ ∀ t, a.2.2.1 = some t → 2 < t ∧ t < 3 + a.2.2.2.length) (fun a => v.lots.toNat - a.1)
  (fun a => [(1, ints but), (2, .ptr 0 0), (5, intss (setsOf v)), (6, .lit (acc.map encTruth) false (some 1)), (7, .int .i64 k), (8, .ptr 2 0), (9, .bool (allIn v bl but a.1)), (10, .int .i64 a.1)])
  (fun a => .cells (voyCells v) :: .tok 2 acc.length ex :: .cells [.lit (bl.map (.int .i64)) false none, .lit ((turnsTo v bl but a.1).map tns) a.2.1 a.2.2.1] :: a.2.2.2) ⟨Nat.zero_le _, fun t h => by cases h⟩ rfl ?_ fun a ha => ?_
 ·try simp only [TrimX, QE, Nat.reduceLT, reduceIte, Nat.reduceEqDiff, Nat.reduceAdd, Nat.reduceLeDiff, Nat.reduceMul, Nat.reduceBEq, QXDDrC5, e1, e2, e5, e6, e7, e8, e9, e10]
  try simp [allIn, turnsTo]
 ·obtain ⟨h, f, tk, τ⟩ := a
  obtain ⟨hh, htk⟩ := ha
  simp only at hh htk
  by_cases hh1 : h < v.lots.toNat
  ·have g : decide ((h : Int) < v.lots) = true := by simp; omega
   have hw := wrapN hh1 (by omega)
   have hsucc := turnsTo_succ v bl but h
   have hall := allIn_succ v bl but h
   cases hc : allIn v bl but h
   ·have hfull := allIn_le hc v.lots.toNat hh
    (repeat (first | simp only [↓QA, QB, Nat.reduceLT, reduceIte, Nat.reduceEqDiff, Nat.reduceAdd, Nat.reduceLeDiff, Nat.reduceMul, Nat.reduceBEq, QXDDrC5, L45_2, g] | refine rd0 rfl ?_))
    have hk0 := hK
    rw [voyCells_eq, hfull] at hk0
    refine hk0 _ _ f tk τ (fun t ht => (htk t ht).1) (fun h => by cases h) ?_ ?_ ?_ ?_ ?_ ?_ ?_
    all_goals try simp only [TrimX, QE, Nat.reduceLT, reduceIte, Nat.reduceEqDiff, Nat.reduceAdd, Nat.reduceLeDiff, Nat.reduceMul, Nat.reduceBEq, QXDDrC5]
   ·rw [hc, Bool.true_and] at hall
    obtain ⟨l, hl⟩ : ∃ l, turnsOf v (h : Int) bl but = l := ⟨_, rfl⟩
    have hll := turns_len hv (h : Int) bl but hbl
    have hst := rturns_ok v hv (h : Int) bl but hop hbl hbu
    rw [hl] at hst hsucc hall hll
    have hlenp : decide ((0 : Int) < (l.length : Int)) = !l.isEmpty := by cases l <;> simp
    obtain ⟨xs, hxs⟩ : ∃ xs, (turnsTo v bl but h).map tns = xs := ⟨_, rfl⟩
    have hxl : xs.length ≤ 4 := by rw [← hxs]; simp [turnsTo]; omega
    have hxa : allCells 1 xs = true := by rw [← hxs]; exact allCells_tns _
    have a0 : ∀ (σ : St), appendAV 1 24 σ (.lit [] true none) (.lit xs f tk) = some ((app0 1 σ xs).1, (app0 1 σ xs).2) := fun σ => app0_eq ⟨rfl, hxa, by simp [room]; omega, by simp [room]; omega⟩
    have a1 : ∀ (σ : St), appendAV 1 24 (app0 1 σ xs).2 (app0 1 σ xs).1 (.lit [.lit (l.map encTn) false none] true none) = some (.lit (xs ++ [.lit (l.map encTn) false none]) false (some σ.length), σ ++ [.tok 1 (xs.length + 1) true]) := fun σ => by
     rw [app0_more ⟨hxa, by simp [allCells, AV.cells, AV.cell], by simp [room]; omega, by simp [room]; omega⟩ (by simp)]
     simp
    simp only [hxs]
    (repeat (first | simp only [↓QA, QB, Nat.reduceLT, reduceIte, Nat.reduceEqDiff, Nat.reduceAdd, Nat.reduceLeDiff, Nat.reduceMul, Nat.reduceBEq, QXDDrC5, L45_2, g, hk, hkb, intss, ints, tns_eq] | refine rd0 rfl ?_))
    ((first | refine callK_d (hst) rfl dd ?_ | refine callD_d (hst) rfl dd ?_); (repeat (first | simp only [↓QA, QB, Nat.reduceLT, reduceIte, Nat.reduceEqDiff, Nat.reduceAdd, Nat.reduceLeDiff, Nat.reduceMul, Nat.reduceBEq, QXDDrC5, hlenp, a0, a1, hk, hkb, intss, ints, tns_eq] | refine rd0 rfl ?_)))
    refine ⟨(h + 1, false, some (τ.length + 1 + 1 + 1), τ ++ [.tok 1 (xs.length + 1) true]), ⟨by simp only; omega, fun t ht => by simp only [Option.some.injEq] at ht; subst ht; simp only [List.length_append, List.length_cons, List.length_nil]; omega⟩, by simp only; omega, ?_⟩
    rw [hsucc, hall, List.map_append, hxs]
    try simp only [TrimX, QE, Nat.reduceLT, reduceIte, Nat.reduceEqDiff, Nat.reduceAdd, Nat.reduceLeDiff, Nat.reduceMul, Nat.reduceBEq, QXDDrC5, hw, List.map_append, List.map_cons, List.map_nil, List.length_append, intss, ints, tns_eq]
    try simp [okBlk, okVs, okV]
    exact ⟨ok_datas (datas_map (data_int .i64) bl) _, okVs_app (ok_datas (by rw [← hxs]; exact datas_map data_tns _) _) (ok_datas (datas_cons (data_tns l) datas_nil) _)⟩
  ·have g : decide ((h : Int) < v.lots) = false := by simp; omega
   obtain rfl : h = v.lots.toNat := by omega
   (repeat (first | simp only [↓QA, QB, Nat.reduceLT, reduceIte, Nat.reduceEqDiff, Nat.reduceAdd, Nat.reduceLeDiff, Nat.reduceMul, Nat.reduceBEq, QXDDrC5, L45_2, g] | refine rd0 rfl ?_))
   have hk0 := hK
   rw [voyCells_eq] at hk0
   refine hk0 _ _ f tk τ (fun t ht => (htk t ht).1) (fun _ => rfl) ?_ ?_ ?_ ?_ ?_ ?_ ?_
   all_goals try simp only [TrimX, QE, Nat.reduceLT, reduceIte, Nat.reduceEqDiff, Nat.reduceAdd, Nat.reduceLeDiff, Nat.reduceMul, Nat.reduceBEq, QXDDrC5]
theorem allCells_truths (l : List Truth) : allCells 2 (l.map encTruth) = true := L_allM 2 encTruth l fun x => by simp [cellsOk, encTruth, AV.cells, AV.cell, ints, intss]
theorem rtruths_ok (v : Voy) (hv : Vd v) (but : List Int) (hbu : but.length < 9223372036854775808) : Pure T 45 [encVoy v, ints but] (truthsAV (truths v but)) := by
 refine pure_fn (af := a45) rfl (by simp [a45]) dd ?_
 have hno := hv.lots
 have hss := sets_small hv
 obtain ⟨R, hR⟩ : ∃ R, truths v but = R := ⟨_, rfl⟩
 have hRl := truths_len hv but
 have hR' : [] ++ ((setsOf v).drop 0).filterMap (truthOf v but) = R := hR
 rw [hR] at hRl ⊢
 (repeat (first | simp only [↓QA, QB, Nat.reduceLT, reduceIte, Nat.reduceEqDiff, Nat.reduceAdd, Nat.reduceLeDiff, Nat.reduceMul, Nat.reduceBEq, QXDDrC5, a45] | refine rd0 rfl ?_))
 ((first | refine callK_d (rsets_ok v hv) rfl dd ?_ | refine callD_d (rsets_ok v hv) rfl dd ?_); (repeat (first | simp only [↓QA, QB, Nat.reduceLT, reduceIte, Nat.reduceEqDiff, Nat.reduceAdd, Nat.reduceLeDiff, Nat.reduceMul, Nat.reduceBEq, QXDDrC5] | refine rd0 rfl ?_)))
 refine ghostK 6 2 [] rfl ?_
 refine loopE (S := Nat × List Truth × Bool) (0, [], false) (fun a => a.1 ≤ (setsOf v).length ∧ a.2.1 ++ ((setsOf v).drop a.1).filterMap (truthOf v but) = R) (fun a => (setsOf v).length - a.1)
  (fun a => [(1, ints but), (2, .ptr 0 0), (5, intss (setsOf v)), (6, .lit (a.2.1.map encTruth) false (some 1)), (7, .int .i64 a.1)])
  (fun a => [.cells (voyCells v), .tok 2 a.2.1.length a.2.2]) ⟨Nat.zero_le _, hR'⟩ (by simp [voyCells, ints]) ?_ fun a ha => ?_
 ·try simp only [TrimX, QE, Nat.reduceLT, reduceIte, Nat.reduceEqDiff, Nat.reduceAdd, Nat.reduceLeDiff, Nat.reduceMul, Nat.reduceBEq, QXDDrC5]
  try simp
 ·obtain ⟨k, acc, ex⟩ := a
  obtain ⟨hk, hacc⟩ := ha
  simp only at hk hacc
  (repeat (first | simp only [↓QA, QB, Nat.reduceLT, reduceIte, Nat.reduceEqDiff, Nat.reduceAdd, Nat.reduceLeDiff, Nat.reduceMul, Nat.reduceBEq, QXDDrC5, L45_0, intss] | refine rd0 rfl ?_))
  refine iteP_intro (fun hd => ?_) fun hd => ?_
  ·have hk1 : k < (setsOf v).length := by simpa using hd
   have hw := wrapN hk1 (by omega)
   obtain ⟨bl, hbl⟩ : ∃ bl, (setsOf v)[k] = bl := ⟨_, rfl⟩
   have hbll := hss.2 _ (List.getElem_mem hk1)
   rw [hbl] at hbll
   rw [List.drop_eq_getElem_cons hk1, hbl, List.filterMap_cons] at hacc
   have hal : acc.length ≤ 16 := by
    have := congrArg List.length hacc
    simp only [List.length_append] at this
    omega
   have hop : ∀ d ∈ bl, 0 ≤ d ∧ d < v.doors.length := fun d hd => by
    have := mem_sets.1 (show bl ∈ setsOf v by rw [← hbl]; exact List.getElem_mem hk1)
    have := setok_lt this hd
    omega
   have hin := truths_in v hv but hbu bl hbll hop k hk1 hbl acc ex
   rw [voyCells_eq] at hin
   have hap := fun (y : AV) (hy : allCells 2 [y] = true) (τ : St) => append_at (σ := .cells (voyCells v) :: .tok 2 acc.length ex :: τ) (t := 1) (ex := ex) (sz := 2) (b := 48) (xs := acc.map encTruth) (ys := [y]) (f := true) (tk := none) ⟨allCells_truths acc, hy, by simp [room]; omega, by simp [room]; omega⟩ (by simp) acc.length (by simp) rfl
   rw [voyCells_eq] at hap
   have hap2 := fun (l : List AV) (f : Bool) (tk : Option Nat) => hap (.agg [.lit (bl.map (.int .i64)) false none, .lit l f tk]) rfl
   (repeat (first | simp only [↓QA, QB, Nat.reduceLT, reduceIte, Nat.reduceEqDiff, Nat.reduceAdd, Nat.reduceLeDiff, Nat.reduceMul, Nat.reduceBEq, QXDDrC5, hk1, hbl, ints, intss, tns_eq] | refine rd0 rfl ?_))
   refine hin _ _ ?_ ?_ ?_ ?_ ?_ ?_ ?_ ?_ ?_
   all_goals try try simp only [TrimX, QE, Nat.reduceLT, reduceIte, Nat.reduceEqDiff, Nat.reduceAdd, Nat.reduceLeDiff, Nat.reduceMul, Nat.reduceBEq, QXDDrC5, intss, ints, tns_eq]
   intro e' xs f tk τ htk hxs q1 q2 q5 q6 q7 q8 q9
   cases hall : allIn v bl but v.lots.toNat
   ·rw [truthOf_eq, hall] at hacc
    rw [hall] at q9
    (repeat (first | simp only [↓QA, QB, Nat.reduceLT, reduceIte, Nat.reduceEqDiff, Nat.reduceAdd, Nat.reduceLeDiff, Nat.reduceMul, Nat.reduceBEq, QXDDrC5, q1, q2, q5, q6, q7, q8, q9, ints, intss, tns_eq] | refine rd0 rfl ?_))
    refine ⟨(k + 1, acc, ex), ⟨by simp only; omega, by simpa using hacc⟩, by simp only; omega, ?_⟩
    try simp only [TrimX, QE, Nat.reduceLT, reduceIte, Nat.reduceEqDiff, Nat.reduceAdd, Nat.reduceLeDiff, Nat.reduceMul, Nat.reduceBEq, QXDDrC5, q1, q2, q5, q6, q7, q8, q9, hw, ints, intss, tns_eq]
    try simp [okBlk]
   ·rw [truthOf_eq, hall] at hacc
    rw [hall] at q9
    rw [hxs hall]
    (repeat (first | simp only [↓QA, QB, Nat.reduceLT, reduceIte, Nat.reduceEqDiff, Nat.reduceAdd, Nat.reduceLeDiff, Nat.reduceMul, Nat.reduceBEq, QXDDrC5, q1, q2, q5, q6, q7, q8, q9, ints, intss, tns_eq, hap2] | refine rd0 rfl ?_))
    refine ⟨(k + 1, acc ++ [⟨bl, turnsTo v bl but v.lots.toNat⟩], true), ⟨by simp only; omega, by simpa using hacc⟩, by simp only; omega, ?_⟩
    cases tk with
    | none =>
     try simp only [TrimX, QE, Nat.reduceLT, reduceIte, Nat.reduceEqDiff, Nat.reduceAdd, Nat.reduceLeDiff, Nat.reduceMul, Nat.reduceBEq, QXDDrC5, q1, q2, q5, q6, q7, q8, q9, hw, ints, intss, tns_eq, List.map_append, List.map_cons, List.map_nil, List.length_append, encTruth_eq, Bool.and_false]
     try simp [okBlk]
    | some t =>
     have h2 := htk t rfl
     try simp only [TrimX, QE, Nat.reduceLT, reduceIte, Nat.reduceEqDiff, Nat.reduceAdd, Nat.reduceLeDiff, Nat.reduceMul, Nat.reduceBEq, QXDDrC5, q1, q2, q5, q6, q7, q8, q9, hw, ints, intss, tns_eq, List.map_append, List.map_cons, List.map_nil, List.length_append, encTruth_eq, Bool.and_false, Nat.not_lt.2 (Nat.le_of_lt h2)]
     try simp [okBlk]
  ·have hk1 : k = (setsOf v).length := by simp at hd; omega
   rw [hk1, List.drop_length] at hacc
   simp only [List.filterMap_nil, List.append_nil] at hacc
   subst hacc
   (repeat (first | simp only [↓QA, QB, Nat.reduceLT, reduceIte, Nat.reduceEqDiff, Nat.reduceAdd, Nat.reduceLeDiff, Nat.reduceMul, Nat.reduceBEq, QXDDrC5, truthsAV] | refine rd0 rfl ?_))
   try try simp only [QS, QC, Nat.reduceLT, reduceIte, Nat.reduceEqDiff, Nat.reduceAdd, Nat.reduceLeDiff, Nat.reduceMul, Nat.reduceBEq, QXDDrC5]
end Go.Am.Room
set_option maxRecDepth 4000
namespace Go.Am.Room
theorem voy_nil (v : Voy) : clrs [encVoy v, .lit [] true none] = [encVoy v, ints []] := by simp [clrs, (data_voy v).2, clr, ints]
theorem voy_nil_ok (v : Voy) : okVs 0 [encVoy v, .lit [] true none] := ⟨(data_voy v).1, by simp [okV, okVs], trivial⟩
end Go.Am.Room
set_option maxRecDepth 8000
namespace Go.Am.Room
def u8s (l : List Int) : AV := .lit (l.map (.int .u8)) false none
theorem data_u8s (l : List Int) : Data (u8s l) := data_list (data_int .u8) l
instance (l : List Int) : Dat (u8s l) := ⟨data_u8s l⟩
theorem subset_ok (a b : List Int) (ha : a.length < 9223372036854775808) (hb : b.length < 9223372036854775808) : Pure T 39 [ints a, ints b] (.bool (a.all b.contains)) := by
 refine pure_fn (af := a39) rfl (by simp [a39]) dd ?_
 (repeat (first | simp only [↓QA, QB, Nat.reduceLT, reduceIte, Nat.reduceEqDiff, Nat.reduceAdd, Nat.reduceLeDiff, Nat.reduceMul, Nat.reduceBEq, QXDLawC, a39] | refine rd0 rfl ?_))
 refine loopE (S := Nat) 0 (fun k => k ≤ a.length ∧ (a.drop k).all b.contains = a.all b.contains) (fun k => a.length - k) (fun k => [(0, ints a), (1, ints b), (5, .int .i64 k)]) (fun _ => []) ⟨by simp, by simp⟩ rfl ?_ fun k hk => ?_
 ·try simp only [TrimX, QE, Nat.reduceLT, reduceIte, Nat.reduceEqDiff, Nat.reduceAdd, Nat.reduceLeDiff, Nat.reduceMul, Nat.reduceBEq, QXDLawC]
  try simp
 ·obtain ⟨hk, hq⟩ := hk
  (repeat (first | simp only [↓QA, QB, Nat.reduceLT, reduceIte, Nat.reduceEqDiff, Nat.reduceAdd, Nat.reduceLeDiff, Nat.reduceMul, Nat.reduceBEq, QXDLawC, L39_0] | refine rd0 rfl ?_))
  refine iteP_intro (fun h => ?_) fun h => ?_
  ·have hk1 : k < a.length := by simpa using h
   have hw := wrapN hk1 ha
   rw [List.drop_eq_getElem_cons hk1, List.all_cons] at hq
   (repeat (first | simp only [↓QA, QB, Nat.reduceLT, reduceIte, Nat.reduceEqDiff, Nat.reduceAdd, Nat.reduceLeDiff, Nat.reduceMul, Nat.reduceBEq, QXDLawC, hk1] | refine rd0 rfl ?_))
   ((first | refine callK_d (has_ok b a[k] hb) rfl dd ?_ | refine callD_d (has_ok b a[k] hb) rfl dd ?_); (repeat (first | simp only [↓QA, QB, Nat.reduceLT, reduceIte, Nat.reduceEqDiff, Nat.reduceAdd, Nat.reduceLeDiff, Nat.reduceMul, Nat.reduceBEq, QXDLawC, hk1] | refine rd0 rfl ?_)))
   cases h2 : b.contains a[k]
   ·rw [h2, Bool.false_and] at hq
    (repeat (first | simp only [↓QA, QB, Nat.reduceLT, reduceIte, Nat.reduceEqDiff, Nat.reduceAdd, Nat.reduceLeDiff, Nat.reduceMul, Nat.reduceBEq, QXDLawC, ← hq] | refine rd0 rfl ?_))
   ·rw [h2, Bool.true_and] at hq
    (repeat (first | simp only [↓QA, QB, Nat.reduceLT, reduceIte, Nat.reduceEqDiff, Nat.reduceAdd, Nat.reduceLeDiff, Nat.reduceMul, Nat.reduceBEq, QXDLawC, hk1] | refine rd0 rfl ?_))
    refine ⟨k + 1, ⟨by omega, hq⟩, by omega, ?_⟩
    try simp only [TrimX, QE, Nat.reduceLT, reduceIte, Nat.reduceEqDiff, Nat.reduceAdd, Nat.reduceLeDiff, Nat.reduceMul, Nat.reduceBEq, QXDLawC, hw]
  ·have hk1 : k = a.length := by simp at h; omega
   rw [hk1, List.drop_length, List.all_nil] at hq
   (repeat (first | simp only [↓QA, QB, Nat.reduceLT, reduceIte, Nat.reduceEqDiff, Nat.reduceAdd, Nat.reduceLeDiff, Nat.reduceMul, Nat.reduceBEq, QXDLawC, ← hq] | refine rd0 rfl ?_))
end Go.Am.Room
set_option maxRecDepth 8000
namespace Go.Am.Room
theorem valid_ok (v : Voy) (hf : Fits v) : Pure T 37 [encVoy v] (.bool (decide ((check v).2.2 = 0))) := by
 refine pure_fn (af := a37) rfl (by simp [a37]) dd ?_
 (repeat (first | simp only [↓QA, QB, Nat.reduceLT, reduceIte, Nat.reduceEqDiff, Nat.reduceAdd, Nat.reduceLeDiff, Nat.reduceMul, Nat.reduceBEq, QXDDrQ1, a37] | refine rd0 rfl ?_))
 ((first | refine callK_d (refcheck_ok v hf) rfl dd ?_ | refine callD_d (refcheck_ok v hf) rfl dd ?_); (repeat (first | simp only [↓QA, QB, Nat.reduceLT, reduceIte, Nat.reduceEqDiff, Nat.reduceAdd, Nat.reduceLeDiff, Nat.reduceMul, Nat.reduceBEq, QXDDrQ1, enc3] | refine rd0 rfl ?_)))
 try rfl
 try (simp; rfl)
def someV (v : Voy) : Bool := decide ((check v).2.2 = 0) && someB v []
theorem some2_ok (v : Voy) (hf : Fits v) : Pure T 43 [encVoy v] (.bool (someV v)) := by
 refine pure_fn (af := a43) rfl (by simp [a43]) dd ?_
 (repeat (first | simp only [↓QA, QB, Nat.reduceLT, reduceIte, Nat.reduceEqDiff, Nat.reduceAdd, Nat.reduceLeDiff, Nat.reduceMul, Nat.reduceBEq, QXDDrQ1, a43] | refine rd0 rfl ?_))
 ((first | refine callK_d (valid_ok v hf) rfl dd ?_ | refine callD_d (valid_ok v hf) rfl dd ?_); (repeat (first | simp only [↓QA, QB, Nat.reduceLT, reduceIte, Nat.reduceEqDiff, Nat.reduceAdd, Nat.reduceLeDiff, Nat.reduceMul, Nat.reduceBEq, QXDDrQ1] | refine rd0 rfl ?_)))
 cases h0 : decide ((check v).2.2 = 0)
 ·(repeat (first | simp only [↓QA, QB, Nat.reduceLT, reduceIte, Nat.reduceEqDiff, Nat.reduceAdd, Nat.reduceLeDiff, Nat.reduceMul, Nat.reduceBEq, QXDDrQ1, someV, h0, Bool.false_and] | refine rd0 rfl ?_))
 ·have hv := vd_of_check (by simpa using h0)
  have hs := rtruths_ok v hv [] (by simp)
  (repeat (first | simp only [↓QA, QB, Nat.reduceLT, reduceIte, Nat.reduceEqDiff, Nat.reduceAdd, Nat.reduceLeDiff, Nat.reduceMul, Nat.reduceBEq, QXDDrQ1] | refine rd0 rfl ?_))
  refine callK_v hs (voy_nil v) (voy_nil_ok v) ?_
  (repeat (first | simp only [↓QA, QB, Nat.reduceLT, reduceIte, Nat.reduceEqDiff, Nat.reduceAdd, Nat.reduceLeDiff, Nat.reduceMul, Nat.reduceBEq, QXDDrQ1, someV, h0, Bool.true_and, truthsAV] | refine rd0 rfl ?_))
  have e : decide ((0 : Int) < (truths v []).length) = someB v [] := by
   simp only [someB]
   cases truths v [] <;> simp
  rw [e]
end Go.Am.Room
set_option maxRecDepth 8000
namespace Go.Am.Room
theorem lst5 {n m : Nat} (h : m ≤ n) (p : Int → Bool) : ((numbers 0 m).filter p).length ≤ n := by
 have := List.length_filter_le p (numbers 0 m)
 rw [numbers_len] at this
 omega
theorem causes_lenO (v : Voy) (n : Int) : (causesOf v n).1.length ≤ 4 := by
 unfold causesOf
 split
 ·rename_i h0
  exact lst5 (errAsk_ok (errKnown_ok h0).1).1.ndr _
 ·simp
end Go.Am.Room
namespace Go.Am
variable {T : FuncId → Option AFunc}
theorem seq_tail {a x y : ACode} {e : Env} {σ : St} {Q : Out → Prop} {K : KJ} (h : wp T (.seq a x) e σ K) (hK : ∀ j e' σ', K j e' σ' → j = none) (h2 : ∀ e' σ', wp T x e' σ' K → Run T (.code y e' σ') Q) : Run T (.code (.seq a y) e σ) Q := by
 refine .seq (run_wp (show wp T a e σ _ from by simpa only [wp] using h) fun o ho => ho) (fun o ho hj => ?_) fun o ho hj => ?_
 ·rw [hj] at ho
  simp only [thenK] at ho
  exact h2 _ _ ho
 ·cases hq : o.j with
  | none => exact absurd hq hj
  | some q => rw [hq] at ho; simp only [thenK] at ho; exact absurd (hK _ _ _ ho) (by simp)
theorem end_none {R : Env → St → Prop} : ∀ j e' σ', (fun j e' σ' => j = none ∧ R e' σ' : KJ) j e' σ' → j = none := fun _ _ _ h => h.1
theorem seq2_run {a b d : ACode} {e : Env} {σ : St} {Q : Out → Prop} (R : Env → St → Prop) (h : wp T (.seq a b) e σ fun j e' σ' => j = none ∧ R e' σ') (h2 : ∀ e' σ', R e' σ' → Run T (.code d e' σ') Q) : Run T (.code (.seq a (.seq b d)) e σ) Q :=
 seq_tail h end_none fun _ _ k => seq_run R k h2
theorem seq3_run {a b c d : ACode} {e : Env} {σ : St} {Q : Out → Prop} (R : Env → St → Prop) (h : wp T (.seq a (.seq b c)) e σ fun j e' σ' => j = none ∧ R e' σ') (h2 : ∀ e' σ', R e' σ' → Run T (.code d e' σ') Q) : Run T (.code (.seq a (.seq b (.seq c d))) e σ) Q :=
 seq_tail h end_none fun _ _ k => seq2_run R k h2
theorem seq4_run {a b c c1 d : ACode} {e : Env} {σ : St} {Q : Out → Prop} (R : Env → St → Prop) (h : wp T (.seq a (.seq b (.seq c c1))) e σ fun j e' σ' => j = none ∧ R e' σ') (h2 : ∀ e' σ', R e' σ' → Run T (.code d e' σ') Q) : Run T (.code (.seq a (.seq b (.seq c (.seq c1 d)))) e σ) Q :=
 seq_tail h end_none fun _ _ k => seq3_run R k h2
theorem seq5_run {a b c c1 c2 d : ACode} {e : Env} {σ : St} {Q : Out → Prop} (R : Env → St → Prop) (h : wp T (.seq a (.seq b (.seq c (.seq c1 c2)))) e σ fun j e' σ' => j = none ∧ R e' σ') (h2 : ∀ e' σ', R e' σ' → Run T (.code d e' σ') Q) : Run T (.code (.seq a (.seq b (.seq c (.seq c1 (.seq c2 d))))) e σ) Q :=
 seq_tail h end_none fun _ _ k => seq4_run R k h2
theorem seq6_run {a b c c1 c2 c3 d : ACode} {e : Env} {σ : St} {Q : Out → Prop} (R : Env → St → Prop) (h : wp T (.seq a (.seq b (.seq c (.seq c1 (.seq c2 c3))))) e σ fun j e' σ' => j = none ∧ R e' σ') (h2 : ∀ e' σ', R e' σ' → Run T (.code d e' σ') Q) : Run T (.code (.seq a (.seq b (.seq c (.seq c1 (.seq c2 (.seq c3 d)))))) e σ) Q :=
 seq_tail h end_none fun _ _ k => seq5_run R k h2
end Go.Am
namespace Go.Am
variable {T : FuncId → Option AFunc}
end Go.Am
set_option maxRecDepth 8000
namespace Go.Am.Room
theorem some_iff {v : Voy} : someV v = true ↔ (check v).2.2 = 0 ∧ someB v [] = true := by simp [someV]
theorem known0 {v : Voy} (h : someV v = true) : errKnown v 0 = 0 := by
 have := (some_iff.1 h).2
 simp only [someB, Bool.not_eq_true'] at this
 simp [errKnown, this]
theorem wholeN {v : Voy} (h : someV v = false) : wholeErr v ≠ 0 := by
 intro h0
 obtain ⟨h1, h2⟩ := errKnown_ok h0
 rw [some_iff.2 ⟨h1, some_ofne h2⟩] at h; cases h
theorem whole0 {v : Voy} (h : someV v = true) : wholeErr v = 0 := by rw [wholeErr, (some_iff.1 h).1]; exact known0 h
theorem lot0 {v : Voy} (h : someV v = true) {n : Nat} (hn : n < v.lots.toNat) : lotErr v n = 0 := by
 have : inR (n : Int) 0 (v.lots - 1) = true := inR_iff.2 (by omega)
 rw [lotErr, errAsk, if_pos (some_iff.1 h).1, this]
 exact known0 h
theorem nat_rem {a : Int} {n : Nat} (ha : 0 ≤ a) (hn : 0 < n) : ∃ j : Nat, a.tmod (n : Int) = (j : Int) ∧ j < n := by
 refine ⟨(a.tmod n).toNat, ?_, ?_⟩
 ·have := Int.tmod_nonneg (n : Int) ha; omega
 ·have := Int.tmod_nonneg (n : Int) ha
  have := Int.tmod_lt_of_pos a (show (0 : Int) < n by omega)
  omega
theorem turned_tr {v : Voy} (h : someV v = true) {n : Nat} (hn : n < v.lots.toNat) : turnedOf v n = (spanIn (truths v []) n, howIn (truths v []) n, 0) := by
 rw [turnedOf, if_pos (lot0 h hn), Int.toNat_natCast]; rfl
theorem causes_tr {v : Voy} (h : someV v = true) {n : Nat} (hn : n < v.lots.toNat) : causesOf v n = (causesIn v (truths v []) n, 0) := by
 rw [causesOf, if_pos (lot0 h hn), Int.toNat_natCast]
theorem fewest_tr {v : Voy} (h : someV v = true) : fewestOf v = (fewestL v (truths v []), 0) := by rw [fewestOf, if_pos (whole0 h)]
end Go.Am.Room
set_option maxRecDepth 8000
namespace Go.Am.Room
theorem all_contains2 {a b : List Int} (h : ∀ x ∈ a, x ∈ b) : a.all b.contains = true := by
 rw [List.all_eq_true]
 intro v hv
 rw [List.contains_iff_mem]
 exact h v hv
end Go.Am.Room
set_option maxRecDepth 8000
namespace Go.Am.Room
def QXDDrQ8 := And.intro @encVoy_eq (And.intro @voyCells_eq (And.intro @encKp_eq (And.intro @encDoor_eq (And.intro @encLook_eq (And.intro @encSpan_eq (And.intro @S_mapKp (And.intro @S_mapDoor (And.intro @S_mapLook (And.intro @T_sapp (And.intro @List.length_append.{0} (@Int.toNat_natCast)))))))))))
theorem seq7_run {a b c c1 c2 c3 c4 d : ACode} {e : Env} {σ : St} {Q : Out → Prop} (R : Env → St → Prop) (h : wp T (.seq a (.seq b (.seq c (.seq c1 (.seq c2 (.seq c3 c4)))))) e σ fun j e' σ' => j = none ∧ R e' σ') (h2 : ∀ e' σ', R e' σ' → Run T (.code d e' σ') Q) : Run T (.code (.seq a (.seq b (.seq c (.seq c1 (.seq c2 (.seq c3 (.seq c4 d))))))) e σ) Q :=
 seq_tail h end_none fun _ _ k => seq6_run R k h2
def doorC (x : Door) : List AV := [.int .i64 x.hour, .bool x.sure]
theorem doorC_ok : Cells encDoor doorC 2 := ⟨fun x => by simp only [encDoor, doorC], fun x => rfl, by decide, fun x => rfl, data_door⟩
def newC (v : Voy) (h : Int) (tk : Option Nat) : List AV := [.int .i64 v.hours, .int .i64 v.delay.lo, .int .i64 v.delay.hi, .lit (v.keepers.map encKp) false none, .lit ((v.doors ++ [(⟨h, false⟩ : Door)]).map encDoor) false tk, .int .i64 v.lots, .lit (v.looks.map encLook) false none]
theorem newC_eq (v : Voy) (h : Int) : voyCells (newD v h) = newC v h none := by simp [voyCells, newC, newD]
theorem new_thin (v : Voy) (h : Int) (σ : St) : Thins σ 3 (newC v h (some 3)) (newC v h none) := by
 have h1 : okV 3 (.lit (v.keepers.map encKp) false none) := okV_up _ (data_list data_kp v.keepers).1
 have h2 : okV 3 (.lit (v.looks.map encLook) false none) := okV_up _ (data_list data_look v.looks).1
 refine ⟨.inl ⟨rfl, trivial⟩, .inl ⟨rfl, trivial⟩, .inl ⟨rfl, trivial⟩, .inl ⟨rfl, h1⟩, .inr ⟨20, _, ?_, .inl rfl⟩, .inl ⟨rfl, trivial⟩, .inl ⟨rfl, h2⟩, trivial⟩
 simp only [snap, snaps_ok0 σ 3 20 _ (datas_map data_door (v.doors ++ [(⟨h, false⟩ : Door)])).1]
 simp [Option.filter]
def plainC (v : Voy) : List AV := [.int .i64 v.hours, .int .i64 v.delay.lo, .int .i64 v.delay.hi, .lit (v.keepers.map encKp) false none, .lit (v.doors.map encDoor) false none, .int .i64 v.lots, .lit [] true none]
theorem plainC_clr (v : Voy) : clrs [.agg (plainC v)] = [encVoy (plainV v)] := by
 simp [plainC, clr, clrs, encVoy, voyCells, plainV, (datas_map data_kp v.keepers).2, (datas_map data_door v.doors).2]
theorem plainC_ok (v : Voy) : okVs 0 [.agg (plainC v)] := by
 simp [plainC, okV, okVs, (datas_map data_kp v.keepers).1, (datas_map data_door v.doors).1]
set_option maxHeartbeats 2000000 in
theorem doornew_ok (v : Voy) (b : Nat) (hf : Fits v) (hb : b < 256) : Pure T 15 [encVoy v, .int .u8 b] (.bool true) := by
 have okz : ((0 : Int) == 0) = true := rfl
 cases hs : someV v
 ·refine pure_fn (af := a15) rfl (by simp [a15]) dd ?_
  have e1 : fewestOf v = ([], wholeErr v) := if_neg (wholeN hs)
  have g : (wholeErr v == 0) = false := by simpa using wholeN hs
  (repeat (first | simp only [↓QA, QB, Nat.reduceLT, reduceIte, Nat.reduceEqDiff, Nat.reduceAdd, Nat.reduceLeDiff, Nat.reduceMul, Nat.reduceBEq, QXDDrQ8, a15] | refine rd0 rfl ?_))
  ((first | refine callK_d (some2_ok v hf) rfl dd ?_ | refine callD_d (some2_ok v hf) rfl dd ?_); (repeat (first | simp only [↓QA, QB, Nat.reduceLT, reduceIte, Nat.reduceEqDiff, Nat.reduceAdd, Nat.reduceLeDiff, Nat.reduceMul, Nat.reduceBEq, QXDDrQ8, hs] | refine rd0 rfl ?_)))
  ((first | refine callK_d (pfewest_ok v hf) rfl dd ?_ | refine callD_d (pfewest_ok v hf) rfl dd ?_); (repeat (first | simp only [↓QA, QB, Nat.reduceLT, reduceIte, Nat.reduceEqDiff, Nat.reduceAdd, Nat.reduceLeDiff, Nat.reduceMul, Nat.reduceBEq, QXDDrQ8, encLE, e1, g] | refine rd0 rfl ?_)))
  refine callK_d awake_ok rfl datas_nil ?_
  (repeat (first | simp only [↓QA, QB, Nat.reduceLT, reduceIte, Nat.reduceEqDiff, Nat.reduceAdd, Nat.reduceLeDiff, Nat.reduceMul, Nat.reduceBEq, QXDDrQ8] | refine rd0 rfl ?_))
 ·obtain ⟨hc, hsome⟩ := some_iff.1 hs
  have hv := vd_of_check hc
  have hlo := hv.lots
  have hdr := hv.ndr
  have hhr := hv.hours
  have hvp := plain_vd hv
  have hfp : Fits (plainV v) := ⟨hf.keepers, hf.doors, by simp [plainV], hf.names⟩
  have hsp : someV (plainV v) = true := some_iff.2 ⟨by rw [check_of_vd hvp], plain_some v⟩
  have ep := fewest_tr hsp
  rw [plain_fewest] at ep
  have hpf := pfewest_ok (plainV v) hfp
  rw [ep] at hpf
  have hpc := plainC_clr v
  have hpo := plainC_ok v
  simp only [plainC] at hpc hpo
  by_cases h4 : v.doors.length = 4
  ·refine pure_fn (af := a15) rfl (by simp [a15]) dd ?_
   have g4 : ((v.doors.length : Int) == 4) = true := by rw [h4]; rfl
   (repeat (first | simp only [↓QA, QB, Nat.reduceLT, reduceIte, Nat.reduceEqDiff, Nat.reduceAdd, Nat.reduceLeDiff, Nat.reduceMul, Nat.reduceBEq, QXDDrQ8, a15] | refine rd0 rfl ?_))
   ((first | refine callK_d (some2_ok v hf) rfl dd ?_ | refine callD_d (some2_ok v hf) rfl dd ?_); (repeat (first | simp only [↓QA, QB, Nat.reduceLT, reduceIte, Nat.reduceEqDiff, Nat.reduceAdd, Nat.reduceLeDiff, Nat.reduceMul, Nat.reduceBEq, QXDDrQ8, hs] | refine rd0 rfl ?_)))
   refine callK_v hpf hpc hpo ?_
   (repeat (first | simp only [↓QA, QB, Nat.reduceLT, reduceIte, Nat.reduceEqDiff, Nat.reduceAdd, Nat.reduceLeDiff, Nat.reduceMul, Nat.reduceBEq, QXDDrQ8, encLE, okz, show decide ((0 : Int) < ((0 : Nat) : Int)) = false from rfl, List.map_nil, g4] | refine rd0 rfl ?_))
   refine callK_d awake_ok rfl datas_nil ?_
   (repeat (first | simp only [↓QA, QB, Nat.reduceLT, reduceIte, Nat.reduceEqDiff, Nat.reduceAdd, Nat.reduceLeDiff, Nat.reduceMul, Nat.reduceBEq, QXDDrQ8] | refine rd0 rfl ?_))
  ·have g4 : ((v.doors.length : Int) == 4) = false := by simp; omega
   obtain ⟨H, hH⟩ : ∃ H : Nat, v.hours = (H : Int) := ⟨v.hours.toNat, by omega⟩
   have hwb : IntKind.i64.wrap (b : Int) = b := wrap64 ⟨by omega, by omega⟩
   have hwH : IntKind.i64.wrap (v.hours + 1) = ((H + 1 : Nat) : Int) := by rw [hH]; exact wrapN (show H < H + 1 by omega) (by omega)
   have hneH : ((H + 1 : Nat) : Int) ≠ 0 := by omega
   obtain ⟨o, hoj, hol⟩ := nat_rem (a := (b : Int)) (by omega) (show 0 < H + 1 by omega)
   have hvn : Vd (newD v (o : Int)) := new_vd hv (by omega) (by omega)
   have hsn : someV (newD v (o : Int)) = true := some_iff.2 ⟨by rw [check_of_vd hvn], new_some hsome⟩
   have hfn : Fits (newD v (o : Int)) := ⟨hf.keepers, by simp [newD]; omega, hf.looks, hf.names⟩
   have f1 := fewest_tr hs
   have f2 := fewest_tr hsn
   have ff := new_fewest (h := (o : Int)) hsome
   have mt := fun (n : Nat) (hn : n < v.lots.toNat) => new_turned (v := v) (h := (o : Int)) hsome hn
   have mc := fun (n : Nat) (hn : n < v.lots.toNat) => all_contains2 (fun d (hd : d ∈ causesIn v (truths v []) n) => new_causes (v := v) (h := (o : Int)) hn hd)
   have ct1 := fun (n : Nat) (hn : n < v.lots.toNat) => causes_tr hs hn
   have ct2 := fun (n : Nat) (hn : n < v.lots.toNat) => causes_tr (v := newD v (o : Int)) hsn (n := n) hn
   have tt1 := fun (n : Nat) (hn : n < v.lots.toNat) => turned_tr hs hn
   have tt2 := fun (n : Nat) (hn : n < v.lots.toNat) => turned_tr (v := newD v (o : Int)) hsn (n := n) hn
   have cl1 := fun (n : Nat) => causes_lenO v n
   have cl2 := fun (n : Nat) => causes_lenO (newD v (o : Int)) n
   obtain ⟨F1, hF1⟩ : ∃ F1, fewestL v (truths v []) = F1 := ⟨_, rfl⟩
   obtain ⟨F2, hF2⟩ : ∃ F2, fewestL (newD v (o : Int)) (truths (newD v (o : Int)) []) = F2 := ⟨_, rfl⟩
   rw [hF1] at f1 ff
   rw [hF2] at f2 ff
   have gf : decide ((F1.length : Int) < (F2.length : Int)) = false := by simp; omega
   obtain ⟨N, hN⟩ : ∃ N : Nat, v.lots = (N : Int) := ⟨v.lots.toNat, by omega⟩
   refine pure_run (af := a15) rfl (by simp [a15]) dd ?_
   simp only [a15]
   refine seq7_run (fun e σ => Env.get e 1 = .int .u8 b ∧ Env.get e 2 = .ptr 0 0 ∧ σ = [.cells (voyCells v), .cells (plainC v)]) ?_ fun e σ ⟨e1, e2, hσ⟩ => ?_
   ·(repeat (first | simp only [↓QA, QB, Nat.reduceLT, reduceIte, Nat.reduceEqDiff, Nat.reduceAdd, Nat.reduceLeDiff, Nat.reduceMul, Nat.reduceBEq, QXDDrQ8] | refine rd0 rfl ?_))
    ((first | refine callK_d (some2_ok v hf) rfl dd ?_ | refine callD_d (some2_ok v hf) rfl dd ?_); (repeat (first | simp only [↓QA, QB, Nat.reduceLT, reduceIte, Nat.reduceEqDiff, Nat.reduceAdd, Nat.reduceLeDiff, Nat.reduceMul, Nat.reduceBEq, QXDDrQ8, hs] | refine rd0 rfl ?_)))
    refine callK_v hpf hpc hpo ?_
    (repeat (first | simp only [↓QA, QB, Nat.reduceLT, reduceIte, Nat.reduceEqDiff, Nat.reduceAdd, Nat.reduceLeDiff, Nat.reduceMul, Nat.reduceBEq, QXDDrQ8, encLE, okz, show decide ((0 : Int) < ((0 : Nat) : Int)) = false from rfl, List.map_nil, g4] | refine rd0 rfl ?_))
    try simp [plainC]
   subst hσ
   refine chain2 (fun e σ => ∃ ex, Env.get e 2 = .ptr 0 0 ∧ Env.get e 10 = .ptr 2 0 ∧ σ = [.cells (voyCells v), .cells (plainC v), .cells (newC v o (some 3)), .tok 2 (v.doors.length + 1) ex])
    (fun e σ => Env.get e 2 = .ptr 0 0 ∧ Env.get e 10 = .ptr 2 0 ∧ σ = [.cells (voyCells v), .cells (plainC v), .cells (voyCells (newD v o))]) ?_ ?_ ?_
   ·have hy1 : allCells 2 [encDoor (⟨(o : Int), false⟩ : Door)] = true := flatC_all doorC_ok [(⟨(o : Int), false⟩ : Door)]
    have hal := flatC_all doorC_ok v.doors
    by_cases hlk : v.doors = []
    ·have hnil : List.map encDoor v.doors = [] := by rw [hlk]; rfl
     have hm : List.map encDoor (v.doors ++ [(⟨(o : Int), false⟩ : Door)]) = [encDoor (⟨(o : Int), false⟩ : Door)] := by rw [hlk]; rfl
     have hl0 : v.doors.length = 0 := by rw [hlk]; rfl
     have q2 : ∀ σ : St, appendAV 2 16 σ (.lit [] true none) (.lit [encDoor (⟨(o : Int), false⟩ : Door)] true none) = some (.lit [encDoor (⟨(o : Int), false⟩ : Door)] false (some σ.length), σ ++ [.tok 2 1 true]) := fun σ => app_full (xs := []) ⟨rfl, hy1, by simp [room], by simp [room]⟩ (by simp)
     simp only [encDoor_eq] at q2
     (repeat (first | simp only [↓QA, QB, Nat.reduceLT, reduceIte, Nat.reduceEqDiff, Nat.reduceAdd, Nat.reduceLeDiff, Nat.reduceMul, Nat.reduceBEq, QXDDrQ8, e1, e2, hnil, app_nil, hwb, hwH, V_rem _ _ _ hneH, hoj, q2] | refine rd0 rfl ?_))
     refine ⟨true, ?_⟩
     try simp only [TrimX, QE, Nat.reduceLT, reduceIte, Nat.reduceEqDiff, Nat.reduceAdd, Nat.reduceLeDiff, Nat.reduceMul, Nat.reduceBEq, QXDDrQ8, e1, e2, newC, hm, hl0]
    ·have hl1 : (v.doors.map encDoor).length ≠ 0 := by simpa using hlk
     have q1 : ∀ σ : St, appendAV 2 16 σ (.lit [] true none) (.lit (v.doors.map encDoor) false none) = some (.lit (v.doors.map encDoor) false (some σ.length), σ ++ [.tok 2 v.doors.length true]) := fun σ => by
      rw [app_full (xs := []) ⟨rfl, hal, by simp [room]; omega, by simp [room]; omega⟩ hl1]; simp
     have q2 : ∀ (b0 b1 b2 : ABlk), appendAV 2 16 [b0, b1, b2, .tok 2 v.doors.length true] (.lit (v.doors.map encDoor) false (some 3)) (.lit [encDoor (⟨(o : Int), false⟩ : Door)] true none) = some (.lit ((v.doors ++ [(⟨(o : Int), false⟩ : Door)]).map encDoor) false (some 3), [b0, b1, b2, .tok 2 (v.doors.length + 1) true]) := fun b0 b1 b2 => by
      rw [app_tok (ex := true) ⟨hal, hy1, by simp [room]; omega, by simp [room]; omega⟩ (by simp) (by simp)]; simp
     simp only [encDoor_eq] at q2
     (repeat (first | simp only [↓QA, QB, Nat.reduceLT, reduceIte, Nat.reduceEqDiff, Nat.reduceAdd, Nat.reduceLeDiff, Nat.reduceMul, Nat.reduceBEq, QXDDrQ8, e1, e2, q1, hwb, hwH, V_rem _ _ _ hneH, hoj, q2] | refine rd0 rfl ?_))
     refine ⟨true, ?_⟩
     try simp only [TrimX, QE, Nat.reduceLT, reduceIte, Nat.reduceEqDiff, Nat.reduceAdd, Nat.reduceLeDiff, Nat.reduceMul, Nat.reduceBEq, QXDDrQ8, e1, e2, newC]
   ·rintro e σ ⟨ex, q2, q5, rfl⟩
    refine ⟨[(2, .ptr 0 0), (10, .ptr 2 0)], [.cells (voyCells v), .cells (plainC v), .cells (voyCells (newD v o))], _, _, ⟨by simp, by simp, ⟨.inl ⟨q2.symm, by simp [okV, q2]⟩, .inl ⟨q5.symm, by simp [okV, q5]⟩, trivial⟩, fun i hi => ?_⟩, .inl ⟨rfl, rfl⟩, rfl, rfl, rfl⟩
    match i, hi with
    | 0, _ => exact ⟨_, rfl, .inl ⟨by simp, .inl rfl, rfl⟩⟩
    | 1, _ => exact ⟨_, rfl, .inl ⟨by simp, .inl rfl, rfl⟩⟩
    | 2, _ => exact ⟨_, rfl, .inr (.inr ⟨_, _, rfl, by rw [newC_eq], new_thin v o _, .inl (by simp)⟩)⟩
   ·rintro e σ ⟨e2, e10, rfl⟩
    refine code_run ?_
    (repeat (first | simp only [↓QA, QB, Nat.reduceLT, reduceIte, Nat.reduceEqDiff, Nat.reduceAdd, Nat.reduceLeDiff, Nat.reduceMul, Nat.reduceBEq, QXDDrQ8, e2, e10] | refine rd0 rfl ?_))
    ((first | refine callK_d (pfewest_ok v hf) rfl dd ?_ | refine callD_d (pfewest_ok v hf) rfl dd ?_); (repeat (first | simp only [↓QA, QB, Nat.reduceLT, reduceIte, Nat.reduceEqDiff, Nat.reduceAdd, Nat.reduceLeDiff, Nat.reduceMul, Nat.reduceBEq, QXDDrQ8, encLE, f1, e2, e10] | refine rd0 rfl ?_)))
    ((first | refine callK_d (pfewest_ok (newD v o) hfn) rfl dd ?_ | refine callD_d (pfewest_ok (newD v o) hfn) rfl dd ?_); (repeat (first | simp only [↓QA, QB, Nat.reduceLT, reduceIte, Nat.reduceEqDiff, Nat.reduceAdd, Nat.reduceLeDiff, Nat.reduceMul, Nat.reduceBEq, QXDDrQ8, encLE, f2, okz, gf, e2, e10] | refine rd0 rfl ?_)))
    refine loopE (S := Nat) 0 (fun h => h ≤ N) (fun h => N - h) (fun h => [(2, .ptr 0 0), (10, .ptr 2 0), (15, .int .i64 h)]) (fun _ => [.cells (voyCells v), .cells (plainC v), .cells (voyCells (newD v o))]) (by simp) (by simp [voyCells, ints]) ?_ fun h hh => ?_
    ·try simp only [TrimX, QE, Nat.reduceLT, reduceIte, Nat.reduceEqDiff, Nat.reduceAdd, Nat.reduceLeDiff, Nat.reduceMul, Nat.reduceBEq, QXDDrQ8, e2, e10]
     try simp
    ·(repeat (first | simp only [↓QA, QB, Nat.reduceLT, reduceIte, Nat.reduceEqDiff, Nat.reduceAdd, Nat.reduceLeDiff, Nat.reduceMul, Nat.reduceBEq, QXDDrQ8, L15_0] | refine rd0 rfl ?_))
     refine iteP_intro (fun h2 => ?_) fun h2 => ?_
     ·have hh0 : (h : Int) < v.lots := by simpa using h2
      have hh1 : h < N := by omega
      have hw := wrapN hh1 (by omega)
      have hhl : h < v.lots.toNat := by omega
      have m1 := tt1 h hhl
      have m2 := tt2 h hhl
      have c1 := ct1 h hhl
      have c2 := ct2 h hhl
      have l1 := cl1 h
      have l2 := cl2 h
      rw [c1] at l1
      rw [c2] at l2
      have hmt := mt h hhl
      have hmc := mc h hhl
      obtain ⟨A, hA⟩ : ∃ A, spanIn (truths v []) h = A := ⟨_, rfl⟩
      obtain ⟨B, hB⟩ : ∃ B, spanIn (truths (newD v (o : Int)) []) h = B := ⟨_, rfl⟩
      obtain ⟨K, hK⟩ : ∃ K, howIn (truths v []) h = K := ⟨_, rfl⟩
      obtain ⟨L, hL⟩ : ∃ L, howIn (truths (newD v (o : Int)) []) h = L := ⟨_, rfl⟩
      obtain ⟨C, hC⟩ : ∃ C, causesIn v (truths v []) h = C := ⟨_, rfl⟩
      obtain ⟨D, hD⟩ : ∃ D, causesIn (newD v (o : Int)) (truths (newD v (o : Int)) []) h = D := ⟨_, rfl⟩
      rw [hA, hK] at m1 hmt
      rw [hB, hL] at m2 hmt
      rw [hC] at c1 l1 hmc
      rw [hD] at c2 l2 hmc
      simp only at l1 l2
      (repeat (first | simp only [↓QA, QB, Nat.reduceLT, reduceIte, Nat.reduceEqDiff, Nat.reduceAdd, Nat.reduceLeDiff, Nat.reduceMul, Nat.reduceBEq, QXDDrQ8] | refine rd0 rfl ?_))
      ((first | refine callK_d (pturned_ok v h hf) rfl dd ?_ | refine callD_d (pturned_ok v h hf) rfl dd ?_); (repeat (first | simp only [↓QA, QB, Nat.reduceLT, reduceIte, Nat.reduceEqDiff, Nat.reduceAdd, Nat.reduceLeDiff, Nat.reduceMul, Nat.reduceBEq, QXDDrQ8, encSNE, m1] | refine rd0 rfl ?_)))
      ((first | refine callK_d (pturned_ok (newD v o) h hfn) rfl dd ?_ | refine callD_d (pturned_ok (newD v o) h hfn) rfl dd ?_); (repeat (first | simp only [↓QA, QB, Nat.reduceLT, reduceIte, Nat.reduceEqDiff, Nat.reduceAdd, Nat.reduceLeDiff, Nat.reduceMul, Nat.reduceBEq, QXDDrQ8, encSNE, m2] | refine rd0 rfl ?_)))
      ((first | refine callK_d (pcauses_ok v h hf) rfl dd ?_ | refine callD_d (pcauses_ok v h hf) rfl dd ?_); (repeat (first | simp only [↓QA, QB, Nat.reduceLT, reduceIte, Nat.reduceEqDiff, Nat.reduceAdd, Nat.reduceLeDiff, Nat.reduceMul, Nat.reduceBEq, QXDDrQ8, encLE, c1] | refine rd0 rfl ?_)))
      ((first | refine callK_d (pcauses_ok (newD v o) h hfn) rfl dd ?_ | refine callD_d (pcauses_ok (newD v o) h hfn) rfl dd ?_); (repeat (first | simp only [↓QA, QB, Nat.reduceLT, reduceIte, Nat.reduceEqDiff, Nat.reduceAdd, Nat.reduceLeDiff, Nat.reduceMul, Nat.reduceBEq, QXDDrQ8, encLE, c2, okz] | refine rd0 rfl ?_)))
      ((first | refine callK_d (subset_ok C D (by omega) (by omega)) rfl dd ?_ | refine callD_d (subset_ok C D (by omega) (by omega)) rfl dd ?_); (repeat (first | simp only [↓QA, QB, Nat.reduceLT, reduceIte, Nat.reduceEqDiff, Nat.reduceAdd, Nat.reduceLeDiff, Nat.reduceMul, Nat.reduceBEq, QXDDrQ8, hmc] | refine rd0 rfl ?_)))
      cases hk : (K == 2)
      case' false =>
       have hml := hmt.1 (by simpa using hk)
       have gl : (L == 2) = false := by simpa using hml.1
       have g1 : decide (A.lo < B.lo) = false := by simp; omega
       have g2 : decide (B.hi < A.hi) = false := by simp; omega
       (repeat (first | simp only [↓QA, QB, Nat.reduceLT, reduceIte, Nat.reduceEqDiff, Nat.reduceAdd, Nat.reduceLeDiff, Nat.reduceMul, Nat.reduceBEq, QXDDrQ8, hk, gl, g1, g2] | refine rd0 rfl ?_))
      case' true =>
       (repeat (first | simp only [↓QA, QB, Nat.reduceLT, reduceIte, Nat.reduceEqDiff, Nat.reduceAdd, Nat.reduceLeDiff, Nat.reduceMul, Nat.reduceBEq, QXDDrQ8, hk] | refine rd0 rfl ?_))
      all_goals
       cases hk1 : (K == 1)
       ·have gl1 : (L == 1) = false := by simpa using hmt.2 (by simpa using hk1)
        (repeat (first | simp only [↓QA, QB, Nat.reduceLT, reduceIte, Nat.reduceEqDiff, Nat.reduceAdd, Nat.reduceLeDiff, Nat.reduceMul, Nat.reduceBEq, QXDDrQ8, hk1, gl1, hw] | refine rd0 rfl ?_))
        refine ⟨h + 1, by omega, by omega, ?_⟩
        try simp only [TrimX, QE, Nat.reduceLT, reduceIte, Nat.reduceEqDiff, Nat.reduceAdd, Nat.reduceLeDiff, Nat.reduceMul, Nat.reduceBEq, QXDDrQ8, hw]
        try simp [okBlk]
       ·(repeat (first | simp only [↓QA, QB, Nat.reduceLT, reduceIte, Nat.reduceEqDiff, Nat.reduceAdd, Nat.reduceLeDiff, Nat.reduceMul, Nat.reduceBEq, QXDDrQ8, hk1, hw] | refine rd0 rfl ?_))
        refine ⟨h + 1, by omega, by omega, ?_⟩
        try simp only [TrimX, QE, Nat.reduceLT, reduceIte, Nat.reduceEqDiff, Nat.reduceAdd, Nat.reduceLeDiff, Nat.reduceMul, Nat.reduceBEq, QXDDrQ8, hw]
        try simp [okBlk]
     ·(repeat (first | simp only [↓QA, QB, Nat.reduceLT, reduceIte, Nat.reduceEqDiff, Nat.reduceAdd, Nat.reduceLeDiff, Nat.reduceMul, Nat.reduceBEq, QXDDrQ8] | refine rd0 rfl ?_))
      refine callK_d awake_ok rfl datas_nil ?_
      (repeat (first | simp only [↓QA, QB, Nat.reduceLT, reduceIte, Nat.reduceEqDiff, Nat.reduceAdd, Nat.reduceLeDiff, Nat.reduceMul, Nat.reduceBEq, QXDDrQ8] | refine rd0 rfl ?_))
end Go.Am.Room
