/- A part of the proof of HoldWider: an abstract machine, or what functions come to on it. -/
import Derived.Test.YtajhifmlmhmelaaAllQ6
import Derived.ChangeArms
import Derived.SizedLaws
import Derived.ChangeBears
import Derived.ChangeShapes
import Derived.WideShapes
import Derived.ProofKit
import Derived.OpenShut
import Derived.Lib.Strings
set_option linter.unusedVariables false
set_option linter.unusedSimpArgs false
set_option linter.defProp false
namespace Go.Am
open Go.ChangeShapes Go.WideShapes Go.ChangeAt Go.RowKit
variable {P : Program} {hh : String → Bool} {H : Type} {enc : TypeId × Value → H} {w : World} {sp : Nat → Bool} {held : Bool}
def mkV (P : Program) (t : TypeId) (cs : List AV) : AV := match P.underlying t with
 | some (.struct _) => .agg cs
 | some (.array _ _) => .agg cs
 | _ => cs.headD .undef
def Typ (P : Program) : Nat → TypeId → List AV → Prop
 | 0, _, _ => False
 | n + 1, t, cs =>
  match P.underlying t with
  | some .bool => ∃ b, cs = [.bool b]
  | some (.int k) => ∃ m, cs = [.int k m] ∧ (Lit.int k m).wf = true
  | some .string => ∃ s : ByteArray, cs = [.str s] ∧ s.size ≤ maxLen
  | some (.slice e) => ∃ ys : List (List AV), cs = [.lit (ys.map (mkV P e)) false none] ∧ (ys.length ≤ maxLen ∧ ys.length * P.bytesOf e ≤ reachBytes) ∧ ∀ y ∈ ys, Typ P n e y
  | some (.struct fs) => ∃ parts : List (List AV), cs = parts.flatten ∧ parts.length = fs.toList.length ∧ ∀ (i : Nat) f p, fs.toList[i]? = some f → parts[i]? = some p → Typ P n f.type p
  | some (.array k e) => ∃ parts : List (List AV), cs = parts.flatten ∧ parts.length = k ∧ ∀ p ∈ parts, Typ P n e p
  | _ => False
def okTy (P : Program) : Nat → TypeId → Bool
 | 0, _ => false
 | n + 1, t =>
  match P.underlying t with
  | some .bool | some (.int _) | some .string => true
  | some (.slice e) => decide (0 < P.cellsOf e) && okTy P n e
  | some (.struct fs) => fs.toList.all fun f => okTy P n f.type
  | some (.array _ e) => okTy P n e
  | _ => false
theorem mkV_cells {n : Nat} {t : TypeId} {cs : List AV} (h : Typ P n t cs) : (mkV P t cs).cells = cs := by
 cases n with
 | zero => exact h.elim
 | succ n =>
  simp only [Typ] at h
  unfold mkV
  split at h
  ·rename_i hu; rw [hu]; obtain ⟨b, rfl⟩ := h; rfl
  ·rename_i hu; rw [hu]; obtain ⟨b, rfl, _⟩ := h; rfl
  ·rename_i hu; rw [hu]; obtain ⟨b, rfl, _⟩ := h; rfl
  ·rename_i hu; rw [hu]; obtain ⟨b, rfl, _⟩ := h; rfl
  ·rename_i hu; rw [hu]; rfl
  ·rename_i hu; rw [hu]; rfl
  ·exact h.elim
theorem addr_add {a : Addr} {v : Value} (h : w.cell? a = some v) (n : Nat) : a.add n = ⟨a.block, a.off + n, none⟩ := by
 have hs : a.spot = none := by
  unfold World.cell? at h
  split at h
  ·split at h
   ·cases h
   ·rename_i hs; simpa using hs
  ·cases h
 obtain ⟨b, o, s⟩ := a
 simp only at hs
 subst hs
 unfold Addr.add
 split
 ·rename_i h0; simp [h0]
 ·rfl
theorem cell_lt {b o : Nat} {v : Value} (h : w.cell? ⟨b, o, none⟩ = some v) : ∃ L, limW w b = some L ∧ o < L := by
 unfold World.cell? at h
 split at h
 ·rename_i c T fr hb
  refine ⟨c.size, by simp only at hb; simp [limW, hb], ?_⟩
  simp at h
  exact (Array.getElem?_eq_some_iff.1 h).1
 ·cases h
theorem fields {G : Gh} {n : Nat} {cs : List Value} : ∀ (fl : List Field) (o : Nat), (∀ (j : Nat) f, fl[j]? = some f → f.offset = o + ((fl.take j).map fun f => P.cellsOf f.type).sum) → cs.length = o + (fl.map fun f => P.cellsOf f.type).sum →
  (∀ f ∈ fl, ∃ az, Typ P n f.type az ∧ RelL G w az ((cs.drop f.offset).take (P.cellsOf f.type))) →
  ∃ parts : List (List AV), parts.length = fl.length ∧ (∀ (i : Nat) f p, fl[i]? = some f → parts[i]? = some p → Typ P n f.type p) ∧ RelL G w parts.flatten (cs.drop o)
 | [], o, _, hl, _ => ⟨[], rfl, by simp, by
   have : cs.drop o = [] := List.drop_of_length_le (by simp at hl; omega)
   rw [this]; exact .nil⟩
 | f :: fl, o, ho, hl, ht => by
  have h0 := ho 0 f rfl
  simp only [List.take_zero, List.map_nil, List.sum_nil, Nat.add_zero] at h0
  simp only [List.map_cons, List.sum_cons] at hl
  obtain ⟨az, h1, h2⟩ := ht f (by simp)
  obtain ⟨parts, q1, q2, q3⟩ := fields fl (o + P.cellsOf f.type) (fun j g hj => by
   have := ho (j + 1) g (by simpa using hj)
   simp only [List.take_succ_cons, List.map_cons, List.sum_cons] at this
   omega) (by omega) fun g hg => ht g (List.mem_cons_of_mem _ hg)
  refine ⟨az :: parts, by simp [q1], fun i g p e1 e2 => ?_, ?_⟩
  ·cases i with
   | zero => simp at e1 e2; subst e1; subst e2; exact h1
   | succ i => exact q2 i g p (by simpa using e1) (by simpa using e2)
  ·rw [List.flatten_cons]
   have e : cs.drop o = (cs.drop o).take (P.cellsOf f.type) ++ cs.drop (o + P.cellsOf f.type) := by
    rw [← List.drop_drop, List.take_append_drop]
   rw [e]
   rw [h0] at h2
   exact h2.app q3
theorem items {G : Gh} {m : Nat} {e : TypeId} {cs : List Value} : ∀ (n o : Nat), cs.length = o + n * P.cellsOf e →
  (∀ i, i < n → ∃ az, Typ P m e az ∧ RelL G w az ((cs.drop (o + i * P.cellsOf e)).take (P.cellsOf e))) → ∃ parts : List (List AV), parts.length = n ∧ (∀ p ∈ parts, Typ P m e p) ∧ RelL G w parts.flatten (cs.drop o)
 | 0, o, hl, _ => ⟨[], rfl, by simp, by
   have : cs.drop o = [] := List.drop_of_length_le (by simp at hl; omega)
   rw [this]; exact .nil⟩
 | n + 1, o, hl, ht => by
  obtain ⟨az, h1, h2⟩ := ht 0 (by omega)
  rw [Nat.zero_mul, Nat.add_zero] at h2
  rw [Nat.add_mul, Nat.one_mul] at hl
  obtain ⟨parts, q1, q2, q3⟩ := items (e := e) (cs := cs) (m := m) n (o + P.cellsOf e) (by omega) fun i hi => by
   obtain ⟨az, k1, k2⟩ := ht (i + 1) (by omega)
   rw [Nat.add_mul, Nat.one_mul, Nat.add_comm (i * _), ← Nat.add_assoc] at k2
   exact ⟨az, k1, k2⟩
  refine ⟨az :: parts, by simp [q1], fun p hp => ?_, ?_⟩
  ·rcases List.mem_cons.1 hp with rfl | hp
   ·exact h1
   ·exact q2 p hp
  ·rw [List.flatten_cons]
   have e1 : cs.drop o = (cs.drop o).take (P.cellsOf e) ++ cs.drop (o + P.cellsOf e) := by
    rw [← List.drop_drop, List.take_append_drop]
   rw [e1]
   exact h2.app q3
theorem choose_list {α : Type} {Q : Nat → α → Prop} : ∀ n, (∀ i, i < n → ∃ x, Q i x) → ∃ l : List α, l.length = n ∧ ∀ (i : Nat) x, l[i]? = some x → Q i x
 | 0, _ => ⟨[], rfl, by simp⟩
 | n + 1, h => by
  obtain ⟨l, h1, h2⟩ := choose_list n fun i hi => h i (by omega)
  obtain ⟨x, hx⟩ := h n (by omega)
  refine ⟨l ++ [x], by simp [h1], fun i y e => ?_⟩
  by_cases hi : i < l.length
  ·rw [List.getElem?_append_left hi] at e; exact h2 i y e
  ·rw [List.getElem?_append_right (by omega)] at e
   have : i - l.length = 0 := by
    by_cases h0 : i - l.length = 0
    ·exact h0
    ·rw [List.getElem?_eq_none (by simp; omega)] at e; cases e
   rw [this] at e
   simp at e
   subst e
   rw [show i = n by omega]; exact hx
theorem typ_of_trod (hl : laidOutB P = true) : ∀ (n m : Nat) (t : TypeId) (cs : List Value) (x : DataW H × List MemPlace), t < P.types.size → okTy P n t = true → DataW.trod enc P w 0 sp held m t cs = some x → (∀ k ∈ x.1.weights P t, k ≤ reachBytes) →
  ∃ az, Typ P n t az ∧ RelL (argG w) w az cs
 | 0, m, t, cs, x, _, ho, _, _ => by simp [okTy] at ho
 | n + 1, m, t, cs, x, ht, ho, h, hwt => by
  simp only [okTy] at ho
  split at ho
  ·rename_i hu
   obtain ⟨b, rfl, _⟩ := DataW.trod_bool hu h
   exact ⟨[.bool b], by simp only [Typ, hu]; exact ⟨b, rfl⟩, .one (.bool b)⟩
  ·rename_i k hu
   obtain ⟨b, rfl, _, hw⟩ := DataW.trod_int hu h
   exact ⟨[.int k b], by simp only [Typ, hu]; exact ⟨b, rfl, hw⟩, .one (.int k b)⟩
  ·rename_i hu
   obtain ⟨s, rfl, _, hs⟩ := DataW.trod_string hu h
   exact ⟨[.str s], by simp only [Typ, hu]; exact ⟨s, rfl, hs⟩, .one (.str s)⟩
  ·rename_i e hu
   simp only [Bool.and_eq_true, decide_eq_true_eq] at ho
   rcases DataW.trod_slice hu h with ⟨rfl, _⟩ | ⟨a, len, cap, elems, rest, m', _, rfl, hxe, _, hlc, hcm, hel, hei, _, _⟩
   ·refine ⟨[.lit [] false none], by simp only [Typ, hu]; exact ⟨[], rfl, ⟨by simp, by simp⟩, by simp⟩, .one (.nil ⟨Nat.le_refl _, (fun e => by cases e), (fun t e => by cases e)⟩ fun _ => rfl)⟩
   ·
    have hws : ∀ k ∈ x.1.weights P t, k ≤ reachBytes := hwt
    rw [hxe] at hws
    simp only [DataW.weights, hu, List.mem_cons, List.mem_append, List.length_map] at hws
    have hwl : len * P.bytesOf e ≤ reachBytes := by
     have h1 := hws _ (.inl rfl)
     rw [hel] at h1
     exact Nat.le_trans (Nat.mul_le_mul_right _ (Nat.le_add_right _ _)) h1
    have hwe : ∀ (d : DataW H), d ∈ elems.map (·.1) → ∀ k ∈ d.weights P e, k ≤ reachBytes := by
     have key : ∀ (l : List (DataW H)) (d : DataW H), d ∈ l → ∀ k ∈ d.weights P e, k ∈ DataW.weightsAll P e l := by
      intro l
      induction l with
      | nil => intro d hd; cases hd
      | cons a l ih =>
       intro d hd k hk
       simp only [DataW.weightsAll, List.mem_append]
       rcases List.mem_cons.1 hd with rfl | hd
       ·exact .inl hk
       ·exact .inr (ih d hd k hk)
     exact fun d hd k hk => hws k (.inr (.inl (key _ d hd k hk)))
    have hel2 : ∀ i, i < len → ∃ y, Typ P n e y ∧ ∃ vs, w.cells? 0 (a.add (i * P.cellsOf e)) (P.cellsOf e) = some vs ∧ RelL (argG w) w y vs := by
     intro i hi
     have h1 := hei i hi
     rw [List.getElem?_eq_getElem (by omega), Option.bind_eq_some_iff] at h1
     obtain ⟨vs, q1, q2⟩ := h1
     obtain ⟨y, q3, q4⟩ := typ_of_trod hl n m' e vs _ (kid_slice hl ht hu) ho.2 q2 (hwe _ (List.mem_map.2 ⟨_, List.getElem_mem (by omega), rfl⟩))
     exact ⟨y, q3, vs, q1, q4⟩
    obtain ⟨ys, hyl, hys⟩ := choose_list len hel2
    refine ⟨[.lit (ys.map (mkV P e)) false none], by
     simp only [Typ, hu]
     refine ⟨ys, rfl, ⟨by omega, by rw [hyl]; exact hwl⟩, fun y hy => ?_⟩
     obtain ⟨i, hi⟩ := List.getElem?_of_mem hy
     exact (hys i y hi).1, .one ?_⟩
    by_cases h0 : len = 0
    ·subst h0
     obtain rfl : ys = [] := List.eq_nil_of_length_eq_zero hyl
     exact .nil ⟨Nat.zero_le _, (fun e => by cases e), (fun t e => by cases e)⟩ fun e => by cases e
    ·
     have hcell : ∀ i j, i < len → j < P.cellsOf e → ∃ v, w.cell? ((a.add (i * P.cellsOf e)).add j) = some v := by
      intro i j hi hj
      obtain ⟨y, _, vs, q1, _⟩ := hel2 i hi
      simp only [World.cells?, Nat.zero_le, if_true] at q1
      have hlen := mapM_some_length q1
      have := mapM_some_get q1 j j (by simp [hj])
      rw [List.length_range] at hlen
      rw [List.getElem?_eq_getElem (by omega)] at this
      exact ⟨_, this⟩
     obtain ⟨v0, hv0⟩ := hcell 0 0 (by omega) ho.1
     rw [Nat.zero_mul] at hv0
     have ha0 : a.add 0 = a := by simp [Addr.add]
     rw [ha0, ha0] at hv0
     have hplain : ∀ i, a.add i = ⟨a.block, a.off + i, none⟩ := addr_add hv0
     have hae : a = ⟨a.block, a.off, none⟩ := by have := hplain 0; rw [ha0] at this; simpa using this
     have hplain2 : ∀ i j, (a.add i).add j = ⟨a.block, a.off + (i + j), none⟩ := by
      intro i j
      rw [hplain]
      unfold Addr.add
      split
      ·rename_i h; simp [h]
      ·simp [Nat.add_assoc]
     have hcell2 : ∀ i j, i < len → j < P.cellsOf e → ∃ v, w.cell? ⟨a.block, a.off + (i * P.cellsOf e + j), none⟩ = some v := by
      intro i j hi hj
      have := hcell i j hi hj
      rw [hplain2] at this
      exact this
     rw [hae, show len = (ys.map (mkV P e)).length by simp [hyl]]
     have hsz : ∀ (i : Nat) (x : AV), (ys.map (mkV P e))[i]? = some x → ∃ y, ys[i]? = some y ∧ x = mkV P e y ∧ x.cells = y := by
      intro i x hx
      rw [List.getElem?_map] at hx
      cases hy : ys[i]? with
      | none => rw [hy] at hx; cases hx
      | some y =>
       rw [hy] at hx
       simp at hx
       exact ⟨y, rfl, hx.symm, by rw [← hx, mkV_cells (hys i y hy).1]⟩
     have hvl : ∀ (i : Nat) y, ys[i]? = some y → y.length = P.cellsOf e := by
      intro i y hy
      obtain ⟨_, vs, q1, q2⟩ := hys i y hy
      rw [q2.1]
      simp only [World.cells?, Nat.zero_le, if_true] at q1
      rw [mapM_some_length q1, List.length_range]
     refine .lit (sz := P.cellsOf e) ⟨by simp; omega, (fun e => by cases e), (fun t e => by cases e)⟩ ⟨?_, (fun t e => by cases e), fun i x hx => ?_, fun k hk => ?_⟩ fun i x j c u hx hc hu2 => ?_
     ·obtain ⟨v, hv⟩ := hcell2 (len - 1) (P.cellsOf e - 1) (by omega) (by omega)
      obtain ⟨L, q1, q2⟩ := cell_lt hv
      refine ⟨L, q1, ?_⟩
      rw [List.length_map, hyl]
      have : (len - 1) * P.cellsOf e + P.cellsOf e = len * P.cellsOf e := by
       rw [← Nat.succ_mul]; congr 1; omega
      omega
     ·obtain ⟨y, q1, q2, q3⟩ := hsz i x hx
      rw [q3]; exact hvl i y q1
     ·rw [List.length_map, hyl] at hk
      have hd : k / P.cellsOf e < len := Nat.div_lt_of_lt_mul (by rw [Nat.mul_comm]; exact hk)
      have hm : k % P.cellsOf e < P.cellsOf e := Nat.mod_lt _ ho.1
      obtain ⟨v, hv⟩ := hcell2 _ _ hd hm
      have : k / P.cellsOf e * P.cellsOf e + k % P.cellsOf e = k := by rw [Nat.mul_comm]; exact Nat.div_add_mod _ _
      rw [this] at hv
      rw [hv]; rfl
     ·obtain ⟨y, q1, q2, q3⟩ := hsz i x hx
      rw [q3] at hc
      obtain ⟨_, vs, p1, p2⟩ := hys i y q1
      have hjl : j < P.cellsOf e := by
       rw [← hvl i y q1]
       exact (List.getElem?_eq_some_iff.1 hc).1
      simp only [World.cells?, Nat.zero_le, if_true] at p1
      have hg := mapM_some_get p1 j j (by simp [hjl])
      rw [hplain2] at hg
      rw [hu2] at hg
      exact p2.2 j c u hc hg.symm
  ·rename_i fs hu
   rw [List.all_eq_true] at ho
   obtain ⟨xs, m', _, hxe, hcl, hxl, hf⟩ := DataW.trod_struct hu h
   obtain ⟨k1, k2, k3⟩ := kid_struct hl ht hu
   obtain ⟨parts, q1, q2, q3⟩ := fields (P := P) (G := argG w) (w := w) (n := n) (cs := cs) fs.toList 0 (fun j f hj => by rw [k3 j f hj]; omega) (by rw [hcl, k2]; omega) fun f hfm => by
    obtain ⟨i, hi⟩ := List.getElem?_of_mem hfm
    have h1 := hf i f (by simpa using hi)
    have hil : i < xs.length := by rw [hxl]; have := (List.getElem?_eq_some_iff.1 hi).1; simpa using this
    rw [List.getElem?_eq_getElem hil] at h1
    have hd : (xs.map (·.1))[i]? = some xs[i].1 := by rw [List.getElem?_map, List.getElem?_eq_getElem hil]; rfl
    have hty : (fs.toList.map (·.type))[i]? = some f.type := by rw [List.getElem?_map, hi]; rfl
    refine typ_of_trod hl n m' f.type _ _ (k1 f hfm) (ho f hfm) h1 fun k hk => hwt k ?_
    rw [hxe]
    simp only [DataW.weights, hu]
    exact DataW.weights_mem_each hty hd k hk
   rw [List.drop_zero] at q3
   exact ⟨parts.flatten, by simp only [Typ, hu]; exact ⟨parts, rfl, q1, q2⟩, q3⟩
  ·rename_i k e hu
   obtain ⟨xs, m', _, hxe, hcl, hxl, hf⟩ := DataW.trod_array hu h
   obtain ⟨k1, k2⟩ := kid_array hl ht hu
   have hwe : ∀ (d : DataW H), d ∈ xs.map (·.1) → ∀ q ∈ d.weights P e, q ≤ reachBytes := by
    have key : ∀ (l : List (DataW H)) (d : DataW H), d ∈ l → ∀ q ∈ d.weights P e, q ∈ DataW.weightsAll P e l := by
     intro l
     induction l with
     | nil => intro d hd; cases hd
     | cons a l ih =>
      intro d hd q hq
      simp only [DataW.weightsAll, List.mem_append]
      rcases List.mem_cons.1 hd with rfl | hd
      ·exact .inl hq
      ·exact .inr (ih d hd q hq)
    intro d hd q hq
    refine hwt q ?_
    rw [hxe]
    simp only [DataW.weights, hu]
    exact key _ d hd q hq
   obtain ⟨parts, q1, q2, q3⟩ := items (P := P) (G := argG w) (w := w) (m := n) (e := e) (cs := cs) k 0 (by rw [hcl, k2]; omega) fun i hi => by
    have h1 := hf i hi
    have hil : i < xs.length := by omega
    rw [List.getElem?_eq_getElem hil] at h1
    rw [Nat.zero_add]
    exact typ_of_trod hl n m' e _ _ k1 ho h1 (hwe _ (List.mem_map.2 ⟨_, List.getElem_mem hil, rfl⟩))
   rw [List.drop_zero] at q3
   exact ⟨parts.flatten, by simp only [Typ, hu]; exact ⟨parts, rfl, q1, q2⟩, q3⟩
  ·cases ho
theorem arg_of_trod (hl : laidOutB P = true) (n : Nat) {t : TypeId} {v : Value} {d : DataW H} {ps : List MemPlace} (ht : t < P.types.size) (ho : okTy P n t = true) (hv : Value.okWide P w .any 0 t v) (h : DataW.Trod enc P w 0 sp held t v d ps) (hwt : ∀ k ∈ d.weights P t, k ≤ reachBytes) :
  ∃ az, Typ P n t az ∧ RelV (argG w) w (mkV P t az) v := by
 obtain ⟨m, hm⟩ := h
 obtain ⟨az, h1, h2⟩ := typ_of_trod hl n m t _ _ ht ho hm hwt
 refine ⟨az, h1, ?_⟩
 have hone : ∀ {a : AV}, az = [a] → (∀ cs, v ≠ .agg cs) → RelV (argG w) w a v := by
  rintro a rfl hx
  have hc : v.cells.toList = [v] := by cases v <;> first | rfl | exact absurd rfl (hx _)
  rw [hc] at h2
  exact h2.2 0 a v rfl rfl
 cases n with
 | zero => exact h1.elim
 | succ n =>
  unfold mkV
  simp only [Typ] at h1
  split at h1 <;> rename_i hu
  ·obtain ⟨b, rfl⟩ := h1
   rw [hu]
   obtain ⟨c, hc⟩ := okWide_bool hu hv
   exact hone rfl (by rw [hc]; intro cs e; cases e)
  ·obtain ⟨b, rfl, _⟩ := h1
   rw [hu]
   obtain ⟨c, hc⟩ := okWide_int hu hv
   exact hone rfl (by rw [hc]; intro cs e; cases e)
  ·obtain ⟨b, rfl, _⟩ := h1
   rw [hu]
   obtain ⟨c, hc⟩ := okWide_string hu hv
   exact hone rfl (by rw [hc]; intro cs e; cases e)
  ·obtain ⟨b, rfl, _⟩ := h1
   rw [hu]
   obtain ⟨_, _, _, hc⟩ := okWide_slice hu hv
   exact hone rfl (by rw [hc]; intro cs e; cases e)
  ·rw [hu]
   unfold Value.okWide at hv
   rw [hu] at hv
   obtain ⟨cs, rfl, _, _⟩ := hv
   refine .agg ?_ fun i a u e1 e2 => ?_
   ·have := h2.1; simpa [Value.cells] using this.symm
   ·exact h2.2 i a u e1 (by simpa [Value.cells] using e2)
  ·rw [hu]
   unfold Value.okWide at hv
   rw [hu] at hv
   obtain ⟨cs, rfl, _, _⟩ := hv
   refine .agg ?_ fun i a u e1 e2 => ?_
   ·have := h2.1; simpa [Value.cells] using this.symm
   ·exact h2.2 i a u e1 (by simpa [Value.cells] using e2)
  ·exact h1.elim
theorem relArgs_cons {G : Gh} {a : AV} {v : Value} {az : List AV} {vs : List Value} (h : RelV G w a v) (hs : RelArgs G w az vs.toArray) : RelArgs G w (a :: az) (v :: vs).toArray := by
 refine ⟨by have := hs.1; simp at this; simp [this], fun i x u e1 e2 => ?_⟩
 cases i with
 | zero => simp at e1 e2; subst e1; subst e2; exact h
 | succ i => exact hs.2 i x u (by simpa using e1) (by simpa using e2)
def Parts (P : Program) (n : Nat) : List TypeId → List AV → Prop
 | [], cs => cs = []
 | t :: ts, cs => ∃ a b, cs = a ++ b ∧ Typ P n t a ∧ Parts P n ts b
theorem parts_of {n : Nat} : ∀ (fl : List Field) (parts : List (List AV)), parts.length = fl.length → (∀ (i : Nat) f p, fl[i]? = some f → parts[i]? = some p → Typ P n f.type p) → Parts P n (fl.map Field.type) parts.flatten
 | [], parts, hl, _ => by rw [List.length_eq_zero_iff.1 hl]; rfl
 | f :: fl, [], hl, _ => by simp at hl
 | f :: fl, p :: parts, hl, h => ⟨p, parts.flatten, rfl, h 0 f p rfl rfl, parts_of fl parts (by simpa using hl) fun i g q e1 e2 => h (i + 1) g q (by simpa using e1) (by simpa using e2)⟩
theorem typ_struct {n : Nat} {t : TypeId} {fs : Array Field} {cs : List AV} (hu : P.underlying t = some (.struct fs)) (h : Typ P (n + 1) t cs) : Parts P n (fs.toList.map Field.type) cs := by
 simp only [Typ, hu] at h
 obtain ⟨parts, rfl, h1, h2⟩ := h
 exact parts_of fs.toList parts h1 h2
theorem typ_int {n : Nat} {t : TypeId} {k : IntKind} {cs : List AV} (hu : P.underlying t = some (.int k)) (h : Typ P (n + 1) t cs) : ∃ m, cs = [.int k m] ∧ (Lit.int k m).wf = true := by
 simp only [Typ, hu] at h; exact h
theorem typ_slice {n : Nat} {t e : TypeId} {cs : List AV} {α : Type} {f : α → AV} {Q : α → Prop} (hu : P.underlying t = some (.slice e)) (h : Typ P (n + 1) t cs) (hq : ∀ y, Typ P n e y → ∃ x, mkV P e y = f x ∧ Q x) : ∃ l : List α, cs = [.lit (l.map f) false none] ∧ (l.length < 9223372036854775808 ∧ l.length * P.bytesOf e ≤ reachBytes) ∧ ∀ x ∈ l, Q x := by
 simp only [Typ, hu] at h
 obtain ⟨ys, rfl, ⟨h1, h1b⟩, h2⟩ := h
 have key : ∀ ys : List (List AV), (∀ y ∈ ys, Typ P n e y) → ∃ l : List α, ys.map (mkV P e) = l.map f ∧ l.length = ys.length ∧ ∀ x ∈ l, Q x := by
  intro ys
  induction ys with
  | nil => intro _; exact ⟨[], rfl, rfl, by simp⟩
  | cons y ys ih =>
   intro hy
   obtain ⟨x, q1, q2⟩ := hq y (hy y (by simp))
   obtain ⟨l, q3, q4, q5⟩ := ih fun z hz => hy z (List.mem_cons_of_mem _ hz)
   exact ⟨x :: l, by simp [q1, q3], by simp [q4], fun z hz => by
    rcases List.mem_cons.1 hz with rfl | hz
    ·exact q2
    ·exact q5 z hz⟩
 obtain ⟨l, q1, q2, q3⟩ := key ys h2
 exact ⟨l, by rw [q1], ⟨by simp only [maxLen] at h1; omega, by rw [q2]; exact h1b⟩, q3⟩
theorem typ_array {n k : Nat} {t e : TypeId} {cs : List AV} (hu : P.underlying t = some (.array k e)) (h : Typ P (n + 1) t cs) : Parts P n (List.replicate k e) cs := by
 simp only [Typ, hu] at h
 obtain ⟨parts, rfl, rfl, h2⟩ := h
 have key : ∀ parts : List (List AV), (∀ p ∈ parts, Typ P n e p) → Parts P n (List.replicate parts.length e) parts.flatten := by
  intro parts
  induction parts with
  | nil => intro _; rfl
  | cons p parts ih => intro hp; exact ⟨p, parts.flatten, rfl, hp p (by simp), ih fun q hq => hp q (List.mem_cons_of_mem _ hq)⟩
 exact key parts h2
theorem mkV_array {k : Nat} {t e : TypeId} {cs : List AV} (hu : P.underlying t = some (.array k e)) : mkV P t cs = .agg cs := by simp [mkV, hu]
theorem mkV_struct {t : TypeId} {fs : Array Field} {cs : List AV} (hu : P.underlying t = some (.struct fs)) : mkV P t cs = .agg cs := by simp [mkV, hu]
theorem mkV_one {t : TypeId} {a : AV} (hu : ∀ fs, P.underlying t ≠ some (.struct fs)) (hu2 : ∀ k e, P.underlying t ≠ some (.array k e)) : mkV P t [a] = a := by
 unfold mkV
 split
 ·rename_i fs h; exact absurd h (hu fs)
 ·rename_i k e h; exact absurd h (hu2 k e)
 ·rfl
theorem wf_u8 {m : Int} (h : (Lit.int .u8 m).wf = true) : 0 ≤ m ∧ m < 256 := by
 simp [Lit.wf, IntKind.min, IntKind.max, IntKind.signed, IntKind.bits] at h
 omega
end Go.Am
namespace Go.Am
variable {T : FuncId → Option AFunc}
theorem V_rem (k : IntKind) (a b : Int) (h : b ≠ 0) : binAV .rem (.int k a) (.int k b) = some (.int k (a.tmod b)) := by simp [binAV, binInt, h]
theorem app_full {sz b : Nat} {σ : St} {xs ys : List AV} {tk t : Option Nat} {f : Bool} (h : AppOk sz b xs ys) (h0 : ys.length ≠ 0) :
  appendAV sz b σ (.lit xs true tk) (.lit ys f t) = some (.lit (xs ++ ys) false (some σ.length), σ ++ [.tok sz (xs.length + ys.length) true]) := by
 obtain ⟨h1, h2, h3, h4⟩ := h
 simp [appendAV, view, sized, h0, h1, h2, h3, h4]
theorem app_nil {sz b : Nat} {σ : St} {xs : List AV} {tk t : Option Nat} {f f' : Bool} : appendAV sz b σ (.lit xs f' tk) (.lit [] f t) = some (.lit xs f' tk, σ) := by
 simp [appendAV, view]
end Go.Am
namespace Go.Am
variable {T : FuncId → Option AFunc}
theorem V_idxI {α : Type} {sz : Nat} {enc : α → AV} {l : List α} {i : Int} {t : Option Nat} (h0 : 0 ≤ i) (h : i.toNat < l.length) (hs : ∀ x, (enc x).cells.length = sz) : vIdx sz (l.map enc) i t = some (.lptr (l.map enc) i.toNat 0 t) := by
 simp [vIdx, List.getElem?_map, h, hs, h0]
def intss (l : List (List Int)) : AV := .lit (l.map ints) false none
theorem data_intss (l : List (List Int)) : Data (intss l) := data_list data_ints l
end Go.Am
namespace Go.Am
variable {T : FuncId → Option AFunc}
theorem pure_run {f : FuncId} {args : List AV} {v : AV} {af : AFunc} (hf : T f = some af) (hn : args.length ≤ af.ntmps) (hk : Datas args) (h : Run T (.code af.body (argsEnv 0 args) []) fun o => RetK af.results v o.j o.env o.σ) : Pure T f args v := by
 intro σ
 refine .frame hk.1 (.inl rfl) (R := fun o => o.v = v ∧ o.σ = []) (.call hf hn h fun o ho => ?_) fun o ho => ⟨ho.2, ho.1, rfl⟩
 obtain ⟨h1, v0, h2, h3⟩ := ho
 refine ⟨h1, v0, h2, ?_⟩
 unfold snapM at h3
 cases hs : snap o.σ 0 20 v0 with
 | none => rw [hs] at h3; cases h3
 | some v1 =>
  rw [hs] at h3
  simp at h3
  exact .inr ⟨20, v1, v, hs, .inr h3.symm, fun i hi => absurd hi (by simp), by simp, rfl, by simp⟩
theorem seq_run {a b : ACode} {e : Env} {σ : St} {Q : Out → Prop} (R : Env → St → Prop) (h : wp T a e σ fun j e' σ' => j = none ∧ R e' σ') (h2 : ∀ e' σ', R e' σ' → Run T (.code b e' σ') Q) : Run T (.code (.seq a b) e σ) Q :=
 .seq (run_wp h fun o ho => ho) (fun o ho _ => h2 _ _ ho.2) fun o ho hj => absurd ho.1 hj
theorem code_run {a : ACode} {e : Env} {σ : St} {K : KJ} (h : wp T a e σ K) : Run T (.code a e σ) fun o => K o.j o.env o.σ := run_wp h fun o ho => ho
end Go.Am
namespace Go.Am
instance (l : List (List Int)) : Dat (intss l) := ⟨data_intss l⟩
end Go.Am
namespace Go.Am.Room
theorem in_ok (n lo hi : Int) : Pure T 62 [.int .i64 n, .int .i64 lo, .int .i64 hi] (.bool (inR n lo hi)) := by
 refine pure_fn (af := a62) rfl (by simp [a62]) dd ?_
 (repeat (first | simp only [↓QA, QB, Nat.reduceLT, reduceIte, Nat.reduceEqDiff, Nat.reduceAdd, Nat.reduceLeDiff, Nat.reduceMul, Nat.reduceBEq, a62] | refine rd0 rfl ?_))
 refine iteP_intro (fun h => ?_) fun h => ?_
 all_goals
  (repeat (first | simp only [↓QA, QB, Nat.reduceLT, reduceIte, Nat.reduceEqDiff, Nat.reduceAdd, Nat.reduceLeDiff, Nat.reduceMul, Nat.reduceBEq, h] | refine rd0 rfl ?_))
  simp [inR, h]
theorem ends_ok (s : Span) (lo hi : Int) : Pure T 92 [encSpan s, .int .i64 lo, .int .i64 hi] (.int .i64 (ends s lo hi)) := by
 refine pure_fn (af := a92) rfl (by simp [a92]) dd ?_
 (repeat (first | simp only [↓QA, QB, Nat.reduceLT, reduceIte, Nat.reduceEqDiff, Nat.reduceAdd, Nat.reduceLeDiff, Nat.reduceMul, Nat.reduceBEq, a92, encSpan_eq] | refine rd0 rfl ?_))
 refine callK_d (in_ok _ _ _) rfl dd ?_
 (repeat (first | simp only [↓QA, QB, Nat.reduceLT, reduceIte, Nat.reduceEqDiff, Nat.reduceAdd, Nat.reduceLeDiff, Nat.reduceMul, Nat.reduceBEq] | refine rd0 rfl ?_))
 cases h1 : inR s.lo lo hi
 ·(repeat (first | simp only [↓QA, QB, Nat.reduceLT, reduceIte, Nat.reduceEqDiff, Nat.reduceAdd, Nat.reduceLeDiff, Nat.reduceMul, Nat.reduceBEq] | refine rd0 rfl ?_))
  simp [ends, h1]
 ·(repeat (first | simp only [↓QA, QB, Nat.reduceLT, reduceIte, Nat.reduceEqDiff, Nat.reduceAdd, Nat.reduceLeDiff, Nat.reduceMul, Nat.reduceBEq] | refine rd0 rfl ?_))
  refine callK_d (in_ok _ _ _) rfl dd ?_
  (repeat (first | simp only [↓QA, QB, Nat.reduceLT, reduceIte, Nat.reduceEqDiff, Nat.reduceAdd, Nat.reduceLeDiff, Nat.reduceMul, Nat.reduceBEq] | refine rd0 rfl ?_))
  cases h2 : inR s.hi lo hi
  ·(repeat (first | simp only [↓QA, QB, Nat.reduceLT, reduceIte, Nat.reduceEqDiff, Nat.reduceAdd, Nat.reduceLeDiff, Nat.reduceMul, Nat.reduceBEq] | refine rd0 rfl ?_))
   simp [ends, h1, h2]
  ·(repeat (first | simp only [↓QA, QB, Nat.reduceLT, reduceIte, Nat.reduceEqDiff, Nat.reduceAdd, Nat.reduceLeDiff, Nat.reduceMul, Nat.reduceBEq] | refine rd0 rfl ?_))
   refine iteP_intro (fun h => ?_) fun h => ?_
   all_goals
    (repeat (first | simp only [↓QA, QB, Nat.reduceLT, reduceIte, Nat.reduceEqDiff, Nat.reduceAdd, Nat.reduceLeDiff, Nat.reduceMul, Nat.reduceBEq, h] | refine rd0 rfl ?_))
    simp [ends, h1, h2]
    simpa using h
theorem has_ok (l : List Int) (n : Int) (hl : l.length < 9223372036854775808) : Pure T 41 [ints l, .int .i64 n] (.bool (l.contains n)) := by
 refine pure_fn (af := a41) rfl (by simp [a41]) dd ?_
 (repeat (first | simp only [↓QA, QB, Nat.reduceLT, reduceIte, Nat.reduceEqDiff, Nat.reduceAdd, Nat.reduceLeDiff, Nat.reduceMul, Nat.reduceBEq, a41] | refine rd0 rfl ?_))
 refine loopE (S := Nat) 0 (· ≤ l.length) (fun k => l.length - k) (fun k => [(0, ints l), (1, .int .i64 n), (5, .bool ((l.take k).contains n)), (6, .int .i64 k)]) (fun _ => []) (Nat.zero_le _) rfl ?_ fun k hk => ?_
 ·try simp only [TrimX, QE, Nat.reduceLT, reduceIte, Nat.reduceEqDiff, Nat.reduceAdd, Nat.reduceLeDiff, Nat.reduceMul, Nat.reduceBEq]
  try simp
 ·(repeat (first | simp only [↓QA, QB, Nat.reduceLT, reduceIte, Nat.reduceEqDiff, Nat.reduceAdd, Nat.reduceLeDiff, Nat.reduceMul, Nat.reduceBEq, L41_0] | refine rd0 rfl ?_))
  refine iteP_intro (fun h => ?_) fun h => ?_
  ·have hk1 : k < l.length := by simpa using h
   (repeat (first | simp only [↓QA, QB, Nat.reduceLT, reduceIte, Nat.reduceEqDiff, Nat.reduceAdd, Nat.reduceLeDiff, Nat.reduceMul, Nat.reduceBEq] | refine rd0 rfl ?_))
   refine iteP_intro (fun h2 => ?_) fun h2 => ?_
   all_goals
    (repeat (first | simp only [↓QA, QB, Nat.reduceLT, reduceIte, Nat.reduceEqDiff, Nat.reduceAdd, Nat.reduceLeDiff, Nat.reduceMul, Nat.reduceBEq, h2, hk1] | refine rd0 rfl ?_))
    refine ⟨k + 1, by omega, by omega, ?_⟩
    try simp only [TrimX, QE, Nat.reduceLT, reduceIte, Nat.reduceEqDiff, Nat.reduceAdd, Nat.reduceLeDiff, Nat.reduceMul, Nat.reduceBEq, wrapN hk1 hl]
    simp only [List.take_succ_eq_append_getElem hk1, List.contains_append, h2]
    simp
    try (rw [Bool.eq_iff_iff]; simp; exact eq_comm)
  ·have : k = l.length := by simp at h; omega
   (repeat (first | simp only [↓QA, QB, Nat.reduceLT, reduceIte, Nat.reduceEqDiff, Nat.reduceAdd, Nat.reduceLeDiff, Nat.reduceMul, Nat.reduceBEq] | refine rd0 rfl ?_))
   simp [this]
theorem allCells_ints (l : List (List Int)) : allCells 1 (l.map ints) = true := L_allM 1 ints l fun x => C_lit _ _ _
open Go
variable {P : Program}
def IsStruct (P : Program) (t : TypeId) (ts : List TypeId) : Prop := ∃ fs, P.underlying t = some (.struct fs) ∧ fs.toList.map Field.type = ts
theorem typ_st {n : Nat} {t : TypeId} {ts : List TypeId} {cs : List AV} (hu : IsStruct P t ts) (h : Typ P (n + 1) t cs) : mkV P t cs = .agg cs ∧ Parts P n ts cs := by
 obtain ⟨fs, h1, h2⟩ := hu
 have := typ_struct h1 h
 rw [h2] at this
 exact ⟨mkV_struct h1, this⟩
theorem mkV_ne {t : TypeId} {a : AV} {d : TypeDesc} (hu : P.underlying t = some d) (hd : ∀ fs, d ≠ .struct fs := by intro fs h; cases h) (hd2 : ∀ k e, d ≠ .array k e := by intro k e h; cases h) : mkV P t [a] = a := mkV_one (by rw [hu]; intro fs e; cases e; exact hd _ rfl) (by rw [hu]; intro k e h; cases h; exact hd2 _ _ rfl)
theorem tc_span {n : Nat} {i t : TypeId} {cs : List AV} (hi : P.underlying i = some (.int .i64)) (hs : IsStruct P t [i, i]) (h : Typ P (n + 2) t cs) : ∃ s : Span, cs = [.int .i64 s.lo, .int .i64 s.hi] := by
 obtain ⟨_, a, b, rfl, h1, c, d, rfl, h2, rfl⟩ := typ_st hs h
 obtain ⟨x, rfl, _⟩ := typ_int hi h1
 obtain ⟨y, rfl, _⟩ := typ_int hi h2
 exact ⟨⟨x, y⟩, rfl⟩
theorem tc_int {n : Nat} {t : TypeId} {cs : List AV} (hi : P.underlying t = some (.int .i64)) (h : Typ P (n + 1) t cs) : ∃ x : Int, mkV P t cs = .int .i64 x ∧ True := by
 obtain ⟨x, rfl, _⟩ := typ_int hi h
 exact ⟨x, mkV_ne hi, trivial⟩
theorem tc_ints {n : Nat} {t i : TypeId} {cs : List AV} (hi : P.underlying i = some (.int .i64)) (hs : P.underlying t = some (.slice i)) (h : Typ P (n + 2) t cs) : ∃ l : List Int, mkV P t cs = Go.Am.ints l ∧ cs = [Go.Am.ints l] ∧ l.length < 9223372036854775808 := by
 obtain ⟨l, rfl, ⟨h1, _⟩, _⟩ := typ_slice (f := fun x : Int => AV.int .i64 x) hs h fun y hy => tc_int hi hy
 exact ⟨l, mkV_ne hs, rfl, h1⟩
theorem tc_a4 {n : Nat} {t i : TypeId} {cs : List AV} (hi : P.underlying i = some (.int .u8)) (hs : P.underlying t = some (.array 4 i)) (h : Typ P (n + 2) t cs) : ∃ x y z u : Int, mkV P t cs = .agg [.int .u8 x, .int .u8 y, .int .u8 z, .int .u8 u] ∧ (0 ≤ x ∧ x < 256) ∧ (0 ≤ y ∧ y < 256) ∧ (0 ≤ z ∧ z < 256) ∧ (0 ≤ u ∧ u < 256) := by
 have e := mkV_array (cs := cs) hs
 obtain ⟨a, b, rfl, h1, c, d, rfl, h2, c3, d3, rfl, h3, c4, d4, rfl, h4, rfl⟩ := typ_array hs h
 obtain ⟨x, rfl, hx⟩ := typ_int hi h1
 obtain ⟨y, rfl, hy⟩ := typ_int hi h2
 obtain ⟨z, rfl, hz⟩ := typ_int hi h3
 obtain ⟨u, rfl, hu⟩ := typ_int hi h4
 exact ⟨x, y, z, u, e, wf_u8 hx, wf_u8 hy, wf_u8 hz, wf_u8 hu⟩
end Go.Am.Room
namespace Go.Am.Room
def courseOf (s : Ship) (h : Nat) (start : Int) (c : Bool) : List Int := (List.range (s.heat.length + 1)).map (marksAt s h start c)
def course (s : Ship) (h : Nat) (start : Int) (bl : List Int) : List Int := courseOf s h start (cooled bl h)
open Go
variable {P : Program}
structure Tys (P : Program) : Prop where
 int : P.underlying 3 = some (.int .i64)
 u8 : P.underlying 5 = some (.int .u8)
 ints : P.underlying 22 = some (.slice 3)
 holds : P.underlying 23 = some (.slice 76)
 lines : P.underlying 24 = some (.slice 49)
 ship : IsStruct P 26 [3, 3, 3, 22, 3, 23, 24]
 span : IsStruct P 31 [3, 3]
 line : IsStruct P 49 [3, 3, 3]
 u8s : P.underlying 52 = some (.slice 5)
 a2 : P.underlying 74 = some (.array 2 5)
 hold : IsStruct P 76 [31, 3, 31]
 a4 : P.underlying 78 = some (.array 4 5)
 lineB : P.bytesOf 49 = 24
theorem ty_hold {n : Nat} {cs : List AV} (T : Tys P) (h : Typ P (n + 3) 76 cs) : ∃ s : Hold, mkV P 76 cs = encHold s ∧ True := by
 obtain ⟨e, a, b, rfl, h1, c, d, rfl, h2, c2, d2, rfl, h3, rfl⟩ := typ_st T.hold h
 obtain ⟨x, rfl⟩ := tc_span T.int T.span h1
 obtain ⟨y, rfl, _⟩ := typ_int T.int h2
 obtain ⟨z, rfl⟩ := tc_span T.int T.span h3
 exact ⟨⟨x, y, z⟩, e, trivial⟩
theorem ty_line {n : Nat} {cs : List AV} (T : Tys P) (h : Typ P (n + 2) 49 cs) : ∃ s : Line, mkV P 49 cs = encLine s ∧ True := by
 obtain ⟨e, a, b, rfl, h1, c, d, rfl, h2, c2, d2, rfl, h3, rfl⟩ := typ_st T.line h
 obtain ⟨x, rfl, _⟩ := typ_int T.int h1
 obtain ⟨y, rfl, _⟩ := typ_int T.int h2
 obtain ⟨z, rfl, _⟩ := typ_int T.int h3
 exact ⟨⟨x, y, z⟩, e, trivial⟩
theorem ty_a4 {n : Nat} {cs : List AV} (T : Tys P) (h : Typ P (n + 2) 78 cs) : ∃ x y z u : Int, mkV P 78 cs = .agg [.int .u8 x, .int .u8 y, .int .u8 z, .int .u8 u] ∧ (0 ≤ x ∧ x < 256) ∧ (0 ≤ y ∧ y < 256) ∧ (0 ≤ z ∧ z < 256) ∧ (0 ≤ u ∧ u < 256) := tc_a4 T.u8 T.a4 h
theorem ty_shipB {n : Nat} {cs : List AV} (T : Tys P) (h : Typ P (n + 5) 26 cs) : ∃ s : Ship, mkV P 26 cs = encShip s ∧ Fits s ∧ s.log.length * 24 ≤ 140737488351232 := by
 obtain ⟨e, a1, b1, rfl, h1, a2, b2, rfl, h2, a3, b3, rfl, h3, a4, b4, rfl, h4, a5, b5, rfl, h5, a6, b6, rfl, h6, a7, b7, rfl, h7, rfl⟩ := typ_st T.ship h
 obtain ⟨x1, rfl, _⟩ := typ_int T.int h1
 obtain ⟨x2, rfl, _⟩ := typ_int T.int h2
 obtain ⟨x3, rfl, _⟩ := typ_int T.int h3
 obtain ⟨x4, _, rfl, l4⟩ := tc_ints T.int T.ints h4
 obtain ⟨x5, rfl, _⟩ := typ_int T.int h5
 obtain ⟨x6, rfl, ⟨l6, _⟩, _⟩ := typ_slice T.holds h6 fun y hy => ty_hold T hy
 obtain ⟨x7, rfl, ⟨l7, b7⟩, _⟩ := typ_slice T.lines h7 fun y hy => ty_line T hy
 exact ⟨⟨x1, x2, x3, x4, x5, x6, x7⟩, e, ⟨l4, l6, l7⟩, by rw [T.lineB] at b7; simpa [reachBytes] using b7⟩
theorem ty_ship {n : Nat} {cs : List AV} (T : Tys P) (h : Typ P (n + 5) 26 cs) : ∃ s : Ship, mkV P 26 cs = encShip s ∧ Fits s := by
 obtain ⟨r, h1, h2, _⟩ := ty_shipB T h
 exact ⟨r, h1, h2⟩
end Go.Am.Room
namespace Go.Am.Room
theorem firstBad_no {α : Type} {f : Nat → α → Int} : ∀ {l : List α} {i : Nat}, (∀ x ∈ l, ∀ k, f k x = 0) → firstBad f l i = none
 | [], _, _ => rfl
 | x :: xs, i, h => by
  simp only [firstBad]
  rw [if_pos (h x (by simp) i)]
  exact firstBad_no fun y hy => h y (by simp [hy])
theorem check_of_vd {s : Ship} (h : Vd s) : check s = (0, 0, 0) := by
 have h2 := h.nheat
 have h3 := h.nholds
 have h5 := h.nlog
 have g1 : firstBad heatErr s.heat 0 = none := firstBad_no fun n hn k => by simp [heatErr, isMarks, inR_iff.2 (h.heat n hn)]
 have g2 : firstBad (fun _ => holdErr) s.holds 0 = none := firstBad_no fun x hx k => (holdErr_iff x).2 (h.holds x hx)
 have g3 : firstBad (lineErr s) s.log 0 = none := firstBad_no fun x hx k => by
  have := h.log x hx
  have a : inR x.hold 0 ((s.holds.length : Int) - 1) = true := inR_iff.2 (by omega)
  simp [lineErr, a, isMarks, inR_iff.2 this.2.1, inR_iff.2 this.2.2]
 have a1 : isMarks s.cold = true := inR_iff.2 h.cold
 have a2 : inR s.heat.length 1 6 = true := inR_iff.2 (by omega)
 have a3 : inR s.frm 0 s.heat.length = true := inR_iff.2 h.frm
 have a4 : inR s.holds.length 1 4 = true := inR_iff.2 (by omega)
 have e5 : check5 s = (0, 0, 0) := by rw [check5, if_neg (by omega), g3]
 have e4 : check4 s = (0, 0, 0) := by rw [check4, if_neg (by simp [a4]), g2]; exact e5
 have e3 : check3 s = (0, 0, 0) := by rw [check3, if_neg (by simp [a3])]; exact e4
 have e2 : check2 s = (0, 0, 0) := by rw [check2, if_neg (by simp [a2]), g1]; exact e3
 rw [check, if_neg (by simp [a1, inR_iff.2 h.power, inR_iff.2 h.warm])]
 exact e2
end Go.Am.Room
set_option maxRecDepth 4000
namespace Go.Am.Room
def QXHHdC1 := And.intro @encShip_eq (And.intro @shipCells_eq (And.intro @encHold_eq (And.intro @encLine_eq (And.intro @encSpan_eq (And.intro @S_mapHold (@S_mapLine))))))
theorem rend_ok (s : Ship) : Pure T 63 [encShip s] (.int .i64 s.heat.length) := by
 refine pure_fn (af := a63) rfl (by simp [a63]) dd ?_
 (repeat (first | simp only [↓QA, QB, Nat.reduceLT, reduceIte, Nat.reduceEqDiff, Nat.reduceAdd, Nat.reduceLeDiff, Nat.reduceMul, Nat.reduceBEq, QXHHdC1, a63] | refine rd0 rfl ?_))
theorem rmarks_ok (n : Int) : Pure T 61 [.int .i64 n] (.bool (isMarks n)) := by
 refine pure_fn (af := a61) rfl (by simp [a61]) dd ?_
 (repeat (first | simp only [↓QA, QB, Nat.reduceLT, reduceIte, Nat.reduceEqDiff, Nat.reduceAdd, Nat.reduceLeDiff, Nat.reduceMul, Nat.reduceBEq, QXHHdC1, a61] | refine rd0 rfl ?_))
 ((first | refine callK_d (in_ok n 0 80) rfl dd ?_ | refine callD_d (in_ok n 0 80) rfl dd ?_); (repeat (first | simp only [↓QA, QB, Nat.reduceLT, reduceIte, Nat.reduceEqDiff, Nat.reduceAdd, Nat.reduceLeDiff, Nat.reduceMul, Nat.reduceBEq, QXHHdC1, isMarks] | refine rd0 rfl ?_)))
theorem rhold_ok (h : Hold) : Pure T 64 [encHold h] (.int .i64 (holdErr h)) := by
 refine pure_fn (af := a64) rfl (by simp [a64]) dd ?_
 (repeat (first | simp only [↓QA, QB, Nat.reduceLT, reduceIte, Nat.reduceEqDiff, Nat.reduceAdd, Nat.reduceLeDiff, Nat.reduceMul, Nat.reduceBEq, QXHHdC1, a64] | refine rd0 rfl ?_))
 ((first | refine callK_d (ends_ok h.start 0 80) rfl dd ?_ | refine callD_d (ends_ok h.start 0 80) rfl dd ?_); (repeat (first | simp only [↓QA, QB, Nat.reduceLT, reduceIte, Nat.reduceEqDiff, Nat.reduceAdd, Nat.reduceLeDiff, Nat.reduceMul, Nat.reduceBEq, QXHHdC1] | refine rd0 rfl ?_)))
 ((first | refine callK_d (ends_ok h.keep 0 80) rfl dd ?_ | refine callD_d (ends_ok h.keep 0 80) rfl dd ?_); (repeat (first | simp only [↓QA, QB, Nat.reduceLT, reduceIte, Nat.reduceEqDiff, Nat.reduceAdd, Nat.reduceLeDiff, Nat.reduceMul, Nat.reduceBEq, QXHHdC1] | refine rd0 rfl ?_)))
 cases h1 : (ends h.start 0 80 == 7)
 ·have h1' : ends h.start 0 80 ≠ 7 := by simpa using h1
  (repeat (first | simp only [↓QA, QB, Nat.reduceLT, reduceIte, Nat.reduceEqDiff, Nat.reduceAdd, Nat.reduceLeDiff, Nat.reduceMul, Nat.reduceBEq, QXHHdC1, h1] | refine rd0 rfl ?_))
  cases h2 : (ends h.keep 0 80 == 7)
  ·have h2' : ends h.keep 0 80 ≠ 7 := by simpa using h2
   (repeat (first | simp only [↓QA, QB, Nat.reduceLT, reduceIte, Nat.reduceEqDiff, Nat.reduceAdd, Nat.reduceLeDiff, Nat.reduceMul, Nat.reduceBEq, QXHHdC1, h2] | refine rd0 rfl ?_))
   ((first | refine callK_d (in_ok h.duct 0 2) rfl dd ?_ | refine callD_d (in_ok h.duct 0 2) rfl dd ?_); (repeat (first | simp only [↓QA, QB, Nat.reduceLT, reduceIte, Nat.reduceEqDiff, Nat.reduceAdd, Nat.reduceLeDiff, Nat.reduceMul, Nat.reduceBEq, QXHHdC1] | refine rd0 rfl ?_)))
   cases h3 : inR h.duct 0 2
   ·(repeat (first | simp only [↓QA, QB, Nat.reduceLT, reduceIte, Nat.reduceEqDiff, Nat.reduceAdd, Nat.reduceLeDiff, Nat.reduceMul, Nat.reduceBEq, QXHHdC1] | refine rd0 rfl ?_))
    simp [holdErr, h3]
   ·(repeat (first | simp only [↓QA, QB, Nat.reduceLT, reduceIte, Nat.reduceEqDiff, Nat.reduceAdd, Nat.reduceLeDiff, Nat.reduceMul, Nat.reduceBEq, QXHHdC1] | refine rd0 rfl ?_))
    cases h4 : (ends h.start 0 80 == 0)
    ·have h4' : ends h.start 0 80 ≠ 0 := by simpa using h4
     (repeat (first | simp only [↓QA, QB, Nat.reduceLT, reduceIte, Nat.reduceEqDiff, Nat.reduceAdd, Nat.reduceLeDiff, Nat.reduceMul, Nat.reduceBEq, QXHHdC1, h4] | refine rd0 rfl ?_))
     simp [holdErr, h1', h2', h3, h4']
    ·have h4' : ends h.start 0 80 = 0 := by simpa using h4
     (repeat (first | simp only [↓QA, QB, Nat.reduceLT, reduceIte, Nat.reduceEqDiff, Nat.reduceAdd, Nat.reduceLeDiff, Nat.reduceMul, Nat.reduceBEq, QXHHdC1, h4] | refine rd0 rfl ?_))
     simp [holdErr, h2', h3, h4']
  ·have h2' : ends h.keep 0 80 = 7 := by simpa using h2
   (repeat (first | simp only [↓QA, QB, Nat.reduceLT, reduceIte, Nat.reduceEqDiff, Nat.reduceAdd, Nat.reduceLeDiff, Nat.reduceMul, Nat.reduceBEq, QXHHdC1, h2] | refine rd0 rfl ?_))
   simp [holdErr, h2']
 ·have h1' : ends h.start 0 80 = 7 := by simpa using h1
  (repeat (first | simp only [↓QA, QB, Nat.reduceLT, reduceIte, Nat.reduceEqDiff, Nat.reduceAdd, Nat.reduceLeDiff, Nat.reduceMul, Nat.reduceBEq, QXHHdC1, h1] | refine rd0 rfl ?_))
  simp [holdErr, h1']
theorem refcheck_ok (s : Ship) (h : Fits s) : Pure T 17 [encShip s] (enc3 (check s)) := by
 refine pure_fn (af := a17) rfl (by simp [a17]) dd ?_
 have hfh := h.heat
 have hfo := h.holds
 have hfl := h.log
 (repeat (first | simp only [↓QA, QB, Nat.reduceLT, reduceIte, Nat.reduceEqDiff, Nat.reduceAdd, Nat.reduceLeDiff, Nat.reduceMul, Nat.reduceBEq, QXHHdC1, a17] | refine rd0 rfl ?_))
 ((first | refine callK_d (rmarks_ok s.cold) rfl dd ?_ | refine callD_d (rmarks_ok s.cold) rfl dd ?_); (repeat (first | simp only [↓QA, QB, Nat.reduceLT, reduceIte, Nat.reduceEqDiff, Nat.reduceAdd, Nat.reduceLeDiff, Nat.reduceMul, Nat.reduceBEq, QXHHdC1] | refine rd0 rfl ?_)))
 cases h1 : isMarks s.cold
 ·(repeat (first | simp only [↓QA, QB, Nat.reduceLT, reduceIte, Nat.reduceEqDiff, Nat.reduceAdd, Nat.reduceLeDiff, Nat.reduceMul, Nat.reduceBEq, QXHHdC1] | refine rd0 rfl ?_))
  simp [check, h1, enc3]
 ·(repeat (first | simp only [↓QA, QB, Nat.reduceLT, reduceIte, Nat.reduceEqDiff, Nat.reduceAdd, Nat.reduceLeDiff, Nat.reduceMul, Nat.reduceBEq, QXHHdC1] | refine rd0 rfl ?_))
  ((first | refine callK_d (in_ok s.power 1 9) rfl dd ?_ | refine callD_d (in_ok s.power 1 9) rfl dd ?_); (repeat (first | simp only [↓QA, QB, Nat.reduceLT, reduceIte, Nat.reduceEqDiff, Nat.reduceAdd, Nat.reduceLeDiff, Nat.reduceMul, Nat.reduceBEq, QXHHdC1] | refine rd0 rfl ?_)))
  cases h2 : inR s.power 1 9
  ·(repeat (first | simp only [↓QA, QB, Nat.reduceLT, reduceIte, Nat.reduceEqDiff, Nat.reduceAdd, Nat.reduceLeDiff, Nat.reduceMul, Nat.reduceBEq, QXHHdC1] | refine rd0 rfl ?_))
   simp [check, h2, enc3]
  ·(repeat (first | simp only [↓QA, QB, Nat.reduceLT, reduceIte, Nat.reduceEqDiff, Nat.reduceAdd, Nat.reduceLeDiff, Nat.reduceMul, Nat.reduceBEq, QXHHdC1] | refine rd0 rfl ?_))
   ((first | refine callK_d (in_ok s.warm 0 5) rfl dd ?_ | refine callD_d (in_ok s.warm 0 5) rfl dd ?_); (repeat (first | simp only [↓QA, QB, Nat.reduceLT, reduceIte, Nat.reduceEqDiff, Nat.reduceAdd, Nat.reduceLeDiff, Nat.reduceMul, Nat.reduceBEq, QXHHdC1] | refine rd0 rfl ?_)))
   cases h3 : inR s.warm 0 5
   ·(repeat (first | simp only [↓QA, QB, Nat.reduceLT, reduceIte, Nat.reduceEqDiff, Nat.reduceAdd, Nat.reduceLeDiff, Nat.reduceMul, Nat.reduceBEq, QXHHdC1] | refine rd0 rfl ?_))
    simp [check, h3, enc3]
   ·have hc : check s = check2 s := by simp [check, h1, h2, h3]
    rw [hc]
    (repeat (first | simp only [↓QA, QB, Nat.reduceLT, reduceIte, Nat.reduceEqDiff, Nat.reduceAdd, Nat.reduceLeDiff, Nat.reduceMul, Nat.reduceBEq, QXHHdC1] | refine rd0 rfl ?_))
    ((first | refine callK_d (in_ok s.heat.length 1 6) rfl dd ?_ | refine callD_d (in_ok s.heat.length 1 6) rfl dd ?_); (repeat (first | simp only [↓QA, QB, Nat.reduceLT, reduceIte, Nat.reduceEqDiff, Nat.reduceAdd, Nat.reduceLeDiff, Nat.reduceMul, Nat.reduceBEq, QXHHdC1] | refine rd0 rfl ?_)))
    cases h5 : inR s.heat.length 1 6
    ·(repeat (first | simp only [↓QA, QB, Nat.reduceLT, reduceIte, Nat.reduceEqDiff, Nat.reduceAdd, Nat.reduceLeDiff, Nat.reduceMul, Nat.reduceBEq, QXHHdC1] | refine rd0 rfl ?_))
     simp [check2, h5, enc3]
    ·have hc : check2 s = match firstBad heatErr s.heat 0 with | some (i, e) => (2, (i : Int), e) | none => check3 s := by simp only [check2, h5, Bool.true_eq_false, if_false]; rfl
     rw [hc]
     (repeat (first | simp only [↓QA, QB, Nat.reduceLT, reduceIte, Nat.reduceEqDiff, Nat.reduceAdd, Nat.reduceLeDiff, Nat.reduceMul, Nat.reduceBEq, QXHHdC1] | refine rd0 rfl ?_))
     refine loopE (S := Nat) 0 (fun k => k ≤ s.heat.length ∧ firstBad heatErr (s.heat.drop k) k = firstBad heatErr s.heat 0) (fun k => s.heat.length - k)
      (fun k => [(1, .ptr 0 0), (5, .int .i64 k)]) (fun _ => [.cells (shipCells s)]) ⟨Nat.zero_le _, by simp⟩ (by simp [shipCells, ints]) ?_ fun k hk => ?_
     ·try simp only [TrimX, QE, Nat.reduceLT, reduceIte, Nat.reduceEqDiff, Nat.reduceAdd, Nat.reduceLeDiff, Nat.reduceMul, Nat.reduceBEq, QXHHdC1]
      try simp
     ·obtain ⟨hk, hb⟩ := hk
      (repeat (first | simp only [↓QA, QB, Nat.reduceLT, reduceIte, Nat.reduceEqDiff, Nat.reduceAdd, Nat.reduceLeDiff, Nat.reduceMul, Nat.reduceBEq, QXHHdC1, L17_0] | refine rd0 rfl ?_))
      refine iteP_intro (fun hd => ?_) fun hd => ?_
      ·have hk1 : k < s.heat.length := by simpa using hd
       rw [firstBad_step hk1] at hb
       have hw := wrapN hk1 hfh
       (repeat (first | simp only [↓QA, QB, Nat.reduceLT, reduceIte, Nat.reduceEqDiff, Nat.reduceAdd, Nat.reduceLeDiff, Nat.reduceMul, Nat.reduceBEq, QXHHdC1, hk1] | refine rd0 rfl ?_))
       ((first | refine callK_d (rmarks_ok s.heat[k]) rfl dd ?_ | refine callD_d (rmarks_ok s.heat[k]) rfl dd ?_); (repeat (first | simp only [↓QA, QB, Nat.reduceLT, reduceIte, Nat.reduceEqDiff, Nat.reduceAdd, Nat.reduceLeDiff, Nat.reduceMul, Nat.reduceBEq, QXHHdC1, hk1] | refine rd0 rfl ?_)))
       have hre : heatErr k s.heat[k] = if isMarks s.heat[k] then 0 else 7 := rfl
       rw [hre] at hb
       cases hi : isMarks s.heat[k]
       ·(repeat (first | simp only [↓QA, QB, Nat.reduceLT, reduceIte, Nat.reduceEqDiff, Nat.reduceAdd, Nat.reduceLeDiff, Nat.reduceMul, Nat.reduceBEq, QXHHdC1, hk1] | refine rd0 rfl ?_))
        rw [← hb, hi]
        rfl
       ·(repeat (first | simp only [↓QA, QB, Nat.reduceLT, reduceIte, Nat.reduceEqDiff, Nat.reduceAdd, Nat.reduceLeDiff, Nat.reduceMul, Nat.reduceBEq, QXHHdC1, hk1, hw] | refine rd0 rfl ?_))
        refine ⟨k + 1, ⟨by omega, by rw [← hb, hi]; rfl⟩, by omega, ?_⟩
        try simp only [TrimX, QE, Nat.reduceLT, reduceIte, Nat.reduceEqDiff, Nat.reduceAdd, Nat.reduceLeDiff, Nat.reduceMul, Nat.reduceBEq, QXHHdC1, hw]
        try simp
      ·have hk1 : k = s.heat.length := by simp at hd; omega
       rw [firstBad_end hk1] at hb
       rw [← hb]
       (repeat (first | simp only [↓QA, QB, Nat.reduceLT, reduceIte, Nat.reduceEqDiff, Nat.reduceAdd, Nat.reduceLeDiff, Nat.reduceMul, Nat.reduceBEq, QXHHdC1] | refine rd0 rfl ?_))
       ((first | refine callK_d (rend_ok s) rfl dd ?_ | refine callD_d (rend_ok s) rfl dd ?_); (repeat (first | simp only [↓QA, QB, Nat.reduceLT, reduceIte, Nat.reduceEqDiff, Nat.reduceAdd, Nat.reduceLeDiff, Nat.reduceMul, Nat.reduceBEq, QXHHdC1] | refine rd0 rfl ?_)))
       ((first | refine callK_d (in_ok s.frm 0 s.heat.length) rfl dd ?_ | refine callD_d (in_ok s.frm 0 s.heat.length) rfl dd ?_); (repeat (first | simp only [↓QA, QB, Nat.reduceLT, reduceIte, Nat.reduceEqDiff, Nat.reduceAdd, Nat.reduceLeDiff, Nat.reduceMul, Nat.reduceBEq, QXHHdC1] | refine rd0 rfl ?_)))
       cases h6 : inR s.frm 0 s.heat.length
       ·(repeat (first | simp only [↓QA, QB, Nat.reduceLT, reduceIte, Nat.reduceEqDiff, Nat.reduceAdd, Nat.reduceLeDiff, Nat.reduceMul, Nat.reduceBEq, QXHHdC1] | refine rd0 rfl ?_))
        simp [check3, h6, enc3]
       ·have hc : check3 s = check4 s := by simp [check3, h6]
        rw [hc]
        (repeat (first | simp only [↓QA, QB, Nat.reduceLT, reduceIte, Nat.reduceEqDiff, Nat.reduceAdd, Nat.reduceLeDiff, Nat.reduceMul, Nat.reduceBEq, QXHHdC1] | refine rd0 rfl ?_))
        ((first | refine callK_d (in_ok s.holds.length 1 4) rfl dd ?_ | refine callD_d (in_ok s.holds.length 1 4) rfl dd ?_); (repeat (first | simp only [↓QA, QB, Nat.reduceLT, reduceIte, Nat.reduceEqDiff, Nat.reduceAdd, Nat.reduceLeDiff, Nat.reduceMul, Nat.reduceBEq, QXHHdC1] | refine rd0 rfl ?_)))
        cases h7 : inR s.holds.length 1 4
        ·(repeat (first | simp only [↓QA, QB, Nat.reduceLT, reduceIte, Nat.reduceEqDiff, Nat.reduceAdd, Nat.reduceLeDiff, Nat.reduceMul, Nat.reduceBEq, QXHHdC1] | refine rd0 rfl ?_))
         simp [check4, h7, enc3]
        ·have hc : check4 s = match firstBad (fun _ => holdErr) s.holds 0 with | some (i, e) => (4, (i : Int), e) | none => check5 s := by simp only [check4, h7, Bool.true_eq_false, if_false]; rfl
         rw [hc]
         (repeat (first | simp only [↓QA, QB, Nat.reduceLT, reduceIte, Nat.reduceEqDiff, Nat.reduceAdd, Nat.reduceLeDiff, Nat.reduceMul, Nat.reduceBEq, QXHHdC1] | refine rd0 rfl ?_))
         refine loopE (S := Nat) 0 (fun k => k ≤ s.holds.length ∧ firstBad (fun _ => holdErr) (s.holds.drop k) k = firstBad (fun _ => holdErr) s.holds 0) (fun k => s.holds.length - k)
          (fun k => [(1, .ptr 0 0), (6, .int .i64 k)]) (fun _ => [.cells (shipCells s)]) ⟨Nat.zero_le _, by simp⟩ (by simp [shipCells, ints]) ?_ fun j hj => ?_
         ·try simp only [TrimX, QE, Nat.reduceLT, reduceIte, Nat.reduceEqDiff, Nat.reduceAdd, Nat.reduceLeDiff, Nat.reduceMul, Nat.reduceBEq, QXHHdC1]
          try simp
         ·obtain ⟨hj, hbj⟩ := hj
          (repeat (first | simp only [↓QA, QB, Nat.reduceLT, reduceIte, Nat.reduceEqDiff, Nat.reduceAdd, Nat.reduceLeDiff, Nat.reduceMul, Nat.reduceBEq, QXHHdC1, L17_2] | refine rd0 rfl ?_))
          refine iteP_intro (fun hd2 => ?_) fun hd2 => ?_
          ·have hj1 : j < s.holds.length := by simpa using hd2
           rw [firstBad_step hj1] at hbj
           have hw2 := wrapN hj1 hfo
           have hho := rhold_ok s.holds[j]
           rw [encHold_eq] at hho
           (repeat (first | simp only [↓QA, QB, Nat.reduceLT, reduceIte, Nat.reduceEqDiff, Nat.reduceAdd, Nat.reduceLeDiff, Nat.reduceMul, Nat.reduceBEq, QXHHdC1, hj1] | refine rd0 rfl ?_))
           ((first | refine callK_d (hho) rfl dd ?_ | refine callD_d (hho) rfl dd ?_); (repeat (first | simp only [↓QA, QB, Nat.reduceLT, reduceIte, Nat.reduceEqDiff, Nat.reduceAdd, Nat.reduceLeDiff, Nat.reduceMul, Nat.reduceBEq, QXHHdC1, hj1] | refine rd0 rfl ?_)))
           cases hi : (holdErr s.holds[j] == 0)
           ·have hi' : holdErr s.holds[j] ≠ 0 := by simpa using hi
            rw [if_neg hi'] at hbj
            rw [← hbj]
            (repeat (first | simp only [↓QA, QB, Nat.reduceLT, reduceIte, Nat.reduceEqDiff, Nat.reduceAdd, Nat.reduceLeDiff, Nat.reduceMul, Nat.reduceBEq, QXHHdC1, hi, hj1] | refine rd0 rfl ?_))
            rfl
           ·have hi' : holdErr s.holds[j] = 0 := by simpa using hi
            rw [if_pos hi'] at hbj
            (repeat (first | simp only [↓QA, QB, Nat.reduceLT, reduceIte, Nat.reduceEqDiff, Nat.reduceAdd, Nat.reduceLeDiff, Nat.reduceMul, Nat.reduceBEq, QXHHdC1, hi, hj1, hw2] | refine rd0 rfl ?_))
            refine ⟨j + 1, ⟨by omega, hbj⟩, by omega, ?_⟩
            try simp only [TrimX, QE, Nat.reduceLT, reduceIte, Nat.reduceEqDiff, Nat.reduceAdd, Nat.reduceLeDiff, Nat.reduceMul, Nat.reduceBEq, QXHHdC1, hw2]
            try simp
          ·have hj1 : j = s.holds.length := by simp at hd2; omega
           rw [firstBad_end hj1] at hbj
           rw [← hbj]
           (repeat (first | simp only [↓QA, QB, Nat.reduceLT, reduceIte, Nat.reduceEqDiff, Nat.reduceAdd, Nat.reduceLeDiff, Nat.reduceMul, Nat.reduceBEq, QXHHdC1] | refine rd0 rfl ?_))
           cases h8 : decide (5 < (s.log.length : Int))
           ·have h8' : ¬ 5 < s.log.length := by simp at h8; omega
            have hc : check5 s = match firstBad (lineErr s) s.log 0 with | some (i, e) => (5, (i : Int), e) | none => (0, 0, 0) := by simp only [check5, h8', if_false]; rfl
            rw [hc]
            (repeat (first | simp only [↓QA, QB, Nat.reduceLT, reduceIte, Nat.reduceEqDiff, Nat.reduceAdd, Nat.reduceLeDiff, Nat.reduceMul, Nat.reduceBEq, QXHHdC1] | refine rd0 rfl ?_))
            refine loopE (S := Nat) 0 (fun k => k ≤ s.log.length ∧ firstBad (lineErr s) (s.log.drop k) k = firstBad (lineErr s) s.log 0) (fun k => s.log.length - k)
             (fun k => [(1, .ptr 0 0), (8, .int .i64 k)]) (fun _ => [.cells (shipCells s)]) ⟨Nat.zero_le _, by simp⟩ (by simp [shipCells, ints]) ?_ fun i hi => ?_
            ·try simp only [TrimX, QE, Nat.reduceLT, reduceIte, Nat.reduceEqDiff, Nat.reduceAdd, Nat.reduceLeDiff, Nat.reduceMul, Nat.reduceBEq, QXHHdC1]
             try simp
            ·obtain ⟨hi, hbi⟩ := hi
             (repeat (first | simp only [↓QA, QB, Nat.reduceLT, reduceIte, Nat.reduceEqDiff, Nat.reduceAdd, Nat.reduceLeDiff, Nat.reduceMul, Nat.reduceBEq, QXHHdC1, L17_4] | refine rd0 rfl ?_))
             refine iteP_intro (fun hd3 => ?_) fun hd3 => ?_
             ·have hi1 : i < s.log.length := by simpa using hd3
              rw [firstBad_step hi1] at hbi
              have hw3 := wrapN hi1 hfl
              have hws : IntKind.i64.wrap ((s.holds.length : Int) - 1) = (s.holds.length : Int) - 1 := wrap64 ⟨by omega, by omega⟩
              have hle : lineErr s i s.log[i] = if inR s.log[i].hold 0 ((s.holds.length : Int) - 1) = false then 4 else if inR s.log[i].watch 0 s.heat.length && isMarks s.log[i].marks then 0 else 7 := rfl
              rw [hle] at hbi
              (repeat (first | simp only [↓QA, QB, Nat.reduceLT, reduceIte, Nat.reduceEqDiff, Nat.reduceAdd, Nat.reduceLeDiff, Nat.reduceMul, Nat.reduceBEq, QXHHdC1, hi1, hws] | refine rd0 rfl ?_))
              ((first | refine callK_d (in_ok s.log[i].hold 0 ((s.holds.length : Int) - 1)) rfl dd ?_ | refine callD_d (in_ok s.log[i].hold 0 ((s.holds.length : Int) - 1)) rfl dd ?_); (repeat (first | simp only [↓QA, QB, Nat.reduceLT, reduceIte, Nat.reduceEqDiff, Nat.reduceAdd, Nat.reduceLeDiff, Nat.reduceMul, Nat.reduceBEq, QXHHdC1, hi1] | refine rd0 rfl ?_)))
              cases ha : inR s.log[i].hold 0 ((s.holds.length : Int) - 1)
              ·(repeat (first | simp only [↓QA, QB, Nat.reduceLT, reduceIte, Nat.reduceEqDiff, Nat.reduceAdd, Nat.reduceLeDiff, Nat.reduceMul, Nat.reduceBEq, QXHHdC1, hi1] | refine rd0 rfl ?_))
               rw [← hbi, ha]
               rfl
              ·(repeat (first | simp only [↓QA, QB, Nat.reduceLT, reduceIte, Nat.reduceEqDiff, Nat.reduceAdd, Nat.reduceLeDiff, Nat.reduceMul, Nat.reduceBEq, QXHHdC1, hi1] | refine rd0 rfl ?_))
               ((first | refine callK_d (rend_ok s) rfl dd ?_ | refine callD_d (rend_ok s) rfl dd ?_); (repeat (first | simp only [↓QA, QB, Nat.reduceLT, reduceIte, Nat.reduceEqDiff, Nat.reduceAdd, Nat.reduceLeDiff, Nat.reduceMul, Nat.reduceBEq, QXHHdC1, hi1] | refine rd0 rfl ?_)))
               ((first | refine callK_d (in_ok s.log[i].watch 0 s.heat.length) rfl dd ?_ | refine callD_d (in_ok s.log[i].watch 0 s.heat.length) rfl dd ?_); (repeat (first | simp only [↓QA, QB, Nat.reduceLT, reduceIte, Nat.reduceEqDiff, Nat.reduceAdd, Nat.reduceLeDiff, Nat.reduceMul, Nat.reduceBEq, QXHHdC1, hi1] | refine rd0 rfl ?_)))
               cases hb2 : inR s.log[i].watch 0 s.heat.length
               ·(repeat (first | simp only [↓QA, QB, Nat.reduceLT, reduceIte, Nat.reduceEqDiff, Nat.reduceAdd, Nat.reduceLeDiff, Nat.reduceMul, Nat.reduceBEq, QXHHdC1, hi1] | refine rd0 rfl ?_))
                rw [← hbi, ha, hb2]
                rfl
               ·(repeat (first | simp only [↓QA, QB, Nat.reduceLT, reduceIte, Nat.reduceEqDiff, Nat.reduceAdd, Nat.reduceLeDiff, Nat.reduceMul, Nat.reduceBEq, QXHHdC1, hi1] | refine rd0 rfl ?_))
                ((first | refine callK_d (rmarks_ok s.log[i].marks) rfl dd ?_ | refine callD_d (rmarks_ok s.log[i].marks) rfl dd ?_); (repeat (first | simp only [↓QA, QB, Nat.reduceLT, reduceIte, Nat.reduceEqDiff, Nat.reduceAdd, Nat.reduceLeDiff, Nat.reduceMul, Nat.reduceBEq, QXHHdC1, hi1] | refine rd0 rfl ?_)))
                cases hcm : isMarks s.log[i].marks
                ·(repeat (first | simp only [↓QA, QB, Nat.reduceLT, reduceIte, Nat.reduceEqDiff, Nat.reduceAdd, Nat.reduceLeDiff, Nat.reduceMul, Nat.reduceBEq, QXHHdC1, hi1] | refine rd0 rfl ?_))
                 rw [← hbi, ha, hb2, hcm]
                 rfl
                ·(repeat (first | simp only [↓QA, QB, Nat.reduceLT, reduceIte, Nat.reduceEqDiff, Nat.reduceAdd, Nat.reduceLeDiff, Nat.reduceMul, Nat.reduceBEq, QXHHdC1, hi1, hw3] | refine rd0 rfl ?_))
                 refine ⟨i + 1, ⟨by omega, by rw [← hbi, ha, hb2, hcm]; rfl⟩, by omega, ?_⟩
                 try simp only [TrimX, QE, Nat.reduceLT, reduceIte, Nat.reduceEqDiff, Nat.reduceAdd, Nat.reduceLeDiff, Nat.reduceMul, Nat.reduceBEq, QXHHdC1, hw3]
                 try simp
             ·have hi1 : i = s.log.length := by simp at hd3; omega
              rw [firstBad_end hi1] at hbi
              rw [← hbi]
              (repeat (first | simp only [↓QA, QB, Nat.reduceLT, reduceIte, Nat.reduceEqDiff, Nat.reduceAdd, Nat.reduceLeDiff, Nat.reduceMul, Nat.reduceBEq, QXHHdC1, enc3] | refine rd0 rfl ?_))
           ·have h8' : 5 < s.log.length := by simp at h8; omega
            (repeat (first | simp only [↓QA, QB, Nat.reduceLT, reduceIte, Nat.reduceEqDiff, Nat.reduceAdd, Nat.reduceLeDiff, Nat.reduceMul, Nat.reduceBEq, QXHHdC1] | refine rd0 rfl ?_))
            simp [check5, h8', enc3]
def app0 (sz : Nat) (σ : St) (xs : List AV) : AV × St := if xs.length = 0 then (.lit [] true none, σ) else (.lit xs false (some σ.length), σ ++ [.tok sz xs.length true])
theorem app0_eq {sz b : Nat} {σ : St} {xs : List AV} {f : Bool} {tk : Option Nat} (h : AppOk sz b [] xs) : appendAV sz b σ (.lit [] true none) (.lit xs f tk) = some ((app0 sz σ xs).1, (app0 sz σ xs).2) := by
 by_cases h0 : xs.length = 0
 ·have : xs = [] := List.length_eq_zero_iff.1 h0
  subst this
  rw [app_nil]; simp [app0]
 ·rw [app_full h h0]; simp [app0, h0]
theorem app0_more {sz b : Nat} {σ : St} {xs ys : List AV} {f : Bool} {tk : Option Nat} (h : AppOk sz b xs ys) (hy : ys.length ≠ 0) : appendAV sz b (app0 sz σ xs).2 (app0 sz σ xs).1 (.lit ys f tk) = some (.lit (xs ++ ys) false (some σ.length), σ ++ [.tok sz (xs.length + ys.length) true]) := by
 by_cases h0 : xs.length = 0
 ·have : xs = [] := List.length_eq_zero_iff.1 h0
  subst this
  simp only [app0, List.length_nil, if_true]
  rw [app_full h hy]
  simp
 ·simp only [app0, h0, if_false]
  rw [app_tok (ex := true) h hy (by simp)]
  simp
theorem allCells_lit {xs l : List AV} {f : Bool} {t : Option Nat} (h : allCells 1 xs = true) : allCells 1 (xs ++ [.lit l f t]) = true := by
 unfold allCells at *
 rw [List.all_append, h]
 rfl
theorem ok_datas {vs : List AV} (h : Datas vs) (m : Nat) : okVs m vs := okVs_up _ h.1
theorem mem_courses {s : Ship} {but clear : List Int} {h : Nat} (hh : h < s.holds.length) {c : Nat → Int} : c ∈ coursesIn s (truths s but) h clear ↔ ∃ t ∈ truths s but, ∃ n ∈ startsOf s h t.blocked but, c = marksAt s h n (cooled (restOf t.blocked clear) h) := by
 simp only [coursesIn, List.mem_flatMap, List.mem_map]
 constructor
 ·rintro ⟨t, ht, n, hn, rfl⟩
  rw [starts_at ht hh] at hn
  exact ⟨t, ht, n, hn, rfl⟩
 ·rintro ⟨t, ht, n, hn, rfl⟩
  exact ⟨t, ht, n, by rw [starts_at ht hh]; exact hn, rfl⟩
theorem filter_len {α : Type} {p : α → Bool} {l : List α} : (l.filter p).length = l.length ↔ ∀ x ∈ l, p x = true := by
 rw [List.length_filter_eq_length_iff]
theorem settled_one {α : Type} {p : α → Bool} {l : List α} : settled (l.filter p).length l.length = 1 ↔ ∀ x ∈ l, p x = true := by
 rw [← filter_len]
 unfold settled
 split
 ·rename_i h; simp [h]
 ·rename_i h
  split
  ·simp [h]
  ·simp [h]
theorem settled_two {α : Type} {p : α → Bool} {l : List α} : settled (l.filter p).length l.length = 2 ↔ l ≠ [] ∧ ∀ x ∈ l, p x = false := by
 unfold settled
 split
 ·rename_i h
  simp only [show ¬ (1 : Int) = 2 by omega, false_iff]
  rintro ⟨h1, h2⟩
  rw [filter_len] at h
  cases l with
  | nil => exact h1 rfl
  | cons x l =>
   have a := h x (by simp)
   have b := h2 x (by simp)
   rw [a] at b; cases b
 ·rename_i h
  split
  ·rename_i h0
   simp only [true_iff]
   refine ⟨fun e => ?_, fun x hx => ?_⟩
   ·subst e; simp at h
   ·have := List.eq_nil_of_length_eq_zero h0
    rw [List.filter_eq_nil_iff] at this
    simpa using this x hx
  ·rename_i h0
   simp only [show ¬ (0 : Int) = 2 by omega, false_iff]
   rintro ⟨h1, h2⟩
   apply h0
   rw [List.length_eq_zero_iff, List.filter_eq_nil_iff]
   intro x hx
   simp [h2 x hx]
end Go.Am.Room
set_option maxRecDepth 4000
namespace Go.Am.Room
def QXHHdC2 := And.intro @encShip_eq (And.intro @shipCells_eq (And.intro @encHold_eq (And.intro @encLine_eq (And.intro @encSpan_eq (And.intro @S_mapHold (@S_mapLine))))))
theorem rtowards_ok (a b n : Int) (h0 : -1000000 ≤ a ∧ a ≤ 1000000) (h1 : -1000000 ≤ n ∧ n ≤ 1000000) : Pure T 53 [.int .i64 a, .int .i64 b, .int .i64 n] (.int .i64 (towards a b n)) := by
 refine pure_fn (af := a53) rfl (by simp [a53]) dd ?_
 have w1 : IntKind.i64.wrap (a + n) = a + n := wrap64 ⟨by omega, by omega⟩
 have w2 : IntKind.i64.wrap (a - n) = a - n := wrap64 ⟨by omega, by omega⟩
 (repeat (first | simp only [↓QA, QB, Nat.reduceLT, reduceIte, Nat.reduceEqDiff, Nat.reduceAdd, Nat.reduceLeDiff, Nat.reduceMul, Nat.reduceBEq, QXHHdC2, a53, w1, w2] | refine rd0 rfl ?_))
 refine iteP_intro (fun h => ?_) fun h => ?_
 all_goals
  have h' := h
  simp only [decide_eq_true_eq, decide_eq_false_iff_not] at h'
  (repeat (first | simp only [↓QA, QB, Nat.reduceLT, reduceIte, Nat.reduceEqDiff, Nat.reduceAdd, Nat.reduceLeDiff, Nat.reduceMul, Nat.reduceBEq, QXHHdC2, h, w1, w2] | refine rd0 rfl ?_))
  simp [towards, h']
def cooledTo (bl : List Int) (k : Nat) : Bool := (List.range k).all fun i => !bl.contains (i : Int)
theorem cooledTo_succ (bl : List Int) (k : Nat) : cooledTo bl (k + 1) = (cooledTo bl k && !bl.contains (k : Int)) := by simp [cooledTo, List.range_succ, List.all_append]
theorem rcooled_ok (bl : List Int) (h : Nat) (hb : bl.length < 9223372036854775808) (hh : h ≤ 100) : Pure T 89 [ints bl, .int .i64 h] (.bool (cooled bl h)) := by
 refine pure_fn (af := a89) rfl (by simp [a89]) dd ?_
 (repeat (first | simp only [↓QA, QB, Nat.reduceLT, reduceIte, Nat.reduceEqDiff, Nat.reduceAdd, Nat.reduceLeDiff, Nat.reduceMul, Nat.reduceBEq, QXHHdC2, a89] | refine rd0 rfl ?_))
 refine loopE (S := Nat) 0 (fun k => k ≤ h + 1) (fun k => h + 1 - k) (fun k => [(0, ints bl), (1, .int .i64 h), (5, .bool (cooledTo bl k)), (6, .int .i64 k)]) (fun _ => []) (Nat.zero_le _) rfl ?_ fun k hk => ?_
 ·try simp only [TrimX, QE, Nat.reduceLT, reduceIte, Nat.reduceEqDiff, Nat.reduceAdd, Nat.reduceLeDiff, Nat.reduceMul, Nat.reduceBEq, QXHHdC2, cooledTo]
  try simp
 ·(repeat (first | simp only [↓QA, QB, Nat.reduceLT, reduceIte, Nat.reduceEqDiff, Nat.reduceAdd, Nat.reduceLeDiff, Nat.reduceMul, Nat.reduceBEq, QXHHdC2, L89_0] | refine rd0 rfl ?_))
  refine iteP_intro (fun hd => ?_) fun hd => ?_
  ·have hk1 : k ≤ h := by simp at hd; omega
   have hw : IntKind.i64.wrap ((k : Int) + 1) = ((k + 1 : Nat) : Int) := wrapN (show k < 200 by omega) (by omega)
   have hs := cooledTo_succ bl k
   cases hc : cooledTo bl k
   ·rw [hc, Bool.false_and] at hs
    (repeat (first | simp only [↓QA, QB, Nat.reduceLT, reduceIte, Nat.reduceEqDiff, Nat.reduceAdd, Nat.reduceLeDiff, Nat.reduceMul, Nat.reduceBEq, QXHHdC2, hw] | refine rd0 rfl ?_))
    refine ⟨k + 1, by omega, by omega, ?_⟩
    try simp only [TrimX, QE, Nat.reduceLT, reduceIte, Nat.reduceEqDiff, Nat.reduceAdd, Nat.reduceLeDiff, Nat.reduceMul, Nat.reduceBEq, QXHHdC2, hw, hs]
   ·rw [hc, Bool.true_and] at hs
    (repeat (first | simp only [↓QA, QB, Nat.reduceLT, reduceIte, Nat.reduceEqDiff, Nat.reduceAdd, Nat.reduceLeDiff, Nat.reduceMul, Nat.reduceBEq, QXHHdC2, hw] | refine rd0 rfl ?_))
    ((first | refine callK_d (has_ok bl k hb) rfl dd ?_ | refine callD_d (has_ok bl k hb) rfl dd ?_); (repeat (first | simp only [↓QA, QB, Nat.reduceLT, reduceIte, Nat.reduceEqDiff, Nat.reduceAdd, Nat.reduceLeDiff, Nat.reduceMul, Nat.reduceBEq, QXHHdC2, hw] | refine rd0 rfl ?_)))
    refine ⟨k + 1, by omega, by omega, ?_⟩
    try simp only [TrimX, QE, Nat.reduceLT, reduceIte, Nat.reduceEqDiff, Nat.reduceAdd, Nat.reduceLeDiff, Nat.reduceMul, Nat.reduceBEq, QXHHdC2, hw, hs]
  ·have hk1 : k = h + 1 := by simp at hd; omega
   subst hk1
   (repeat (first | simp only [↓QA, QB, Nat.reduceLT, reduceIte, Nat.reduceEqDiff, Nat.reduceAdd, Nat.reduceLeDiff, Nat.reduceMul, Nat.reduceBEq, QXHHdC2] | refine rd0 rfl ?_))
   rfl
theorem rcourse_ok (s : Ship) (hv : Vd s) (h : Nat) (hh : h ≤ 100) (n : Int) (hn : 0 ≤ n ∧ n ≤ 80) (bl : List Int) (hb : bl.length < 9223372036854775808) :
  Pure T 51 [encShip s, .int .i64 h, .int .i64 n, ints bl] (ints (course s h n bl)) := by
 have hnh := hv.nheat
 have hpw := hv.power
 have hcd := hv.cold
 have hwm := hv.warm
 refine pure_fn (af := a51) rfl (by simp [a51]) dd ?_
 obtain ⟨c, hc⟩ : ∃ c, cooled bl h = c := ⟨_, rfl⟩
 rw [show course s h n bl = (List.range (s.heat.length + 1)).map (marksAt s h n c) by rw [← hc]; rfl]
 (repeat (first | simp only [↓QA, QB, Nat.reduceLT, reduceIte, Nat.reduceEqDiff, Nat.reduceAdd, Nat.reduceLeDiff, Nat.reduceMul, Nat.reduceBEq, QXHHdC2, a51] | refine rd0 rfl ?_))
 refine ghostK 9 1 [.int .i64 n] rfl ?_
 refine loopE (S := Nat × Bool) (0, false) (fun k => k.1 ≤ s.heat.length) (fun k => s.heat.length - k.1)
  (fun k => [(1, .int .i64 h), (3, ints bl), (4, .ptr 0 0), (9, .lit (((List.range (k.1 + 1)).map (marksAt s h n c)).map (.int .i64)) false (some 1)), (10, .int .i64 k.1)])
  (fun k => [.cells (shipCells s), .tok 1 (k.1 + 1) k.2]) (Nat.zero_le _) (by simp [shipCells, ints]) ?_ fun k hk => ?_
 ·try simp only [TrimX, QE, Nat.reduceLT, reduceIte, Nat.reduceEqDiff, Nat.reduceAdd, Nat.reduceLeDiff, Nat.reduceMul, Nat.reduceBEq, QXHHdC2]
  try simp [marksAt]
 ·obtain ⟨k, ex⟩ := k
  simp only at hk
  obtain ⟨L, hL⟩ : ∃ L, (List.range (k + 1)).map (marksAt s h n c) = L := ⟨_, rfl⟩
  have hlen : L.length = k + 1 := by rw [← hL]; simp
  have hlt : k < L.length := by omega
  have hget : L[k] = marksAt s h n c k := by subst hL; simp
  have hsucc : (List.range (k + 1 + 1)).map (marksAt s h n c) = L ++ [marksAt s h n c (k + 1)] := by rw [List.range_succ, List.map_append, hL]; simp
  have hm := marks_bd hv (h := h) hn c k hk
  simp only [hL]
  (repeat (first | simp only [↓QA, QB, Nat.reduceLT, reduceIte, Nat.reduceEqDiff, Nat.reduceAdd, Nat.reduceLeDiff, Nat.reduceMul, Nat.reduceBEq, QXHHdC2, L51_0] | refine rd0 rfl ?_))
  ((first | refine callK_d (rend_ok s) rfl dd ?_ | refine callD_d (rend_ok s) rfl dd ?_); (repeat (first | simp only [↓QA, QB, Nat.reduceLT, reduceIte, Nat.reduceEqDiff, Nat.reduceAdd, Nat.reduceLeDiff, Nat.reduceMul, Nat.reduceBEq, QXHHdC2] | refine rd0 rfl ?_)))
  refine iteP_intro (fun hd => ?_) fun hd => ?_
  ·have hk1 : k < s.heat.length := by simpa using hd
   have hw := wrapN hk1 (by omega)
   have hap := fun a => append_at (σ := .cells (shipCells s) :: .tok 1 (k + 1) ex :: []) (t := 1) (ex := ex) (sz := 1) (b := 8) (xs := L.map (.int .i64)) (ys := [.int .i64 a]) (f := true) (tk := none) ⟨allCells_int L, by simp [allCells, AV.cells, AV.cell], by simp [room]; omega, by simp [room]; omega⟩ (by simp) (k + 1) (by simp [hlen]) rfl
   rw [shipCells_eq] at hap
   (repeat (first | simp only [↓QA, QB, Nat.reduceLT, reduceIte, Nat.reduceEqDiff, Nat.reduceAdd, Nat.reduceLeDiff, Nat.reduceMul, Nat.reduceBEq, QXHHdC2, hk1, hlt, hget] | refine rd0 rfl ?_))
   ((first | refine callK_d (rcooled_ok bl h hb hh) rfl dd ?_ | refine callD_d (rcooled_ok bl h hb hh) rfl dd ?_); (repeat (first | simp only [↓QA, QB, Nat.reduceLT, reduceIte, Nat.reduceEqDiff, Nat.reduceAdd, Nat.reduceLeDiff, Nat.reduceMul, Nat.reduceBEq, QXHHdC2, hk1, hlt, hget] | refine rd0 rfl ?_)))
   rw [hc]
   cases c
   ·have hmk : marksAt s h n false (k + 1) = towards (marksAt s h n false k) s.heat[k] s.warm := by simp [marksAt, hk1]
    rw [hmk] at hsucc
    (repeat (first | simp only [↓QA, QB, Nat.reduceLT, reduceIte, Nat.reduceEqDiff, Nat.reduceAdd, Nat.reduceLeDiff, Nat.reduceMul, Nat.reduceBEq, QXHHdC2, hk1, hlt, hget] | refine rd0 rfl ?_))
    ((first | refine callK_d (rtowards_ok (marksAt s h n false k) s.heat[k] s.warm (by omega) (by omega)) rfl dd ?_ | refine callD_d (rtowards_ok (marksAt s h n false k) s.heat[k] s.warm (by omega) (by omega)) rfl dd ?_); (repeat (first | simp only [↓QA, QB, Nat.reduceLT, reduceIte, Nat.reduceEqDiff, Nat.reduceAdd, Nat.reduceLeDiff, Nat.reduceMul, Nat.reduceBEq, QXHHdC2, hk1, hlt, hget, hap] | refine rd0 rfl ?_)))
    refine ⟨(k + 1, true), by simp only; omega, by simp only; omega, ?_⟩
    try simp only [TrimX, QE, Nat.reduceLT, reduceIte, Nat.reduceEqDiff, Nat.reduceAdd, Nat.reduceLeDiff, Nat.reduceMul, Nat.reduceBEq, QXHHdC2, hw, hsucc, List.map_append, List.map_cons, List.map_nil]
    try simp [okBlk]
   ·have hmk : marksAt s h n true (k + 1) = towards (marksAt s h n true k) s.cold (max 1 (s.power - h)) := by simp [marksAt]
    have hws : IntKind.i64.wrap (s.power - (h : Int)) = s.power - h := wrap64 ⟨by omega, by omega⟩
    rw [hmk] at hsucc
    (repeat (first | simp only [↓QA, QB, Nat.reduceLT, reduceIte, Nat.reduceEqDiff, Nat.reduceAdd, Nat.reduceLeDiff, Nat.reduceMul, Nat.reduceBEq, QXHHdC2, hk1, hlt, hget, hws] | refine rd0 rfl ?_))
    ((first | refine callK_d (rtowards_ok (marksAt s h n true k) s.cold (max 1 (s.power - h)) (by omega) (by omega)) rfl dd ?_ | refine callD_d (rtowards_ok (marksAt s h n true k) s.cold (max 1 (s.power - h)) (by omega) (by omega)) rfl dd ?_); (repeat (first | simp only [↓QA, QB, Nat.reduceLT, reduceIte, Nat.reduceEqDiff, Nat.reduceAdd, Nat.reduceLeDiff, Nat.reduceMul, Nat.reduceBEq, QXHHdC2, hk1, hlt, hget, hap] | refine rd0 rfl ?_)))
    refine ⟨(k + 1, true), by simp only; omega, by simp only; omega, ?_⟩
    try simp only [TrimX, QE, Nat.reduceLT, reduceIte, Nat.reduceEqDiff, Nat.reduceAdd, Nat.reduceLeDiff, Nat.reduceMul, Nat.reduceBEq, QXHHdC2, hw, hsucc, List.map_append, List.map_cons, List.map_nil]
    try simp [okBlk]
  ·have hk1 : k = s.heat.length := by simp at hd; omega
   subst hk1
   (repeat (first | simp only [↓QA, QB, Nat.reduceLT, reduceIte, Nat.reduceEqDiff, Nat.reduceAdd, Nat.reduceLeDiff, Nat.reduceMul, Nat.reduceBEq, QXHHdC2, hL] | refine rd0 rfl ?_))
   try try simp only [QS, QC, Nat.reduceLT, reduceIte, Nat.reduceEqDiff, Nat.reduceAdd, Nat.reduceLeDiff, Nat.reduceMul, Nat.reduceBEq, QXHHdC2]
end Go.Am.Room
set_option maxRecDepth 4000
namespace Go.Am.Room
def QXHHdC3 := And.intro @encShip_eq (And.intro @shipCells_eq (And.intro @encHold_eq (And.intro @encLine_eq (And.intro @encSpan_eq (And.intro @S_mapHold (@S_mapLine))))))
theorem rsets_ok (s : Ship) (hv : Vd s) : Pure T 87 [encShip s] (intss (setsOf s)) := by
 refine pure_fn (af := a87) rfl (by simp [a87]) dd ?_
 have hno := hv.nholds
 rw [show setsOf s = setsUp s s.holds.length from rfl]
 (repeat (first | simp only [↓QA, QB, Nat.reduceLT, reduceIte, Nat.reduceEqDiff, Nat.reduceAdd, Nat.reduceLeDiff, Nat.reduceMul, Nat.reduceBEq, QXHHdC3, a87] | refine rd0 rfl ?_))
 refine loopE (S := Nat) 0 (fun n => n ≤ s.holds.length) (fun n => s.holds.length - n) (fun n => [(1, .ptr 0 0), (3, intss (setsUp s n)), (4, .int .i64 n)]) (fun _ => [.cells (shipCells s)]) (Nat.zero_le _) (by simp [shipCells, ints]) ?_ fun n hn => ?_
 ·try simp only [TrimX, QE, Nat.reduceLT, reduceIte, Nat.reduceEqDiff, Nat.reduceAdd, Nat.reduceLeDiff, Nat.reduceMul, Nat.reduceBEq, QXHHdC3]
  simp [intss, ints, setsUp, clr, clrs]
 ·(repeat (first | simp only [↓QA, QB, Nat.reduceLT, reduceIte, Nat.reduceEqDiff, Nat.reduceAdd, Nat.reduceLeDiff, Nat.reduceMul, Nat.reduceBEq, QXHHdC3, L87_0, intss] | refine rd0 rfl ?_))
  refine iteP_intro (fun h => ?_) fun h => ?_
  ·have hn1 : n < s.holds.length := by simpa using h
   have hwn : IntKind.i64.wrap ((n : Int) + 1) = ((n + 1 : Nat) : Int) := wrapN hn1 (by omega)
   have hsl : (setsUp s n).length ≤ 16 := Nat.le_trans (setsUp_len s n) (by
    calc 2 ^ n ≤ 2 ^ 4 := Nat.pow_le_pow_right (by omega) (by omega)
     _ = 16 := by decide)
   have hsl1 : (setsUp s (n + 1)).length ≤ 16 := Nat.le_trans (setsUp_len s (n + 1)) (by
    calc 2 ^ (n + 1) ≤ 2 ^ 4 := Nat.pow_le_pow_right (by omega) (by omega)
     _ = 16 := by decide)
   obtain ⟨x, hx⟩ : ∃ x, s.holds[n] = x := ⟨_, rfl⟩
   obtain ⟨R, hR⟩ : ∃ R, setsUp s (n + 1) = R := ⟨_, rfl⟩
   have hspec := setsUp_succ hn1
   rw [hR, hx] at hspec
   rw [hR] at hsl1
   (repeat (first | simp only [↓QA, QB, Nat.reduceLT, reduceIte, Nat.reduceEqDiff, Nat.reduceAdd, Nat.reduceLeDiff, Nat.reduceMul, Nat.reduceBEq, QXHHdC3] | refine rd0 rfl ?_))
   refine ghostK 5 1 [] rfl ?_
   refine loopE (S := Nat × List (List Int) × Bool) (0, [], false) (fun k => k.1 ≤ (setsUp s n).length ∧ k.2.1 ++ ((setsUp s n).drop k.1).flatMap (grow x n) = R) (fun k => (setsUp s n).length - k.1)
    (fun k => [(1, .ptr 0 0), (3, intss (setsUp s n)), (4, .int .i64 n), (5, .lit (k.2.1.map ints) false (some 1)), (6, .int .i64 k.1)]) (fun k => [.cells (shipCells s), .tok 1 k.2.1.length k.2.2]) ⟨Nat.zero_le _, by simp [hspec]⟩ (by simp [shipCells, ints]) ?_ fun k hk => ?_
   ·try simp only [TrimX, QE, Nat.reduceLT, reduceIte, Nat.reduceEqDiff, Nat.reduceAdd, Nat.reduceLeDiff, Nat.reduceMul, Nat.reduceBEq, QXHHdC3, intss]
    try simp
   ·obtain ⟨k, acc, ex⟩ := k
    obtain ⟨hk, hacc⟩ := hk
    simp only at hk hacc
    (repeat (first | simp only [↓QA, QB, Nat.reduceLT, reduceIte, Nat.reduceEqDiff, Nat.reduceAdd, Nat.reduceLeDiff, Nat.reduceMul, Nat.reduceBEq, QXHHdC3, L87_2, intss] | refine rd0 rfl ?_))
    refine iteP_intro (fun h2 => ?_) fun h2 => ?_
    ·have hk1 : k < (setsUp s n).length := by simpa using h2
     have hmem := List.getElem_mem hk1
     obtain ⟨c, hc⟩ : ∃ c, (setsUp s n)[k] = c := ⟨_, rfl⟩
     rw [hc] at hmem
     have hlen := setsUp_in s n c hmem
     rw [List.drop_eq_getElem_cons hk1, hc, List.flatMap_cons] at hacc
     have hacl : acc.length ≤ 16 := by
      have := congrArg List.length hacc
      simp only [List.length_append] at this
      omega
     have hwk : IntKind.i64.wrap ((k : Int) + 1) = ((k + 1 : Nat) : Int) := wrapN hk1 (by omega)
     have a0 : ∀ (σ : St), appendAV 1 8 σ (.lit [] true none) (.lit (c.map (.int .i64)) false none) = some ((app0 1 σ (c.map (.int .i64))).1, (app0 1 σ (c.map (.int .i64))).2) := fun σ => app0_eq ⟨rfl, allCells_int c, by simp [room]; omega, by simp [room]; omega⟩
     have a1 : ∀ (σ : St), appendAV 1 8 (app0 1 σ (c.map (.int .i64))).2 (app0 1 σ (c.map (.int .i64))).1 (.lit [.int .i64 n] true none) = some (.lit (c.map (.int .i64) ++ [.int .i64 n]) false (some σ.length), σ ++ [.tok 1 (c.length + 1) true]) := fun σ => by
      rw [app0_more ⟨allCells_int c, by simp [allCells, AV.cells, AV.cell], by simp [room]; omega, by simp [room]; omega⟩ (by simp)]
      simp
     have a2 : ∀ (b : ABlk) (τ : St) (ex : Bool) (xs : List AV) (m : Nat) (y : AV), xs.length = m → m ≤ 20 → allCells 1 (xs ++ [y]) = true → appendAV 1 24 (b :: .tok 1 m ex :: τ) (.lit xs false (some 1)) (.lit [y] true none) = some (.lit (xs ++ [y]) false (some 1), b :: .tok 1 (m + 1) true :: τ) := fun b τ ex xs m y hm hm2 hal => by
      simp only [allCells, List.all_append, Bool.and_eq_true] at hal
      rw [append_at (t := 1) (ex := ex) (sz := 1) ⟨hal.1, hal.2, by simp [room]; omega, by simp [room]; omega⟩ (by simp) m hm.symm rfl]
      simp
     have hca : allCells 1 (acc.map ints) = true := allCells_ints acc
     have hap := fun (b : ABlk) (τ : St) (ex : Bool) (l : List AV) (f : Bool) (t : Option Nat) => a2 b τ ex (acc.map ints) acc.length (.lit l f t) (by simp) (by omega) (allCells_lit hca)
     have hap2 := fun (b : ABlk) (τ : St) (ex : Bool) (l l2 : List AV) (f f2 : Bool) (t t2 : Option Nat) => a2 b τ ex (acc.map ints ++ [.lit l f t]) (acc.length + 1) (.lit l2 f2 t2) (by simp) (by omega) (allCells_lit (allCells_lit hca))
     by_cases d1 : x.duct = 1
     ·have g1 : (x.duct == 1) = true := by simpa using d1
      have g0 : (x.duct == 0) = false := by simp [d1]
      have hg : grow x n c = [c ++ [(n : Int)]] := by simp [grow, d1]
      rw [hg] at hacc
      (repeat (first | simp only [↓QA, QB, Nat.reduceLT, reduceIte, Nat.reduceEqDiff, Nat.reduceAdd, Nat.reduceLeDiff, Nat.reduceMul, Nat.reduceBEq, QXHHdC3, hk1, hn1, hx, g1, g0, hc, ints, a0, a1, hap] | refine rd0 rfl ?_))
      refine ⟨(k + 1, acc ++ [c ++ [(n : Int)]], true), ⟨by simp only; omega, by simpa using hacc⟩, by simp only; omega, ?_⟩
      try simp only [TrimX, QE, Nat.reduceLT, reduceIte, Nat.reduceEqDiff, Nat.reduceAdd, Nat.reduceLeDiff, Nat.reduceMul, Nat.reduceBEq, QXHHdC3, hwk, List.map_append, List.length_append, List.map_cons, List.map_nil, intss]
      try simp [okBlk]
     ·have g1 : (x.duct == 1) = false := by simpa using d1
      by_cases d0 : x.duct = 0
      ·have g0 : (x.duct == 0) = true := by simpa using d0
       have hg : grow x n c = [c] := by simp [grow, d0]
       rw [hg] at hacc
       (repeat (first | simp only [↓QA, QB, Nat.reduceLT, reduceIte, Nat.reduceEqDiff, Nat.reduceAdd, Nat.reduceLeDiff, Nat.reduceMul, Nat.reduceBEq, QXHHdC3, hk1, hn1, hx, g1, g0, hc, ints, hap] | refine rd0 rfl ?_))
       refine ⟨(k + 1, acc ++ [c], true), ⟨by simp only; omega, by simpa using hacc⟩, by simp only; omega, ?_⟩
       try simp only [TrimX, QE, Nat.reduceLT, reduceIte, Nat.reduceEqDiff, Nat.reduceAdd, Nat.reduceLeDiff, Nat.reduceMul, Nat.reduceBEq, QXHHdC3, hwk, List.map_append, List.length_append, List.map_cons, List.map_nil, intss]
       try simp [okBlk]
      ·have g0 : (x.duct == 0) = false := by simpa using d0
       have hg : grow x n c = [c, c ++ [(n : Int)]] := by simp [grow, d1, d0]
       rw [hg] at hacc
       (repeat (first | simp only [↓QA, QB, Nat.reduceLT, reduceIte, Nat.reduceEqDiff, Nat.reduceAdd, Nat.reduceLeDiff, Nat.reduceMul, Nat.reduceBEq, QXHHdC3, hk1, hn1, hx, g1, g0, hc, ints, hap, a0, a1, hap2] | refine rd0 rfl ?_))
       refine ⟨(k + 1, acc ++ [c, c ++ [(n : Int)]], true), ⟨by simp only; omega, by simpa using hacc⟩, by simp only; omega, ?_⟩
       try simp only [TrimX, QE, Nat.reduceLT, reduceIte, Nat.reduceEqDiff, Nat.reduceAdd, Nat.reduceLeDiff, Nat.reduceMul, Nat.reduceBEq, QXHHdC3, hwk, List.map_append, List.length_append, List.map_cons, List.map_nil, intss]
       try simp [okBlk]
    ·have hk1 : k = (setsUp s n).length := by simp at h2; omega
     have hfin : acc = R := by rw [← hacc, hk1, List.drop_length]; simp
     (repeat (first | simp only [↓QA, QB, Nat.reduceLT, reduceIte, Nat.reduceEqDiff, Nat.reduceAdd, Nat.reduceLeDiff, Nat.reduceMul, Nat.reduceBEq, QXHHdC3] | refine rd0 rfl ?_))
     refine ⟨n + 1, by omega, by omega, ?_⟩
     try simp only [TrimX, QE, Nat.reduceLT, reduceIte, Nat.reduceEqDiff, Nat.reduceAdd, Nat.reduceLeDiff, Nat.reduceMul, Nat.reduceBEq, QXHHdC3, hwn, intss, hfin, hR]
  ·have hn1 : n = s.holds.length := by simp at h; omega
   subst hn1
   (repeat (first | simp only [↓QA, QB, Nat.reduceLT, reduceIte, Nat.reduceEqDiff, Nat.reduceAdd, Nat.reduceLeDiff, Nat.reduceMul, Nat.reduceBEq, QXHHdC3, intss] | refine rd0 rfl ?_))
end Go.Am.Room
set_option maxRecDepth 4000
namespace Go.Am.Room
def QXHHdC4 := And.intro @encShip_eq (And.intro @shipCells_eq (And.intro @encHold_eq (And.intro @encLine_eq (And.intro @encSpan_eq (And.intro @S_mapHold (@S_mapLine))))))
def linesTo (s : Ship) (h : Nat) (c : Nat → Int) (but : List Int) (k : Nat) : Bool := (List.range k).all fun i => match s.log[i]? with | some x => lineOk h c but i x | none => true
theorem linesTo_succ {s : Ship} {k : Nat} (hk : k < s.log.length) (h : Nat) (c : Nat → Int) (but : List Int) : linesTo s h c but (k + 1) = (linesTo s h c but k && lineOk h c but k s.log[k]) := by
 simp [linesTo, List.range_succ, List.all_append, hk]
theorem rstarts_ok (s : Ship) (hv : Vd s) (h : Nat) (hh : h < s.holds.length) (bl but : List Int) (hb : bl.length < 9223372036854775808) (hbu : but.length < 9223372036854775808) :
  Pure T 88 [encShip s, .int .i64 h, ints bl, ints but] (ints (startsOf s h bl but)) := by
 have hnh := hv.nheat
 have hno := hv.nholds
 have hnl := hv.nlog
 have hst := (hv.holds _ (List.getElem_mem hh)).start
 refine pure_fn (af := a88) rfl (by simp [a88]) dd ?_
 obtain ⟨x, hx⟩ : ∃ x, s.holds[h] = x := ⟨_, rfl⟩
 rw [hx] at hst
 obtain ⟨c, hc⟩ : ∃ c, cooled bl h = c := ⟨_, rfl⟩
 obtain ⟨R, hR⟩ : ∃ R, startsOf s h bl but = R := ⟨_, rfl⟩
 obtain ⟨N, hN⟩ : ∃ N, (x.start.hi + 1 - x.start.lo).toNat = N := ⟨_, rfl⟩
 obtain ⟨p, hp⟩ : ∃ p : Int → Bool, (fun n => linesOk s h (marksAt s h n c) but) = p := ⟨_, rfl⟩
 have hR' : [] ++ (numbers (x.start.lo + ((0 : Nat) : Int)) (N - 0)).filter p = R := by
  rw [← hR, ← hp, ← hN, ← hc]
  simp only [startsOf, List.getElem?_eq_getElem hh, hx]
  simp
 rw [hR]
 (repeat (first | simp only [↓QA, QB, Nat.reduceLT, reduceIte, Nat.reduceEqDiff, Nat.reduceAdd, Nat.reduceLeDiff, Nat.reduceMul, Nat.reduceBEq, QXHHdC4, a88, hh, hx] | refine rd0 rfl ?_))
 refine ghostK 9 1 [] rfl ?_
 refine loopE (S := Nat × List Int × Bool) (0, [], false) (fun k => k.1 ≤ N ∧ k.2.1.length ≤ k.1 ∧ k.2.1 ++ (numbers (x.start.lo + (k.1 : Int)) (N - k.1)).filter p = R) (fun k => N - k.1)
  (fun k => [(1, .int .i64 h), (2, ints bl), (3, ints but), (4, .ptr 0 0), (9, .lit (k.2.1.map (.int .i64)) false (some 1)), (10, .int .i64 (x.start.lo + (k.1 : Int)))]) (fun k => [.cells (shipCells s), .tok 1 k.2.1.length k.2.2]) ⟨Nat.zero_le _, Nat.le_refl _, hR'⟩ (by simp [shipCells, ints]) ?_ fun k hk => ?_
 ·try simp only [TrimX, QE, Nat.reduceLT, reduceIte, Nat.reduceEqDiff, Nat.reduceAdd, Nat.reduceLeDiff, Nat.reduceMul, Nat.reduceBEq, QXHHdC4]
  try simp
 ·obtain ⟨k, acc, ex⟩ := k
  obtain ⟨hk, hal, hacc⟩ := hk
  simp only at hk hal hacc
  obtain ⟨n, hn⟩ : ∃ n, x.start.lo + (k : Int) = n := ⟨_, rfl⟩
  simp only [hn]
  rw [hn] at hacc
  (repeat (first | simp only [↓QA, QB, Nat.reduceLT, reduceIte, Nat.reduceEqDiff, Nat.reduceAdd, Nat.reduceLeDiff, Nat.reduceMul, Nat.reduceBEq, QXHHdC4, L88_0, hh, hx] | refine rd0 rfl ?_))
  refine iteP_intro (fun hd => ?_) fun hd => ?_
  ·have hd' : n ≤ x.start.hi := by simpa using hd
   have hk1 : k < N := by omega
   have hn80 : 0 ≤ n ∧ n ≤ 80 := by omega
   have hw : IntKind.i64.wrap (n + 1) = n + 1 := wrap64 ⟨by omega, by omega⟩
   have hn1 : x.start.lo + ((k + 1 : Nat) : Int) = n + 1 := by omega
   rw [show N - k = (N - (k + 1)) + 1 by omega] at hacc
   simp only [numbers, List.filter_cons] at hacc
   obtain ⟨L, hL⟩ : ∃ L, course s h n bl = L := ⟨_, rfl⟩
   have hLe : L = (List.range (s.heat.length + 1)).map (marksAt s h n c) := by rw [← hL, ← hc]; rfl
   have hlen : L.length = s.heat.length + 1 := by rw [hLe]; simp
   have hcs := rcourse_ok s hv h (by omega) n hn80 bl hb
   rw [hL] at hcs
   have hap := fun (a : Int) (τ : St) => append_at (σ := .cells (shipCells s) :: .tok 1 acc.length ex :: τ) (t := 1) (ex := ex) (sz := 1) (b := 8) (xs := acc.map (.int .i64)) (ys := [.int .i64 a]) (f := true) (tk := none) ⟨allCells_int acc, by simp [allCells, AV.cells, AV.cell], by simp [room]; omega, by simp [room]; omega⟩ (by simp) acc.length (by simp) rfl
   rw [shipCells_eq] at hap
   (repeat (first | simp only [↓QA, QB, Nat.reduceLT, reduceIte, Nat.reduceEqDiff, Nat.reduceAdd, Nat.reduceLeDiff, Nat.reduceMul, Nat.reduceBEq, QXHHdC4] | refine rd0 rfl ?_))
   ((first | refine callK_d (hcs) rfl dd ?_ | refine callD_d (hcs) rfl dd ?_); (repeat (first | simp only [↓QA, QB, Nat.reduceLT, reduceIte, Nat.reduceEqDiff, Nat.reduceAdd, Nat.reduceLeDiff, Nat.reduceMul, Nat.reduceBEq, QXHHdC4] | refine rd0 rfl ?_)))
   refine loopE (S := Nat) 0 (fun i => i ≤ s.log.length) (fun i => s.log.length - i)
    (fun i => [(1, .int .i64 h), (2, ints bl), (3, ints but), (4, .ptr 0 0), (9, .lit (acc.map (.int .i64)) false (some 1)), (10, .int .i64 n), (11, ints L), (12, .bool (linesTo s h (marksAt s h n c) but i)), (13, .int .i64 i)]) (fun i => [.cells (shipCells s), .tok 1 acc.length ex]) (Nat.zero_le _) (by simp [shipCells, ints]) ?_ fun i hi => ?_
   ·try simp only [TrimX, QE, Nat.reduceLT, reduceIte, Nat.reduceEqDiff, Nat.reduceAdd, Nat.reduceLeDiff, Nat.reduceMul, Nat.reduceBEq, QXHHdC4, linesTo]
    try simp
   ·(repeat (first | simp only [↓QA, QB, Nat.reduceLT, reduceIte, Nat.reduceEqDiff, Nat.reduceAdd, Nat.reduceLeDiff, Nat.reduceMul, Nat.reduceBEq, QXHHdC4, L88_2] | refine rd0 rfl ?_))
    refine iteP_intro (fun hd2 => ?_) fun hd2 => ?_
    ·have hi1 : i < s.log.length := by simpa using hd2
     have hwi := wrapN hi1 (by omega)
     have hln := hv.log _ (List.getElem_mem hi1)
     obtain ⟨y, hy⟩ : ∃ y, s.log[i] = y := ⟨_, rfl⟩
     have hsucc := linesTo_succ hi1 h (marksAt s h n c) but
     rw [hy] at hln hsucc
     have hwt : 0 ≤ y.watch ∧ y.watch.toNat < L.length := by omega
     have hget : L[y.watch.toNat] = marksAt s h n c y.watch.toNat := by simp only [hLe]; simp
     have hmb := marks_bd hv (h := h) hn80 c y.watch.toNat (by omega)
     have hyb := hln.2.2
     have hws : IntKind.i64.wrap (marksAt s h n c y.watch.toNat - y.marks) = marksAt s h n c y.watch.toNat - y.marks := wrap64 ⟨by omega, by omega⟩
     cases h1 : (y.hold == (h : Int))
     ·have h1' : ¬ y.hold = (h : Int) := by simpa using h1
      have hl : lineOk h (marksAt s h n c) but i y = true := by simp [lineOk, h1']
      rw [hl, Bool.and_true] at hsucc
      (repeat (first | simp only [↓QA, QB, Nat.reduceLT, reduceIte, Nat.reduceEqDiff, Nat.reduceAdd, Nat.reduceLeDiff, Nat.reduceMul, Nat.reduceBEq, QXHHdC4, hi1, hy, h1] | refine rd0 rfl ?_))
      refine ⟨i + 1, by omega, by omega, ?_⟩
      try simp only [TrimX, QE, Nat.reduceLT, reduceIte, Nat.reduceEqDiff, Nat.reduceAdd, Nat.reduceLeDiff, Nat.reduceMul, Nat.reduceBEq, QXHHdC4, hwi, hsucc]
      try simp [okBlk]
     ·have h1' : y.hold = (h : Int) := by simpa using h1
      (repeat (first | simp only [↓QA, QB, Nat.reduceLT, reduceIte, Nat.reduceEqDiff, Nat.reduceAdd, Nat.reduceLeDiff, Nat.reduceMul, Nat.reduceBEq, QXHHdC4, hi1, hy, h1] | refine rd0 rfl ?_))
      ((first | refine callK_d (has_ok but i hbu) rfl dd ?_ | refine callD_d (has_ok but i hbu) rfl dd ?_); (repeat (first | simp only [↓QA, QB, Nat.reduceLT, reduceIte, Nat.reduceEqDiff, Nat.reduceAdd, Nat.reduceLeDiff, Nat.reduceMul, Nat.reduceBEq, QXHHdC4, hi1, hy] | refine rd0 rfl ?_)))
      cases h2 : but.contains (i : Int)
      ·have hl : lineOk h (marksAt s h n c) but i y = inR (marksAt s h n c y.watch.toNat - y.marks) (-1) 1 := by simp only [lineOk, h1', h2]; simp
       rw [hl] at hsucc
       cases h3 : linesTo s h (marksAt s h n c) but i
       ·rw [h3, Bool.false_and] at hsucc
        (repeat (first | simp only [↓QA, QB, Nat.reduceLT, reduceIte, Nat.reduceEqDiff, Nat.reduceAdd, Nat.reduceLeDiff, Nat.reduceMul, Nat.reduceBEq, QXHHdC4, hi1, hy] | refine rd0 rfl ?_))
        refine ⟨i + 1, by omega, by omega, ?_⟩
        try simp only [TrimX, QE, Nat.reduceLT, reduceIte, Nat.reduceEqDiff, Nat.reduceAdd, Nat.reduceLeDiff, Nat.reduceMul, Nat.reduceBEq, QXHHdC4, hwi, hsucc]
        try simp [okBlk]
       ·rw [h3, Bool.true_and] at hsucc
        (repeat (first | simp only [↓QA, QB, Nat.reduceLT, reduceIte, Nat.reduceEqDiff, Nat.reduceAdd, Nat.reduceLeDiff, Nat.reduceMul, Nat.reduceBEq, QXHHdC4, hi1, hy, V_idxI, hwt, hget, hws] | refine rd0 rfl ?_))
        ((first | refine callK_d (in_ok (marksAt s h n c y.watch.toNat - y.marks) (-1) 1) rfl dd ?_ | refine callD_d (in_ok (marksAt s h n c y.watch.toNat - y.marks) (-1) 1) rfl dd ?_); (repeat (first | simp only [↓QA, QB, Nat.reduceLT, reduceIte, Nat.reduceEqDiff, Nat.reduceAdd, Nat.reduceLeDiff, Nat.reduceMul, Nat.reduceBEq, QXHHdC4, hi1, hy, V_idxI, hwt, hget, hws] | refine rd0 rfl ?_)))
        refine ⟨i + 1, by omega, by omega, ?_⟩
        try simp only [TrimX, QE, Nat.reduceLT, reduceIte, Nat.reduceEqDiff, Nat.reduceAdd, Nat.reduceLeDiff, Nat.reduceMul, Nat.reduceBEq, QXHHdC4, hwi, hsucc]
        try simp [okBlk]
      ·have hl : lineOk h (marksAt s h n c) but i y = true := by simp only [lineOk, h2]; simp
       rw [hl, Bool.and_true] at hsucc
       (repeat (first | simp only [↓QA, QB, Nat.reduceLT, reduceIte, Nat.reduceEqDiff, Nat.reduceAdd, Nat.reduceLeDiff, Nat.reduceMul, Nat.reduceBEq, QXHHdC4, hi1, hy] | refine rd0 rfl ?_))
       refine ⟨i + 1, by omega, by omega, ?_⟩
       try simp only [TrimX, QE, Nat.reduceLT, reduceIte, Nat.reduceEqDiff, Nat.reduceAdd, Nat.reduceLeDiff, Nat.reduceMul, Nat.reduceBEq, QXHHdC4, hwi, hsucc]
       try simp [okBlk]
    ·have hi1 : i = s.log.length := by simp at hd2; omega
     subst hi1
     have hpn : linesTo s h (marksAt s h n c) but s.log.length = p n := by rw [← hp]; rfl
     rw [hpn]
     cases h4 : p n
     ·rw [h4] at hacc
      (repeat (first | simp only [↓QA, QB, Nat.reduceLT, reduceIte, Nat.reduceEqDiff, Nat.reduceAdd, Nat.reduceLeDiff, Nat.reduceMul, Nat.reduceBEq, QXHHdC4] | refine rd0 rfl ?_))
      refine ⟨(k + 1, acc, ex), ⟨by simp only; omega, by simp only; omega, by simp only [hn1]; simpa using hacc⟩, by simp only; omega, ?_⟩
      try simp only [TrimX, QE, Nat.reduceLT, reduceIte, Nat.reduceEqDiff, Nat.reduceAdd, Nat.reduceLeDiff, Nat.reduceMul, Nat.reduceBEq, QXHHdC4, hw, hn1]
      try simp [okBlk]
     ·rw [h4] at hacc
      (repeat (first | simp only [↓QA, QB, Nat.reduceLT, reduceIte, Nat.reduceEqDiff, Nat.reduceAdd, Nat.reduceLeDiff, Nat.reduceMul, Nat.reduceBEq, QXHHdC4, hap] | refine rd0 rfl ?_))
      refine ⟨(k + 1, acc ++ [n], true), ⟨by simp only; omega, by simp only [List.length_append, List.length_cons, List.length_nil]; omega, by simp only [hn1]; simpa using hacc⟩, by simp only; omega, ?_⟩
      try simp only [TrimX, QE, Nat.reduceLT, reduceIte, Nat.reduceEqDiff, Nat.reduceAdd, Nat.reduceLeDiff, Nat.reduceMul, Nat.reduceBEq, QXHHdC4, hw, hn1, List.map_append, List.map_cons, List.map_nil]
      try simp [okBlk]
  ·have hd' : ¬ n ≤ x.start.hi := by simpa using hd
   have hk1 : k = N := by omega
   rw [hk1, Nat.sub_self] at hacc
   simp only [numbers, List.filter_nil, List.append_nil] at hacc
   subst hacc
   (repeat (first | simp only [↓QA, QB, Nat.reduceLT, reduceIte, Nat.reduceEqDiff, Nat.reduceAdd, Nat.reduceLeDiff, Nat.reduceMul, Nat.reduceBEq, QXHHdC4] | refine rd0 rfl ?_))
   try try simp only [QS, QC, Nat.reduceLT, reduceIte, Nat.reduceEqDiff, Nat.reduceAdd, Nat.reduceLeDiff, Nat.reduceMul, Nat.reduceBEq, QXHHdC4]
end Go.Am.Room
set_option maxRecDepth 4000
namespace Go.Am.Room
def QXHHdC5 := And.intro @encShip_eq (And.intro @shipCells_eq (And.intro @encHold_eq (And.intro @encLine_eq (And.intro @encSpan_eq (And.intro @S_mapHold (And.intro @S_mapLine (And.intro @T_sapp (@T_sapp0))))))))
def encTruth (t : Truth) : AV := .agg [ints t.blocked, intss t.starts]
theorem encTruth_eq (t : Truth) : encTruth t = .agg [.lit (t.blocked.map (.int .i64)) false none, .lit (t.starts.map ints) false none] := by simp only [encTruth, ints, intss]
theorem data_truth (t : Truth) : Data (encTruth t) := data_agg (datas_cons (data_ints _) (datas_cons (data_intss _) datas_nil))
instance (t : Truth) : Dat (encTruth t) := ⟨data_truth t⟩
def truthsAV (l : List Truth) : AV := .lit (l.map encTruth) false none
theorem data_truths (l : List Truth) : Data (truthsAV l) := data_list data_truth l
instance (l : List Truth) : Dat (truthsAV l) := ⟨data_truths l⟩
instance (l : List Truth) : Dats (l.map encTruth) := ⟨datas_map data_truth l⟩
theorem S_mapT (σ : St) (m d : Nat) (l : List Truth) : snapMs σ m d (l.map encTruth) = some (l.map encTruth) := S_datas (datas_map data_truth l) σ m d
def startsTo (s : Ship) (bl but : List Int) (k : Nat) : List (List Int) := (List.range k).map fun h => startsOf s h bl but
def allIn (s : Ship) (bl but : List Int) (k : Nat) : Bool := (startsTo s bl but k).all fun x => !x.isEmpty
theorem startsTo_succ (s : Ship) (bl but : List Int) (k : Nat) : startsTo s bl but (k + 1) = startsTo s bl but k ++ [startsOf s k bl but] := by simp [startsTo, List.range_succ]
theorem allIn_succ (s : Ship) (bl but : List Int) (k : Nat) : allIn s bl but (k + 1) = (allIn s bl but k && !(startsOf s k bl but).isEmpty) := by simp [allIn, startsTo_succ, List.all_append]
theorem allIn_le {s : Ship} {bl but : List Int} {k : Nat} (h : allIn s bl but k = false) : ∀ j, k ≤ j → allIn s bl but j = false := by
  intro j hj
  induction j with
  | zero => have : k = 0 := by omega
            subst this; exact h
  | succ j ih =>
    by_cases hk : k = j + 1
    · subst hk; exact h
    · rw [allIn_succ, ih (by omega), Bool.false_and]
theorem truthOf_eq (s : Ship) (but bl : List Int) : truthOf s but bl = if allIn s bl but s.holds.length = true then some ⟨bl, startsTo s bl but s.holds.length⟩ else none := rfl
theorem truths_in (s : Ship) (hv : Vd s) (but : List Int) (hbu : but.length < 9223372036854775808) (bl : List Int) (hbl : bl.length ≤ 4) (k : Nat) (hk : k < (setsOf s).length) (hkb : (setsOf s)[k] = bl) (acc : List Truth) (ex : Bool) (e : Env) (K : KJ)
  (e1 : Env.get e 1 = ints but) (e2 : Env.get e 2 = .ptr 0 0) (e5 : Env.get e 5 = intss (setsOf s)) (e6 : Env.get e 6 = .lit (acc.map encTruth) false (some 1)) (e7 : Env.get e 7 = .int .i64 k) (e8 : Env.get e 8 = .ptr 2 0) (e9 : Env.get e 9 = .bool true) (e10 : Env.get e 10 = .int .i64 0)
  (hK : ∀ e' xs f tk τ, (∀ t, tk = some t → 2 < t) → (allIn s bl but s.holds.length = true → xs = (startsTo s bl but s.holds.length).map ints) → Env.get e' 1 = ints but → Env.get e' 2 = .ptr 0 0 → Env.get e' 5 = intss (setsOf s) → Env.get e' 6 = .lit (acc.map encTruth) false (some 1) → Env.get e' 7 = .int .i64 k → Env.get e' 8 = .ptr 2 0 → Env.get e' 9 = .bool (allIn s bl but s.holds.length) →
   K (some (.exit 2)) e' (.cells (shipCells s) :: .tok 2 acc.length ex :: .cells [.lit (bl.map (.int .i64)) false none, .lit xs f tk] :: τ)) :
  rK (K := ⟨K⟩) T (.loop L45_2) e [.cells (shipCells s), .tok 2 acc.length ex, .cells [.lit (bl.map (.int .i64)) false none, .lit [] true none]] := by
 have hno := hv.nholds
 refine loopE (S := Nat × Bool × Option Nat × St) (0, true, none, []) (fun a => a.1 ≤ s.holds.length ∧ ∀ t, a.2.2.1 = some t → 2 < t ∧ t < 3 + a.2.2.2.length) (fun a => s.holds.length - a.1)
  (fun a => [(1, ints but), (2, .ptr 0 0), (5, intss (setsOf s)), (6, .lit (acc.map encTruth) false (some 1)), (7, .int .i64 k), (8, .ptr 2 0), (9, .bool (allIn s bl but a.1)), (10, .int .i64 a.1)])
  (fun a => .cells (shipCells s) :: .tok 2 acc.length ex :: .cells [.lit (bl.map (.int .i64)) false none, .lit ((startsTo s bl but a.1).map ints) a.2.1 a.2.2.1] :: a.2.2.2) ⟨Nat.zero_le _, fun t h => by cases h⟩ rfl ?_ fun a ha => ?_
 ·try simp only [TrimX, QE, Nat.reduceLT, reduceIte, Nat.reduceEqDiff, Nat.reduceAdd, Nat.reduceLeDiff, Nat.reduceMul, Nat.reduceBEq, QXHHdC5, S_mapT, e1, e2, e5, e6, e7, e8, e9, e10]
  try simp [allIn, startsTo]
 ·obtain ⟨h, f, tk, τ⟩ := a
  obtain ⟨hh, htk⟩ := ha
  simp only at hh htk
  by_cases hh1 : h < s.holds.length
  ·have g : decide ((h : Int) < (s.holds.length : Int)) = true := by simpa using hh1
   have hw := wrapN hh1 (by omega)
   have hsucc := startsTo_succ s bl but h
   have hall := allIn_succ s bl but h
   cases hc : allIn s bl but h
   ·have hfull := allIn_le hc s.holds.length hh
    (repeat (first | simp only [↓QA, QB, Nat.reduceLT, reduceIte, Nat.reduceEqDiff, Nat.reduceAdd, Nat.reduceLeDiff, Nat.reduceMul, Nat.reduceBEq, QXHHdC5, S_mapT, L45_2, g] | refine rd0 rfl ?_))
    have hk0 := hK
    rw [shipCells_eq, hfull] at hk0
    refine hk0 _ _ f tk τ (fun t ht => (htk t ht).1) (fun h => by cases h) ?_ ?_ ?_ ?_ ?_ ?_ ?_
    all_goals try simp only [TrimX, QE, Nat.reduceLT, reduceIte, Nat.reduceEqDiff, Nat.reduceAdd, Nat.reduceLeDiff, Nat.reduceMul, Nat.reduceBEq, QXHHdC5, S_mapT]
   ·rw [hc, Bool.true_and] at hall
    obtain ⟨l, hl⟩ : ∃ l, startsOf s h bl but = l := ⟨_, rfl⟩
    have hll := starts_len hv h bl but
    have hst := rstarts_ok s hv h hh1 bl but (by omega) hbu
    rw [hl] at hst hsucc hall hll
    have hlenp : decide ((0 : Int) < (l.length : Int)) = !l.isEmpty := by cases l <;> simp
    obtain ⟨xs, hxs⟩ : ∃ xs, (startsTo s bl but h).map ints = xs := ⟨_, rfl⟩
    have hxl : xs.length ≤ 4 := by rw [← hxs]; simp [startsTo]; omega
    have hxa : allCells 1 xs = true := by rw [← hxs]; exact allCells_ints _
    have a0 : ∀ (σ : St), appendAV 1 24 σ (.lit [] true none) (.lit xs f tk) = some ((app0 1 σ xs).1, (app0 1 σ xs).2) := fun σ => app0_eq ⟨rfl, hxa, by simp [room]; omega, by simp [room]; omega⟩
    have a1 : ∀ (σ : St), appendAV 1 24 (app0 1 σ xs).2 (app0 1 σ xs).1 (.lit [.lit (l.map (.int .i64)) false none] true none) = some (.lit (xs ++ [.lit (l.map (.int .i64)) false none]) false (some σ.length), σ ++ [.tok 1 (xs.length + 1) true]) := fun σ => by
     rw [app0_more ⟨hxa, by simp [allCells, AV.cells, AV.cell], by simp [room]; omega, by simp [room]; omega⟩ (by simp)]
     simp
    simp only [hxs]
    (repeat (first | simp only [↓QA, QB, Nat.reduceLT, reduceIte, Nat.reduceEqDiff, Nat.reduceAdd, Nat.reduceLeDiff, Nat.reduceMul, Nat.reduceBEq, QXHHdC5, S_mapT, L45_2, g, hk, hkb, intss, ints] | refine rd0 rfl ?_))
    ((first | refine callK_d (hst) rfl dd ?_ | refine callD_d (hst) rfl dd ?_); (repeat (first | simp only [↓QA, QB, Nat.reduceLT, reduceIte, Nat.reduceEqDiff, Nat.reduceAdd, Nat.reduceLeDiff, Nat.reduceMul, Nat.reduceBEq, QXHHdC5, S_mapT, hlenp, a0, a1, hk, hkb, intss, ints] | refine rd0 rfl ?_)))
    refine ⟨(h + 1, false, some (τ.length + 1 + 1 + 1), τ ++ [.tok 1 (xs.length + 1) true]), ⟨by simp only; omega, fun t ht => by simp only [Option.some.injEq] at ht; subst ht; simp only [List.length_append, List.length_cons, List.length_nil]; omega⟩, by simp only; omega, ?_⟩
    rw [hsucc, hall, List.map_append, hxs]
    try simp only [TrimX, QE, Nat.reduceLT, reduceIte, Nat.reduceEqDiff, Nat.reduceAdd, Nat.reduceLeDiff, Nat.reduceMul, Nat.reduceBEq, QXHHdC5, S_mapT, hw, List.map_append, List.map_cons, List.map_nil, List.length_append, intss, ints]
    try simp [okBlk, okVs, okV]
    exact ⟨ok_datas (datas_map (data_int .i64) bl) _, okVs_app (ok_datas (by rw [← hxs]; exact datas_map data_ints _) _) (ok_datas (datas_cons (data_ints l) datas_nil) _)⟩
  ·have g : decide ((h : Int) < (s.holds.length : Int)) = false := by simpa using hh1
   obtain rfl : h = s.holds.length := by omega
   (repeat (first | simp only [↓QA, QB, Nat.reduceLT, reduceIte, Nat.reduceEqDiff, Nat.reduceAdd, Nat.reduceLeDiff, Nat.reduceMul, Nat.reduceBEq, QXHHdC5, S_mapT, L45_2, g] | refine rd0 rfl ?_))
   have hk0 := hK
   rw [shipCells_eq] at hk0
   refine hk0 _ _ f tk τ (fun t ht => (htk t ht).1) (fun _ => rfl) ?_ ?_ ?_ ?_ ?_ ?_ ?_
   all_goals try simp only [TrimX, QE, Nat.reduceLT, reduceIte, Nat.reduceEqDiff, Nat.reduceAdd, Nat.reduceLeDiff, Nat.reduceMul, Nat.reduceBEq, QXHHdC5, S_mapT]
end Go.Am.Room
set_option maxRecDepth 4000
namespace Go.Am.Room
def QXHHdC6 := And.intro @encShip_eq (And.intro @shipCells_eq (And.intro @encHold_eq (And.intro @encLine_eq (And.intro @encSpan_eq (And.intro @S_mapHold (And.intro @S_mapLine (And.intro @T_sapp (And.intro @T_sapp0 (@S_mapT)))))))))
theorem allCells_truths (l : List Truth) : allCells 2 (l.map encTruth) = true := L_allM 2 encTruth l fun x => by simp [cellsOk, encTruth, AV.cells, AV.cell, ints, intss]
theorem rtruths_ok (s : Ship) (hv : Vd s) (but : List Int) (hbu : but.length < 9223372036854775808) : Pure T 45 [encShip s, ints but] (truthsAV (truths s but)) := by
 refine pure_fn (af := a45) rfl (by simp [a45]) dd ?_
 have hno := hv.nholds
 have hss := sets_small hv
 obtain ⟨R, hR⟩ : ∃ R, truths s but = R := ⟨_, rfl⟩
 have hRl := truths_len hv but
 have hR' : [] ++ ((setsOf s).drop 0).filterMap (truthOf s but) = R := hR
 rw [hR] at hRl ⊢
 (repeat (first | simp only [↓QA, QB, Nat.reduceLT, reduceIte, Nat.reduceEqDiff, Nat.reduceAdd, Nat.reduceLeDiff, Nat.reduceMul, Nat.reduceBEq, QXHHdC6, a45] | refine rd0 rfl ?_))
 ((first | refine callK_d (rsets_ok s hv) rfl dd ?_ | refine callD_d (rsets_ok s hv) rfl dd ?_); (repeat (first | simp only [↓QA, QB, Nat.reduceLT, reduceIte, Nat.reduceEqDiff, Nat.reduceAdd, Nat.reduceLeDiff, Nat.reduceMul, Nat.reduceBEq, QXHHdC6] | refine rd0 rfl ?_)))
 refine ghostK 6 2 [] rfl ?_
 refine loopE (S := Nat × List Truth × Bool) (0, [], false) (fun a => a.1 ≤ (setsOf s).length ∧ a.2.1 ++ ((setsOf s).drop a.1).filterMap (truthOf s but) = R) (fun a => (setsOf s).length - a.1)
  (fun a => [(1, ints but), (2, .ptr 0 0), (5, intss (setsOf s)), (6, .lit (a.2.1.map encTruth) false (some 1)), (7, .int .i64 a.1)])
  (fun a => [.cells (shipCells s), .tok 2 a.2.1.length a.2.2]) ⟨Nat.zero_le _, hR'⟩ (by simp [shipCells, ints]) ?_ fun a ha => ?_
 ·try simp only [TrimX, QE, Nat.reduceLT, reduceIte, Nat.reduceEqDiff, Nat.reduceAdd, Nat.reduceLeDiff, Nat.reduceMul, Nat.reduceBEq, QXHHdC6]
  try simp
 ·obtain ⟨k, acc, ex⟩ := a
  obtain ⟨hk, hacc⟩ := ha
  simp only at hk hacc
  (repeat (first | simp only [↓QA, QB, Nat.reduceLT, reduceIte, Nat.reduceEqDiff, Nat.reduceAdd, Nat.reduceLeDiff, Nat.reduceMul, Nat.reduceBEq, QXHHdC6, L45_0, intss] | refine rd0 rfl ?_))
  refine iteP_intro (fun hd => ?_) fun hd => ?_
  ·have hk1 : k < (setsOf s).length := by simpa using hd
   have hw := wrapN hk1 (by omega)
   obtain ⟨bl, hbl⟩ : ∃ bl, (setsOf s)[k] = bl := ⟨_, rfl⟩
   have hbll := hss.2 _ (List.getElem_mem hk1)
   rw [hbl] at hbll
   rw [List.drop_eq_getElem_cons hk1, hbl, List.filterMap_cons] at hacc
   have hal : acc.length ≤ 16 := by
    have := congrArg List.length hacc
    simp only [List.length_append] at this
    omega
   have hin := truths_in s hv but hbu bl hbll k hk1 hbl acc ex
   rw [shipCells_eq] at hin
   have hap := fun (y : AV) (hy : allCells 2 [y] = true) (τ : St) => append_at (σ := .cells (shipCells s) :: .tok 2 acc.length ex :: τ) (t := 1) (ex := ex) (sz := 2) (b := 48) (xs := acc.map encTruth) (ys := [y]) (f := true) (tk := none) ⟨allCells_truths acc, hy, by simp [room]; omega, by simp [room]; omega⟩ (by simp) acc.length (by simp) rfl
   rw [shipCells_eq] at hap
   have hap2 := fun (l : List AV) (f : Bool) (tk : Option Nat) => hap (.agg [.lit (bl.map (.int .i64)) false none, .lit l f tk]) rfl
   (repeat (first | simp only [↓QA, QB, Nat.reduceLT, reduceIte, Nat.reduceEqDiff, Nat.reduceAdd, Nat.reduceLeDiff, Nat.reduceMul, Nat.reduceBEq, QXHHdC6, hk1, hbl, ints, intss] | refine rd0 rfl ?_))
   refine hin _ _ ?_ ?_ ?_ ?_ ?_ ?_ ?_ ?_ ?_
   all_goals try try simp only [TrimX, QE, Nat.reduceLT, reduceIte, Nat.reduceEqDiff, Nat.reduceAdd, Nat.reduceLeDiff, Nat.reduceMul, Nat.reduceBEq, QXHHdC6, intss, ints]
   intro e' xs f tk τ htk hxs q1 q2 q5 q6 q7 q8 q9
   cases hall : allIn s bl but s.holds.length
   ·rw [truthOf_eq, hall] at hacc
    rw [hall] at q9
    (repeat (first | simp only [↓QA, QB, Nat.reduceLT, reduceIte, Nat.reduceEqDiff, Nat.reduceAdd, Nat.reduceLeDiff, Nat.reduceMul, Nat.reduceBEq, QXHHdC6, q1, q2, q5, q6, q7, q8, q9, ints, intss] | refine rd0 rfl ?_))
    refine ⟨(k + 1, acc, ex), ⟨by simp only; omega, by simpa using hacc⟩, by simp only; omega, ?_⟩
    try simp only [TrimX, QE, Nat.reduceLT, reduceIte, Nat.reduceEqDiff, Nat.reduceAdd, Nat.reduceLeDiff, Nat.reduceMul, Nat.reduceBEq, QXHHdC6, q1, q2, q5, q6, q7, q8, q9, hw, ints, intss]
    try simp [okBlk]
   ·rw [truthOf_eq, hall] at hacc
    rw [hall] at q9
    rw [hxs hall]
    (repeat (first | simp only [↓QA, QB, Nat.reduceLT, reduceIte, Nat.reduceEqDiff, Nat.reduceAdd, Nat.reduceLeDiff, Nat.reduceMul, Nat.reduceBEq, QXHHdC6, q1, q2, q5, q6, q7, q8, q9, ints, intss, hap2] | refine rd0 rfl ?_))
    refine ⟨(k + 1, acc ++ [⟨bl, startsTo s bl but s.holds.length⟩], true), ⟨by simp only; omega, by simpa using hacc⟩, by simp only; omega, ?_⟩
    cases tk with
    | none =>
     try simp only [TrimX, QE, Nat.reduceLT, reduceIte, Nat.reduceEqDiff, Nat.reduceAdd, Nat.reduceLeDiff, Nat.reduceMul, Nat.reduceBEq, QXHHdC6, q1, q2, q5, q6, q7, q8, q9, hw, ints, intss, List.map_append, List.map_cons, List.map_nil, List.length_append, encTruth_eq, Bool.and_false]
     try simp [okBlk]
    | some t =>
     have h2 := htk t rfl
     try simp only [TrimX, QE, Nat.reduceLT, reduceIte, Nat.reduceEqDiff, Nat.reduceAdd, Nat.reduceLeDiff, Nat.reduceMul, Nat.reduceBEq, QXHHdC6, q1, q2, q5, q6, q7, q8, q9, hw, ints, intss, List.map_append, List.map_cons, List.map_nil, List.length_append, encTruth_eq, Bool.and_false, Nat.not_lt.2 (Nat.le_of_lt h2)]
     try simp [okBlk]
  ·have hk1 : k = (setsOf s).length := by simp at hd; omega
   rw [hk1, List.drop_length] at hacc
   simp only [List.filterMap_nil, List.append_nil] at hacc
   subst hacc
   (repeat (first | simp only [↓QA, QB, Nat.reduceLT, reduceIte, Nat.reduceEqDiff, Nat.reduceAdd, Nat.reduceLeDiff, Nat.reduceMul, Nat.reduceBEq, QXHHdC6, truthsAV] | refine rd0 rfl ?_))
   try try simp only [QS, QC, Nat.reduceLT, reduceIte, Nat.reduceEqDiff, Nat.reduceAdd, Nat.reduceLeDiff, Nat.reduceMul, Nat.reduceBEq, QXHHdC6]
end Go.Am.Room
set_option maxRecDepth 4000
namespace Go.Am.Room
theorem ship_nil (s : Ship) : clrs [encShip s, .lit [] true none] = [encShip s, ints []] := by simp [clrs, (data_ship s).2, clr, ints]
theorem ship_nil_ok (s : Ship) : okVs 0 [encShip s, .lit [] true none] := ⟨(data_ship s).1, by simp [okV, okVs], trivial⟩
theorem marksAt_congr {s t : Ship} (h1 : t.cold = s.cold) (h2 : t.power = s.power) (h3 : t.warm = s.warm) (h4 : t.heat = s.heat) (h : Nat) (n : Int) (c : Bool) : ∀ w, marksAt t h n c w = marksAt s h n c w
 | 0 => rfl
 | w + 1 => by simp only [marksAt, marksAt_congr h1 h2 h3 h4 h n c w, h1, h2, h3, h4]
theorem keepsIn_one {s : Ship} {l : List Truth} {h : Nat} {clear : List Int} : keepsIn s l h clear = 1 ↔ ∀ c ∈ coursesIn s l h clear, keptOf s h c = true := settled_one
theorem keepsIn_two {s : Ship} {l : List Truth} {h : Nat} {clear : List Int} : keepsIn s l h clear = 2 ↔ coursesIn s l h clear ≠ [] ∧ ∀ c ∈ coursesIn s l h clear, keptOf s h c = false := settled_two
theorem first_le {f g : List Int → Bool} {n : Nat} (hn : n ≤ 6) (hfg : ∀ c, f c = true → g c = true) {l : List Int} (h : firstFrom f n (n + 1) 0 = some l) : ∃ k, firstFrom g n (n + 1) 0 = some k ∧ k.length ≤ l.length := by
 obtain ⟨a, b, c⟩ := (firstFrom_spec f n hn (n + 1) 0 (fun m' h => by omega)).1 l h
 have hle := choices_le a
 cases hg : firstFrom g n (n + 1) 0 with
 | none =>
  have := (firstFrom_spec g n hn (n + 1) 0 (fun m' h => by omega)).2 hg l.length (by omega) l a
  rw [hfg l b] at this; cases this
 | some k =>
  refine ⟨k, rfl, ?_⟩
  obtain ⟨a', b', c'⟩ := (firstFrom_spec g n hn (n + 1) 0 (fun m' h => by omega)).1 k hg
  have := c' l.length l a (hfg l b)
  simp only [fewer] at this
  split at this
  ·omega
  ·simp at this; omega
structure Easier (s e : Ship) : Prop where
 cold : e.cold = s.cold
 power : e.power = s.power
 warm : e.warm = s.warm
 heat : e.heat = s.heat
 log : e.log = s.log
 len : e.holds.length = s.holds.length
 holds : ∀ h (h1 : h < s.holds.length) (h2 : h < e.holds.length), e.holds[h].start = s.holds[h].start ∧ e.holds[h].duct = s.holds[h].duct ∧ e.holds[h].keep.lo ≤ s.holds[h].keep.lo ∧ s.holds[h].keep.hi ≤ e.holds[h].keep.hi
 frm : s.frm ≤ e.frm
theorem easy_marks {s e : Ship} (k : Easier s e) (h : Nat) (n : Int) (c : Bool) : marksAt e h n c = marksAt s h n c := funext (marksAt_congr (s := s) (t := e) k.cold k.power k.warm k.heat h n c)
theorem easy_sets {s e : Ship} (k : Easier s e) {bl : List Int} : bl ∈ setsOf e ↔ bl ∈ setsOf s := by
 rw [mem_sets, mem_sets]
 simp only [SetOk, k.len]
 refine and_congr Iff.rfl ⟨fun H h hh hl => ?_, fun H h hh hl => ?_⟩
 ·have h2 : h < e.holds.length := by rw [k.len]; exact hh
  have := H h (by first | exact h2 | exact hh) hl
  rwa [(k.holds h hh h2).2.1] at this
 ·have h1 : h < s.holds.length := hl
  have h2 : h < e.holds.length := by rw [k.len]; exact h1
  have := H h h1 hl
  rwa [← (k.holds h h1 h2).2.1] at this
theorem easy_lines {s e : Ship} (k : Easier s e) {h : Nat} {c : Nat → Int} {but : List Int} : linesOk e h c but = linesOk s h c but := by simp only [linesOk, k.log]
theorem easy_starts {s e : Ship} (k : Easier s e) {h : Nat} (hh : h < s.holds.length) {bl but : List Int} {n : Int} : n ∈ startsOf e h bl but ↔ n ∈ startsOf s h bl but := by
 have h2 : h < e.holds.length := by rw [k.len]; exact hh
 rw [mem_starts hh, mem_starts h2, (k.holds h hh h2).1, easy_marks k, easy_lines k]
theorem easy_truth {s e : Ship} (k : Easier s e) {but : List Int} : (∀ t ∈ truths e but, ∃ u ∈ truths s but, u.blocked = t.blocked) ∧ ∀ t ∈ truths s but, ∃ u ∈ truths e but, u.blocked = t.blocked := by
 constructor
 ·intro t ht
  obtain ⟨a, b, c⟩ := mem_truths.1 ht
  refine ⟨⟨t.blocked, (List.range s.holds.length).map fun h => startsOf s h t.blocked but⟩, mem_truths.2 ⟨(easy_sets k).1 a, rfl, fun h hh => ?_⟩, rfl⟩
  obtain ⟨n, hn⟩ := List.exists_mem_of_ne_nil _ (c h (by rw [k.len]; exact hh))
  exact List.ne_nil_of_mem ((easy_starts k hh).1 hn)
 ·intro t ht
  obtain ⟨a, b, c⟩ := mem_truths.1 ht
  refine ⟨⟨t.blocked, (List.range e.holds.length).map fun h => startsOf e h t.blocked but⟩, mem_truths.2 ⟨(easy_sets k).2 a, rfl, fun h hh => ?_⟩, rfl⟩
  have h1 : h < s.holds.length := by rw [← k.len]; exact hh
  obtain ⟨n, hn⟩ := List.exists_mem_of_ne_nil _ (c h h1)
  exact List.ne_nil_of_mem ((easy_starts k h1).2 hn)
theorem easy_courses {s e : Ship} (k : Easier s e) {h : Nat} (hh : h < s.holds.length) {but clear : List Int} {c : Nat → Int} : c ∈ coursesIn e (truths e but) h clear ↔ c ∈ coursesIn s (truths s but) h clear := by
 have h2 : h < e.holds.length := by rw [k.len]; exact hh
 rw [mem_courses hh, mem_courses h2]
 constructor
 ·rintro ⟨t, ht, n, hn, rfl⟩
  obtain ⟨u, hu, eb⟩ := (easy_truth k).1 t ht
  exact ⟨u, hu, n, by rw [eb]; exact (easy_starts k hh).1 hn, by rw [eb, easy_marks k]⟩
 ·rintro ⟨t, ht, n, hn, rfl⟩
  obtain ⟨u, hu, eb⟩ := (easy_truth k).2 t ht
  exact ⟨u, hu, n, by rw [eb]; exact (easy_starts k hh).2 hn, by rw [eb, easy_marks k]⟩
theorem easy_some {s e : Ship} (k : Easier s e) (h : someB s [] = true) : someB e [] = true := by
 simp only [someB, Bool.not_eq_true', List.isEmpty_eq_false_iff] at h ⊢
 obtain ⟨t, ht⟩ := List.exists_mem_of_ne_nil _ h
 obtain ⟨u, hu, _⟩ := (easy_truth k).2 t ht
 exact List.ne_nil_of_mem hu
theorem easy_kept {s e : Ship} (k : Easier s e) (hf : 0 ≤ s.frm) {h : Nat} (hh : h < s.holds.length) {c : Nat → Int} (h1 : keptOf s h c = true) : keptOf e h c = true := by
 have h2 : h < e.holds.length := by rw [k.len]; exact hh
 have hk := k.holds h hh h2
 have hfr := k.frm
 simp only [keptOf, List.getElem?_eq_getElem hh, List.getElem?_eq_getElem h2, List.all_eq_true, numbers_mem, inR_iff, k.heat] at h1 ⊢
 intro w hw
 have := h1 w (by omega)
 omega
theorem easy_never {s e : Ship} (k : Easier s e) (hf : 0 ≤ s.frm) {h : Nat} (hh : h < s.holds.length) {clear : List Int} (h1 : keepsIn e (truths e []) h clear = 2) : keepsIn s (truths s []) h clear = 2 := by
 rw [keepsIn_two] at h1 ⊢
 refine ⟨?_, fun c hc => ?_⟩
 ·obtain ⟨c, hc⟩ := List.exists_mem_of_ne_nil _ h1.1
  exact List.ne_nil_of_mem ((easy_courses k hh).1 hc)
 ·rw [Bool.eq_false_iff]
  intro hk
  have := h1.2 c ((easy_courses k hh).2 hc)
  rw [easy_kept k hf hh hk] at this; cases this
theorem easy_must {s e : Ship} (k : Easier s e) (hf : 0 ≤ s.frm) {h : Nat} (hh : h < s.holds.length) {clear : List Int} (h1 : keepsIn s (truths s []) h clear = 1) : keepsIn e (truths e []) h clear = 1 := by
 rw [keepsIn_one] at h1 ⊢
 exact fun c hc => easy_kept k hf hh (h1 c ((easy_courses k hh).1 hc))
theorem easy_does {s e : Ship} (k : Easier s e) (hf : 0 ≤ s.frm) {clear : List Int} (h1 : does s (truths s []) clear = true) : does e (truths e []) clear = true := by
 simp only [does, List.all_eq_true, List.mem_range, decide_eq_true_eq, k.len] at h1 ⊢
 exact fun h hh => easy_must k hf hh (h1 h hh)
end Go.Am.Room
set_option maxRecDepth 8000
namespace Go.Am.Room
def u8s (l : List Int) : AV := .lit (l.map (.int .u8)) false none
theorem data_u8s (l : List Int) : Data (u8s l) := data_list (data_int .u8) l
instance (l : List Int) : Dat (u8s l) := ⟨data_u8s l⟩
theorem subset_ok (a b : List Int) (ha : a.length < 9223372036854775808) (hb : b.length < 9223372036854775808) : Pure T 39 [ints a, ints b] (.bool (a.all b.contains)) := by
 refine pure_fn (af := a39) rfl (by simp [a39]) dd ?_
 (repeat (first | simp only [↓QA, QB, Nat.reduceLT, reduceIte, Nat.reduceEqDiff, Nat.reduceAdd, Nat.reduceLeDiff, Nat.reduceMul, Nat.reduceBEq, QXHLawC, a39] | refine rd0 rfl ?_))
 refine loopE (S := Nat) 0 (fun k => k ≤ a.length ∧ (a.drop k).all b.contains = a.all b.contains) (fun k => a.length - k) (fun k => [(0, ints a), (1, ints b), (5, .int .i64 k)]) (fun _ => []) ⟨by simp, by simp⟩ rfl ?_ fun k hk => ?_
 ·try simp only [TrimX, QE, Nat.reduceLT, reduceIte, Nat.reduceEqDiff, Nat.reduceAdd, Nat.reduceLeDiff, Nat.reduceMul, Nat.reduceBEq, QXHLawC]
  try simp
 ·obtain ⟨hk, hq⟩ := hk
  (repeat (first | simp only [↓QA, QB, Nat.reduceLT, reduceIte, Nat.reduceEqDiff, Nat.reduceAdd, Nat.reduceLeDiff, Nat.reduceMul, Nat.reduceBEq, QXHLawC, L39_0] | refine rd0 rfl ?_))
  refine iteP_intro (fun h => ?_) fun h => ?_
  ·have hk1 : k < a.length := by simpa using h
   have hw := wrapN hk1 ha
   rw [List.drop_eq_getElem_cons hk1, List.all_cons] at hq
   (repeat (first | simp only [↓QA, QB, Nat.reduceLT, reduceIte, Nat.reduceEqDiff, Nat.reduceAdd, Nat.reduceLeDiff, Nat.reduceMul, Nat.reduceBEq, QXHLawC, hk1] | refine rd0 rfl ?_))
   ((first | refine callK_d (has_ok b a[k] hb) rfl dd ?_ | refine callD_d (has_ok b a[k] hb) rfl dd ?_); (repeat (first | simp only [↓QA, QB, Nat.reduceLT, reduceIte, Nat.reduceEqDiff, Nat.reduceAdd, Nat.reduceLeDiff, Nat.reduceMul, Nat.reduceBEq, QXHLawC, hk1] | refine rd0 rfl ?_)))
   cases h2 : b.contains a[k]
   ·rw [h2, Bool.false_and] at hq
    (repeat (first | simp only [↓QA, QB, Nat.reduceLT, reduceIte, Nat.reduceEqDiff, Nat.reduceAdd, Nat.reduceLeDiff, Nat.reduceMul, Nat.reduceBEq, QXHLawC, ← hq] | refine rd0 rfl ?_))
   ·rw [h2, Bool.true_and] at hq
    (repeat (first | simp only [↓QA, QB, Nat.reduceLT, reduceIte, Nat.reduceEqDiff, Nat.reduceAdd, Nat.reduceLeDiff, Nat.reduceMul, Nat.reduceBEq, QXHLawC, hk1] | refine rd0 rfl ?_))
    refine ⟨k + 1, ⟨by omega, hq⟩, by omega, ?_⟩
    try simp only [TrimX, QE, Nat.reduceLT, reduceIte, Nat.reduceEqDiff, Nat.reduceAdd, Nat.reduceLeDiff, Nat.reduceMul, Nat.reduceBEq, QXHLawC, hw]
  ·have hk1 : k = a.length := by simp at h; omega
   rw [hk1, List.drop_length, List.all_nil] at hq
   (repeat (first | simp only [↓QA, QB, Nat.reduceLT, reduceIte, Nat.reduceEqDiff, Nat.reduceAdd, Nat.reduceLeDiff, Nat.reduceMul, Nat.reduceBEq, QXHLawC, ← hq] | refine rd0 rfl ?_))
end Go.Am.Room
set_option maxRecDepth 8000
namespace Go.Am.Room
theorem valid_ok (s : Ship) (hf : Fits s) : Pure T 37 [encShip s] (.bool (decide ((check s).2.2 = 0))) := by
 refine pure_fn (af := a37) rfl (by simp [a37]) dd ?_
 (repeat (first | simp only [↓QA, QB, Nat.reduceLT, reduceIte, Nat.reduceEqDiff, Nat.reduceAdd, Nat.reduceLeDiff, Nat.reduceMul, Nat.reduceBEq, QXHHdQ1, a37] | refine rd0 rfl ?_))
 ((first | refine callK_d (refcheck_ok s hf) rfl dd ?_ | refine callD_d (refcheck_ok s hf) rfl dd ?_); (repeat (first | simp only [↓QA, QB, Nat.reduceLT, reduceIte, Nat.reduceEqDiff, Nat.reduceAdd, Nat.reduceLeDiff, Nat.reduceMul, Nat.reduceBEq, QXHHdQ1, enc3] | refine rd0 rfl ?_)))
 try rfl
 try (simp; rfl)
def someV (s : Ship) : Bool := decide ((check s).2.2 = 0) && someB s []
theorem some2_ok (s : Ship) (hf : Fits s) : Pure T 44 [encShip s] (.bool (someV s)) := by
 refine pure_fn (af := a44) rfl (by simp [a44]) dd ?_
 (repeat (first | simp only [↓QA, QB, Nat.reduceLT, reduceIte, Nat.reduceEqDiff, Nat.reduceAdd, Nat.reduceLeDiff, Nat.reduceMul, Nat.reduceBEq, QXHHdQ1, a44] | refine rd0 rfl ?_))
 ((first | refine callK_d (valid_ok s hf) rfl dd ?_ | refine callD_d (valid_ok s hf) rfl dd ?_); (repeat (first | simp only [↓QA, QB, Nat.reduceLT, reduceIte, Nat.reduceEqDiff, Nat.reduceAdd, Nat.reduceLeDiff, Nat.reduceMul, Nat.reduceBEq, QXHHdQ1] | refine rd0 rfl ?_)))
 cases h0 : decide ((check s).2.2 = 0)
 ·(repeat (first | simp only [↓QA, QB, Nat.reduceLT, reduceIte, Nat.reduceEqDiff, Nat.reduceAdd, Nat.reduceLeDiff, Nat.reduceMul, Nat.reduceBEq, QXHHdQ1, someV, h0, Bool.false_and] | refine rd0 rfl ?_))
 ·have hv := vd_of_check (by simpa using h0)
  have hs := rtruths_ok s hv [] (by simp)
  (repeat (first | simp only [↓QA, QB, Nat.reduceLT, reduceIte, Nat.reduceEqDiff, Nat.reduceAdd, Nat.reduceLeDiff, Nat.reduceMul, Nat.reduceBEq, QXHHdQ1] | refine rd0 rfl ?_))
  refine callK_v hs (ship_nil s) (ship_nil_ok s) ?_
  (repeat (first | simp only [↓QA, QB, Nat.reduceLT, reduceIte, Nat.reduceEqDiff, Nat.reduceAdd, Nat.reduceLeDiff, Nat.reduceMul, Nat.reduceBEq, QXHHdQ1, someV, h0, Bool.true_and, truthsAV] | refine rd0 rfl ?_))
  have e : decide ((0 : Int) < (truths s []).length) = someB s [] := by
   simp only [someB]
   cases truths s [] <;> simp
  rw [e]
theorem clear_some {s : Ship} (hv : Vd s) {l : List Int} (h : firstFrom (does s (truths s [])) s.holds.length (s.holds.length + 1) 0 = some l) :
  l ∈ choices s.holds.length l.length ∧ does s (truths s []) l = true ∧ ∀ m, ∀ c ∈ choices s.holds.length m, does s (truths s []) c = true → fewer c l = false := by
 have := hv.nholds
 exact (firstFrom_spec _ _ (by omega) _ 0 (fun m' h => by omega)).1 l h
end Go.Am.Room
set_option maxRecDepth 8000
namespace Go.Am.Room
theorem lst4 {n m : Nat} (h : m ≤ n) (p : Int → Bool) : ((numbers 0 m).filter p).length ≤ n := by
 have := List.length_filter_le p (numbers 0 m)
 rw [numbers_len] at this
 omega
theorem spoils_len (s : Ship) : (spoilsOf s).1.length ≤ 4 ∧ (spoilsOf s).2.1.length ≤ 4 := by
 unfold spoilsOf
 split
 ·rename_i h0
  have hv := vd_of_check (errKnown_ok h0).1
  exact ⟨lst4 hv.nholds.2 _, lst4 hv.nholds.2 _⟩
 ·simp
theorem clear_len (s : Ship) : (clearOf s).1.length ≤ 4 := by
 unfold clearOf
 split
 ·rename_i h0
  have hv := vd_of_check (errKnown_ok h0).1
  split
  ·rename_i l hl
   have := choices_le (clear_some hv hl).1
   have := hv.nholds
   simp only; omega
  ·simp
 ·simp
end Go.Am.Room
namespace Go.Am
variable {T : FuncId → Option AFunc}
theorem seq_tail {a x y : ACode} {e : Env} {σ : St} {Q : Out → Prop} {K : KJ} (h : wp T (.seq a x) e σ K) (hK : ∀ j e' σ', K j e' σ' → j = none) (h2 : ∀ e' σ', wp T x e' σ' K → Run T (.code y e' σ') Q) : Run T (.code (.seq a y) e σ) Q := by
 refine .seq (run_wp (show wp T a e σ _ from by simpa only [wp] using h) fun o ho => ho) (fun o ho hj => ?_) fun o ho hj => ?_
 ·rw [hj] at ho
  simp only [thenK] at ho
  exact h2 _ _ ho
 ·cases hq : o.j with
  | none => exact absurd hq hj
  | some q => rw [hq] at ho; simp only [thenK] at ho; exact absurd (hK _ _ _ ho) (by simp)
theorem end_none {R : Env → St → Prop} : ∀ j e' σ', (fun j e' σ' => j = none ∧ R e' σ' : KJ) j e' σ' → j = none := fun _ _ _ h => h.1
theorem seq2_run {a b d : ACode} {e : Env} {σ : St} {Q : Out → Prop} (R : Env → St → Prop) (h : wp T (.seq a b) e σ fun j e' σ' => j = none ∧ R e' σ') (h2 : ∀ e' σ', R e' σ' → Run T (.code d e' σ') Q) : Run T (.code (.seq a (.seq b d)) e σ) Q :=
 seq_tail h end_none fun _ _ k => seq_run R k h2
end Go.Am
namespace Go.Am
variable {T : FuncId → Option AFunc}
def nest : ACode → List ACode → ACode
 | a, [] => a
 | a, b :: l => .seq a (nest b l)
theorem nest_run {R : Env → St → Prop} : ∀ (az : List ACode) (a : ACode) (e : Env) (σ : St), wp T (nest a az) e σ (fun j e' σ' => j = none ∧ R e' σ') → Run T (.chain (a :: az) e σ) fun o => o.j = none ∧ R o.env o.σ
 | [], a, e, σ, h => .chainCons (run_wp h fun o ho => ho) (fun o ho _ => .chainNil ⟨rfl, ho.2⟩) fun o ho hj => absurd ho.1 hj
 | b :: l, a, e, σ, h => by
  refine .chainCons (run_wp (show wp T a e σ _ from by simpa only [nest, wp] using h) fun o ho => ho) (fun o ho hj => ?_) fun o ho hj => ?_
  ·rw [hj] at ho
   simp only [thenK] at ho
   exact nest_run l b _ _ ho
  ·cases hq : o.j with
   | none => exact absurd hq hj
   | some q => rw [hq] at ho; simp only [thenK] at ho; exact absurd ho.1 (by simp)
theorem chainL {a c : ACode} (az : List ACode) {e : Env} {σ : St} {Q : Out → Prop} (R S : Env → St → Prop) (h : wp T (nest a az) e σ fun j e' σ' => j = none ∧ R e' σ')
  (h2 : ∀ e' σ', R e' σ' → ∃ env1 σ1 env2 σ2, Trims2 σ e' σ' env1 σ1 ∧ ((env2 = env1 ∧ σ2 = σ1) ∨ Thaws σ.length env1 σ1 env2 σ2) ∧ S env2 σ2)
  (h3 : ∀ e σ, S e σ → Run T (.code c e σ) Q) : Run T (.code (seqs (a :: az) c) e σ) Q :=
 Run.chain (a0 := a) (az := az) (c := c) (R := fun o => o.j = none ∧ R o.env o.σ) (S := S) (nest_run az a e σ h) (fun o ho hj => absurd ho.1 hj) (fun o ho _ => h2 _ _ ho.2) h3
end Go.Am
set_option maxRecDepth 8000
namespace Go.Am.Room
theorem some_iff {s : Ship} : someV s = true ↔ (check s).2.2 = 0 ∧ someB s [] = true := by simp [someV]
theorem known0 {s : Ship} (h : someV s = true) : errKnown s 0 = 0 := by
 have := (some_iff.1 h).2
 simp only [someB, Bool.not_eq_true'] at this
 simp [errKnown, this]
theorem whole0 {s : Ship} (h : someV s = true) : wholeErr s = 0 := by
 rw [wholeErr, (some_iff.1 h).1]; exact known0 h
theorem nat_rem {a : Int} {n : Nat} (ha : 0 ≤ a) (hn : 0 < n) : ∃ j : Nat, a.tmod (n : Int) = (j : Int) ∧ j < n := by
 refine ⟨(a.tmod n).toNat, ?_, ?_⟩
 ·have := Int.tmod_nonneg (n : Int) ha; omega
 ·have := Int.tmod_nonneg (n : Int) ha
  have := Int.tmod_lt_of_pos a (show (0 : Int) < n by omega)
  omega
def clV : Option (List Int) → List Int × Int
 | some l => (l, 0)
 | none => ([], 9)
theorem clear_eq {s : Ship} (h : wholeErr s = 0) : clearOf s = clV (firstFrom (does s (truths s [])) s.holds.length (s.holds.length + 1) 0) := by
 rw [clearOf, if_pos h]
 cases firstFrom (does s (truths s [])) s.holds.length (s.holds.length + 1) 0 <;> rfl
end Go.Am.Room
set_option maxRecDepth 8000
namespace Go.Am.Room
theorem spoils_tr {s : Ship} (h : someV s = true) : spoilsOf s = ((numbers 0 s.holds.length).filter (fun h => decide (keepsIn s (truths s []) h.toNat [] = 2)), (numbers 0 s.holds.length).filter (fun h => decide (keepsIn s (truths s []) h.toNat [] ≠ 1)), 0) := by rw [spoilsOf, if_pos (whole0 h)]
variable {α : Type}
def flatC (c : α → List AV) : List α → List AV
 | [] => []
 | y :: l => c y ++ flatC c l
structure Cells (enc : α → AV) (c : α → List AV) (sz : Nat) : Prop where
 agg : ∀ x, enc x = .agg (c x)
 len : ∀ x, (c x).length = sz
 one : sz ≠ 1 ∧ sz ≠ 0
 cell : ∀ x, (c x).all (·.cell) = true
 data : ∀ x, Data (enc x)
variable {enc : α → AV} {c : α → List AV} {sz : Nat}
theorem flatC_len (h : Cells enc c sz) : ∀ l, (flatC c l).length = l.length * sz
 | [] => by simp [flatC]
 | y :: l => by simp only [flatC, List.length_append, h.len, List.length_cons, flatC_len h l, Nat.add_mul]; omega
theorem flatC_map (h : Cells enc c sz) : ∀ l : List α, (l.map enc).flatMap AV.cells = flatC c l
 | [] => rfl
 | y :: l => by rw [List.map_cons, List.flatMap_cons, flatC_map h l, h.agg]; rfl
theorem flatC_at (h : Cells enc c sz) : ∀ (l : List α) (k : Nat) (hk : k < l.length), ((flatC c l).drop (k * sz)).take sz = c l[k]
 | [], k, hk => by simp at hk
 | y :: l, 0, hk => by
  simp only [flatC, Nat.zero_mul, List.drop_zero, List.getElem_cons_zero]
  rw [← h.len y, List.take_left]
 | y :: l, k + 1, hk => by
  have := flatC_at h l k (by simpa using hk)
  have e : (k + 1) * sz = (c y).length + k * sz := by rw [h.len, Nat.add_mul]; omega
  simp only [flatC, e, List.getElem_cons_succ]
  rw [List.drop_append, List.drop_eq_nil_of_le (by omega), List.nil_append, Nat.add_sub_cancel_left]
  exact this
theorem flatC_set (h : Cells enc c sz) : ∀ (l : List α) (k : Nat) (z : α), k < l.length → (flatC c l).take (k * sz) ++ c z ++ (flatC c l).drop (k * sz + sz) = flatC c (l.set k z)
 | [], k, z, hk => by simp at hk
 | y :: l, 0, z, hk => by
  simp only [flatC, Nat.zero_mul, List.take_zero, List.nil_append, Nat.zero_add, List.set_cons_zero]
  rw [← h.len y, List.drop_left]
 | y :: l, k + 1, z, hk => by
  have := flatC_set h l k z (by simpa using hk)
  have e : (k + 1) * sz = (c y).length + k * sz := by rw [h.len, Nat.add_mul]; omega
  have e2 : (k + 1) * sz + sz = (c y).length + (k * sz + sz) := by omega
  simp only [flatC, List.set_cons_succ]
  rw [e, show (c y).length + k * sz + sz = (c y).length + (k * sz + sz) by omega, List.take_append, List.drop_append, List.drop_eq_nil_of_le (by omega), List.take_of_length_le (by omega), Nat.add_sub_cancel_left, Nat.add_sub_cancel_left, List.nil_append, ← this]
  simp only [List.append_assoc]
theorem flatC_chop (h : Cells enc c sz) : ∀ l : List α, chop sz l.length (flatC c l) = l.map enc
 | [] => rfl
 | y :: l => by
  have h1 := h.one.1
  simp only [List.length_cons, chop, flatC, List.map_cons, h1, false_and, if_false]
  rw [← h.len y, List.take_left, List.drop_left, h.len y, flatC_chop h l, h.agg]
theorem flatC_all (h : Cells enc c sz) (l : List α) : allCells sz (l.map enc) = true := L_allM sz enc l fun y => by
 rw [h.agg]
 simp only [cellsOk, AV.cells, h.len, beq_self_eq_true, Bool.true_and]
 exact h.cell y
theorem flatC_snapA (h : Cells enc c sz) {σ : St} {m id d : Nat} {l : List α} (hm : ¬ id < m) (hl : cellsAt σ id = some (flatC c l)) : snap σ m (d + 1) (.ref id 0 l.length sz) = some (.lit (l.map enc) false none) := by
 have hv : view σ (.ref id 0 l.length sz) = some (l.map enc) := by
  simp only [view, hl, flatC_len h, Nat.zero_add, Nat.le_refl, if_true, List.drop_zero, flatC_chop h]
 have h0 := h.one.2
 have h1 : decide (0 < sz) = true := by simp; omega
 have hs : snaps σ m d (l.map enc) = some (l.map enc) := snaps_ok0 σ m d _ (datas_map h.data l).1
 simp only [snap, hm, if_false, hv, flatC_all h, h1, Bool.and_self, if_true, hs]
theorem flatC_apref (h : Cells enc c sz) {b : Nat} {σ : St} {l : List α} (h0 : l ≠ []) (hl : l.length * b ≤ room) (hl2 : l.length ≤ room) : aprefAV sz b σ (.lit [] true none) (.lit (l.map enc) false none) = some (.ref σ.length 0 l.length sz, σ ++ [.cells (flatC c l)]) := by
 have h1 : l.length ≠ 0 := fun e => h0 (List.length_eq_zero_iff.1 e)
 simp only [aprefAV, view, List.length_map, h1, if_false, List.length_nil, Nat.zero_add, List.nil_append, flatC_map h]
 simp [sized, flatC_all h, hl, hl2]
end Go.Am.Room
set_option maxRecDepth 8000
namespace Go.Am.Room
def holdC (h : Hold) : List AV := [.int .i64 h.start.lo, .int .i64 h.start.hi, .int .i64 h.duct, .int .i64 h.keep.lo, .int .i64 h.keep.hi]
theorem holdC_ok : Cells encHold holdC 5 := ⟨fun x => by simp only [encHold, holdC], fun x => rfl, by decide, fun x => rfl, data_hold⟩
end Go.Am.Room
set_option maxRecDepth 8000
namespace Go.Am.Room
def QXHHdQ9 := And.intro @encShip_eq (And.intro @shipCells_eq (And.intro @encHold_eq (And.intro @encLine_eq (And.intro @encSpan_eq (And.intro @S_mapHold (And.intro @S_mapLine (And.intro @T_sapp (And.intro @List.length_append.{0} (@Int.toNat_natCast)))))))))
def encU4 (a b c d : Int) : AV := .agg [.int .u8 a, .int .u8 b, .int .u8 c, .int .u8 d]
theorem data_u4 (a b c d : Int) : Data (encU4 a b c d) := data_agg (datas_cons (data_int _ _) (datas_cons (data_int _ _) (datas_cons (data_int _ _) (datas_cons (data_int _ _) datas_nil))))
instance (a b c d : Int) : Dat (encU4 a b c d) := ⟨data_u4 a b c d⟩
def easyH (x : Hold) (c d : Int) : Hold := ⟨x.start, x.duct, ⟨max 0 (x.keep.lo - c), min 80 (x.keep.hi + d)⟩⟩
def easyS (s : Ship) (h : Nat) (z : Hold) (a : Int) : Ship := { s with frm := min s.heat.length (s.frm + a), holds := s.holds.set h z }
theorem easy_easier {s : Ship} (hv : Vd s) {h : Nat} (hh : h < s.holds.length) {a c d : Int} (ha : 0 ≤ a) (hc : 0 ≤ c) (hd : 0 ≤ d) : Easier s (easyS s h (easyH s.holds[h] c d) a) := by
 refine ⟨rfl, rfl, rfl, rfl, rfl, by simp [easyS], fun k h1 h2 => ?_, ?_⟩
 ·simp only [easyS, List.getElem_set]
  split
  ·rename_i e
   subst e
   have := (hv.holds _ (List.getElem_mem h1)).keep
   simp only [easyH, true_and]
   omega
  ·exact ⟨rfl, rfl, Int.le_refl _, Int.le_refl _⟩
 ·have := hv.frm
  simp only [easyS]; omega
theorem easy_vd {s : Ship} (hv : Vd s) {h : Nat} (hh : h < s.holds.length) {a c d : Int} (ha : 0 ≤ a) (hc : 0 ≤ c) (hd : 0 ≤ d) : Vd (easyS s h (easyH s.holds[h] c d) a) := by
 have hf := hv.frm
 refine ⟨hv.cold, hv.power, hv.warm, hv.nheat, hv.heat, ?_, by simp only [easyS, List.length_set]; exact hv.nholds, fun x hx => ?_, hv.nlog, fun x hx => ?_⟩
 ·simp only [easyS]; omega
 ·rcases List.mem_or_eq_of_mem_set hx with hx | rfl
  ·exact hv.holds x hx
  ·have := hv.holds _ (List.getElem_mem hh)
   have h1 := this.start
   have h2 := this.keep
   have h3 := this.duct
   refine ⟨h1, ?_, h3⟩
   simp only [easyH]; omega
 ·have := hv.log x hx
  simp only [easyS, List.length_set]
  exact this
def easyC (s : Ship) (a : Int) (v : AV) : List AV := [.int .i64 s.cold, .int .i64 s.power, .int .i64 s.warm, .lit (s.heat.map (.int .i64)) false none, .int .i64 (min (s.heat.length : Int) (s.frm + a)), v, .lit (s.log.map encLine) false none]
theorem easyC_eq (s : Ship) (h : Nat) (z : Hold) (a : Int) : shipCells (easyS s h z a) = easyC s a (.lit ((s.holds.set h z).map encHold) false none) := by simp [shipCells, easyC, easyS, ints]
theorem easy_thin (s : Ship) (h : Nat) (z : Hold) (a : Int) (b0 b1 b2 : ABlk) (τ : St) : Thins (b0 :: b1 :: b2 :: .cells (flatC holdC (s.holds.set h z)) :: τ) 3 (easyC s a (.ref 3 0 s.holds.length 5)) (easyC s a (.lit ((s.holds.set h z).map encHold) false none)) := by
 have h1 : okV 3 (.lit (s.log.map encLine) false none) := okV_up _ (data_list data_line s.log).1
 have h2 : okV 3 (.lit (s.heat.map (.int .i64)) false none) := okV_up _ (data_ints s.heat).1
 refine ⟨.inl ⟨rfl, trivial⟩, .inl ⟨rfl, trivial⟩, .inl ⟨rfl, trivial⟩, .inl ⟨rfl, h2⟩, .inl ⟨rfl, trivial⟩, .inr ⟨20, _, ?_, .inl rfl⟩, .inl ⟨rfl, h1⟩, trivial⟩
 have := flatC_snapA holdC_ok (σ := b0 :: b1 :: b2 :: .cells (flatC holdC (s.holds.set h z)) :: τ) (m := 3) (id := 3) (d := 19) (l := s.holds.set h z) (by omega) (by simp [cellsAt])
 rwa [List.length_set] at this
theorem filt_contains2 {p q : Int → Bool} {l : List Int} (h : ∀ x ∈ l, p x = true → q x = true) : (l.filter p).all (l.filter q).contains = true := by
 rw [List.all_eq_true]
 intro v hv
 rw [List.mem_filter] at hv
 rw [List.contains_iff_mem, List.mem_filter]
 exact ⟨hv.1, h v hv.1 hv.2⟩
theorem tmod_bd {a n : Int} (ha : 0 ≤ a) (hn : 0 < n) : 0 ≤ a.tmod n ∧ a.tmod n < n := ⟨Int.tmod_nonneg n ha, Int.tmod_lt_of_pos a hn⟩
set_option maxHeartbeats 2000000 in
theorem holdwider_ok (s : Ship) (x0 x1 x2 x3 : Int) (hf : Fits s) (h0 : 0 ≤ x0 ∧ x0 < 256) (h1 : 0 ≤ x1 ∧ x1 < 256) (h2 : 0 ≤ x2 ∧ x2 < 256) (h3 : 0 ≤ x3 ∧ x3 < 256) : Pure T 14 [encShip s, encU4 x0 x1 x2 x3] (.bool true) := by
 cases hs : someV s
 ·refine pure_fn (af := a14) rfl (by simp [a14]) dd ?_
  (repeat (first | simp only [↓QA, QB, Nat.reduceLT, reduceIte, Nat.reduceEqDiff, Nat.reduceAdd, Nat.reduceLeDiff, Nat.reduceMul, Nat.reduceBEq, QXHHdQ9, a14, encU4] | refine rd0 rfl ?_))
  ((first | refine callK_d (some2_ok s hf) rfl dd ?_ | refine callD_d (some2_ok s hf) rfl dd ?_); (repeat (first | simp only [↓QA, QB, Nat.reduceLT, reduceIte, Nat.reduceEqDiff, Nat.reduceAdd, Nat.reduceLeDiff, Nat.reduceMul, Nat.reduceBEq, QXHHdQ9, hs] | refine rd0 rfl ?_)))
  refine callK_d awake_ok rfl datas_nil ?_
  (repeat (first | simp only [↓QA, QB, Nat.reduceLT, reduceIte, Nat.reduceEqDiff, Nat.reduceAdd, Nat.reduceLeDiff, Nat.reduceMul, Nat.reduceBEq, QXHHdQ9] | refine rd0 rfl ?_))
 ·refine pure_run (af := a14) rfl (by simp [a14]) dd ?_
  obtain ⟨hc, hsome⟩ := some_iff.1 hs
  have hv := vd_of_check hc
  have hno := hv.nholds
  have hnh := hv.nheat
  have hfr := hv.frm
  obtain ⟨h, hhj, hhl⟩ := nat_rem h1.1 (show 0 < s.holds.length by omega)
  have hne1 : ((s.holds.length : Nat) : Int) ≠ 0 := by omega
  have a0 := tmod_bd h0.1 (show (0 : Int) < 3 by omega)
  have c0 := tmod_bd h2.1 (show (0 : Int) < 9 by omega)
  have d0 := tmod_bd h3.1 (show (0 : Int) < 9 by omega)
  obtain ⟨a, ha⟩ : ∃ a, x0.tmod 3 = a := ⟨_, rfl⟩
  obtain ⟨c, hcc⟩ : ∃ c, x2.tmod 9 = c := ⟨_, rfl⟩
  obtain ⟨d, hd⟩ : ∃ d, x3.tmod 9 = d := ⟨_, rfl⟩
  rw [ha] at a0
  rw [hcc] at c0
  rw [hd] at d0
  have w0 : IntKind.i64.wrap x0 = x0 := wrap64 ⟨by omega, by omega⟩
  have w1 : IntKind.i64.wrap x1 = x1 := wrap64 ⟨by omega, by omega⟩
  have w2 : IntKind.i64.wrap x2 = x2 := wrap64 ⟨by omega, by omega⟩
  have w3 : IntKind.i64.wrap x3 = x3 := wrap64 ⟨by omega, by omega⟩
  have i0 : (0 : Int) ≤ 0 ∧ (0 : Int) < ((4 : Nat) : Int) := ⟨by decide, by decide⟩
  have i1 : (0 : Int) ≤ 1 ∧ (1 : Int) < ((4 : Nat) : Int) := ⟨by decide, by decide⟩
  have i2 : (0 : Int) ≤ 2 ∧ (2 : Int) < ((4 : Nat) : Int) := ⟨by decide, by decide⟩
  have i3 : (0 : Int) ≤ 3 ∧ (3 : Int) < ((4 : Nat) : Int) := ⟨by decide, by decide⟩
  have t0 : Int.toNat 0 = 0 := rfl
  have t1 : Int.toNat 1 = 1 := rfl
  have t2 : Int.toNat 2 = 2 := rfl
  have t3 : Int.toNat 3 = 3 := rfl
  have r3 := V_rem .i64 x0 3 (by decide)
  have r9 := fun x => V_rem .i64 x 9 (by decide)
  have hzk := (hv.holds _ (List.getElem_mem hhl)).keep
  obtain ⟨z, hz⟩ : ∃ z, s.holds[h] = z := ⟨_, rfl⟩
  rw [hz] at hzk
  have wa : IntKind.i64.wrap (s.frm + a) = s.frm + a := wrap64 ⟨by omega, by omega⟩
  have wc : IntKind.i64.wrap (z.keep.lo - c) = z.keep.lo - c := wrap64 ⟨by omega, by omega⟩
  have wd : IntKind.i64.wrap (z.keep.hi + d) = z.keep.hi + d := wrap64 ⟨by omega, by omega⟩
  have hne : s.holds ≠ [] := fun e => by rw [e] at hno; simp at hno
  have hap := fun σ : St => flatC_apref holdC_ok (b := 40) (σ := σ) hne (by simp [room]; omega) (by simp [room]; omega)
  obtain ⟨e, he⟩ : ∃ e, easyS s h (easyH z c d) a = e := ⟨_, rfl⟩
  have hea : Easier s e := by rw [← he, ← hz]; exact easy_easier hv hhl a0.1 c0.1 d0.1
  have hve : Vd e := by rw [← he, ← hz]; exact easy_vd hv hhl a0.1 c0.1 d0.1
  have hse : someV e = true := some_iff.2 ⟨by rw [check_of_vd hve], easy_some hea hsome⟩
  have hfe : Fits e := ⟨by rw [hea.heat]; exact hf.heat, by rw [hea.len]; exact hf.holds, by rw [hea.log]; exact hf.log⟩
  obtain ⟨N, hN⟩ : ∃ N, s.holds.length = N := ⟨_, rfl⟩
  have rn := V_rem .i64 x1 _ hne1
  rw [hhj, hN] at rn
  have q1 : (0 : Int) ≤ (h : Int) ∧ (h : Int) < ((N : Nat) : Int) ∧ 5 = 5 := ⟨by omega, by omega, rfl⟩
  have k1 : h * 5 + 5 ≤ N * 5 := by omega
  have hfl : (flatC holdC s.holds).length = N * 5 := by rw [flatC_len holdC_ok, hN]
  have hat := flatC_at holdC_ok s.holds h hhl
  rw [hz] at hat
  have hset := flatC_set holdC_ok s.holds h (easyH z c d) hhl
  simp only [holdC, easyH] at hset hat
  simp only [a14]
  refine seq2_run (fun e σ => Env.get e 2 = .ptr 0 0 ∧ Env.get e 3 = .ptr 1 0 ∧ σ = [.cells (shipCells s), .cells [.int .u8 x0, .int .u8 x1, .int .u8 x2, .int .u8 x3]]) ?_ fun ev σ ⟨e2, e3, hσ⟩ => ?_
  ·(repeat (first | simp only [↓QA, QB, Nat.reduceLT, reduceIte, Nat.reduceEqDiff, Nat.reduceAdd, Nat.reduceLeDiff, Nat.reduceMul, Nat.reduceBEq, QXHHdQ9, encU4] | refine rd0 rfl ?_))
   ((first | refine callK_d (some2_ok s hf) rfl dd ?_ | refine callD_d (some2_ok s hf) rfl dd ?_); (repeat (first | simp only [↓QA, QB, Nat.reduceLT, reduceIte, Nat.reduceEqDiff, Nat.reduceAdd, Nat.reduceLeDiff, Nat.reduceMul, Nat.reduceBEq, QXHHdQ9, hs] | refine rd0 rfl ?_)))
  subst hσ
  refine chainL [_, _, _, _, _, _] (fun e σ => Env.get e 2 = .ptr 0 0 ∧ Env.get e 5 = .ptr 2 0 ∧ ∃ τ, σ = .cells (shipCells s) :: .cells [.int .u8 x0, .int .u8 x1, .int .u8 x2, .int .u8 x3] :: .cells (easyC s a (.ref 3 0 N 5)) :: .cells (flatC holdC (s.holds.set h (easyH z c d))) :: τ)
   (fun ev σ => Env.get ev 2 = .ptr 0 0 ∧ Env.get ev 5 = .ptr 2 0 ∧ σ = [.cells (shipCells s), .cells [.int .u8 x0, .int .u8 x1, .int .u8 x2, .int .u8 x3], .cells (shipCells e)]) ?_ ?_ ?_
  ·(repeat (first | simp only [↓QA, QB, Nat.reduceLT, reduceIte, Nat.reduceEqDiff, Nat.reduceAdd, Nat.reduceLeDiff, Nat.reduceMul, Nat.reduceBEq, QXHHdQ9, nest, e2, e3, i0, i1, i2, i3, t0, t1, t2, t3, w0, w1, w2, w3, r3, r9, rn, Nat.zero_add, ha, hcc, hd, wa, wc, wd, hap, hN, q1, k1, hfl, hat, hset] | refine rd0 rfl ?_))
   ((first | refine callK_d (span_ok (max 0 (z.keep.lo - c)) (min 80 (z.keep.hi + d))) rfl dd ?_ | refine callD_d (span_ok (max 0 (z.keep.lo - c)) (min 80 (z.keep.hi + d))) rfl dd ?_); (repeat (first | simp only [↓QA, QB, Nat.reduceLT, reduceIte, Nat.reduceEqDiff, Nat.reduceAdd, Nat.reduceLeDiff, Nat.reduceMul, Nat.reduceBEq, QXHHdQ9, q1, k1, hfl, hset, Nat.zero_add] | refine rd0 rfl ?_)))
   exact ⟨e2, _, rfl⟩
  ·rintro ev σ ⟨q2, q5, τ, rfl⟩
   refine ⟨[(2, .ptr 0 0), (5, .ptr 2 0)], [.cells (shipCells s), .cells [.int .u8 x0, .int .u8 x1, .int .u8 x2, .int .u8 x3], .cells (shipCells e)], _, _, ⟨by simp, by simp, ⟨.inl ⟨q2.symm, by rw [q2]; simp [okV]⟩, .inl ⟨q5.symm, by rw [q5]; simp [okV]⟩, trivial⟩, fun i hi => ?_⟩, .inl ⟨rfl, rfl⟩, rfl, rfl, rfl⟩
   match i, hi with
   | 0, _ => exact ⟨_, rfl, .inl ⟨by simp, .inl rfl, rfl⟩⟩
   | 1, _ => exact ⟨_, rfl, .inl ⟨by simp, .inl rfl, rfl⟩⟩
   | 2, _ => exact ⟨_, rfl, .inr (.inr ⟨_, _, rfl, by rw [← he, easyC_eq], by rw [← hN]; exact easy_thin s h _ a _ _ _ τ, .inl (by simp)⟩)⟩
  ·rintro ev σ ⟨e2, e5, rfl⟩
   refine code_run ?_
   have p1 := spoils_tr hs
   have p2 := spoils_tr hse
   rw [hea.len] at p2
   have l1 := spoils_len s
   have l2 := spoils_len e
   rw [p1] at l1
   rw [p2] at l2
   have s1 := filt_contains2 (l := numbers 0 s.holds.length) (p := fun h => decide (keepsIn e (truths e []) h.toNat [] = 2)) (q := fun h => decide (keepsIn s (truths s []) h.toNat [] = 2)) (fun x hx hp => by
    rw [numbers_mem] at hx
    rw [decide_eq_true_eq] at hp ⊢
    exact easy_never hea hfr.1 (by omega) hp)
   have s2 := filt_contains2 (l := numbers 0 s.holds.length) (p := fun h => decide (keepsIn e (truths e []) h.toNat [] ≠ 1)) (q := fun h => decide (keepsIn s (truths s []) h.toNat [] ≠ 1)) (fun x hx hp => by
    rw [numbers_mem] at hx
    rw [decide_eq_true_eq] at hp ⊢
    exact fun hq => hp (easy_must hea hfr.1 (by omega) hq))
   obtain ⟨A1, hA1⟩ : ∃ A1, (numbers 0 s.holds.length).filter (fun h => decide (keepsIn s (truths s []) h.toNat [] = 2)) = A1 := ⟨_, rfl⟩
   obtain ⟨B1, hB1⟩ : ∃ B1, (numbers 0 s.holds.length).filter (fun h => decide (keepsIn s (truths s []) h.toNat [] ≠ 1)) = B1 := ⟨_, rfl⟩
   obtain ⟨A2, hA2⟩ : ∃ A2, (numbers 0 s.holds.length).filter (fun h => decide (keepsIn e (truths e []) h.toNat [] = 2)) = A2 := ⟨_, rfl⟩
   obtain ⟨B2, hB2⟩ : ∃ B2, (numbers 0 s.holds.length).filter (fun h => decide (keepsIn e (truths e []) h.toNat [] ≠ 1)) = B2 := ⟨_, rfl⟩
   rw [hA1, hB1] at p1 l1
   rw [hA2, hB2] at p2 l2
   rw [hA1, hA2] at s1
   rw [hB1, hB2] at s2
   simp only at l1 l2
   have okz : ((0 : Int) == 0) = true := rfl
   have c1 := clear_eq (whole0 hs)
   have c2 := clear_eq (whole0 hse)
   rw [hea.len] at c2
   have m1 := clear_len s
   have m2 := clear_len e
   have hmc := fun l (hl : firstFrom (does s (truths s [])) s.holds.length (s.holds.length + 1) 0 = some l) => first_le (g := does e (truths e [])) (by omega) (fun c hc => easy_does hea hfr.1 hc) hl
   obtain ⟨F1, hF1⟩ : ∃ F1, firstFrom (does s (truths s [])) s.holds.length (s.holds.length + 1) 0 = F1 := ⟨_, rfl⟩
   obtain ⟨F2, hF2⟩ : ∃ F2, firstFrom (does e (truths e [])) s.holds.length (s.holds.length + 1) 0 = F2 := ⟨_, rfl⟩
   rw [hF1] at c1 hmc
   rw [hF2] at c2 hmc
   (repeat (first | simp only [↓QA, QB, Nat.reduceLT, reduceIte, Nat.reduceEqDiff, Nat.reduceAdd, Nat.reduceLeDiff, Nat.reduceMul, Nat.reduceBEq, QXHHdQ9, e2, e5] | refine rd0 rfl ?_))
   ((first | refine callK_d (pspoils_ok s hf) rfl dd ?_ | refine callD_d (pspoils_ok s hf) rfl dd ?_); (repeat (first | simp only [↓QA, QB, Nat.reduceLT, reduceIte, Nat.reduceEqDiff, Nat.reduceAdd, Nat.reduceLeDiff, Nat.reduceMul, Nat.reduceBEq, QXHHdQ9, encLLE, p1, e2, e5] | refine rd0 rfl ?_)))
   ((first | refine callK_d (pspoils_ok e hfe) rfl dd ?_ | refine callD_d (pspoils_ok e hfe) rfl dd ?_); (repeat (first | simp only [↓QA, QB, Nat.reduceLT, reduceIte, Nat.reduceEqDiff, Nat.reduceAdd, Nat.reduceLeDiff, Nat.reduceMul, Nat.reduceBEq, QXHHdQ9, encLLE, p2, e2, e5] | refine rd0 rfl ?_)))
   ((first | refine callK_d (pclear_ok s hf) rfl dd ?_ | refine callD_d (pclear_ok s hf) rfl dd ?_); (repeat (first | simp only [↓QA, QB, Nat.reduceLT, reduceIte, Nat.reduceEqDiff, Nat.reduceAdd, Nat.reduceLeDiff, Nat.reduceMul, Nat.reduceBEq, QXHHdQ9, encLE, c1, e2, e5] | refine rd0 rfl ?_)))
   ((first | refine callK_d (pclear_ok e hfe) rfl dd ?_ | refine callD_d (pclear_ok e hfe) rfl dd ?_); (repeat (first | simp only [↓QA, QB, Nat.reduceLT, reduceIte, Nat.reduceEqDiff, Nat.reduceAdd, Nat.reduceLeDiff, Nat.reduceMul, Nat.reduceBEq, QXHHdQ9, encLE, c2, okz] | refine rd0 rfl ?_)))
   ((first | refine callK_d (subset_ok A2 A1 (by omega) (by omega)) rfl dd ?_ | refine callD_d (subset_ok A2 A1 (by omega) (by omega)) rfl dd ?_); (repeat (first | simp only [↓QA, QB, Nat.reduceLT, reduceIte, Nat.reduceEqDiff, Nat.reduceAdd, Nat.reduceLeDiff, Nat.reduceMul, Nat.reduceBEq, QXHHdQ9, s1] | refine rd0 rfl ?_)))
   ((first | refine callK_d (subset_ok B2 B1 (by omega) (by omega)) rfl dd ?_ | refine callD_d (subset_ok B2 B1 (by omega) (by omega)) rfl dd ?_); (repeat (first | simp only [↓QA, QB, Nat.reduceLT, reduceIte, Nat.reduceEqDiff, Nat.reduceAdd, Nat.reduceLeDiff, Nat.reduceMul, Nat.reduceBEq, QXHHdQ9, s2] | refine rd0 rfl ?_)))
   cases F1 with
   | none =>
    (repeat (first | simp only [↓QA, QB, Nat.reduceLT, reduceIte, Nat.reduceEqDiff, Nat.reduceAdd, Nat.reduceLeDiff, Nat.reduceMul, Nat.reduceBEq, QXHHdQ9, clV, show ((9 : Int) == 0) = false from rfl] | refine rd0 rfl ?_))
    refine callK_d awake_ok rfl datas_nil ?_
    (repeat (first | simp only [↓QA, QB, Nat.reduceLT, reduceIte, Nat.reduceEqDiff, Nat.reduceAdd, Nat.reduceLeDiff, Nat.reduceMul, Nat.reduceBEq, QXHHdQ9] | refine rd0 rfl ?_))
   | some l =>
    obtain ⟨k, hk, hkl⟩ := hmc l rfl
    subst hk
    have g : decide ((k.length : Int) ≤ (l.length : Int)) = true := by simp; omega
    (repeat (first | simp only [↓QA, QB, Nat.reduceLT, reduceIte, Nat.reduceEqDiff, Nat.reduceAdd, Nat.reduceLeDiff, Nat.reduceMul, Nat.reduceBEq, QXHHdQ9, clV, okz, g] | refine rd0 rfl ?_))
    refine callK_d awake_ok rfl datas_nil ?_
    (repeat (first | simp only [↓QA, QB, Nat.reduceLT, reduceIte, Nat.reduceEqDiff, Nat.reduceAdd, Nat.reduceLeDiff, Nat.reduceMul, Nat.reduceBEq, QXHHdQ9] | refine rd0 rfl ?_))
end Go.Am.Room
