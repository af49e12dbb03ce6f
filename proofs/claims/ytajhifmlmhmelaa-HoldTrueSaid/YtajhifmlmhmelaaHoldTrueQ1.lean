/- A part of the proof of HoldTrue: an abstract machine, or what functions come to on it. -/
import Derived.Test.YtajhifmlmhmelaaAllQ6
import Derived.ChangeArms
import Derived.SizedLaws
import Derived.ChangeBears
import Derived.ChangeShapes
import Derived.WideShapes
import Derived.ProofKit
import Derived.OpenShut
import Derived.Lib.Strings
set_option linter.unusedVariables false
set_option linter.unusedSimpArgs false
set_option linter.defProp false
namespace Go.Am
open Go.ChangeShapes Go.WideShapes Go.ChangeAt Go.RowKit
variable {P : Program} {hh : String → Bool} {H : Type} {enc : TypeId × Value → H} {w : World} {sp : Nat → Bool} {held : Bool}
def mkV (P : Program) (t : TypeId) (cs : List AV) : AV := match P.underlying t with
 | some (.struct _) => .agg cs
 | some (.array _ _) => .agg cs
 | _ => cs.headD .undef
def Typ (P : Program) : Nat → TypeId → List AV → Prop
 | 0, _, _ => False
 | n + 1, t, cs =>
  match P.underlying t with
  | some .bool => ∃ b, cs = [.bool b]
  | some (.int k) => ∃ m, cs = [.int k m] ∧ (Lit.int k m).wf = true
  | some .string => ∃ s : ByteArray, cs = [.str s] ∧ s.size ≤ maxLen
  | some (.slice e) => ∃ ys : List (List AV), cs = [.lit (ys.map (mkV P e)) false none] ∧ (ys.length ≤ maxLen ∧ ys.length * P.bytesOf e ≤ reachBytes) ∧ ∀ y ∈ ys, Typ P n e y
  | some (.struct fs) => ∃ parts : List (List AV), cs = parts.flatten ∧ parts.length = fs.toList.length ∧ ∀ (i : Nat) f p, fs.toList[i]? = some f → parts[i]? = some p → Typ P n f.type p
  | some (.array k e) => ∃ parts : List (List AV), cs = parts.flatten ∧ parts.length = k ∧ ∀ p ∈ parts, Typ P n e p
  | _ => False
def okTy (P : Program) : Nat → TypeId → Bool
 | 0, _ => false
 | n + 1, t =>
  match P.underlying t with
  | some .bool | some (.int _) | some .string => true
  | some (.slice e) => decide (0 < P.cellsOf e) && okTy P n e
  | some (.struct fs) => fs.toList.all fun f => okTy P n f.type
  | some (.array _ e) => okTy P n e
  | _ => false
theorem mkV_cells {n : Nat} {t : TypeId} {cs : List AV} (h : Typ P n t cs) : (mkV P t cs).cells = cs := by
 cases n with
 | zero => exact h.elim
 | succ n =>
  simp only [Typ] at h
  unfold mkV
  split at h
  ·rename_i hu; rw [hu]; obtain ⟨b, rfl⟩ := h; rfl
  ·rename_i hu; rw [hu]; obtain ⟨b, rfl, _⟩ := h; rfl
  ·rename_i hu; rw [hu]; obtain ⟨b, rfl, _⟩ := h; rfl
  ·rename_i hu; rw [hu]; obtain ⟨b, rfl, _⟩ := h; rfl
  ·rename_i hu; rw [hu]; rfl
  ·rename_i hu; rw [hu]; rfl
  ·exact h.elim
theorem addr_add {a : Addr} {v : Value} (h : w.cell? a = some v) (n : Nat) : a.add n = ⟨a.block, a.off + n, none⟩ := by
 have hs : a.spot = none := by
  unfold World.cell? at h
  split at h
  ·split at h
   ·cases h
   ·rename_i hs; simpa using hs
  ·cases h
 obtain ⟨b, o, s⟩ := a
 simp only at hs
 subst hs
 unfold Addr.add
 split
 ·rename_i h0; simp [h0]
 ·rfl
theorem cell_lt {b o : Nat} {v : Value} (h : w.cell? ⟨b, o, none⟩ = some v) : ∃ L, limW w b = some L ∧ o < L := by
 unfold World.cell? at h
 split at h
 ·rename_i c T fr hb
  refine ⟨c.size, by simp only at hb; simp [limW, hb], ?_⟩
  simp at h
  exact (Array.getElem?_eq_some_iff.1 h).1
 ·cases h
theorem fields {G : Gh} {n : Nat} {cs : List Value} : ∀ (fl : List Field) (o : Nat), (∀ (j : Nat) f, fl[j]? = some f → f.offset = o + ((fl.take j).map fun f => P.cellsOf f.type).sum) → cs.length = o + (fl.map fun f => P.cellsOf f.type).sum →
  (∀ f ∈ fl, ∃ az, Typ P n f.type az ∧ RelL G w az ((cs.drop f.offset).take (P.cellsOf f.type))) →
  ∃ parts : List (List AV), parts.length = fl.length ∧ (∀ (i : Nat) f p, fl[i]? = some f → parts[i]? = some p → Typ P n f.type p) ∧ RelL G w parts.flatten (cs.drop o)
 | [], o, _, hl, _ => ⟨[], rfl, by simp, by
   have : cs.drop o = [] := List.drop_of_length_le (by simp at hl; omega)
   rw [this]; exact .nil⟩
 | f :: fl, o, ho, hl, ht => by
  have h0 := ho 0 f rfl
  simp only [List.take_zero, List.map_nil, List.sum_nil, Nat.add_zero] at h0
  simp only [List.map_cons, List.sum_cons] at hl
  obtain ⟨az, h1, h2⟩ := ht f (by simp)
  obtain ⟨parts, q1, q2, q3⟩ := fields fl (o + P.cellsOf f.type) (fun j g hj => by
   have := ho (j + 1) g (by simpa using hj)
   simp only [List.take_succ_cons, List.map_cons, List.sum_cons] at this
   omega) (by omega) fun g hg => ht g (List.mem_cons_of_mem _ hg)
  refine ⟨az :: parts, by simp [q1], fun i g p e1 e2 => ?_, ?_⟩
  ·cases i with
   | zero => simp at e1 e2; subst e1; subst e2; exact h1
   | succ i => exact q2 i g p (by simpa using e1) (by simpa using e2)
  ·rw [List.flatten_cons]
   have e : cs.drop o = (cs.drop o).take (P.cellsOf f.type) ++ cs.drop (o + P.cellsOf f.type) := by
    rw [← List.drop_drop, List.take_append_drop]
   rw [e]
   rw [h0] at h2
   exact h2.app q3
theorem items {G : Gh} {m : Nat} {e : TypeId} {cs : List Value} : ∀ (n o : Nat), cs.length = o + n * P.cellsOf e →
  (∀ i, i < n → ∃ az, Typ P m e az ∧ RelL G w az ((cs.drop (o + i * P.cellsOf e)).take (P.cellsOf e))) → ∃ parts : List (List AV), parts.length = n ∧ (∀ p ∈ parts, Typ P m e p) ∧ RelL G w parts.flatten (cs.drop o)
 | 0, o, hl, _ => ⟨[], rfl, by simp, by
   have : cs.drop o = [] := List.drop_of_length_le (by simp at hl; omega)
   rw [this]; exact .nil⟩
 | n + 1, o, hl, ht => by
  obtain ⟨az, h1, h2⟩ := ht 0 (by omega)
  rw [Nat.zero_mul, Nat.add_zero] at h2
  rw [Nat.add_mul, Nat.one_mul] at hl
  obtain ⟨parts, q1, q2, q3⟩ := items (e := e) (cs := cs) (m := m) n (o + P.cellsOf e) (by omega) fun i hi => by
   obtain ⟨az, k1, k2⟩ := ht (i + 1) (by omega)
   rw [Nat.add_mul, Nat.one_mul, Nat.add_comm (i * _), ← Nat.add_assoc] at k2
   exact ⟨az, k1, k2⟩
  refine ⟨az :: parts, by simp [q1], fun p hp => ?_, ?_⟩
  ·rcases List.mem_cons.1 hp with rfl | hp
   ·exact h1
   ·exact q2 p hp
  ·rw [List.flatten_cons]
   have e1 : cs.drop o = (cs.drop o).take (P.cellsOf e) ++ cs.drop (o + P.cellsOf e) := by
    rw [← List.drop_drop, List.take_append_drop]
   rw [e1]
   exact h2.app q3
theorem choose_list {α : Type} {Q : Nat → α → Prop} : ∀ n, (∀ i, i < n → ∃ x, Q i x) → ∃ l : List α, l.length = n ∧ ∀ (i : Nat) x, l[i]? = some x → Q i x
 | 0, _ => ⟨[], rfl, by simp⟩
 | n + 1, h => by
  obtain ⟨l, h1, h2⟩ := choose_list n fun i hi => h i (by omega)
  obtain ⟨x, hx⟩ := h n (by omega)
  refine ⟨l ++ [x], by simp [h1], fun i y e => ?_⟩
  by_cases hi : i < l.length
  ·rw [List.getElem?_append_left hi] at e; exact h2 i y e
  ·rw [List.getElem?_append_right (by omega)] at e
   have : i - l.length = 0 := by
    by_cases h0 : i - l.length = 0
    ·exact h0
    ·rw [List.getElem?_eq_none (by simp; omega)] at e; cases e
   rw [this] at e
   simp at e
   subst e
   rw [show i = n by omega]; exact hx
theorem typ_of_trod (hl : laidOutB P = true) : ∀ (n m : Nat) (t : TypeId) (cs : List Value) (x : DataW H × List MemPlace), t < P.types.size → okTy P n t = true → DataW.trod enc P w 0 sp held m t cs = some x → (∀ k ∈ x.1.weights P t, k ≤ reachBytes) →
  ∃ az, Typ P n t az ∧ RelL (argG w) w az cs
 | 0, m, t, cs, x, _, ho, _, _ => by simp [okTy] at ho
 | n + 1, m, t, cs, x, ht, ho, h, hwt => by
  simp only [okTy] at ho
  split at ho
  ·rename_i hu
   obtain ⟨b, rfl, _⟩ := DataW.trod_bool hu h
   exact ⟨[.bool b], by simp only [Typ, hu]; exact ⟨b, rfl⟩, .one (.bool b)⟩
  ·rename_i k hu
   obtain ⟨b, rfl, _, hw⟩ := DataW.trod_int hu h
   exact ⟨[.int k b], by simp only [Typ, hu]; exact ⟨b, rfl, hw⟩, .one (.int k b)⟩
  ·rename_i hu
   obtain ⟨s, rfl, _, hs⟩ := DataW.trod_string hu h
   exact ⟨[.str s], by simp only [Typ, hu]; exact ⟨s, rfl, hs⟩, .one (.str s)⟩
  ·rename_i e hu
   simp only [Bool.and_eq_true, decide_eq_true_eq] at ho
   rcases DataW.trod_slice hu h with ⟨rfl, _⟩ | ⟨a, len, cap, elems, rest, m', _, rfl, hxe, _, hlc, hcm, hel, hei, _, _⟩
   ·refine ⟨[.lit [] false none], by simp only [Typ, hu]; exact ⟨[], rfl, ⟨by simp, by simp⟩, by simp⟩, .one (.nil ⟨Nat.le_refl _, (fun e => by cases e), (fun t e => by cases e)⟩ fun _ => rfl)⟩
   ·
    have hws : ∀ k ∈ x.1.weights P t, k ≤ reachBytes := hwt
    rw [hxe] at hws
    simp only [DataW.weights, hu, List.mem_cons, List.mem_append, List.length_map] at hws
    have hwl : len * P.bytesOf e ≤ reachBytes := by
     have h1 := hws _ (.inl rfl)
     rw [hel] at h1
     exact Nat.le_trans (Nat.mul_le_mul_right _ (Nat.le_add_right _ _)) h1
    have hwe : ∀ (d : DataW H), d ∈ elems.map (·.1) → ∀ k ∈ d.weights P e, k ≤ reachBytes := by
     have key : ∀ (l : List (DataW H)) (d : DataW H), d ∈ l → ∀ k ∈ d.weights P e, k ∈ DataW.weightsAll P e l := by
      intro l
      induction l with
      | nil => intro d hd; cases hd
      | cons a l ih =>
       intro d hd k hk
       simp only [DataW.weightsAll, List.mem_append]
       rcases List.mem_cons.1 hd with rfl | hd
       ·exact .inl hk
       ·exact .inr (ih d hd k hk)
     exact fun d hd k hk => hws k (.inr (.inl (key _ d hd k hk)))
    have hel2 : ∀ i, i < len → ∃ y, Typ P n e y ∧ ∃ vs, w.cells? 0 (a.add (i * P.cellsOf e)) (P.cellsOf e) = some vs ∧ RelL (argG w) w y vs := by
     intro i hi
     have h1 := hei i hi
     rw [List.getElem?_eq_getElem (by omega), Option.bind_eq_some_iff] at h1
     obtain ⟨vs, q1, q2⟩ := h1
     obtain ⟨y, q3, q4⟩ := typ_of_trod hl n m' e vs _ (kid_slice hl ht hu) ho.2 q2 (hwe _ (List.mem_map.2 ⟨_, List.getElem_mem (by omega), rfl⟩))
     exact ⟨y, q3, vs, q1, q4⟩
    obtain ⟨ys, hyl, hys⟩ := choose_list len hel2
    refine ⟨[.lit (ys.map (mkV P e)) false none], by
     simp only [Typ, hu]
     refine ⟨ys, rfl, ⟨by omega, by rw [hyl]; exact hwl⟩, fun y hy => ?_⟩
     obtain ⟨i, hi⟩ := List.getElem?_of_mem hy
     exact (hys i y hi).1, .one ?_⟩
    by_cases h0 : len = 0
    ·subst h0
     obtain rfl : ys = [] := List.eq_nil_of_length_eq_zero hyl
     exact .nil ⟨Nat.zero_le _, (fun e => by cases e), (fun t e => by cases e)⟩ fun e => by cases e
    ·
     have hcell : ∀ i j, i < len → j < P.cellsOf e → ∃ v, w.cell? ((a.add (i * P.cellsOf e)).add j) = some v := by
      intro i j hi hj
      obtain ⟨y, _, vs, q1, _⟩ := hel2 i hi
      simp only [World.cells?, Nat.zero_le, if_true] at q1
      have hlen := mapM_some_length q1
      have := mapM_some_get q1 j j (by simp [hj])
      rw [List.length_range] at hlen
      rw [List.getElem?_eq_getElem (by omega)] at this
      exact ⟨_, this⟩
     obtain ⟨v0, hv0⟩ := hcell 0 0 (by omega) ho.1
     rw [Nat.zero_mul] at hv0
     have ha0 : a.add 0 = a := by simp [Addr.add]
     rw [ha0, ha0] at hv0
     have hplain : ∀ i, a.add i = ⟨a.block, a.off + i, none⟩ := addr_add hv0
     have hae : a = ⟨a.block, a.off, none⟩ := by have := hplain 0; rw [ha0] at this; simpa using this
     have hplain2 : ∀ i j, (a.add i).add j = ⟨a.block, a.off + (i + j), none⟩ := by
      intro i j
      rw [hplain]
      unfold Addr.add
      split
      ·rename_i h; simp [h]
      ·simp [Nat.add_assoc]
     have hcell2 : ∀ i j, i < len → j < P.cellsOf e → ∃ v, w.cell? ⟨a.block, a.off + (i * P.cellsOf e + j), none⟩ = some v := by
      intro i j hi hj
      have := hcell i j hi hj
      rw [hplain2] at this
      exact this
     rw [hae, show len = (ys.map (mkV P e)).length by simp [hyl]]
     have hsz : ∀ (i : Nat) (x : AV), (ys.map (mkV P e))[i]? = some x → ∃ y, ys[i]? = some y ∧ x = mkV P e y ∧ x.cells = y := by
      intro i x hx
      rw [List.getElem?_map] at hx
      cases hy : ys[i]? with
      | none => rw [hy] at hx; cases hx
      | some y =>
       rw [hy] at hx
       simp at hx
       exact ⟨y, rfl, hx.symm, by rw [← hx, mkV_cells (hys i y hy).1]⟩
     have hvl : ∀ (i : Nat) y, ys[i]? = some y → y.length = P.cellsOf e := by
      intro i y hy
      obtain ⟨_, vs, q1, q2⟩ := hys i y hy
      rw [q2.1]
      simp only [World.cells?, Nat.zero_le, if_true] at q1
      rw [mapM_some_length q1, List.length_range]
     refine .lit (sz := P.cellsOf e) ⟨by simp; omega, (fun e => by cases e), (fun t e => by cases e)⟩ ⟨?_, (fun t e => by cases e), fun i x hx => ?_, fun k hk => ?_⟩ fun i x j c u hx hc hu2 => ?_
     ·obtain ⟨v, hv⟩ := hcell2 (len - 1) (P.cellsOf e - 1) (by omega) (by omega)
      obtain ⟨L, q1, q2⟩ := cell_lt hv
      refine ⟨L, q1, ?_⟩
      rw [List.length_map, hyl]
      have : (len - 1) * P.cellsOf e + P.cellsOf e = len * P.cellsOf e := by
       rw [← Nat.succ_mul]; congr 1; omega
      omega
     ·obtain ⟨y, q1, q2, q3⟩ := hsz i x hx
      rw [q3]; exact hvl i y q1
     ·rw [List.length_map, hyl] at hk
      have hd : k / P.cellsOf e < len := Nat.div_lt_of_lt_mul (by rw [Nat.mul_comm]; exact hk)
      have hm : k % P.cellsOf e < P.cellsOf e := Nat.mod_lt _ ho.1
      obtain ⟨v, hv⟩ := hcell2 _ _ hd hm
      have : k / P.cellsOf e * P.cellsOf e + k % P.cellsOf e = k := by rw [Nat.mul_comm]; exact Nat.div_add_mod _ _
      rw [this] at hv
      rw [hv]; rfl
     ·obtain ⟨y, q1, q2, q3⟩ := hsz i x hx
      rw [q3] at hc
      obtain ⟨_, vs, p1, p2⟩ := hys i y q1
      have hjl : j < P.cellsOf e := by
       rw [← hvl i y q1]
       exact (List.getElem?_eq_some_iff.1 hc).1
      simp only [World.cells?, Nat.zero_le, if_true] at p1
      have hg := mapM_some_get p1 j j (by simp [hjl])
      rw [hplain2] at hg
      rw [hu2] at hg
      exact p2.2 j c u hc hg.symm
  ·rename_i fs hu
   rw [List.all_eq_true] at ho
   obtain ⟨xs, m', _, hxe, hcl, hxl, hf⟩ := DataW.trod_struct hu h
   obtain ⟨k1, k2, k3⟩ := kid_struct hl ht hu
   obtain ⟨parts, q1, q2, q3⟩ := fields (P := P) (G := argG w) (w := w) (n := n) (cs := cs) fs.toList 0 (fun j f hj => by rw [k3 j f hj]; omega) (by rw [hcl, k2]; omega) fun f hfm => by
    obtain ⟨i, hi⟩ := List.getElem?_of_mem hfm
    have h1 := hf i f (by simpa using hi)
    have hil : i < xs.length := by rw [hxl]; have := (List.getElem?_eq_some_iff.1 hi).1; simpa using this
    rw [List.getElem?_eq_getElem hil] at h1
    have hd : (xs.map (·.1))[i]? = some xs[i].1 := by rw [List.getElem?_map, List.getElem?_eq_getElem hil]; rfl
    have hty : (fs.toList.map (·.type))[i]? = some f.type := by rw [List.getElem?_map, hi]; rfl
    refine typ_of_trod hl n m' f.type _ _ (k1 f hfm) (ho f hfm) h1 fun k hk => hwt k ?_
    rw [hxe]
    simp only [DataW.weights, hu]
    exact DataW.weights_mem_each hty hd k hk
   rw [List.drop_zero] at q3
   exact ⟨parts.flatten, by simp only [Typ, hu]; exact ⟨parts, rfl, q1, q2⟩, q3⟩
  ·rename_i k e hu
   obtain ⟨xs, m', _, hxe, hcl, hxl, hf⟩ := DataW.trod_array hu h
   obtain ⟨k1, k2⟩ := kid_array hl ht hu
   have hwe : ∀ (d : DataW H), d ∈ xs.map (·.1) → ∀ q ∈ d.weights P e, q ≤ reachBytes := by
    have key : ∀ (l : List (DataW H)) (d : DataW H), d ∈ l → ∀ q ∈ d.weights P e, q ∈ DataW.weightsAll P e l := by
     intro l
     induction l with
     | nil => intro d hd; cases hd
     | cons a l ih =>
      intro d hd q hq
      simp only [DataW.weightsAll, List.mem_append]
      rcases List.mem_cons.1 hd with rfl | hd
      ·exact .inl hq
      ·exact .inr (ih d hd q hq)
    intro d hd q hq
    refine hwt q ?_
    rw [hxe]
    simp only [DataW.weights, hu]
    exact key _ d hd q hq
   obtain ⟨parts, q1, q2, q3⟩ := items (P := P) (G := argG w) (w := w) (m := n) (e := e) (cs := cs) k 0 (by rw [hcl, k2]; omega) fun i hi => by
    have h1 := hf i hi
    have hil : i < xs.length := by omega
    rw [List.getElem?_eq_getElem hil] at h1
    rw [Nat.zero_add]
    exact typ_of_trod hl n m' e _ _ k1 ho h1 (hwe _ (List.mem_map.2 ⟨_, List.getElem_mem hil, rfl⟩))
   rw [List.drop_zero] at q3
   exact ⟨parts.flatten, by simp only [Typ, hu]; exact ⟨parts, rfl, q1, q2⟩, q3⟩
  ·cases ho
theorem arg_of_trod (hl : laidOutB P = true) (n : Nat) {t : TypeId} {v : Value} {d : DataW H} {ps : List MemPlace} (ht : t < P.types.size) (ho : okTy P n t = true) (hv : Value.okWide P w .any 0 t v) (h : DataW.Trod enc P w 0 sp held t v d ps) (hwt : ∀ k ∈ d.weights P t, k ≤ reachBytes) :
  ∃ az, Typ P n t az ∧ RelV (argG w) w (mkV P t az) v := by
 obtain ⟨m, hm⟩ := h
 obtain ⟨az, h1, h2⟩ := typ_of_trod hl n m t _ _ ht ho hm hwt
 refine ⟨az, h1, ?_⟩
 have hone : ∀ {a : AV}, az = [a] → (∀ cs, v ≠ .agg cs) → RelV (argG w) w a v := by
  rintro a rfl hx
  have hc : v.cells.toList = [v] := by cases v <;> first | rfl | exact absurd rfl (hx _)
  rw [hc] at h2
  exact h2.2 0 a v rfl rfl
 cases n with
 | zero => exact h1.elim
 | succ n =>
  unfold mkV
  simp only [Typ] at h1
  split at h1 <;> rename_i hu
  ·obtain ⟨b, rfl⟩ := h1
   rw [hu]
   obtain ⟨c, hc⟩ := okWide_bool hu hv
   exact hone rfl (by rw [hc]; intro cs e; cases e)
  ·obtain ⟨b, rfl, _⟩ := h1
   rw [hu]
   obtain ⟨c, hc⟩ := okWide_int hu hv
   exact hone rfl (by rw [hc]; intro cs e; cases e)
  ·obtain ⟨b, rfl, _⟩ := h1
   rw [hu]
   obtain ⟨c, hc⟩ := okWide_string hu hv
   exact hone rfl (by rw [hc]; intro cs e; cases e)
  ·obtain ⟨b, rfl, _⟩ := h1
   rw [hu]
   obtain ⟨_, _, _, hc⟩ := okWide_slice hu hv
   exact hone rfl (by rw [hc]; intro cs e; cases e)
  ·rw [hu]
   unfold Value.okWide at hv
   rw [hu] at hv
   obtain ⟨cs, rfl, _, _⟩ := hv
   refine .agg ?_ fun i a u e1 e2 => ?_
   ·have := h2.1; simpa [Value.cells] using this.symm
   ·exact h2.2 i a u e1 (by simpa [Value.cells] using e2)
  ·rw [hu]
   unfold Value.okWide at hv
   rw [hu] at hv
   obtain ⟨cs, rfl, _, _⟩ := hv
   refine .agg ?_ fun i a u e1 e2 => ?_
   ·have := h2.1; simpa [Value.cells] using this.symm
   ·exact h2.2 i a u e1 (by simpa [Value.cells] using e2)
  ·exact h1.elim
theorem relArgs_cons {G : Gh} {a : AV} {v : Value} {az : List AV} {vs : List Value} (h : RelV G w a v) (hs : RelArgs G w az vs.toArray) : RelArgs G w (a :: az) (v :: vs).toArray := by
 refine ⟨by have := hs.1; simp at this; simp [this], fun i x u e1 e2 => ?_⟩
 cases i with
 | zero => simp at e1 e2; subst e1; subst e2; exact h
 | succ i => exact hs.2 i x u (by simpa using e1) (by simpa using e2)
def Parts (P : Program) (n : Nat) : List TypeId → List AV → Prop
 | [], cs => cs = []
 | t :: ts, cs => ∃ a b, cs = a ++ b ∧ Typ P n t a ∧ Parts P n ts b
theorem parts_of {n : Nat} : ∀ (fl : List Field) (parts : List (List AV)), parts.length = fl.length → (∀ (i : Nat) f p, fl[i]? = some f → parts[i]? = some p → Typ P n f.type p) → Parts P n (fl.map Field.type) parts.flatten
 | [], parts, hl, _ => by rw [List.length_eq_zero_iff.1 hl]; rfl
 | f :: fl, [], hl, _ => by simp at hl
 | f :: fl, p :: parts, hl, h => ⟨p, parts.flatten, rfl, h 0 f p rfl rfl, parts_of fl parts (by simpa using hl) fun i g q e1 e2 => h (i + 1) g q (by simpa using e1) (by simpa using e2)⟩
theorem typ_struct {n : Nat} {t : TypeId} {fs : Array Field} {cs : List AV} (hu : P.underlying t = some (.struct fs)) (h : Typ P (n + 1) t cs) : Parts P n (fs.toList.map Field.type) cs := by
 simp only [Typ, hu] at h
 obtain ⟨parts, rfl, h1, h2⟩ := h
 exact parts_of fs.toList parts h1 h2
theorem typ_int {n : Nat} {t : TypeId} {k : IntKind} {cs : List AV} (hu : P.underlying t = some (.int k)) (h : Typ P (n + 1) t cs) : ∃ m, cs = [.int k m] ∧ (Lit.int k m).wf = true := by
 simp only [Typ, hu] at h; exact h
theorem typ_slice {n : Nat} {t e : TypeId} {cs : List AV} {α : Type} {f : α → AV} {Q : α → Prop} (hu : P.underlying t = some (.slice e)) (h : Typ P (n + 1) t cs) (hq : ∀ y, Typ P n e y → ∃ x, mkV P e y = f x ∧ Q x) : ∃ l : List α, cs = [.lit (l.map f) false none] ∧ (l.length < 9223372036854775808 ∧ l.length * P.bytesOf e ≤ reachBytes) ∧ ∀ x ∈ l, Q x := by
 simp only [Typ, hu] at h
 obtain ⟨ys, rfl, ⟨h1, h1b⟩, h2⟩ := h
 have key : ∀ ys : List (List AV), (∀ y ∈ ys, Typ P n e y) → ∃ l : List α, ys.map (mkV P e) = l.map f ∧ l.length = ys.length ∧ ∀ x ∈ l, Q x := by
  intro ys
  induction ys with
  | nil => intro _; exact ⟨[], rfl, rfl, by simp⟩
  | cons y ys ih =>
   intro hy
   obtain ⟨x, q1, q2⟩ := hq y (hy y (by simp))
   obtain ⟨l, q3, q4, q5⟩ := ih fun z hz => hy z (List.mem_cons_of_mem _ hz)
   exact ⟨x :: l, by simp [q1, q3], by simp [q4], fun z hz => by
    rcases List.mem_cons.1 hz with rfl | hz
    ·exact q2
    ·exact q5 z hz⟩
 obtain ⟨l, q1, q2, q3⟩ := key ys h2
 exact ⟨l, by rw [q1], ⟨by simp only [maxLen] at h1; omega, by rw [q2]; exact h1b⟩, q3⟩
theorem mkV_struct {t : TypeId} {fs : Array Field} {cs : List AV} (hu : P.underlying t = some (.struct fs)) : mkV P t cs = .agg cs := by simp [mkV, hu]
theorem mkV_one {t : TypeId} {a : AV} (hu : ∀ fs, P.underlying t ≠ some (.struct fs)) (hu2 : ∀ k e, P.underlying t ≠ some (.array k e)) : mkV P t [a] = a := by
 unfold mkV
 split
 ·rename_i fs h; exact absurd h (hu fs)
 ·rename_i k e h; exact absurd h (hu2 k e)
 ·rfl
theorem wf_u8 {m : Int} (h : (Lit.int .u8 m).wf = true) : 0 ≤ m ∧ m < 256 := by
 simp [Lit.wf, IntKind.min, IntKind.max, IntKind.signed, IntKind.bits] at h
 omega
end Go.Am
namespace Go.Am
variable {T : FuncId → Option AFunc}
theorem V_rem (k : IntKind) (a b : Int) (h : b ≠ 0) : binAV .rem (.int k a) (.int k b) = some (.int k (a.tmod b)) := by simp [binAV, binInt, h]
theorem app_full {sz b : Nat} {σ : St} {xs ys : List AV} {tk t : Option Nat} {f : Bool} (h : AppOk sz b xs ys) (h0 : ys.length ≠ 0) :
  appendAV sz b σ (.lit xs true tk) (.lit ys f t) = some (.lit (xs ++ ys) false (some σ.length), σ ++ [.tok sz (xs.length + ys.length) true]) := by
 obtain ⟨h1, h2, h3, h4⟩ := h
 simp [appendAV, view, sized, h0, h1, h2, h3, h4]
theorem app_nil {sz b : Nat} {σ : St} {xs : List AV} {tk t : Option Nat} {f f' : Bool} : appendAV sz b σ (.lit xs f' tk) (.lit [] f t) = some (.lit xs f' tk, σ) := by
 simp [appendAV, view]
end Go.Am
namespace Go.Am
variable {T : FuncId → Option AFunc}
theorem V_idxI {α : Type} {sz : Nat} {enc : α → AV} {l : List α} {i : Int} {t : Option Nat} (h0 : 0 ≤ i) (h : i.toNat < l.length) (hs : ∀ x, (enc x).cells.length = sz) : vIdx sz (l.map enc) i t = some (.lptr (l.map enc) i.toNat 0 t) := by
 simp [vIdx, List.getElem?_map, h, hs, h0]
def intss (l : List (List Int)) : AV := .lit (l.map ints) false none
theorem data_intss (l : List (List Int)) : Data (intss l) := data_list data_ints l
end Go.Am
namespace Go.Am
instance (l : List (List Int)) : Dat (intss l) := ⟨data_intss l⟩
end Go.Am
namespace Go.Am.Room
theorem in_ok (n lo hi : Int) : Pure T 62 [.int .i64 n, .int .i64 lo, .int .i64 hi] (.bool (inR n lo hi)) := by
 refine pure_fn (af := a62) rfl (by simp [a62]) dd ?_
 (repeat (first | simp only [↓QA, QB, Nat.reduceLT, reduceIte, Nat.reduceEqDiff, Nat.reduceAdd, Nat.reduceLeDiff, Nat.reduceMul, Nat.reduceBEq, a62] | refine rd0 rfl ?_))
 refine iteP_intro (fun h => ?_) fun h => ?_
 all_goals
  (repeat (first | simp only [↓QA, QB, Nat.reduceLT, reduceIte, Nat.reduceEqDiff, Nat.reduceAdd, Nat.reduceLeDiff, Nat.reduceMul, Nat.reduceBEq, h] | refine rd0 rfl ?_))
  simp [inR, h]
theorem inside_ok (n : Int) (s : Span) : Pure T 43 [.int .i64 n, encSpan s] (.bool (inR n s.lo s.hi)) := by
 refine pure_fn (af := a43) rfl (by simp [a43]) dd ?_
 (repeat (first | simp only [↓QA, QB, Nat.reduceLT, reduceIte, Nat.reduceEqDiff, Nat.reduceAdd, Nat.reduceLeDiff, Nat.reduceMul, Nat.reduceBEq, a43, encSpan_eq] | refine rd0 rfl ?_))
 refine callK_d (in_ok _ _ _) rfl dd ?_
 (repeat (first | simp only [↓QA, QB, Nat.reduceLT, reduceIte, Nat.reduceEqDiff, Nat.reduceAdd, Nat.reduceLeDiff, Nat.reduceMul, Nat.reduceBEq] | refine rd0 rfl ?_))
theorem ends_ok (s : Span) (lo hi : Int) : Pure T 92 [encSpan s, .int .i64 lo, .int .i64 hi] (.int .i64 (ends s lo hi)) := by
 refine pure_fn (af := a92) rfl (by simp [a92]) dd ?_
 (repeat (first | simp only [↓QA, QB, Nat.reduceLT, reduceIte, Nat.reduceEqDiff, Nat.reduceAdd, Nat.reduceLeDiff, Nat.reduceMul, Nat.reduceBEq, a92, encSpan_eq] | refine rd0 rfl ?_))
 refine callK_d (in_ok _ _ _) rfl dd ?_
 (repeat (first | simp only [↓QA, QB, Nat.reduceLT, reduceIte, Nat.reduceEqDiff, Nat.reduceAdd, Nat.reduceLeDiff, Nat.reduceMul, Nat.reduceBEq] | refine rd0 rfl ?_))
 cases h1 : inR s.lo lo hi
 ·(repeat (first | simp only [↓QA, QB, Nat.reduceLT, reduceIte, Nat.reduceEqDiff, Nat.reduceAdd, Nat.reduceLeDiff, Nat.reduceMul, Nat.reduceBEq] | refine rd0 rfl ?_))
  simp [ends, h1]
 ·(repeat (first | simp only [↓QA, QB, Nat.reduceLT, reduceIte, Nat.reduceEqDiff, Nat.reduceAdd, Nat.reduceLeDiff, Nat.reduceMul, Nat.reduceBEq] | refine rd0 rfl ?_))
  refine callK_d (in_ok _ _ _) rfl dd ?_
  (repeat (first | simp only [↓QA, QB, Nat.reduceLT, reduceIte, Nat.reduceEqDiff, Nat.reduceAdd, Nat.reduceLeDiff, Nat.reduceMul, Nat.reduceBEq] | refine rd0 rfl ?_))
  cases h2 : inR s.hi lo hi
  ·(repeat (first | simp only [↓QA, QB, Nat.reduceLT, reduceIte, Nat.reduceEqDiff, Nat.reduceAdd, Nat.reduceLeDiff, Nat.reduceMul, Nat.reduceBEq] | refine rd0 rfl ?_))
   simp [ends, h1, h2]
  ·(repeat (first | simp only [↓QA, QB, Nat.reduceLT, reduceIte, Nat.reduceEqDiff, Nat.reduceAdd, Nat.reduceLeDiff, Nat.reduceMul, Nat.reduceBEq] | refine rd0 rfl ?_))
   refine iteP_intro (fun h => ?_) fun h => ?_
   all_goals
    (repeat (first | simp only [↓QA, QB, Nat.reduceLT, reduceIte, Nat.reduceEqDiff, Nat.reduceAdd, Nat.reduceLeDiff, Nat.reduceMul, Nat.reduceBEq, h] | refine rd0 rfl ?_))
    simp [ends, h1, h2]
    simpa using h
theorem has_ok (l : List Int) (n : Int) (hl : l.length < 9223372036854775808) : Pure T 41 [ints l, .int .i64 n] (.bool (l.contains n)) := by
 refine pure_fn (af := a41) rfl (by simp [a41]) dd ?_
 (repeat (first | simp only [↓QA, QB, Nat.reduceLT, reduceIte, Nat.reduceEqDiff, Nat.reduceAdd, Nat.reduceLeDiff, Nat.reduceMul, Nat.reduceBEq, a41] | refine rd0 rfl ?_))
 refine loopE (S := Nat) 0 (· ≤ l.length) (fun k => l.length - k) (fun k => [(0, ints l), (1, .int .i64 n), (5, .bool ((l.take k).contains n)), (6, .int .i64 k)]) (fun _ => []) (Nat.zero_le _) rfl ?_ fun k hk => ?_
 ·try simp only [TrimX, QE, Nat.reduceLT, reduceIte, Nat.reduceEqDiff, Nat.reduceAdd, Nat.reduceLeDiff, Nat.reduceMul, Nat.reduceBEq]
  try simp
 ·(repeat (first | simp only [↓QA, QB, Nat.reduceLT, reduceIte, Nat.reduceEqDiff, Nat.reduceAdd, Nat.reduceLeDiff, Nat.reduceMul, Nat.reduceBEq, L41_0] | refine rd0 rfl ?_))
  refine iteP_intro (fun h => ?_) fun h => ?_
  ·have hk1 : k < l.length := by simpa using h
   (repeat (first | simp only [↓QA, QB, Nat.reduceLT, reduceIte, Nat.reduceEqDiff, Nat.reduceAdd, Nat.reduceLeDiff, Nat.reduceMul, Nat.reduceBEq] | refine rd0 rfl ?_))
   refine iteP_intro (fun h2 => ?_) fun h2 => ?_
   all_goals
    (repeat (first | simp only [↓QA, QB, Nat.reduceLT, reduceIte, Nat.reduceEqDiff, Nat.reduceAdd, Nat.reduceLeDiff, Nat.reduceMul, Nat.reduceBEq, h2, hk1] | refine rd0 rfl ?_))
    refine ⟨k + 1, by omega, by omega, ?_⟩
    try simp only [TrimX, QE, Nat.reduceLT, reduceIte, Nat.reduceEqDiff, Nat.reduceAdd, Nat.reduceLeDiff, Nat.reduceMul, Nat.reduceBEq, wrapN hk1 hl]
    simp only [List.take_succ_eq_append_getElem hk1, List.contains_append, h2]
    simp
    try (rw [Bool.eq_iff_iff]; simp; exact eq_comm)
  ·have : k = l.length := by simp at h; omega
   (repeat (first | simp only [↓QA, QB, Nat.reduceLT, reduceIte, Nat.reduceEqDiff, Nat.reduceAdd, Nat.reduceLeDiff, Nat.reduceMul, Nat.reduceBEq] | refine rd0 rfl ?_))
   simp [this]
theorem allCells_ints (l : List (List Int)) : allCells 1 (l.map ints) = true := L_allM 1 ints l fun x => C_lit _ _ _
open Go
variable {P : Program}
def IsStruct (P : Program) (t : TypeId) (ts : List TypeId) : Prop := ∃ fs, P.underlying t = some (.struct fs) ∧ fs.toList.map Field.type = ts
theorem typ_st {n : Nat} {t : TypeId} {ts : List TypeId} {cs : List AV} (hu : IsStruct P t ts) (h : Typ P (n + 1) t cs) : mkV P t cs = .agg cs ∧ Parts P n ts cs := by
 obtain ⟨fs, h1, h2⟩ := hu
 have := typ_struct h1 h
 rw [h2] at this
 exact ⟨mkV_struct h1, this⟩
theorem mkV_ne {t : TypeId} {a : AV} {d : TypeDesc} (hu : P.underlying t = some d) (hd : ∀ fs, d ≠ .struct fs := by intro fs h; cases h) (hd2 : ∀ k e, d ≠ .array k e := by intro k e h; cases h) : mkV P t [a] = a := mkV_one (by rw [hu]; intro fs e; cases e; exact hd _ rfl) (by rw [hu]; intro k e h; cases h; exact hd2 _ _ rfl)
theorem tc_span {n : Nat} {i t : TypeId} {cs : List AV} (hi : P.underlying i = some (.int .i64)) (hs : IsStruct P t [i, i]) (h : Typ P (n + 2) t cs) : ∃ s : Span, cs = [.int .i64 s.lo, .int .i64 s.hi] := by
 obtain ⟨_, a, b, rfl, h1, c, d, rfl, h2, rfl⟩ := typ_st hs h
 obtain ⟨x, rfl, _⟩ := typ_int hi h1
 obtain ⟨y, rfl, _⟩ := typ_int hi h2
 exact ⟨⟨x, y⟩, rfl⟩
theorem tc_int {n : Nat} {t : TypeId} {cs : List AV} (hi : P.underlying t = some (.int .i64)) (h : Typ P (n + 1) t cs) : ∃ x : Int, mkV P t cs = .int .i64 x ∧ True := by
 obtain ⟨x, rfl, _⟩ := typ_int hi h
 exact ⟨x, mkV_ne hi, trivial⟩
theorem tc_u8 {n : Nat} {t : TypeId} {cs : List AV} (hi : P.underlying t = some (.int .u8)) (h : Typ P (n + 1) t cs) : ∃ x : Int, mkV P t cs = .int .u8 x ∧ (0 ≤ x ∧ x < 256) := by
 obtain ⟨x, rfl, hw⟩ := typ_int hi h
 exact ⟨x, mkV_ne hi, wf_u8 hw⟩
theorem tc_ints {n : Nat} {t i : TypeId} {cs : List AV} (hi : P.underlying i = some (.int .i64)) (hs : P.underlying t = some (.slice i)) (h : Typ P (n + 2) t cs) : ∃ l : List Int, mkV P t cs = Go.Am.ints l ∧ cs = [Go.Am.ints l] ∧ l.length < 9223372036854775808 := by
 obtain ⟨l, rfl, ⟨h1, _⟩, _⟩ := typ_slice (f := fun x : Int => AV.int .i64 x) hs h fun y hy => tc_int hi hy
 exact ⟨l, mkV_ne hs, rfl, h1⟩
theorem tc_u8s {n : Nat} {t i : TypeId} {cs : List AV} (hi : P.underlying i = some (.int .u8)) (hs : P.underlying t = some (.slice i)) (h : Typ P (n + 2) t cs) : ∃ l : List Int, mkV P t cs = .lit (l.map (.int .u8)) false none ∧ (∀ x ∈ l, 0 ≤ x ∧ x < 256) ∧ l.length < 9223372036854775808 := by
 obtain ⟨l, rfl, ⟨h1, _⟩, h2⟩ := typ_slice (f := fun x : Int => AV.int .u8 x) hs h fun y hy => tc_u8 hi hy
 exact ⟨l, mkV_ne hs, h2, h1⟩
end Go.Am.Room
namespace Go.Am.Room
def courseOf (s : Ship) (h : Nat) (start : Int) (c : Bool) : List Int := (List.range (s.heat.length + 1)).map (marksAt s h start c)
def course (s : Ship) (h : Nat) (start : Int) (bl : List Int) : List Int := courseOf s h start (cooled bl h)
open Go
variable {P : Program}
structure Tys (P : Program) : Prop where
 int : P.underlying 3 = some (.int .i64)
 u8 : P.underlying 5 = some (.int .u8)
 ints : P.underlying 22 = some (.slice 3)
 holds : P.underlying 23 = some (.slice 76)
 lines : P.underlying 24 = some (.slice 49)
 ship : IsStruct P 26 [3, 3, 3, 22, 3, 23, 24]
 span : IsStruct P 31 [3, 3]
 line : IsStruct P 49 [3, 3, 3]
 u8s : P.underlying 52 = some (.slice 5)
 a2 : P.underlying 74 = some (.array 2 5)
 hold : IsStruct P 76 [31, 3, 31]
 a4 : P.underlying 78 = some (.array 4 5)
 lineB : P.bytesOf 49 = 24
theorem ty_hold {n : Nat} {cs : List AV} (T : Tys P) (h : Typ P (n + 3) 76 cs) : ∃ s : Hold, mkV P 76 cs = encHold s ∧ True := by
 obtain ⟨e, a, b, rfl, h1, c, d, rfl, h2, c2, d2, rfl, h3, rfl⟩ := typ_st T.hold h
 obtain ⟨x, rfl⟩ := tc_span T.int T.span h1
 obtain ⟨y, rfl, _⟩ := typ_int T.int h2
 obtain ⟨z, rfl⟩ := tc_span T.int T.span h3
 exact ⟨⟨x, y, z⟩, e, trivial⟩
theorem ty_line {n : Nat} {cs : List AV} (T : Tys P) (h : Typ P (n + 2) 49 cs) : ∃ s : Line, mkV P 49 cs = encLine s ∧ True := by
 obtain ⟨e, a, b, rfl, h1, c, d, rfl, h2, c2, d2, rfl, h3, rfl⟩ := typ_st T.line h
 obtain ⟨x, rfl, _⟩ := typ_int T.int h1
 obtain ⟨y, rfl, _⟩ := typ_int T.int h2
 obtain ⟨z, rfl, _⟩ := typ_int T.int h3
 exact ⟨⟨x, y, z⟩, e, trivial⟩
theorem ty_u8s {n : Nat} {cs : List AV} (T : Tys P) (h : Typ P (n + 2) 52 cs) : ∃ l : List Int, mkV P 52 cs = .lit (l.map (.int .u8)) false none ∧ (∀ x ∈ l, 0 ≤ x ∧ x < 256) ∧ l.length < 9223372036854775808 := tc_u8s T.u8 T.u8s h
theorem ty_shipB {n : Nat} {cs : List AV} (T : Tys P) (h : Typ P (n + 5) 26 cs) : ∃ s : Ship, mkV P 26 cs = encShip s ∧ Fits s ∧ s.log.length * 24 ≤ 140737488351232 := by
 obtain ⟨e, a1, b1, rfl, h1, a2, b2, rfl, h2, a3, b3, rfl, h3, a4, b4, rfl, h4, a5, b5, rfl, h5, a6, b6, rfl, h6, a7, b7, rfl, h7, rfl⟩ := typ_st T.ship h
 obtain ⟨x1, rfl, _⟩ := typ_int T.int h1
 obtain ⟨x2, rfl, _⟩ := typ_int T.int h2
 obtain ⟨x3, rfl, _⟩ := typ_int T.int h3
 obtain ⟨x4, _, rfl, l4⟩ := tc_ints T.int T.ints h4
 obtain ⟨x5, rfl, _⟩ := typ_int T.int h5
 obtain ⟨x6, rfl, ⟨l6, _⟩, _⟩ := typ_slice T.holds h6 fun y hy => ty_hold T hy
 obtain ⟨x7, rfl, ⟨l7, b7⟩, _⟩ := typ_slice T.lines h7 fun y hy => ty_line T hy
 exact ⟨⟨x1, x2, x3, x4, x5, x6, x7⟩, e, ⟨l4, l6, l7⟩, by rw [T.lineB] at b7; simpa [reachBytes] using b7⟩
theorem ty_ship {n : Nat} {cs : List AV} (T : Tys P) (h : Typ P (n + 5) 26 cs) : ∃ s : Ship, mkV P 26 cs = encShip s ∧ Fits s := by
 obtain ⟨r, h1, h2, _⟩ := ty_shipB T h
 exact ⟨r, h1, h2⟩
end Go.Am.Room
namespace Go.Am.Room
theorem firstBad_no {α : Type} {f : Nat → α → Int} : ∀ {l : List α} {i : Nat}, (∀ x ∈ l, ∀ k, f k x = 0) → firstBad f l i = none
 | [], _, _ => rfl
 | x :: xs, i, h => by
  simp only [firstBad]
  rw [if_pos (h x (by simp) i)]
  exact firstBad_no fun y hy => h y (by simp [hy])
theorem check_of_vd {s : Ship} (h : Vd s) : check s = (0, 0, 0) := by
 have h2 := h.nheat
 have h3 := h.nholds
 have h5 := h.nlog
 have g1 : firstBad heatErr s.heat 0 = none := firstBad_no fun n hn k => by simp [heatErr, isMarks, inR_iff.2 (h.heat n hn)]
 have g2 : firstBad (fun _ => holdErr) s.holds 0 = none := firstBad_no fun x hx k => (holdErr_iff x).2 (h.holds x hx)
 have g3 : firstBad (lineErr s) s.log 0 = none := firstBad_no fun x hx k => by
  have := h.log x hx
  have a : inR x.hold 0 ((s.holds.length : Int) - 1) = true := inR_iff.2 (by omega)
  simp [lineErr, a, isMarks, inR_iff.2 this.2.1, inR_iff.2 this.2.2]
 have a1 : isMarks s.cold = true := inR_iff.2 h.cold
 have a2 : inR s.heat.length 1 6 = true := inR_iff.2 (by omega)
 have a3 : inR s.frm 0 s.heat.length = true := inR_iff.2 h.frm
 have a4 : inR s.holds.length 1 4 = true := inR_iff.2 (by omega)
 have e5 : check5 s = (0, 0, 0) := by rw [check5, if_neg (by omega), g3]
 have e4 : check4 s = (0, 0, 0) := by rw [check4, if_neg (by simp [a4]), g2]; exact e5
 have e3 : check3 s = (0, 0, 0) := by rw [check3, if_neg (by simp [a3])]; exact e4
 have e2 : check2 s = (0, 0, 0) := by rw [check2, if_neg (by simp [a2]), g1]; exact e3
 rw [check, if_neg (by simp [a1, inR_iff.2 h.power, inR_iff.2 h.warm])]
 exact e2
end Go.Am.Room
set_option maxRecDepth 4000
namespace Go.Am.Room
def QXHHdC1 := And.intro @encShip_eq (And.intro @shipCells_eq (And.intro @encHold_eq (And.intro @encLine_eq (And.intro @encSpan_eq (And.intro @S_mapHold (@S_mapLine))))))
theorem rend_ok (s : Ship) : Pure T 63 [encShip s] (.int .i64 s.heat.length) := by
 refine pure_fn (af := a63) rfl (by simp [a63]) dd ?_
 (repeat (first | simp only [↓QA, QB, Nat.reduceLT, reduceIte, Nat.reduceEqDiff, Nat.reduceAdd, Nat.reduceLeDiff, Nat.reduceMul, Nat.reduceBEq, QXHHdC1, a63] | refine rd0 rfl ?_))
theorem rmarks_ok (n : Int) : Pure T 61 [.int .i64 n] (.bool (isMarks n)) := by
 refine pure_fn (af := a61) rfl (by simp [a61]) dd ?_
 (repeat (first | simp only [↓QA, QB, Nat.reduceLT, reduceIte, Nat.reduceEqDiff, Nat.reduceAdd, Nat.reduceLeDiff, Nat.reduceMul, Nat.reduceBEq, QXHHdC1, a61] | refine rd0 rfl ?_))
 ((first | refine callK_d (in_ok n 0 80) rfl dd ?_ | refine callD_d (in_ok n 0 80) rfl dd ?_); (repeat (first | simp only [↓QA, QB, Nat.reduceLT, reduceIte, Nat.reduceEqDiff, Nat.reduceAdd, Nat.reduceLeDiff, Nat.reduceMul, Nat.reduceBEq, QXHHdC1, isMarks] | refine rd0 rfl ?_)))
theorem rhold_ok (h : Hold) : Pure T 64 [encHold h] (.int .i64 (holdErr h)) := by
 refine pure_fn (af := a64) rfl (by simp [a64]) dd ?_
 (repeat (first | simp only [↓QA, QB, Nat.reduceLT, reduceIte, Nat.reduceEqDiff, Nat.reduceAdd, Nat.reduceLeDiff, Nat.reduceMul, Nat.reduceBEq, QXHHdC1, a64] | refine rd0 rfl ?_))
 ((first | refine callK_d (ends_ok h.start 0 80) rfl dd ?_ | refine callD_d (ends_ok h.start 0 80) rfl dd ?_); (repeat (first | simp only [↓QA, QB, Nat.reduceLT, reduceIte, Nat.reduceEqDiff, Nat.reduceAdd, Nat.reduceLeDiff, Nat.reduceMul, Nat.reduceBEq, QXHHdC1] | refine rd0 rfl ?_)))
 ((first | refine callK_d (ends_ok h.keep 0 80) rfl dd ?_ | refine callD_d (ends_ok h.keep 0 80) rfl dd ?_); (repeat (first | simp only [↓QA, QB, Nat.reduceLT, reduceIte, Nat.reduceEqDiff, Nat.reduceAdd, Nat.reduceLeDiff, Nat.reduceMul, Nat.reduceBEq, QXHHdC1] | refine rd0 rfl ?_)))
 cases h1 : (ends h.start 0 80 == 7)
 ·have h1' : ends h.start 0 80 ≠ 7 := by simpa using h1
  (repeat (first | simp only [↓QA, QB, Nat.reduceLT, reduceIte, Nat.reduceEqDiff, Nat.reduceAdd, Nat.reduceLeDiff, Nat.reduceMul, Nat.reduceBEq, QXHHdC1, h1] | refine rd0 rfl ?_))
  cases h2 : (ends h.keep 0 80 == 7)
  ·have h2' : ends h.keep 0 80 ≠ 7 := by simpa using h2
   (repeat (first | simp only [↓QA, QB, Nat.reduceLT, reduceIte, Nat.reduceEqDiff, Nat.reduceAdd, Nat.reduceLeDiff, Nat.reduceMul, Nat.reduceBEq, QXHHdC1, h2] | refine rd0 rfl ?_))
   ((first | refine callK_d (in_ok h.duct 0 2) rfl dd ?_ | refine callD_d (in_ok h.duct 0 2) rfl dd ?_); (repeat (first | simp only [↓QA, QB, Nat.reduceLT, reduceIte, Nat.reduceEqDiff, Nat.reduceAdd, Nat.reduceLeDiff, Nat.reduceMul, Nat.reduceBEq, QXHHdC1] | refine rd0 rfl ?_)))
   cases h3 : inR h.duct 0 2
   ·(repeat (first | simp only [↓QA, QB, Nat.reduceLT, reduceIte, Nat.reduceEqDiff, Nat.reduceAdd, Nat.reduceLeDiff, Nat.reduceMul, Nat.reduceBEq, QXHHdC1] | refine rd0 rfl ?_))
    simp [holdErr, h3]
   ·(repeat (first | simp only [↓QA, QB, Nat.reduceLT, reduceIte, Nat.reduceEqDiff, Nat.reduceAdd, Nat.reduceLeDiff, Nat.reduceMul, Nat.reduceBEq, QXHHdC1] | refine rd0 rfl ?_))
    cases h4 : (ends h.start 0 80 == 0)
    ·have h4' : ends h.start 0 80 ≠ 0 := by simpa using h4
     (repeat (first | simp only [↓QA, QB, Nat.reduceLT, reduceIte, Nat.reduceEqDiff, Nat.reduceAdd, Nat.reduceLeDiff, Nat.reduceMul, Nat.reduceBEq, QXHHdC1, h4] | refine rd0 rfl ?_))
     simp [holdErr, h1', h2', h3, h4']
    ·have h4' : ends h.start 0 80 = 0 := by simpa using h4
     (repeat (first | simp only [↓QA, QB, Nat.reduceLT, reduceIte, Nat.reduceEqDiff, Nat.reduceAdd, Nat.reduceLeDiff, Nat.reduceMul, Nat.reduceBEq, QXHHdC1, h4] | refine rd0 rfl ?_))
     simp [holdErr, h2', h3, h4']
  ·have h2' : ends h.keep 0 80 = 7 := by simpa using h2
   (repeat (first | simp only [↓QA, QB, Nat.reduceLT, reduceIte, Nat.reduceEqDiff, Nat.reduceAdd, Nat.reduceLeDiff, Nat.reduceMul, Nat.reduceBEq, QXHHdC1, h2] | refine rd0 rfl ?_))
   simp [holdErr, h2']
 ·have h1' : ends h.start 0 80 = 7 := by simpa using h1
  (repeat (first | simp only [↓QA, QB, Nat.reduceLT, reduceIte, Nat.reduceEqDiff, Nat.reduceAdd, Nat.reduceLeDiff, Nat.reduceMul, Nat.reduceBEq, QXHHdC1, h1] | refine rd0 rfl ?_))
  simp [holdErr, h1']
theorem refcheck_ok (s : Ship) (h : Fits s) : Pure T 17 [encShip s] (enc3 (check s)) := by
 refine pure_fn (af := a17) rfl (by simp [a17]) dd ?_
 have hfh := h.heat
 have hfo := h.holds
 have hfl := h.log
 (repeat (first | simp only [↓QA, QB, Nat.reduceLT, reduceIte, Nat.reduceEqDiff, Nat.reduceAdd, Nat.reduceLeDiff, Nat.reduceMul, Nat.reduceBEq, QXHHdC1, a17] | refine rd0 rfl ?_))
 ((first | refine callK_d (rmarks_ok s.cold) rfl dd ?_ | refine callD_d (rmarks_ok s.cold) rfl dd ?_); (repeat (first | simp only [↓QA, QB, Nat.reduceLT, reduceIte, Nat.reduceEqDiff, Nat.reduceAdd, Nat.reduceLeDiff, Nat.reduceMul, Nat.reduceBEq, QXHHdC1] | refine rd0 rfl ?_)))
 cases h1 : isMarks s.cold
 ·(repeat (first | simp only [↓QA, QB, Nat.reduceLT, reduceIte, Nat.reduceEqDiff, Nat.reduceAdd, Nat.reduceLeDiff, Nat.reduceMul, Nat.reduceBEq, QXHHdC1] | refine rd0 rfl ?_))
  simp [check, h1, enc3]
 ·(repeat (first | simp only [↓QA, QB, Nat.reduceLT, reduceIte, Nat.reduceEqDiff, Nat.reduceAdd, Nat.reduceLeDiff, Nat.reduceMul, Nat.reduceBEq, QXHHdC1] | refine rd0 rfl ?_))
  ((first | refine callK_d (in_ok s.power 1 9) rfl dd ?_ | refine callD_d (in_ok s.power 1 9) rfl dd ?_); (repeat (first | simp only [↓QA, QB, Nat.reduceLT, reduceIte, Nat.reduceEqDiff, Nat.reduceAdd, Nat.reduceLeDiff, Nat.reduceMul, Nat.reduceBEq, QXHHdC1] | refine rd0 rfl ?_)))
  cases h2 : inR s.power 1 9
  ·(repeat (first | simp only [↓QA, QB, Nat.reduceLT, reduceIte, Nat.reduceEqDiff, Nat.reduceAdd, Nat.reduceLeDiff, Nat.reduceMul, Nat.reduceBEq, QXHHdC1] | refine rd0 rfl ?_))
   simp [check, h2, enc3]
  ·(repeat (first | simp only [↓QA, QB, Nat.reduceLT, reduceIte, Nat.reduceEqDiff, Nat.reduceAdd, Nat.reduceLeDiff, Nat.reduceMul, Nat.reduceBEq, QXHHdC1] | refine rd0 rfl ?_))
   ((first | refine callK_d (in_ok s.warm 0 5) rfl dd ?_ | refine callD_d (in_ok s.warm 0 5) rfl dd ?_); (repeat (first | simp only [↓QA, QB, Nat.reduceLT, reduceIte, Nat.reduceEqDiff, Nat.reduceAdd, Nat.reduceLeDiff, Nat.reduceMul, Nat.reduceBEq, QXHHdC1] | refine rd0 rfl ?_)))
   cases h3 : inR s.warm 0 5
   ·(repeat (first | simp only [↓QA, QB, Nat.reduceLT, reduceIte, Nat.reduceEqDiff, Nat.reduceAdd, Nat.reduceLeDiff, Nat.reduceMul, Nat.reduceBEq, QXHHdC1] | refine rd0 rfl ?_))
    simp [check, h3, enc3]
   ·have hc : check s = check2 s := by simp [check, h1, h2, h3]
    rw [hc]
    (repeat (first | simp only [↓QA, QB, Nat.reduceLT, reduceIte, Nat.reduceEqDiff, Nat.reduceAdd, Nat.reduceLeDiff, Nat.reduceMul, Nat.reduceBEq, QXHHdC1] | refine rd0 rfl ?_))
    ((first | refine callK_d (in_ok s.heat.length 1 6) rfl dd ?_ | refine callD_d (in_ok s.heat.length 1 6) rfl dd ?_); (repeat (first | simp only [↓QA, QB, Nat.reduceLT, reduceIte, Nat.reduceEqDiff, Nat.reduceAdd, Nat.reduceLeDiff, Nat.reduceMul, Nat.reduceBEq, QXHHdC1] | refine rd0 rfl ?_)))
    cases h5 : inR s.heat.length 1 6
    ·(repeat (first | simp only [↓QA, QB, Nat.reduceLT, reduceIte, Nat.reduceEqDiff, Nat.reduceAdd, Nat.reduceLeDiff, Nat.reduceMul, Nat.reduceBEq, QXHHdC1] | refine rd0 rfl ?_))
     simp [check2, h5, enc3]
    ·have hc : check2 s = match firstBad heatErr s.heat 0 with | some (i, e) => (2, (i : Int), e) | none => check3 s := by simp only [check2, h5, Bool.true_eq_false, if_false]; rfl
     rw [hc]
     (repeat (first | simp only [↓QA, QB, Nat.reduceLT, reduceIte, Nat.reduceEqDiff, Nat.reduceAdd, Nat.reduceLeDiff, Nat.reduceMul, Nat.reduceBEq, QXHHdC1] | refine rd0 rfl ?_))
     refine loopE (S := Nat) 0 (fun k => k ≤ s.heat.length ∧ firstBad heatErr (s.heat.drop k) k = firstBad heatErr s.heat 0) (fun k => s.heat.length - k)
      (fun k => [(1, .ptr 0 0), (5, .int .i64 k)]) (fun _ => [.cells (shipCells s)]) ⟨Nat.zero_le _, by simp⟩ (by simp [shipCells, ints]) ?_ fun k hk => ?_
     ·try simp only [TrimX, QE, Nat.reduceLT, reduceIte, Nat.reduceEqDiff, Nat.reduceAdd, Nat.reduceLeDiff, Nat.reduceMul, Nat.reduceBEq, QXHHdC1]
      try simp
     ·obtain ⟨hk, hb⟩ := hk
      (repeat (first | simp only [↓QA, QB, Nat.reduceLT, reduceIte, Nat.reduceEqDiff, Nat.reduceAdd, Nat.reduceLeDiff, Nat.reduceMul, Nat.reduceBEq, QXHHdC1, L17_0] | refine rd0 rfl ?_))
      refine iteP_intro (fun hd => ?_) fun hd => ?_
      ·have hk1 : k < s.heat.length := by simpa using hd
       rw [firstBad_step hk1] at hb
       have hw := wrapN hk1 hfh
       (repeat (first | simp only [↓QA, QB, Nat.reduceLT, reduceIte, Nat.reduceEqDiff, Nat.reduceAdd, Nat.reduceLeDiff, Nat.reduceMul, Nat.reduceBEq, QXHHdC1, hk1] | refine rd0 rfl ?_))
       ((first | refine callK_d (rmarks_ok s.heat[k]) rfl dd ?_ | refine callD_d (rmarks_ok s.heat[k]) rfl dd ?_); (repeat (first | simp only [↓QA, QB, Nat.reduceLT, reduceIte, Nat.reduceEqDiff, Nat.reduceAdd, Nat.reduceLeDiff, Nat.reduceMul, Nat.reduceBEq, QXHHdC1, hk1] | refine rd0 rfl ?_)))
       have hre : heatErr k s.heat[k] = if isMarks s.heat[k] then 0 else 7 := rfl
       rw [hre] at hb
       cases hi : isMarks s.heat[k]
       ·(repeat (first | simp only [↓QA, QB, Nat.reduceLT, reduceIte, Nat.reduceEqDiff, Nat.reduceAdd, Nat.reduceLeDiff, Nat.reduceMul, Nat.reduceBEq, QXHHdC1, hk1] | refine rd0 rfl ?_))
        rw [← hb, hi]
        rfl
       ·(repeat (first | simp only [↓QA, QB, Nat.reduceLT, reduceIte, Nat.reduceEqDiff, Nat.reduceAdd, Nat.reduceLeDiff, Nat.reduceMul, Nat.reduceBEq, QXHHdC1, hk1, hw] | refine rd0 rfl ?_))
        refine ⟨k + 1, ⟨by omega, by rw [← hb, hi]; rfl⟩, by omega, ?_⟩
        try simp only [TrimX, QE, Nat.reduceLT, reduceIte, Nat.reduceEqDiff, Nat.reduceAdd, Nat.reduceLeDiff, Nat.reduceMul, Nat.reduceBEq, QXHHdC1, hw]
        try simp
      ·have hk1 : k = s.heat.length := by simp at hd; omega
       rw [firstBad_end hk1] at hb
       rw [← hb]
       (repeat (first | simp only [↓QA, QB, Nat.reduceLT, reduceIte, Nat.reduceEqDiff, Nat.reduceAdd, Nat.reduceLeDiff, Nat.reduceMul, Nat.reduceBEq, QXHHdC1] | refine rd0 rfl ?_))
       ((first | refine callK_d (rend_ok s) rfl dd ?_ | refine callD_d (rend_ok s) rfl dd ?_); (repeat (first | simp only [↓QA, QB, Nat.reduceLT, reduceIte, Nat.reduceEqDiff, Nat.reduceAdd, Nat.reduceLeDiff, Nat.reduceMul, Nat.reduceBEq, QXHHdC1] | refine rd0 rfl ?_)))
       ((first | refine callK_d (in_ok s.frm 0 s.heat.length) rfl dd ?_ | refine callD_d (in_ok s.frm 0 s.heat.length) rfl dd ?_); (repeat (first | simp only [↓QA, QB, Nat.reduceLT, reduceIte, Nat.reduceEqDiff, Nat.reduceAdd, Nat.reduceLeDiff, Nat.reduceMul, Nat.reduceBEq, QXHHdC1] | refine rd0 rfl ?_)))
       cases h6 : inR s.frm 0 s.heat.length
       ·(repeat (first | simp only [↓QA, QB, Nat.reduceLT, reduceIte, Nat.reduceEqDiff, Nat.reduceAdd, Nat.reduceLeDiff, Nat.reduceMul, Nat.reduceBEq, QXHHdC1] | refine rd0 rfl ?_))
        simp [check3, h6, enc3]
       ·have hc : check3 s = check4 s := by simp [check3, h6]
        rw [hc]
        (repeat (first | simp only [↓QA, QB, Nat.reduceLT, reduceIte, Nat.reduceEqDiff, Nat.reduceAdd, Nat.reduceLeDiff, Nat.reduceMul, Nat.reduceBEq, QXHHdC1] | refine rd0 rfl ?_))
        ((first | refine callK_d (in_ok s.holds.length 1 4) rfl dd ?_ | refine callD_d (in_ok s.holds.length 1 4) rfl dd ?_); (repeat (first | simp only [↓QA, QB, Nat.reduceLT, reduceIte, Nat.reduceEqDiff, Nat.reduceAdd, Nat.reduceLeDiff, Nat.reduceMul, Nat.reduceBEq, QXHHdC1] | refine rd0 rfl ?_)))
        cases h7 : inR s.holds.length 1 4
        ·(repeat (first | simp only [↓QA, QB, Nat.reduceLT, reduceIte, Nat.reduceEqDiff, Nat.reduceAdd, Nat.reduceLeDiff, Nat.reduceMul, Nat.reduceBEq, QXHHdC1] | refine rd0 rfl ?_))
         simp [check4, h7, enc3]
        ·have hc : check4 s = match firstBad (fun _ => holdErr) s.holds 0 with | some (i, e) => (4, (i : Int), e) | none => check5 s := by simp only [check4, h7, Bool.true_eq_false, if_false]; rfl
         rw [hc]
         (repeat (first | simp only [↓QA, QB, Nat.reduceLT, reduceIte, Nat.reduceEqDiff, Nat.reduceAdd, Nat.reduceLeDiff, Nat.reduceMul, Nat.reduceBEq, QXHHdC1] | refine rd0 rfl ?_))
         refine loopE (S := Nat) 0 (fun k => k ≤ s.holds.length ∧ firstBad (fun _ => holdErr) (s.holds.drop k) k = firstBad (fun _ => holdErr) s.holds 0) (fun k => s.holds.length - k)
          (fun k => [(1, .ptr 0 0), (6, .int .i64 k)]) (fun _ => [.cells (shipCells s)]) ⟨Nat.zero_le _, by simp⟩ (by simp [shipCells, ints]) ?_ fun j hj => ?_
         ·try simp only [TrimX, QE, Nat.reduceLT, reduceIte, Nat.reduceEqDiff, Nat.reduceAdd, Nat.reduceLeDiff, Nat.reduceMul, Nat.reduceBEq, QXHHdC1]
          try simp
         ·obtain ⟨hj, hbj⟩ := hj
          (repeat (first | simp only [↓QA, QB, Nat.reduceLT, reduceIte, Nat.reduceEqDiff, Nat.reduceAdd, Nat.reduceLeDiff, Nat.reduceMul, Nat.reduceBEq, QXHHdC1, L17_2] | refine rd0 rfl ?_))
          refine iteP_intro (fun hd2 => ?_) fun hd2 => ?_
          ·have hj1 : j < s.holds.length := by simpa using hd2
           rw [firstBad_step hj1] at hbj
           have hw2 := wrapN hj1 hfo
           have hho := rhold_ok s.holds[j]
           rw [encHold_eq] at hho
           (repeat (first | simp only [↓QA, QB, Nat.reduceLT, reduceIte, Nat.reduceEqDiff, Nat.reduceAdd, Nat.reduceLeDiff, Nat.reduceMul, Nat.reduceBEq, QXHHdC1, hj1] | refine rd0 rfl ?_))
           ((first | refine callK_d (hho) rfl dd ?_ | refine callD_d (hho) rfl dd ?_); (repeat (first | simp only [↓QA, QB, Nat.reduceLT, reduceIte, Nat.reduceEqDiff, Nat.reduceAdd, Nat.reduceLeDiff, Nat.reduceMul, Nat.reduceBEq, QXHHdC1, hj1] | refine rd0 rfl ?_)))
           cases hi : (holdErr s.holds[j] == 0)
           ·have hi' : holdErr s.holds[j] ≠ 0 := by simpa using hi
            rw [if_neg hi'] at hbj
            rw [← hbj]
            (repeat (first | simp only [↓QA, QB, Nat.reduceLT, reduceIte, Nat.reduceEqDiff, Nat.reduceAdd, Nat.reduceLeDiff, Nat.reduceMul, Nat.reduceBEq, QXHHdC1, hi, hj1] | refine rd0 rfl ?_))
            rfl
           ·have hi' : holdErr s.holds[j] = 0 := by simpa using hi
            rw [if_pos hi'] at hbj
            (repeat (first | simp only [↓QA, QB, Nat.reduceLT, reduceIte, Nat.reduceEqDiff, Nat.reduceAdd, Nat.reduceLeDiff, Nat.reduceMul, Nat.reduceBEq, QXHHdC1, hi, hj1, hw2] | refine rd0 rfl ?_))
            refine ⟨j + 1, ⟨by omega, hbj⟩, by omega, ?_⟩
            try simp only [TrimX, QE, Nat.reduceLT, reduceIte, Nat.reduceEqDiff, Nat.reduceAdd, Nat.reduceLeDiff, Nat.reduceMul, Nat.reduceBEq, QXHHdC1, hw2]
            try simp
          ·have hj1 : j = s.holds.length := by simp at hd2; omega
           rw [firstBad_end hj1] at hbj
           rw [← hbj]
           (repeat (first | simp only [↓QA, QB, Nat.reduceLT, reduceIte, Nat.reduceEqDiff, Nat.reduceAdd, Nat.reduceLeDiff, Nat.reduceMul, Nat.reduceBEq, QXHHdC1] | refine rd0 rfl ?_))
           cases h8 : decide (5 < (s.log.length : Int))
           ·have h8' : ¬ 5 < s.log.length := by simp at h8; omega
            have hc : check5 s = match firstBad (lineErr s) s.log 0 with | some (i, e) => (5, (i : Int), e) | none => (0, 0, 0) := by simp only [check5, h8', if_false]; rfl
            rw [hc]
            (repeat (first | simp only [↓QA, QB, Nat.reduceLT, reduceIte, Nat.reduceEqDiff, Nat.reduceAdd, Nat.reduceLeDiff, Nat.reduceMul, Nat.reduceBEq, QXHHdC1] | refine rd0 rfl ?_))
            refine loopE (S := Nat) 0 (fun k => k ≤ s.log.length ∧ firstBad (lineErr s) (s.log.drop k) k = firstBad (lineErr s) s.log 0) (fun k => s.log.length - k)
             (fun k => [(1, .ptr 0 0), (8, .int .i64 k)]) (fun _ => [.cells (shipCells s)]) ⟨Nat.zero_le _, by simp⟩ (by simp [shipCells, ints]) ?_ fun i hi => ?_
            ·try simp only [TrimX, QE, Nat.reduceLT, reduceIte, Nat.reduceEqDiff, Nat.reduceAdd, Nat.reduceLeDiff, Nat.reduceMul, Nat.reduceBEq, QXHHdC1]
             try simp
            ·obtain ⟨hi, hbi⟩ := hi
             (repeat (first | simp only [↓QA, QB, Nat.reduceLT, reduceIte, Nat.reduceEqDiff, Nat.reduceAdd, Nat.reduceLeDiff, Nat.reduceMul, Nat.reduceBEq, QXHHdC1, L17_4] | refine rd0 rfl ?_))
             refine iteP_intro (fun hd3 => ?_) fun hd3 => ?_
             ·have hi1 : i < s.log.length := by simpa using hd3
              rw [firstBad_step hi1] at hbi
              have hw3 := wrapN hi1 hfl
              have hws : IntKind.i64.wrap ((s.holds.length : Int) - 1) = (s.holds.length : Int) - 1 := wrap64 ⟨by omega, by omega⟩
              have hle : lineErr s i s.log[i] = if inR s.log[i].hold 0 ((s.holds.length : Int) - 1) = false then 4 else if inR s.log[i].watch 0 s.heat.length && isMarks s.log[i].marks then 0 else 7 := rfl
              rw [hle] at hbi
              (repeat (first | simp only [↓QA, QB, Nat.reduceLT, reduceIte, Nat.reduceEqDiff, Nat.reduceAdd, Nat.reduceLeDiff, Nat.reduceMul, Nat.reduceBEq, QXHHdC1, hi1, hws] | refine rd0 rfl ?_))
              ((first | refine callK_d (in_ok s.log[i].hold 0 ((s.holds.length : Int) - 1)) rfl dd ?_ | refine callD_d (in_ok s.log[i].hold 0 ((s.holds.length : Int) - 1)) rfl dd ?_); (repeat (first | simp only [↓QA, QB, Nat.reduceLT, reduceIte, Nat.reduceEqDiff, Nat.reduceAdd, Nat.reduceLeDiff, Nat.reduceMul, Nat.reduceBEq, QXHHdC1, hi1] | refine rd0 rfl ?_)))
              cases ha : inR s.log[i].hold 0 ((s.holds.length : Int) - 1)
              ·(repeat (first | simp only [↓QA, QB, Nat.reduceLT, reduceIte, Nat.reduceEqDiff, Nat.reduceAdd, Nat.reduceLeDiff, Nat.reduceMul, Nat.reduceBEq, QXHHdC1, hi1] | refine rd0 rfl ?_))
               rw [← hbi, ha]
               rfl
              ·(repeat (first | simp only [↓QA, QB, Nat.reduceLT, reduceIte, Nat.reduceEqDiff, Nat.reduceAdd, Nat.reduceLeDiff, Nat.reduceMul, Nat.reduceBEq, QXHHdC1, hi1] | refine rd0 rfl ?_))
               ((first | refine callK_d (rend_ok s) rfl dd ?_ | refine callD_d (rend_ok s) rfl dd ?_); (repeat (first | simp only [↓QA, QB, Nat.reduceLT, reduceIte, Nat.reduceEqDiff, Nat.reduceAdd, Nat.reduceLeDiff, Nat.reduceMul, Nat.reduceBEq, QXHHdC1, hi1] | refine rd0 rfl ?_)))
               ((first | refine callK_d (in_ok s.log[i].watch 0 s.heat.length) rfl dd ?_ | refine callD_d (in_ok s.log[i].watch 0 s.heat.length) rfl dd ?_); (repeat (first | simp only [↓QA, QB, Nat.reduceLT, reduceIte, Nat.reduceEqDiff, Nat.reduceAdd, Nat.reduceLeDiff, Nat.reduceMul, Nat.reduceBEq, QXHHdC1, hi1] | refine rd0 rfl ?_)))
               cases hb2 : inR s.log[i].watch 0 s.heat.length
               ·(repeat (first | simp only [↓QA, QB, Nat.reduceLT, reduceIte, Nat.reduceEqDiff, Nat.reduceAdd, Nat.reduceLeDiff, Nat.reduceMul, Nat.reduceBEq, QXHHdC1, hi1] | refine rd0 rfl ?_))
                rw [← hbi, ha, hb2]
                rfl
               ·(repeat (first | simp only [↓QA, QB, Nat.reduceLT, reduceIte, Nat.reduceEqDiff, Nat.reduceAdd, Nat.reduceLeDiff, Nat.reduceMul, Nat.reduceBEq, QXHHdC1, hi1] | refine rd0 rfl ?_))
                ((first | refine callK_d (rmarks_ok s.log[i].marks) rfl dd ?_ | refine callD_d (rmarks_ok s.log[i].marks) rfl dd ?_); (repeat (first | simp only [↓QA, QB, Nat.reduceLT, reduceIte, Nat.reduceEqDiff, Nat.reduceAdd, Nat.reduceLeDiff, Nat.reduceMul, Nat.reduceBEq, QXHHdC1, hi1] | refine rd0 rfl ?_)))
                cases hcm : isMarks s.log[i].marks
                ·(repeat (first | simp only [↓QA, QB, Nat.reduceLT, reduceIte, Nat.reduceEqDiff, Nat.reduceAdd, Nat.reduceLeDiff, Nat.reduceMul, Nat.reduceBEq, QXHHdC1, hi1] | refine rd0 rfl ?_))
                 rw [← hbi, ha, hb2, hcm]
                 rfl
                ·(repeat (first | simp only [↓QA, QB, Nat.reduceLT, reduceIte, Nat.reduceEqDiff, Nat.reduceAdd, Nat.reduceLeDiff, Nat.reduceMul, Nat.reduceBEq, QXHHdC1, hi1, hw3] | refine rd0 rfl ?_))
                 refine ⟨i + 1, ⟨by omega, by rw [← hbi, ha, hb2, hcm]; rfl⟩, by omega, ?_⟩
                 try simp only [TrimX, QE, Nat.reduceLT, reduceIte, Nat.reduceEqDiff, Nat.reduceAdd, Nat.reduceLeDiff, Nat.reduceMul, Nat.reduceBEq, QXHHdC1, hw3]
                 try simp
             ·have hi1 : i = s.log.length := by simp at hd3; omega
              rw [firstBad_end hi1] at hbi
              rw [← hbi]
              (repeat (first | simp only [↓QA, QB, Nat.reduceLT, reduceIte, Nat.reduceEqDiff, Nat.reduceAdd, Nat.reduceLeDiff, Nat.reduceMul, Nat.reduceBEq, QXHHdC1, enc3] | refine rd0 rfl ?_))
           ·have h8' : 5 < s.log.length := by simp at h8; omega
            (repeat (first | simp only [↓QA, QB, Nat.reduceLT, reduceIte, Nat.reduceEqDiff, Nat.reduceAdd, Nat.reduceLeDiff, Nat.reduceMul, Nat.reduceBEq, QXHHdC1] | refine rd0 rfl ?_))
            simp [check5, h8', enc3]
def app0 (sz : Nat) (σ : St) (xs : List AV) : AV × St := if xs.length = 0 then (.lit [] true none, σ) else (.lit xs false (some σ.length), σ ++ [.tok sz xs.length true])
theorem app0_eq {sz b : Nat} {σ : St} {xs : List AV} {f : Bool} {tk : Option Nat} (h : AppOk sz b [] xs) : appendAV sz b σ (.lit [] true none) (.lit xs f tk) = some ((app0 sz σ xs).1, (app0 sz σ xs).2) := by
 by_cases h0 : xs.length = 0
 ·have : xs = [] := List.length_eq_zero_iff.1 h0
  subst this
  rw [app_nil]; simp [app0]
 ·rw [app_full h h0]; simp [app0, h0]
theorem app0_more {sz b : Nat} {σ : St} {xs ys : List AV} {f : Bool} {tk : Option Nat} (h : AppOk sz b xs ys) (hy : ys.length ≠ 0) : appendAV sz b (app0 sz σ xs).2 (app0 sz σ xs).1 (.lit ys f tk) = some (.lit (xs ++ ys) false (some σ.length), σ ++ [.tok sz (xs.length + ys.length) true]) := by
 by_cases h0 : xs.length = 0
 ·have : xs = [] := List.length_eq_zero_iff.1 h0
  subst this
  simp only [app0, List.length_nil, if_true]
  rw [app_full h hy]
  simp
 ·simp only [app0, h0, if_false]
  rw [app_tok (ex := true) h hy (by simp)]
  simp
theorem allCells_lit {xs l : List AV} {f : Bool} {t : Option Nat} (h : allCells 1 xs = true) : allCells 1 (xs ++ [.lit l f t]) = true := by
 unfold allCells at *
 rw [List.all_append, h]
 rfl
theorem mem_courses {s : Ship} {but clear : List Int} {h : Nat} (hh : h < s.holds.length) {c : Nat → Int} : c ∈ coursesIn s (truths s but) h clear ↔ ∃ t ∈ truths s but, ∃ n ∈ startsOf s h t.blocked but, c = marksAt s h n (cooled (restOf t.blocked clear) h) := by
 simp only [coursesIn, List.mem_flatMap, List.mem_map]
 constructor
 ·rintro ⟨t, ht, n, hn, rfl⟩
  rw [starts_at ht hh] at hn
  exact ⟨t, ht, n, hn, rfl⟩
 ·rintro ⟨t, ht, n, hn, rfl⟩
  exact ⟨t, ht, n, by rw [starts_at ht hh]; exact hn, rfl⟩
theorem foldl_join : ∀ (l : List Int) (s : Span), s.lo ≤ s.hi → (l.foldl join s).lo ≤ s.lo ∧ s.hi ≤ (l.foldl join s).hi ∧ (∀ x ∈ l, (l.foldl join s).lo ≤ x ∧ x ≤ (l.foldl join s).hi) ∧ ((l.foldl join s).lo = s.lo ∨ (l.foldl join s).lo ∈ l) ∧ ((l.foldl join s).hi = s.hi ∨ (l.foldl join s).hi ∈ l)
 | [], s, h => ⟨Int.le_refl _, Int.le_refl _, fun x hx => by simp at hx, .inl rfl, .inl rfl⟩
 | y :: l, s, h => by
  have hj : (join s y).lo ≤ (join s y).hi := by simp only [join]; omega
  obtain ⟨a, b, c, d, e⟩ := foldl_join l (join s y) hj
  simp only [List.foldl_cons]
  have h1 : (join s y).lo ≤ s.lo ∧ (join s y).lo ≤ y ∧ ((join s y).lo = s.lo ∨ (join s y).lo = y) := by simp only [join]; omega
  have h2 : s.hi ≤ (join s y).hi ∧ y ≤ (join s y).hi ∧ ((join s y).hi = s.hi ∨ (join s y).hi = y) := by simp only [join]; omega
  refine ⟨by omega, by omega, fun x hx => ?_, ?_, ?_⟩
  ·rcases List.mem_cons.1 hx with rfl | hx
   ·omega
   ·exact c x hx
  ·rcases d with d | d
   ·rcases h1.2.2 with h | h
    ·left; omega
    ·right; rw [d, h]; simp
   ·right; simp [d]
  ·rcases e with e | e
   ·rcases h2.2.2 with h | h
    ·left; omega
    ·right; rw [e, h]; simp
   ·right; simp [e]
theorem spanL_spec {l : List Int} (h : l ≠ []) : (spanL l).lo ∈ l ∧ (spanL l).hi ∈ l ∧ ∀ x ∈ l, (spanL l).lo ≤ x ∧ x ≤ (spanL l).hi := by
 cases l with
 | nil => exact absurd rfl h
 | cons x l =>
  obtain ⟨a, b, c, d, e⟩ := foldl_join l ⟨x, x⟩ (Int.le_refl _)
  simp only [spanL]
  refine ⟨?_, ?_, fun y hy => ?_⟩
  ·rcases d with d | d
   ·rw [d]; simp
   ·simp [d]
  ·rcases e with e | e
   ·rw [e]; simp
   ·simp [e]
  ·rcases List.mem_cons.1 hy with rfl | hy
   ·exact ⟨a, b⟩
   ·exact c y hy
theorem filter_len {α : Type} {p : α → Bool} {l : List α} : (l.filter p).length = l.length ↔ ∀ x ∈ l, p x = true := by
 rw [List.length_filter_eq_length_iff]
theorem settled_one {α : Type} {p : α → Bool} {l : List α} : settled (l.filter p).length l.length = 1 ↔ ∀ x ∈ l, p x = true := by
 rw [← filter_len]
 unfold settled
 split
 ·rename_i h; simp [h]
 ·rename_i h
  split
  ·simp [h]
  ·simp [h]
theorem settled_two {α : Type} {p : α → Bool} {l : List α} : settled (l.filter p).length l.length = 2 ↔ l ≠ [] ∧ ∀ x ∈ l, p x = false := by
 unfold settled
 split
 ·rename_i h
  simp only [show ¬ (1 : Int) = 2 by omega, false_iff]
  rintro ⟨h1, h2⟩
  rw [filter_len] at h
  cases l with
  | nil => exact h1 rfl
  | cons x l =>
   have a := h x (by simp)
   have b := h2 x (by simp)
   rw [a] at b; cases b
 ·rename_i h
  split
  ·rename_i h0
   simp only [true_iff]
   refine ⟨fun e => ?_, fun x hx => ?_⟩
   ·subst e; simp at h
   ·have := List.eq_nil_of_length_eq_zero h0
    rw [List.filter_eq_nil_iff] at this
    simpa using this x hx
  ·rename_i h0
   simp only [show ¬ (0 : Int) = 2 by omega, false_iff]
   rintro ⟨h1, h2⟩
   apply h0
   rw [List.length_eq_zero_iff, List.filter_eq_nil_iff]
   intro x hx
   simp [h2 x hx]
end Go.Am.Room
set_option maxRecDepth 4000
namespace Go.Am.Room
def QXHHdC2 := And.intro @encShip_eq (And.intro @shipCells_eq (And.intro @encHold_eq (And.intro @encLine_eq (And.intro @encSpan_eq (And.intro @S_mapHold (@S_mapLine))))))
theorem rtowards_ok (a b n : Int) (h0 : -1000000 ≤ a ∧ a ≤ 1000000) (h1 : -1000000 ≤ n ∧ n ≤ 1000000) : Pure T 53 [.int .i64 a, .int .i64 b, .int .i64 n] (.int .i64 (towards a b n)) := by
 refine pure_fn (af := a53) rfl (by simp [a53]) dd ?_
 have w1 : IntKind.i64.wrap (a + n) = a + n := wrap64 ⟨by omega, by omega⟩
 have w2 : IntKind.i64.wrap (a - n) = a - n := wrap64 ⟨by omega, by omega⟩
 (repeat (first | simp only [↓QA, QB, Nat.reduceLT, reduceIte, Nat.reduceEqDiff, Nat.reduceAdd, Nat.reduceLeDiff, Nat.reduceMul, Nat.reduceBEq, QXHHdC2, a53, w1, w2] | refine rd0 rfl ?_))
 refine iteP_intro (fun h => ?_) fun h => ?_
 all_goals
  have h' := h
  simp only [decide_eq_true_eq, decide_eq_false_iff_not] at h'
  (repeat (first | simp only [↓QA, QB, Nat.reduceLT, reduceIte, Nat.reduceEqDiff, Nat.reduceAdd, Nat.reduceLeDiff, Nat.reduceMul, Nat.reduceBEq, QXHHdC2, h, w1, w2] | refine rd0 rfl ?_))
  simp [towards, h']
def cooledTo (bl : List Int) (k : Nat) : Bool := (List.range k).all fun i => !bl.contains (i : Int)
theorem cooledTo_succ (bl : List Int) (k : Nat) : cooledTo bl (k + 1) = (cooledTo bl k && !bl.contains (k : Int)) := by simp [cooledTo, List.range_succ, List.all_append]
theorem rcooled_ok (bl : List Int) (h : Nat) (hb : bl.length < 9223372036854775808) (hh : h ≤ 100) : Pure T 89 [ints bl, .int .i64 h] (.bool (cooled bl h)) := by
 refine pure_fn (af := a89) rfl (by simp [a89]) dd ?_
 (repeat (first | simp only [↓QA, QB, Nat.reduceLT, reduceIte, Nat.reduceEqDiff, Nat.reduceAdd, Nat.reduceLeDiff, Nat.reduceMul, Nat.reduceBEq, QXHHdC2, a89] | refine rd0 rfl ?_))
 refine loopE (S := Nat) 0 (fun k => k ≤ h + 1) (fun k => h + 1 - k) (fun k => [(0, ints bl), (1, .int .i64 h), (5, .bool (cooledTo bl k)), (6, .int .i64 k)]) (fun _ => []) (Nat.zero_le _) rfl ?_ fun k hk => ?_
 ·try simp only [TrimX, QE, Nat.reduceLT, reduceIte, Nat.reduceEqDiff, Nat.reduceAdd, Nat.reduceLeDiff, Nat.reduceMul, Nat.reduceBEq, QXHHdC2, cooledTo]
  try simp
 ·(repeat (first | simp only [↓QA, QB, Nat.reduceLT, reduceIte, Nat.reduceEqDiff, Nat.reduceAdd, Nat.reduceLeDiff, Nat.reduceMul, Nat.reduceBEq, QXHHdC2, L89_0] | refine rd0 rfl ?_))
  refine iteP_intro (fun hd => ?_) fun hd => ?_
  ·have hk1 : k ≤ h := by simp at hd; omega
   have hw : IntKind.i64.wrap ((k : Int) + 1) = ((k + 1 : Nat) : Int) := wrapN (show k < 200 by omega) (by omega)
   have hs := cooledTo_succ bl k
   cases hc : cooledTo bl k
   ·rw [hc, Bool.false_and] at hs
    (repeat (first | simp only [↓QA, QB, Nat.reduceLT, reduceIte, Nat.reduceEqDiff, Nat.reduceAdd, Nat.reduceLeDiff, Nat.reduceMul, Nat.reduceBEq, QXHHdC2, hw] | refine rd0 rfl ?_))
    refine ⟨k + 1, by omega, by omega, ?_⟩
    try simp only [TrimX, QE, Nat.reduceLT, reduceIte, Nat.reduceEqDiff, Nat.reduceAdd, Nat.reduceLeDiff, Nat.reduceMul, Nat.reduceBEq, QXHHdC2, hw, hs]
   ·rw [hc, Bool.true_and] at hs
    (repeat (first | simp only [↓QA, QB, Nat.reduceLT, reduceIte, Nat.reduceEqDiff, Nat.reduceAdd, Nat.reduceLeDiff, Nat.reduceMul, Nat.reduceBEq, QXHHdC2, hw] | refine rd0 rfl ?_))
    ((first | refine callK_d (has_ok bl k hb) rfl dd ?_ | refine callD_d (has_ok bl k hb) rfl dd ?_); (repeat (first | simp only [↓QA, QB, Nat.reduceLT, reduceIte, Nat.reduceEqDiff, Nat.reduceAdd, Nat.reduceLeDiff, Nat.reduceMul, Nat.reduceBEq, QXHHdC2, hw] | refine rd0 rfl ?_)))
    refine ⟨k + 1, by omega, by omega, ?_⟩
    try simp only [TrimX, QE, Nat.reduceLT, reduceIte, Nat.reduceEqDiff, Nat.reduceAdd, Nat.reduceLeDiff, Nat.reduceMul, Nat.reduceBEq, QXHHdC2, hw, hs]
  ·have hk1 : k = h + 1 := by simp at hd; omega
   subst hk1
   (repeat (first | simp only [↓QA, QB, Nat.reduceLT, reduceIte, Nat.reduceEqDiff, Nat.reduceAdd, Nat.reduceLeDiff, Nat.reduceMul, Nat.reduceBEq, QXHHdC2] | refine rd0 rfl ?_))
   rfl
theorem rcourse_ok (s : Ship) (hv : Vd s) (h : Nat) (hh : h ≤ 100) (n : Int) (hn : 0 ≤ n ∧ n ≤ 80) (bl : List Int) (hb : bl.length < 9223372036854775808) :
  Pure T 51 [encShip s, .int .i64 h, .int .i64 n, ints bl] (ints (course s h n bl)) := by
 have hnh := hv.nheat
 have hpw := hv.power
 have hcd := hv.cold
 have hwm := hv.warm
 refine pure_fn (af := a51) rfl (by simp [a51]) dd ?_
 obtain ⟨c, hc⟩ : ∃ c, cooled bl h = c := ⟨_, rfl⟩
 rw [show course s h n bl = (List.range (s.heat.length + 1)).map (marksAt s h n c) by rw [← hc]; rfl]
 (repeat (first | simp only [↓QA, QB, Nat.reduceLT, reduceIte, Nat.reduceEqDiff, Nat.reduceAdd, Nat.reduceLeDiff, Nat.reduceMul, Nat.reduceBEq, QXHHdC2, a51] | refine rd0 rfl ?_))
 refine ghostK 9 1 [.int .i64 n] rfl ?_
 refine loopE (S := Nat × Bool) (0, false) (fun k => k.1 ≤ s.heat.length) (fun k => s.heat.length - k.1)
  (fun k => [(1, .int .i64 h), (3, ints bl), (4, .ptr 0 0), (9, .lit (((List.range (k.1 + 1)).map (marksAt s h n c)).map (.int .i64)) false (some 1)), (10, .int .i64 k.1)])
  (fun k => [.cells (shipCells s), .tok 1 (k.1 + 1) k.2]) (Nat.zero_le _) (by simp [shipCells, ints]) ?_ fun k hk => ?_
 ·try simp only [TrimX, QE, Nat.reduceLT, reduceIte, Nat.reduceEqDiff, Nat.reduceAdd, Nat.reduceLeDiff, Nat.reduceMul, Nat.reduceBEq, QXHHdC2]
  try simp [marksAt]
 ·obtain ⟨k, ex⟩ := k
  simp only at hk
  obtain ⟨L, hL⟩ : ∃ L, (List.range (k + 1)).map (marksAt s h n c) = L := ⟨_, rfl⟩
  have hlen : L.length = k + 1 := by rw [← hL]; simp
  have hlt : k < L.length := by omega
  have hget : L[k] = marksAt s h n c k := by subst hL; simp
  have hsucc : (List.range (k + 1 + 1)).map (marksAt s h n c) = L ++ [marksAt s h n c (k + 1)] := by rw [List.range_succ, List.map_append, hL]; simp
  have hm := marks_bd hv (h := h) hn c k hk
  simp only [hL]
  (repeat (first | simp only [↓QA, QB, Nat.reduceLT, reduceIte, Nat.reduceEqDiff, Nat.reduceAdd, Nat.reduceLeDiff, Nat.reduceMul, Nat.reduceBEq, QXHHdC2, L51_0] | refine rd0 rfl ?_))
  ((first | refine callK_d (rend_ok s) rfl dd ?_ | refine callD_d (rend_ok s) rfl dd ?_); (repeat (first | simp only [↓QA, QB, Nat.reduceLT, reduceIte, Nat.reduceEqDiff, Nat.reduceAdd, Nat.reduceLeDiff, Nat.reduceMul, Nat.reduceBEq, QXHHdC2] | refine rd0 rfl ?_)))
  refine iteP_intro (fun hd => ?_) fun hd => ?_
  ·have hk1 : k < s.heat.length := by simpa using hd
   have hw := wrapN hk1 (by omega)
   have hap := fun a => append_at (σ := .cells (shipCells s) :: .tok 1 (k + 1) ex :: []) (t := 1) (ex := ex) (sz := 1) (b := 8) (xs := L.map (.int .i64)) (ys := [.int .i64 a]) (f := true) (tk := none) ⟨allCells_int L, by simp [allCells, AV.cells, AV.cell], by simp [room]; omega, by simp [room]; omega⟩ (by simp) (k + 1) (by simp [hlen]) rfl
   rw [shipCells_eq] at hap
   (repeat (first | simp only [↓QA, QB, Nat.reduceLT, reduceIte, Nat.reduceEqDiff, Nat.reduceAdd, Nat.reduceLeDiff, Nat.reduceMul, Nat.reduceBEq, QXHHdC2, hk1, hlt, hget] | refine rd0 rfl ?_))
   ((first | refine callK_d (rcooled_ok bl h hb hh) rfl dd ?_ | refine callD_d (rcooled_ok bl h hb hh) rfl dd ?_); (repeat (first | simp only [↓QA, QB, Nat.reduceLT, reduceIte, Nat.reduceEqDiff, Nat.reduceAdd, Nat.reduceLeDiff, Nat.reduceMul, Nat.reduceBEq, QXHHdC2, hk1, hlt, hget] | refine rd0 rfl ?_)))
   rw [hc]
   cases c
   ·have hmk : marksAt s h n false (k + 1) = towards (marksAt s h n false k) s.heat[k] s.warm := by simp [marksAt, hk1]
    rw [hmk] at hsucc
    (repeat (first | simp only [↓QA, QB, Nat.reduceLT, reduceIte, Nat.reduceEqDiff, Nat.reduceAdd, Nat.reduceLeDiff, Nat.reduceMul, Nat.reduceBEq, QXHHdC2, hk1, hlt, hget] | refine rd0 rfl ?_))
    ((first | refine callK_d (rtowards_ok (marksAt s h n false k) s.heat[k] s.warm (by omega) (by omega)) rfl dd ?_ | refine callD_d (rtowards_ok (marksAt s h n false k) s.heat[k] s.warm (by omega) (by omega)) rfl dd ?_); (repeat (first | simp only [↓QA, QB, Nat.reduceLT, reduceIte, Nat.reduceEqDiff, Nat.reduceAdd, Nat.reduceLeDiff, Nat.reduceMul, Nat.reduceBEq, QXHHdC2, hk1, hlt, hget, hap] | refine rd0 rfl ?_)))
    refine ⟨(k + 1, true), by simp only; omega, by simp only; omega, ?_⟩
    try simp only [TrimX, QE, Nat.reduceLT, reduceIte, Nat.reduceEqDiff, Nat.reduceAdd, Nat.reduceLeDiff, Nat.reduceMul, Nat.reduceBEq, QXHHdC2, hw, hsucc, List.map_append, List.map_cons, List.map_nil]
    try simp [okBlk]
   ·have hmk : marksAt s h n true (k + 1) = towards (marksAt s h n true k) s.cold (max 1 (s.power - h)) := by simp [marksAt]
    have hws : IntKind.i64.wrap (s.power - (h : Int)) = s.power - h := wrap64 ⟨by omega, by omega⟩
    rw [hmk] at hsucc
    (repeat (first | simp only [↓QA, QB, Nat.reduceLT, reduceIte, Nat.reduceEqDiff, Nat.reduceAdd, Nat.reduceLeDiff, Nat.reduceMul, Nat.reduceBEq, QXHHdC2, hk1, hlt, hget, hws] | refine rd0 rfl ?_))
    ((first | refine callK_d (rtowards_ok (marksAt s h n true k) s.cold (max 1 (s.power - h)) (by omega) (by omega)) rfl dd ?_ | refine callD_d (rtowards_ok (marksAt s h n true k) s.cold (max 1 (s.power - h)) (by omega) (by omega)) rfl dd ?_); (repeat (first | simp only [↓QA, QB, Nat.reduceLT, reduceIte, Nat.reduceEqDiff, Nat.reduceAdd, Nat.reduceLeDiff, Nat.reduceMul, Nat.reduceBEq, QXHHdC2, hk1, hlt, hget, hap] | refine rd0 rfl ?_)))
    refine ⟨(k + 1, true), by simp only; omega, by simp only; omega, ?_⟩
    try simp only [TrimX, QE, Nat.reduceLT, reduceIte, Nat.reduceEqDiff, Nat.reduceAdd, Nat.reduceLeDiff, Nat.reduceMul, Nat.reduceBEq, QXHHdC2, hw, hsucc, List.map_append, List.map_cons, List.map_nil]
    try simp [okBlk]
  ·have hk1 : k = s.heat.length := by simp at hd; omega
   subst hk1
   (repeat (first | simp only [↓QA, QB, Nat.reduceLT, reduceIte, Nat.reduceEqDiff, Nat.reduceAdd, Nat.reduceLeDiff, Nat.reduceMul, Nat.reduceBEq, QXHHdC2, hL] | refine rd0 rfl ?_))
   try try simp only [QS, QC, Nat.reduceLT, reduceIte, Nat.reduceEqDiff, Nat.reduceAdd, Nat.reduceLeDiff, Nat.reduceMul, Nat.reduceBEq, QXHHdC2]
end Go.Am.Room
set_option maxRecDepth 4000
namespace Go.Am.Room
def QXHHdC3 := And.intro @encShip_eq (And.intro @shipCells_eq (And.intro @encHold_eq (And.intro @encLine_eq (And.intro @encSpan_eq (And.intro @S_mapHold (@S_mapLine))))))
theorem rsets_ok (s : Ship) (hv : Vd s) : Pure T 87 [encShip s] (intss (setsOf s)) := by
 refine pure_fn (af := a87) rfl (by simp [a87]) dd ?_
 have hno := hv.nholds
 rw [show setsOf s = setsUp s s.holds.length from rfl]
 (repeat (first | simp only [↓QA, QB, Nat.reduceLT, reduceIte, Nat.reduceEqDiff, Nat.reduceAdd, Nat.reduceLeDiff, Nat.reduceMul, Nat.reduceBEq, QXHHdC3, a87] | refine rd0 rfl ?_))
 refine loopE (S := Nat) 0 (fun n => n ≤ s.holds.length) (fun n => s.holds.length - n) (fun n => [(1, .ptr 0 0), (3, intss (setsUp s n)), (4, .int .i64 n)]) (fun _ => [.cells (shipCells s)]) (Nat.zero_le _) (by simp [shipCells, ints]) ?_ fun n hn => ?_
 ·try simp only [TrimX, QE, Nat.reduceLT, reduceIte, Nat.reduceEqDiff, Nat.reduceAdd, Nat.reduceLeDiff, Nat.reduceMul, Nat.reduceBEq, QXHHdC3]
  simp [intss, ints, setsUp, clr, clrs]
 ·(repeat (first | simp only [↓QA, QB, Nat.reduceLT, reduceIte, Nat.reduceEqDiff, Nat.reduceAdd, Nat.reduceLeDiff, Nat.reduceMul, Nat.reduceBEq, QXHHdC3, L87_0, intss] | refine rd0 rfl ?_))
  refine iteP_intro (fun h => ?_) fun h => ?_
  ·have hn1 : n < s.holds.length := by simpa using h
   have hwn : IntKind.i64.wrap ((n : Int) + 1) = ((n + 1 : Nat) : Int) := wrapN hn1 (by omega)
   have hsl : (setsUp s n).length ≤ 16 := Nat.le_trans (setsUp_len s n) (by
    calc 2 ^ n ≤ 2 ^ 4 := Nat.pow_le_pow_right (by omega) (by omega)
     _ = 16 := by decide)
   have hsl1 : (setsUp s (n + 1)).length ≤ 16 := Nat.le_trans (setsUp_len s (n + 1)) (by
    calc 2 ^ (n + 1) ≤ 2 ^ 4 := Nat.pow_le_pow_right (by omega) (by omega)
     _ = 16 := by decide)
   obtain ⟨x, hx⟩ : ∃ x, s.holds[n] = x := ⟨_, rfl⟩
   obtain ⟨R, hR⟩ : ∃ R, setsUp s (n + 1) = R := ⟨_, rfl⟩
   have hspec := setsUp_succ hn1
   rw [hR, hx] at hspec
   rw [hR] at hsl1
   (repeat (first | simp only [↓QA, QB, Nat.reduceLT, reduceIte, Nat.reduceEqDiff, Nat.reduceAdd, Nat.reduceLeDiff, Nat.reduceMul, Nat.reduceBEq, QXHHdC3] | refine rd0 rfl ?_))
   refine ghostK 5 1 [] rfl ?_
   refine loopE (S := Nat × List (List Int) × Bool) (0, [], false) (fun k => k.1 ≤ (setsUp s n).length ∧ k.2.1 ++ ((setsUp s n).drop k.1).flatMap (grow x n) = R) (fun k => (setsUp s n).length - k.1)
    (fun k => [(1, .ptr 0 0), (3, intss (setsUp s n)), (4, .int .i64 n), (5, .lit (k.2.1.map ints) false (some 1)), (6, .int .i64 k.1)]) (fun k => [.cells (shipCells s), .tok 1 k.2.1.length k.2.2]) ⟨Nat.zero_le _, by simp [hspec]⟩ (by simp [shipCells, ints]) ?_ fun k hk => ?_
   ·try simp only [TrimX, QE, Nat.reduceLT, reduceIte, Nat.reduceEqDiff, Nat.reduceAdd, Nat.reduceLeDiff, Nat.reduceMul, Nat.reduceBEq, QXHHdC3, intss]
    try simp
   ·obtain ⟨k, acc, ex⟩ := k
    obtain ⟨hk, hacc⟩ := hk
    simp only at hk hacc
    (repeat (first | simp only [↓QA, QB, Nat.reduceLT, reduceIte, Nat.reduceEqDiff, Nat.reduceAdd, Nat.reduceLeDiff, Nat.reduceMul, Nat.reduceBEq, QXHHdC3, L87_2, intss] | refine rd0 rfl ?_))
    refine iteP_intro (fun h2 => ?_) fun h2 => ?_
    ·have hk1 : k < (setsUp s n).length := by simpa using h2
     have hmem := List.getElem_mem hk1
     obtain ⟨c, hc⟩ : ∃ c, (setsUp s n)[k] = c := ⟨_, rfl⟩
     rw [hc] at hmem
     have hlen := setsUp_in s n c hmem
     rw [List.drop_eq_getElem_cons hk1, hc, List.flatMap_cons] at hacc
     have hacl : acc.length ≤ 16 := by
      have := congrArg List.length hacc
      simp only [List.length_append] at this
      omega
     have hwk : IntKind.i64.wrap ((k : Int) + 1) = ((k + 1 : Nat) : Int) := wrapN hk1 (by omega)
     have a0 : ∀ (σ : St), appendAV 1 8 σ (.lit [] true none) (.lit (c.map (.int .i64)) false none) = some ((app0 1 σ (c.map (.int .i64))).1, (app0 1 σ (c.map (.int .i64))).2) := fun σ => app0_eq ⟨rfl, allCells_int c, by simp [room]; omega, by simp [room]; omega⟩
     have a1 : ∀ (σ : St), appendAV 1 8 (app0 1 σ (c.map (.int .i64))).2 (app0 1 σ (c.map (.int .i64))).1 (.lit [.int .i64 n] true none) = some (.lit (c.map (.int .i64) ++ [.int .i64 n]) false (some σ.length), σ ++ [.tok 1 (c.length + 1) true]) := fun σ => by
      rw [app0_more ⟨allCells_int c, by simp [allCells, AV.cells, AV.cell], by simp [room]; omega, by simp [room]; omega⟩ (by simp)]
      simp
     have a2 : ∀ (b : ABlk) (τ : St) (ex : Bool) (xs : List AV) (m : Nat) (y : AV), xs.length = m → m ≤ 20 → allCells 1 (xs ++ [y]) = true → appendAV 1 24 (b :: .tok 1 m ex :: τ) (.lit xs false (some 1)) (.lit [y] true none) = some (.lit (xs ++ [y]) false (some 1), b :: .tok 1 (m + 1) true :: τ) := fun b τ ex xs m y hm hm2 hal => by
      simp only [allCells, List.all_append, Bool.and_eq_true] at hal
      rw [append_at (t := 1) (ex := ex) (sz := 1) ⟨hal.1, hal.2, by simp [room]; omega, by simp [room]; omega⟩ (by simp) m hm.symm rfl]
      simp
     have hca : allCells 1 (acc.map ints) = true := allCells_ints acc
     have hap := fun (b : ABlk) (τ : St) (ex : Bool) (l : List AV) (f : Bool) (t : Option Nat) => a2 b τ ex (acc.map ints) acc.length (.lit l f t) (by simp) (by omega) (allCells_lit hca)
     have hap2 := fun (b : ABlk) (τ : St) (ex : Bool) (l l2 : List AV) (f f2 : Bool) (t t2 : Option Nat) => a2 b τ ex (acc.map ints ++ [.lit l f t]) (acc.length + 1) (.lit l2 f2 t2) (by simp) (by omega) (allCells_lit (allCells_lit hca))
     by_cases d1 : x.duct = 1
     ·have g1 : (x.duct == 1) = true := by simpa using d1
      have g0 : (x.duct == 0) = false := by simp [d1]
      have hg : grow x n c = [c ++ [(n : Int)]] := by simp [grow, d1]
      rw [hg] at hacc
      (repeat (first | simp only [↓QA, QB, Nat.reduceLT, reduceIte, Nat.reduceEqDiff, Nat.reduceAdd, Nat.reduceLeDiff, Nat.reduceMul, Nat.reduceBEq, QXHHdC3, hk1, hn1, hx, g1, g0, hc, ints, a0, a1, hap] | refine rd0 rfl ?_))
      refine ⟨(k + 1, acc ++ [c ++ [(n : Int)]], true), ⟨by simp only; omega, by simpa using hacc⟩, by simp only; omega, ?_⟩
      try simp only [TrimX, QE, Nat.reduceLT, reduceIte, Nat.reduceEqDiff, Nat.reduceAdd, Nat.reduceLeDiff, Nat.reduceMul, Nat.reduceBEq, QXHHdC3, hwk, List.map_append, List.length_append, List.map_cons, List.map_nil, intss]
      try simp [okBlk]
     ·have g1 : (x.duct == 1) = false := by simpa using d1
      by_cases d0 : x.duct = 0
      ·have g0 : (x.duct == 0) = true := by simpa using d0
       have hg : grow x n c = [c] := by simp [grow, d0]
       rw [hg] at hacc
       (repeat (first | simp only [↓QA, QB, Nat.reduceLT, reduceIte, Nat.reduceEqDiff, Nat.reduceAdd, Nat.reduceLeDiff, Nat.reduceMul, Nat.reduceBEq, QXHHdC3, hk1, hn1, hx, g1, g0, hc, ints, hap] | refine rd0 rfl ?_))
       refine ⟨(k + 1, acc ++ [c], true), ⟨by simp only; omega, by simpa using hacc⟩, by simp only; omega, ?_⟩
       try simp only [TrimX, QE, Nat.reduceLT, reduceIte, Nat.reduceEqDiff, Nat.reduceAdd, Nat.reduceLeDiff, Nat.reduceMul, Nat.reduceBEq, QXHHdC3, hwk, List.map_append, List.length_append, List.map_cons, List.map_nil, intss]
       try simp [okBlk]
      ·have g0 : (x.duct == 0) = false := by simpa using d0
       have hg : grow x n c = [c, c ++ [(n : Int)]] := by simp [grow, d1, d0]
       rw [hg] at hacc
       (repeat (first | simp only [↓QA, QB, Nat.reduceLT, reduceIte, Nat.reduceEqDiff, Nat.reduceAdd, Nat.reduceLeDiff, Nat.reduceMul, Nat.reduceBEq, QXHHdC3, hk1, hn1, hx, g1, g0, hc, ints, hap, a0, a1, hap2] | refine rd0 rfl ?_))
       refine ⟨(k + 1, acc ++ [c, c ++ [(n : Int)]], true), ⟨by simp only; omega, by simpa using hacc⟩, by simp only; omega, ?_⟩
       try simp only [TrimX, QE, Nat.reduceLT, reduceIte, Nat.reduceEqDiff, Nat.reduceAdd, Nat.reduceLeDiff, Nat.reduceMul, Nat.reduceBEq, QXHHdC3, hwk, List.map_append, List.length_append, List.map_cons, List.map_nil, intss]
       try simp [okBlk]
    ·have hk1 : k = (setsUp s n).length := by simp at h2; omega
     have hfin : acc = R := by rw [← hacc, hk1, List.drop_length]; simp
     (repeat (first | simp only [↓QA, QB, Nat.reduceLT, reduceIte, Nat.reduceEqDiff, Nat.reduceAdd, Nat.reduceLeDiff, Nat.reduceMul, Nat.reduceBEq, QXHHdC3] | refine rd0 rfl ?_))
     refine ⟨n + 1, by omega, by omega, ?_⟩
     try simp only [TrimX, QE, Nat.reduceLT, reduceIte, Nat.reduceEqDiff, Nat.reduceAdd, Nat.reduceLeDiff, Nat.reduceMul, Nat.reduceBEq, QXHHdC3, hwn, intss, hfin, hR]
  ·have hn1 : n = s.holds.length := by simp at h; omega
   subst hn1
   (repeat (first | simp only [↓QA, QB, Nat.reduceLT, reduceIte, Nat.reduceEqDiff, Nat.reduceAdd, Nat.reduceLeDiff, Nat.reduceMul, Nat.reduceBEq, QXHHdC3, intss] | refine rd0 rfl ?_))
end Go.Am.Room
set_option maxRecDepth 4000
namespace Go.Am.Room
def encTruth (t : Truth) : AV := .agg [ints t.blocked, intss t.starts]
theorem data_truth (t : Truth) : Data (encTruth t) := data_agg (datas_cons (data_ints _) (datas_cons (data_intss _) datas_nil))
instance (t : Truth) : Dat (encTruth t) := ⟨data_truth t⟩
instance (l : List Truth) : Dats (l.map encTruth) := ⟨datas_map data_truth l⟩
theorem S_mapT (σ : St) (m d : Nat) (l : List Truth) : snapMs σ m d (l.map encTruth) = some (l.map encTruth) := S_datas (datas_map data_truth l) σ m d
end Go.Am.Room
set_option maxRecDepth 4000
namespace Go.Am.Room
def QXHHdC7 := And.intro @encShip_eq (And.intro @shipCells_eq (And.intro @encHold_eq (And.intro @encLine_eq (And.intro @encSpan_eq (And.intro @S_mapHold (And.intro @S_mapLine (And.intro @T_sapp (And.intro @T_sapp0 (@S_mapT)))))))))
theorem rreached_ok (l : List Int) (most : Int) (hl : l.length < 9223372036854775808) : Pure T 42 [ints l, .int .i64 most] (.int .i64 (reachedL most l 0)) := by
 refine pure_fn (af := a42) rfl (by simp [a42]) dd ?_
 obtain ⟨R, hR⟩ : ∃ R, reachedL most l 0 = R := ⟨_, rfl⟩
 rw [hR]
 (repeat (first | simp only [↓QA, QB, Nat.reduceLT, reduceIte, Nat.reduceEqDiff, Nat.reduceAdd, Nat.reduceLeDiff, Nat.reduceMul, Nat.reduceBEq, QXHHdC7, a42] | refine rd0 rfl ?_))
 refine loopE (S := Nat) 0 (fun k => k ≤ l.length ∧ reachedL most (l.drop k) k = R) (fun k => l.length - k) (fun k => [(0, ints l), (1, .int .i64 most), (5, .int .i64 k)]) (fun _ => []) ⟨Nat.zero_le _, hR⟩ rfl ?_ fun k hk => ?_
 ·try simp only [TrimX, QE, Nat.reduceLT, reduceIte, Nat.reduceEqDiff, Nat.reduceAdd, Nat.reduceLeDiff, Nat.reduceMul, Nat.reduceBEq, QXHHdC7]
  try simp
 ·obtain ⟨hk, hq⟩ := hk
  (repeat (first | simp only [↓QA, QB, Nat.reduceLT, reduceIte, Nat.reduceEqDiff, Nat.reduceAdd, Nat.reduceLeDiff, Nat.reduceMul, Nat.reduceBEq, QXHHdC7, L42_0] | refine rd0 rfl ?_))
  refine iteP_intro (fun h => ?_) fun h => ?_
  ·have hk1 : k < l.length := by simpa using h
   have hw := wrapN hk1 hl
   rw [List.drop_eq_getElem_cons hk1] at hq
   simp only [reachedL] at hq
   (repeat (first | simp only [↓QA, QB, Nat.reduceLT, reduceIte, Nat.reduceEqDiff, Nat.reduceAdd, Nat.reduceLeDiff, Nat.reduceMul, Nat.reduceBEq, QXHHdC7, hk1] | refine rd0 rfl ?_))
   refine iteP_intro (fun h2 => ?_) fun h2 => ?_
   ·have h2' : l[k] ≤ most := by simpa using h2
    rw [if_pos h2'] at hq
    (repeat (first | simp only [↓QA, QB, Nat.reduceLT, reduceIte, Nat.reduceEqDiff, Nat.reduceAdd, Nat.reduceLeDiff, Nat.reduceMul, Nat.reduceBEq, QXHHdC7, h2, hk1] | refine rd0 rfl ?_))
    rw [hq]
   ·have h2' : ¬ l[k] ≤ most := by simpa using h2
    rw [if_neg h2'] at hq
    (repeat (first | simp only [↓QA, QB, Nat.reduceLT, reduceIte, Nat.reduceEqDiff, Nat.reduceAdd, Nat.reduceLeDiff, Nat.reduceMul, Nat.reduceBEq, QXHHdC7, h2, hk1] | refine rd0 rfl ?_))
    refine ⟨k + 1, ⟨by omega, hq⟩, by omega, ?_⟩
    try simp only [TrimX, QE, Nat.reduceLT, reduceIte, Nat.reduceEqDiff, Nat.reduceAdd, Nat.reduceLeDiff, Nat.reduceMul, Nat.reduceBEq, QXHHdC7, hw]
  ·have hk1 : k = l.length := by simp at h; omega
   rw [hk1, List.drop_length] at hq
   simp only [reachedL] at hq
   (repeat (first | simp only [↓QA, QB, Nat.reduceLT, reduceIte, Nat.reduceEqDiff, Nat.reduceAdd, Nat.reduceLeDiff, Nat.reduceMul, Nat.reduceBEq, QXHHdC7] | refine rd0 rfl ?_))
   rw [hq]
theorem rkept_ok (s : Ship) (hv : Vd s) (n : Nat) (hn : n < s.holds.length) (c : Nat → Int) : Pure T 40 [encShip s, .int .i64 n, ints ((List.range (s.heat.length + 1)).map c)] (.bool (keptOf s n c)) := by
 refine pure_fn (af := a40) rfl (by simp [a40]) dd ?_
 have hnh := hv.nheat
 have hfr := hv.frm
 obtain ⟨x, hx⟩ : ∃ x, s.holds[n] = x := ⟨_, rfl⟩
 obtain ⟨N, hN⟩ : ∃ N, (s.heat.length + 1 - s.frm).toNat = N := ⟨_, rfl⟩
 obtain ⟨p, hp⟩ : ∃ p : Int → Bool, (fun w => inR (c w.toNat) x.keep.lo x.keep.hi) = p := ⟨_, rfl⟩
 have hk : keptOf s n c = (numbers s.frm N).all p := by
  rw [← hN, ← hp]
  simp only [keptOf, List.getElem?_eq_getElem hn, hx]
 obtain ⟨R, hR⟩ : ∃ R, (numbers s.frm N).all p = R := ⟨_, rfl⟩
 have hR' : (true && (numbers (s.frm + ((0 : Nat) : Int)) (N - 0)).all p) = R := by rw [← hR]; simp
 rw [hk, hR]
 obtain ⟨L, hL⟩ : ∃ L, (List.range (s.heat.length + 1)).map c = L := ⟨_, rfl⟩
 have hlen : L.length = s.heat.length + 1 := by rw [← hL]; simp
 rw [hL]
 (repeat (first | simp only [↓QA, QB, Nat.reduceLT, reduceIte, Nat.reduceEqDiff, Nat.reduceAdd, Nat.reduceLeDiff, Nat.reduceMul, Nat.reduceBEq, QXHHdC7, a40] | refine rd0 rfl ?_))
 refine loopE (S := Nat × Bool) (0, true) (fun k => k.1 ≤ N ∧ (k.2 && (numbers (s.frm + (k.1 : Int)) (N - k.1)).all p) = R) (fun k => N - k.1)
  (fun k => [(1, .int .i64 n), (2, ints L), (3, .ptr 0 0), (7, .bool k.2), (8, .int .i64 (s.frm + (k.1 : Int)))]) (fun _ => [.cells (shipCells s)]) ⟨Nat.zero_le _, hR'⟩ (by simp [shipCells, ints]) ?_ fun k hk => ?_
 ·try simp only [TrimX, QE, Nat.reduceLT, reduceIte, Nat.reduceEqDiff, Nat.reduceAdd, Nat.reduceLeDiff, Nat.reduceMul, Nat.reduceBEq, QXHHdC7]
  try simp
 ·obtain ⟨k, b⟩ := k
  obtain ⟨hk, hq⟩ := hk
  simp only at hk hq
  obtain ⟨w, hw⟩ : ∃ w, s.frm + (k : Int) = w := ⟨_, rfl⟩
  simp only [hw]
  rw [hw] at hq
  (repeat (first | simp only [↓QA, QB, Nat.reduceLT, reduceIte, Nat.reduceEqDiff, Nat.reduceAdd, Nat.reduceLeDiff, Nat.reduceMul, Nat.reduceBEq, QXHHdC7, L40_0] | refine rd0 rfl ?_))
  refine iteP_intro (fun h => ?_) fun h => ?_
  ·have hd : w < s.heat.length + 1 := by simp [hlen] at h; omega
   have hk1 : k < N := by omega
   have hww : IntKind.i64.wrap (w + 1) = w + 1 := wrap64 ⟨by omega, by omega⟩
   have hw1 : s.frm + ((k + 1 : Nat) : Int) = w + 1 := by omega
   rw [show N - k = (N - (k + 1)) + 1 by omega] at hq
   simp only [numbers, List.all_cons] at hq
   cases b
   ·(repeat (first | simp only [↓QA, QB, Nat.reduceLT, reduceIte, Nat.reduceEqDiff, Nat.reduceAdd, Nat.reduceLeDiff, Nat.reduceMul, Nat.reduceBEq, QXHHdC7] | refine rd0 rfl ?_))
    refine ⟨(k + 1, false), ⟨by simp only; omega, by simpa using hq⟩, by simp only; omega, ?_⟩
    try simp only [TrimX, QE, Nat.reduceLT, reduceIte, Nat.reduceEqDiff, Nat.reduceAdd, Nat.reduceLeDiff, Nat.reduceMul, Nat.reduceBEq, QXHHdC7, hww, hw1]
    try simp [okBlk]
   ·have hi : 0 ≤ w ∧ w.toNat < L.length := by omega
    have hget : L[w.toNat] = c w.toNat := by simp only [← hL]; simp
    have hpw : p w = inR (c w.toNat) x.keep.lo x.keep.hi := by rw [← hp]
    (repeat (first | simp only [↓QA, QB, Nat.reduceLT, reduceIte, Nat.reduceEqDiff, Nat.reduceAdd, Nat.reduceLeDiff, Nat.reduceMul, Nat.reduceBEq, QXHHdC7, V_idxI, hi, hget, hn, hx] | refine rd0 rfl ?_))
    ((first | refine callK_d (inside_ok (c w.toNat) x.keep) rfl dd ?_ | refine callD_d (inside_ok (c w.toNat) x.keep) rfl dd ?_); (repeat (first | simp only [↓QA, QB, Nat.reduceLT, reduceIte, Nat.reduceEqDiff, Nat.reduceAdd, Nat.reduceLeDiff, Nat.reduceMul, Nat.reduceBEq, QXHHdC7, V_idxI, hi, hget, hn, hx] | refine rd0 rfl ?_)))
    refine ⟨(k + 1, inR (c w.toNat) x.keep.lo x.keep.hi), ⟨by simp only; omega, by simp only [hw1]; rw [← hpw]; simpa using hq⟩, by simp only; omega, ?_⟩
    try simp only [TrimX, QE, Nat.reduceLT, reduceIte, Nat.reduceEqDiff, Nat.reduceAdd, Nat.reduceLeDiff, Nat.reduceMul, Nat.reduceBEq, QXHHdC7, hww, hw1]
    try simp [okBlk]
  ·have hd : ¬ w < s.heat.length + 1 := by simp [hlen] at h; omega
   have hk1 : k = N := by omega
   rw [hk1, Nat.sub_self] at hq
   simp only [numbers, List.all_nil, Bool.and_true] at hq
   subst hq
   (repeat (first | simp only [↓QA, QB, Nat.reduceLT, reduceIte, Nat.reduceEqDiff, Nat.reduceAdd, Nat.reduceLeDiff, Nat.reduceMul, Nat.reduceBEq, QXHHdC7] | refine rd0 rfl ?_))
theorem marksAt_congr {s t : Ship} (h1 : t.cold = s.cold) (h2 : t.power = s.power) (h3 : t.warm = s.warm) (h4 : t.heat = s.heat) (h : Nat) (n : Int) (c : Bool) : ∀ w, marksAt t h n c w = marksAt s h n c w
 | 0 => rfl
 | w + 1 => by simp only [marksAt, marksAt_congr h1 h2 h3 h4 h n c w, h1, h2, h3, h4]
theorem restOf_nil (l : List Int) : restOf l [] = l := by simp [restOf]
theorem keepsIn_one {s : Ship} {l : List Truth} {h : Nat} {clear : List Int} : keepsIn s l h clear = 1 ↔ ∀ c ∈ coursesIn s l h clear, keptOf s h c = true := settled_one
theorem keepsIn_two {s : Ship} {l : List Truth} {h : Nat} {clear : List Int} : keepsIn s l h clear = 2 ↔ coursesIn s l h clear ≠ [] ∧ ∀ c ∈ coursesIn s l h clear, keptOf s h c = false := settled_two
def spanAt (s : Ship) (h w : Nat) : Span := spanL ((coursesIn s (truths s []) h []).map fun c => c w)
theorem wrong_law {s : Ship} (hv : Vd s) : wrongL s ∈ choices s.log.length (wrongL s).length ∧ someB s (wrongL s) = true ∧ ∀ m, ∀ c ∈ choices s.log.length m, someB s c = true → fewer c (wrongL s) = false := by
 have hl := hv.nlog
 exact (firstFrom_spec (someB s) s.log.length (by omega) _ 0 (fun m' h => by omega)).1 _ (wrong_first hv)
end Go.Am.Room
set_option maxRecDepth 8000
namespace Go.Am.Room
def turnOf (l : List Int) (n : Nat) : Int := if l.length = 0 then 0 else (l[n % l.length]?).getD 0
def u8s (l : List Int) : AV := .lit (l.map (.int .u8)) false none
theorem data_u8s (l : List Int) : Data (u8s l) := data_list (data_int .u8) l
instance (l : List Int) : Dat (u8s l) := ⟨data_u8s l⟩
theorem S_u8s (σ : St) (m d : Nat) (l : List Int) : snapMs σ m d (l.map (.int .u8)) = some (l.map (.int .u8)) := S_datas (datas_map (data_int .u8) l) σ m d
def Bytes (l : List Int) : Prop := (∀ x ∈ l, 0 ≤ x ∧ x < 256) ∧ l.length < 9223372036854775808
theorem turnOf_bd {l : List Int} (h : Bytes l) (n : Nat) : 0 ≤ turnOf l n ∧ turnOf l n < 256 := by
 unfold turnOf
 split
 ·omega
 ·rename_i h0
  have hlt : n % l.length < l.length := Nat.mod_lt _ (by omega)
  rw [List.getElem?_eq_getElem hlt, Option.getD_some]
  exact h.1 _ (List.getElem_mem hlt)
theorem turn_ok (l : List Int) (n : Nat) (h : Bytes l) (hn : n < 9223372036854775808) : Pure T 50 [u8s l, .int .i64 n] (.int .i64 (turnOf l n)) := by
 refine pure_fn (af := a50) rfl (by simp [a50]) (datas_cons (data_u8s l) (datas_cons (data_int _ _) datas_nil)) ?_
 have hl := h.2
 (repeat (first | simp only [↓QA, QB, Nat.reduceLT, reduceIte, Nat.reduceEqDiff, Nat.reduceAdd, Nat.reduceLeDiff, Nat.reduceMul, Nat.reduceBEq, QXHLawC, a50, u8s] | refine rd0 rfl ?_))
 refine iteP_intro (fun h0 => ?_) fun h0 => ?_
 ·have h0' : l.length = 0 := by simp at h0; simp [h0]
  (repeat (first | simp only [↓QA, QB, Nat.reduceLT, reduceIte, Nat.reduceEqDiff, Nat.reduceAdd, Nat.reduceLeDiff, Nat.reduceMul, Nat.reduceBEq, QXHLawC, turnOf, h0'] | refine rd0 rfl ?_))
 ·have h0' : l.length ≠ 0 := by intro e; rw [e] at h0; simp at h0
  have hlt : n % l.length < l.length := Nat.mod_lt _ (by omega)
  have hb := h.1 _ (List.getElem_mem hlt)
  have hm : ((n : Int).tmod (l.length : Int)) = ((n % l.length : Nat) : Int) := by rw [Int.tmod_eq_emod_of_nonneg (by omega)]; norm_cast
  have hw : IntKind.i64.wrap l[n % l.length] = l[n % l.length] := wrap64 ⟨by omega, by omega⟩
  (repeat (first | simp only [↓QA, QB, Nat.reduceLT, reduceIte, Nat.reduceEqDiff, Nat.reduceAdd, Nat.reduceLeDiff, Nat.reduceMul, Nat.reduceBEq, QXHLawC, V_rem _ _ _ (show ((l.length : Nat) : Int) ≠ 0 by omega), hm, hlt, hw] | refine rd0 rfl ?_))
  simp [turnOf, h0', hlt]
theorem subset_ok (a b : List Int) (ha : a.length < 9223372036854775808) (hb : b.length < 9223372036854775808) : Pure T 39 [ints a, ints b] (.bool (a.all b.contains)) := by
 refine pure_fn (af := a39) rfl (by simp [a39]) dd ?_
 (repeat (first | simp only [↓QA, QB, Nat.reduceLT, reduceIte, Nat.reduceEqDiff, Nat.reduceAdd, Nat.reduceLeDiff, Nat.reduceMul, Nat.reduceBEq, QXHLawC, a39] | refine rd0 rfl ?_))
 refine loopE (S := Nat) 0 (fun k => k ≤ a.length ∧ (a.drop k).all b.contains = a.all b.contains) (fun k => a.length - k) (fun k => [(0, ints a), (1, ints b), (5, .int .i64 k)]) (fun _ => []) ⟨by simp, by simp⟩ rfl ?_ fun k hk => ?_
 ·try simp only [TrimX, QE, Nat.reduceLT, reduceIte, Nat.reduceEqDiff, Nat.reduceAdd, Nat.reduceLeDiff, Nat.reduceMul, Nat.reduceBEq, QXHLawC]
  try simp
 ·obtain ⟨hk, hq⟩ := hk
  (repeat (first | simp only [↓QA, QB, Nat.reduceLT, reduceIte, Nat.reduceEqDiff, Nat.reduceAdd, Nat.reduceLeDiff, Nat.reduceMul, Nat.reduceBEq, QXHLawC, L39_0] | refine rd0 rfl ?_))
  refine iteP_intro (fun h => ?_) fun h => ?_
  ·have hk1 : k < a.length := by simpa using h
   have hw := wrapN hk1 ha
   rw [List.drop_eq_getElem_cons hk1, List.all_cons] at hq
   (repeat (first | simp only [↓QA, QB, Nat.reduceLT, reduceIte, Nat.reduceEqDiff, Nat.reduceAdd, Nat.reduceLeDiff, Nat.reduceMul, Nat.reduceBEq, QXHLawC, hk1] | refine rd0 rfl ?_))
   ((first | refine callK_d (has_ok b a[k] hb) rfl dd ?_ | refine callD_d (has_ok b a[k] hb) rfl dd ?_); (repeat (first | simp only [↓QA, QB, Nat.reduceLT, reduceIte, Nat.reduceEqDiff, Nat.reduceAdd, Nat.reduceLeDiff, Nat.reduceMul, Nat.reduceBEq, QXHLawC, hk1] | refine rd0 rfl ?_)))
   cases h2 : b.contains a[k]
   ·rw [h2, Bool.false_and] at hq
    (repeat (first | simp only [↓QA, QB, Nat.reduceLT, reduceIte, Nat.reduceEqDiff, Nat.reduceAdd, Nat.reduceLeDiff, Nat.reduceMul, Nat.reduceBEq, QXHLawC, ← hq] | refine rd0 rfl ?_))
   ·rw [h2, Bool.true_and] at hq
    (repeat (first | simp only [↓QA, QB, Nat.reduceLT, reduceIte, Nat.reduceEqDiff, Nat.reduceAdd, Nat.reduceLeDiff, Nat.reduceMul, Nat.reduceBEq, QXHLawC, hk1] | refine rd0 rfl ?_))
    refine ⟨k + 1, ⟨by omega, hq⟩, by omega, ?_⟩
    try simp only [TrimX, QE, Nat.reduceLT, reduceIte, Nat.reduceEqDiff, Nat.reduceAdd, Nat.reduceLeDiff, Nat.reduceMul, Nat.reduceBEq, QXHLawC, hw]
  ·have hk1 : k = a.length := by simp at h; omega
   rw [hk1, List.drop_length, List.all_nil] at hq
   (repeat (first | simp only [↓QA, QB, Nat.reduceLT, reduceIte, Nat.reduceEqDiff, Nat.reduceAdd, Nat.reduceLeDiff, Nat.reduceMul, Nat.reduceBEq, QXHLawC, ← hq] | refine rd0 rfl ?_))
end Go.Am.Room
set_option maxRecDepth 8000
namespace Go.Am.Room
theorem valid_ok (s : Ship) (hf : Fits s) : Pure T 37 [encShip s] (.bool (decide ((check s).2.2 = 0))) := by
 refine pure_fn (af := a37) rfl (by simp [a37]) dd ?_
 (repeat (first | simp only [↓QA, QB, Nat.reduceLT, reduceIte, Nat.reduceEqDiff, Nat.reduceAdd, Nat.reduceLeDiff, Nat.reduceMul, Nat.reduceBEq, QXHHdQ1, a37] | refine rd0 rfl ?_))
 ((first | refine callK_d (refcheck_ok s hf) rfl dd ?_ | refine callD_d (refcheck_ok s hf) rfl dd ?_); (repeat (first | simp only [↓QA, QB, Nat.reduceLT, reduceIte, Nat.reduceEqDiff, Nat.reduceAdd, Nat.reduceLeDiff, Nat.reduceMul, Nat.reduceBEq, QXHHdQ1, enc3] | refine rd0 rfl ?_)))
 try rfl
 try (simp; rfl)
def someV (s : Ship) : Bool := decide ((check s).2.2 = 0) && someB s []
theorem nil_choice (n : Nat) : [] ∈ choices n 0 := by simp [choices]
end Go.Am.Room
set_option maxRecDepth 8000
namespace Go.Am.Room
theorem lst4 {n m : Nat} (h : m ≤ n) (p : Int → Bool) : ((numbers 0 m).filter p).length ≤ n := by
 have := List.length_filter_le p (numbers 0 m)
 rw [numbers_len] at this
 omega
theorem blocked_len (s : Ship) : (blockedOf s).1.length ≤ 4 ∧ (blockedOf s).2.1.length ≤ 4 := by
 unfold blockedOf
 split
 ·rename_i h0
  have hv := vd_of_check (errKnown_ok h0).1
  exact ⟨lst4 hv.nholds.2 _, lst4 hv.nholds.2 _⟩
 ·simp
theorem spoils_len (s : Ship) : (spoilsOf s).1.length ≤ 4 ∧ (spoilsOf s).2.1.length ≤ 4 := by
 unfold spoilsOf
 split
 ·rename_i h0
  have hv := vd_of_check (errKnown_ok h0).1
  exact ⟨lst4 hv.nholds.2 _, lst4 hv.nholds.2 _⟩
 ·simp
end Go.Am.Room
set_option maxRecDepth 8000
namespace Go.Am.Room
theorem some_iff {s : Ship} : someV s = true ↔ (check s).2.2 = 0 ∧ someB s [] = true := by simp [someV]
theorem known0 {s : Ship} (h : someV s = true) : errKnown s 0 = 0 := by
 have := (some_iff.1 h).2
 simp only [someB, Bool.not_eq_true'] at this
 simp [errKnown, this]
theorem whole0 {s : Ship} (h : someV s = true) : wholeErr s = 0 := by
 rw [wholeErr, (some_iff.1 h).1]; exact known0 h
theorem nat_rem {a : Int} {n : Nat} (ha : 0 ≤ a) (hn : 0 < n) : ∃ j : Nat, a.tmod (n : Int) = (j : Int) ∧ j < n := by
 refine ⟨(a.tmod n).toNat, ?_, ?_⟩
 ·have := Int.tmod_nonneg (n : Int) ha; omega
 ·have := Int.tmod_nonneg (n : Int) ha
  have := Int.tmod_lt_of_pos a (show (0 : Int) < n by omega)
  omega
end Go.Am.Room
set_option maxRecDepth 8000
namespace Go.Am.Room
theorem asked0 {s : Ship} (hc : (check s).2.2 = 0) {h : Nat} (hh : h < s.holds.length) : errAsk s h = 0 := by
 have : inR (h : Int) 0 ((s.holds.length : Int) - 1) = true := inR_iff.2 (by omega)
 simp [errAsk, hc, this]
theorem marks_tr {s : Ship} (h : someV s = true) {n w : Nat} (hn : n < s.holds.length) (hw : w ≤ s.heat.length) : marksOf s n w = (spanAt s n w, 0) := by
 have hi : inR (w : Int) 0 s.heat.length = true := inR_iff.2 (by omega)
 have : marksErr s n w = 0 := by
  rw [marksErr, asked0 (some_iff.1 h).1 hn]
  simp [errWithin, hi, known0 h]
 rw [marksOf, if_pos this]; rfl
theorem blocked_tr {s : Ship} (h : someV s = true) : blockedOf s = ((numbers 0 s.holds.length).filter (sureBl (truths s [])), (numbers 0 s.holds.length).filter (mayBl (truths s [])), 0) := by rw [blockedOf, if_pos (whole0 h)]
theorem spoils_tr {s : Ship} (h : someV s = true) : spoilsOf s = ((numbers 0 s.holds.length).filter (fun h => decide (keepsIn s (truths s []) h.toNat [] = 2)), (numbers 0 s.holds.length).filter (fun h => decide (keepsIn s (truths s []) h.toNat [] ≠ 1)), 0) := by rw [spoilsOf, if_pos (whole0 h)]
variable {α : Type}
def flatC (c : α → List AV) : List α → List AV
 | [] => []
 | y :: l => c y ++ flatC c l
structure Cells (enc : α → AV) (c : α → List AV) (sz : Nat) : Prop where
 agg : ∀ x, enc x = .agg (c x)
 len : ∀ x, (c x).length = sz
 one : sz ≠ 1 ∧ sz ≠ 0
 cell : ∀ x, (c x).all (·.cell) = true
 data : ∀ x, Data (enc x)
variable {enc : α → AV} {c : α → List AV} {sz : Nat}
theorem flatC_len (h : Cells enc c sz) : ∀ l, (flatC c l).length = l.length * sz
 | [] => by simp [flatC]
 | y :: l => by simp only [flatC, List.length_append, h.len, List.length_cons, flatC_len h l, Nat.add_mul]; omega
theorem flatC_map (h : Cells enc c sz) : ∀ l : List α, (l.map enc).flatMap AV.cells = flatC c l
 | [] => rfl
 | y :: l => by rw [List.map_cons, List.flatMap_cons, flatC_map h l, h.agg]; rfl
theorem flatC_at (h : Cells enc c sz) : ∀ (l : List α) (k : Nat) (hk : k < l.length), ((flatC c l).drop (k * sz)).take sz = c l[k]
 | [], k, hk => by simp at hk
 | y :: l, 0, hk => by
  simp only [flatC, Nat.zero_mul, List.drop_zero, List.getElem_cons_zero]
  rw [← h.len y, List.take_left]
 | y :: l, k + 1, hk => by
  have := flatC_at h l k (by simpa using hk)
  have e : (k + 1) * sz = (c y).length + k * sz := by rw [h.len, Nat.add_mul]; omega
  simp only [flatC, e, List.getElem_cons_succ]
  rw [List.drop_append, List.drop_eq_nil_of_le (by omega), List.nil_append, Nat.add_sub_cancel_left]
  exact this
theorem flatC_set (h : Cells enc c sz) : ∀ (l : List α) (k : Nat) (z : α), k < l.length → (flatC c l).take (k * sz) ++ c z ++ (flatC c l).drop (k * sz + sz) = flatC c (l.set k z)
 | [], k, z, hk => by simp at hk
 | y :: l, 0, z, hk => by
  simp only [flatC, Nat.zero_mul, List.take_zero, List.nil_append, Nat.zero_add, List.set_cons_zero]
  rw [← h.len y, List.drop_left]
 | y :: l, k + 1, z, hk => by
  have := flatC_set h l k z (by simpa using hk)
  have e : (k + 1) * sz = (c y).length + k * sz := by rw [h.len, Nat.add_mul]; omega
  have e2 : (k + 1) * sz + sz = (c y).length + (k * sz + sz) := by omega
  simp only [flatC, List.set_cons_succ]
  rw [e, show (c y).length + k * sz + sz = (c y).length + (k * sz + sz) by omega, List.take_append, List.drop_append, List.drop_eq_nil_of_le (by omega), List.take_of_length_le (by omega), Nat.add_sub_cancel_left, Nat.add_sub_cancel_left, List.nil_append, ← this]
  simp only [List.append_assoc]
theorem flatC_chop (h : Cells enc c sz) : ∀ l : List α, chop sz l.length (flatC c l) = l.map enc
 | [] => rfl
 | y :: l => by
  have h1 := h.one.1
  simp only [List.length_cons, chop, flatC, List.map_cons, h1, false_and, if_false]
  rw [← h.len y, List.take_left, List.drop_left, h.len y, flatC_chop h l, h.agg]
theorem flatC_all (h : Cells enc c sz) (l : List α) : allCells sz (l.map enc) = true := L_allM sz enc l fun y => by
 rw [h.agg]
 simp only [cellsOk, AV.cells, h.len, beq_self_eq_true, Bool.true_and]
 exact h.cell y
theorem flatC_snapA (h : Cells enc c sz) {σ : St} {m id d : Nat} {l : List α} (hm : ¬ id < m) (hl : cellsAt σ id = some (flatC c l)) : snap σ m (d + 1) (.ref id 0 l.length sz) = some (.lit (l.map enc) false none) := by
 have hv : view σ (.ref id 0 l.length sz) = some (l.map enc) := by
  simp only [view, hl, flatC_len h, Nat.zero_add, Nat.le_refl, if_true, List.drop_zero, flatC_chop h]
 have h0 := h.one.2
 have h1 : decide (0 < sz) = true := by simp; omega
 have hs : snaps σ m d (l.map enc) = some (l.map enc) := snaps_ok0 σ m d _ (datas_map h.data l).1
 simp only [snap, hm, if_false, hv, flatC_all h, h1, Bool.and_self, if_true, hs]
theorem flatC_snap (h : Cells enc c sz) {σ : St} {id : Nat} {l : List α} (hl : cellsAt σ id = some (flatC c l)) : snapM σ 0 20 (.ref id 0 l.length sz) = some (.lit (l.map enc) false none) := by
 rw [snapM, flatC_snapA h (by omega) hl]
 simp [clr, (datas_map h.data l).2]
theorem flatC_apref (h : Cells enc c sz) {b : Nat} {σ : St} {l : List α} (h0 : l ≠ []) (hl : l.length * b ≤ room) (hl2 : l.length ≤ room) : aprefAV sz b σ (.lit [] true none) (.lit (l.map enc) false none) = some (.ref σ.length 0 l.length sz, σ ++ [.cells (flatC c l)]) := by
 have h1 : l.length ≠ 0 := fun e => h0 (List.length_eq_zero_iff.1 e)
 simp only [aprefAV, view, List.length_map, h1, if_false, List.length_nil, Nat.zero_add, List.nil_append, flatC_map h]
 simp [sized, flatC_all h, hl, hl2]
theorem flatC_okVs (h : Cells enc c sz) (m : Nat) (hc : ∀ x, okVs m (c x)) : ∀ l, okVs m (flatC c l)
 | [] => trivial
 | y :: l => okVs_app (hc y) (flatC_okVs h m hc l)
end Go.Am.Room
set_option maxRecDepth 8000
namespace Go.Am.Room
theorem tmod_bd {a n : Int} (ha : 0 ≤ a) (hn : 0 < n) : 0 ≤ a.tmod n ∧ a.tmod n < n := ⟨Int.tmod_nonneg n ha, Int.tmod_lt_of_pos a hn⟩
def toldLine (s : Ship) (bl : List Int) (ns : Nat → Int) (off : Nat → Int) (i : Nat) (y : Line) : Line :=
 { y with marks := max 0 (min 80 (marksAt s y.hold.toNat (ns y.hold.toNat) (cooled bl y.hold.toNat) y.watch.toNat + off i)) }
def told (s : Ship) (bl : List Int) (ns : Nat → Int) (off : Nat → Int) : Ship := { s with log := s.log.mapIdx (toldLine s bl ns off) }
structure TruthOf (s : Ship) (bl : List Int) (ns : Nat → Int) (off : Nat → Int) : Prop where
 set : bl ∈ setsOf s
 starts : ∀ h (hh : h < s.holds.length), s.holds[h].start.lo ≤ ns h ∧ ns h ≤ s.holds[h].start.hi
 off : ∀ i, -1 ≤ off i ∧ off i ≤ 1
theorem told_marks (s : Ship) (bl : List Int) (ns off : Nat → Int) (h : Nat) (n : Int) (c : Bool) : marksAt (told s bl ns off) h n c = marksAt s h n c := funext (marksAt_congr (s := s) (t := told s bl ns off) rfl rfl rfl rfl h n c)
theorem told_len (s : Ship) (bl : List Int) (ns off : Nat → Int) : (told s bl ns off).log.length = s.log.length := by simp [told]
theorem told_at {s : Ship} {bl : List Int} {ns off : Nat → Int} {i : Nat} (hi : i < (told s bl ns off).log.length) : ∃ h : i < s.log.length, (told s bl ns off).log[i] = toldLine s bl ns off i s.log[i] := by
 refine ⟨by rw [told_len] at hi; exact hi, by simp [told]⟩
theorem told_vd {s : Ship} (hv : Vd s) (bl : List Int) (ns off : Nat → Int) : Vd (told s bl ns off) := by
 refine ⟨hv.cold, hv.power, hv.warm, hv.nheat, hv.heat, hv.frm, hv.nholds, hv.holds, by rw [told_len]; exact hv.nlog, fun x hx => ?_⟩
 obtain ⟨i, hi, rfl⟩ := List.getElem_of_mem hx
 obtain ⟨h, e⟩ := told_at hi
 rw [e]
 have := hv.log _ (List.getElem_mem h)
 refine ⟨this.1, this.2.1, ?_⟩
 simp only [toldLine]
 omega
theorem told_starts {s : Ship} (hv : Vd s) {bl : List Int} {ns off : Nat → Int} (ht : TruthOf s bl ns off) {h : Nat} (hh : h < s.holds.length) : ns h ∈ startsOf (told s bl ns off) h bl [] := by
 have hs := ht.starts h hh
 have ho := (hv.holds _ (List.getElem_mem hh)).start
 refine (mem_starts (s := told s bl ns off) hh).2 ⟨hs, lines_iff.2 fun i hi => ?_⟩
 obtain ⟨h1, e⟩ := told_at hi
 rw [e, told_marks]
 have hx := hv.log _ (List.getElem_mem h1)
 have hof := ht.off i
 simp only [lineOk, toldLine]
 by_cases hd : s.log[i].hold = (h : Int)
 ·have hn : s.log[i].hold.toNat = h := by omega
  rw [hn]
  have hb := marks_bd hv (h := h) (n := ns h) (by omega) (cooled bl h) s.log[i].watch.toNat (by omega)
  have : inR (marksAt s h (ns h) (cooled bl h) s.log[i].watch.toNat - max 0 (min 80 (marksAt s h (ns h) (cooled bl h) s.log[i].watch.toNat + off i))) (-1) 1 = true := inR_iff.2 (by omega)
  rw [this]; simp
 ·simp [hd]
theorem told_up (s : Ship) (bl : List Int) (ns off : Nat → Int) : ∀ n, setsUp (told s bl ns off) n = setsUp s n
 | 0 => rfl
 | n + 1 => by simp only [setsUp, told_up s bl ns off n]; rfl
theorem told_truth {s : Ship} (hv : Vd s) {bl : List Int} {ns off : Nat → Int} (ht : TruthOf s bl ns off) : ∃ t ∈ truths (told s bl ns off) [], t.blocked = bl := by
 refine ⟨⟨bl, (List.range s.holds.length).map fun h => startsOf (told s bl ns off) h bl []⟩, mem_truths.2 ⟨?_, rfl, fun h hh => List.ne_nil_of_mem (told_starts hv ht hh)⟩, rfl⟩
 have : setsOf (told s bl ns off) = setsOf s := told_up s bl ns off _
 rw [this]; exact ht.set
theorem told_some {s : Ship} (hv : Vd s) {bl : List Int} {ns off : Nat → Int} (ht : TruthOf s bl ns off) : someB (told s bl ns off) [] = true := by
 obtain ⟨t, h, _⟩ := told_truth hv ht
 simpa [someB] using List.ne_nil_of_mem h
theorem told_course {s : Ship} (hv : Vd s) {bl : List Int} {ns off : Nat → Int} (ht : TruthOf s bl ns off) {h : Nat} (hh : h < s.holds.length) : marksAt s h (ns h) (cooled bl h) ∈ coursesIn (told s bl ns off) (truths (told s bl ns off) []) h [] := by
 obtain ⟨t, h1, e⟩ := told_truth hv ht
 exact (mem_courses (s := told s bl ns off) hh).2 ⟨t, h1, ns h, by rw [e]; exact told_starts hv ht hh, by rw [e, restOf_nil, told_marks]⟩
theorem told_wrong {s : Ship} (hv : Vd s) {bl : List Int} {ns off : Nat → Int} (ht : TruthOf s bl ns off) : wrongL (told s bl ns off) = [] := by
 obtain ⟨a, b, c⟩ := wrong_law (told_vd hv bl ns off)
 have := c 0 [] (nil_choice _) (told_some hv ht)
 cases h : wrongL (told s bl ns off) with
 | nil => rfl
 | cons x l => rw [h] at this; simp [fewer] at this
end Go.Am.Room
set_option maxRecDepth 8000
namespace Go.Am.Room
def QXHHdQA := And.intro @encShip_eq (And.intro @shipCells_eq (And.intro @encHold_eq (And.intro @encLine_eq (And.intro @encSpan_eq (And.intro @S_mapHold (And.intro @S_mapLine (And.intro @T_sapp (And.intro @List.length_append.{0} (And.intro @Int.toNat_natCast (And.intro @S_u8s (@S_mapT)))))))))))
def lineC (x : Line) : List AV := [.int .i64 x.watch, .int .i64 x.hold, .int .i64 x.marks]
theorem lineC_ok : Cells encLine lineC 3 := ⟨fun x => by simp only [encLine, lineC], fun x => rfl, by decide, fun x => rfl, data_line⟩
theorem lineC_okV (m : Nat) (x : Line) : okVs m (lineC x) := ⟨trivial, trivial, trivial, trivial⟩
def setOfX (s : Ship) (x : List Int) : List Int := ((setsOf s)[((turnOf x 0).tmod ((setsOf s).length : Int)).toNat]?).getD []
def nsOf (s : Ship) (x : List Int) (h : Nat) : Int := match s.holds[h]? with | some z => z.start.lo + (turnOf x (1 + h)).tmod (z.start.hi - z.start.lo + 1) | none => 0
def offOf (x : List Int) (i : Nat) : Int := (turnOf x (5 + i)).tmod 3 - 1
def tcrs (s : Ship) (x : List Int) (k : Nat) : List (List Int) := (List.range k).map fun h => course s h (nsOf s x h) (setOfX s x)
theorem tcrs_len (s : Ship) (x : List Int) (k : Nat) : (tcrs s x k).length = k := by simp [tcrs]
theorem tcrs_succ (s : Ship) (x : List Int) (k : Nat) : tcrs s x (k + 1) = tcrs s x k ++ [course s k (nsOf s x k) (setOfX s x)] := by simp [tcrs, List.range_succ]
theorem tcrs_get (s : Ship) (x : List Int) {k h : Nat} (hh : h < (tcrs s x k).length) : (tcrs s x k)[h] = course s h (nsOf s x h) (setOfX s x) := by simp [tcrs]
theorem sets_ne {s : Ship} : 0 < (setsOf s).length := List.length_pos_iff.2 (List.ne_nil_of_mem (blk_set s))
theorem truth_of {s : Ship} (hv : Vd s) {x : List Int} (hx : Bytes x) : TruthOf s (setOfX s x) (nsOf s x) (offOf x) := by
 refine ⟨?_, fun h hh => ?_, fun i => ?_⟩
 ·obtain ⟨j, hj, hl⟩ := nat_rem (turnOf_bd hx 0).1 (sets_ne (s := s))
  rw [setOfX, hj, Int.toNat_natCast, List.getElem?_eq_getElem hl, Option.getD_some]
  exact List.getElem_mem hl
 ·have ho := (hv.holds _ (List.getElem_mem hh)).start
  have ht := (turnOf_bd hx (1 + h)).1
  have := tmod_bd ht (show 0 < s.holds[h].start.hi - s.holds[h].start.lo + 1 by omega)
  simp only [nsOf, List.getElem?_eq_getElem hh]
  omega
 ·have := tmod_bd (turnOf_bd hx (5 + i)).1 (show (0 : Int) < 3 by omega)
  simp only [offOf]; omega
def toldX (s : Ship) (x : List Int) : Ship := told s (setOfX s x) (nsOf s x) (offOf x)
def tlnX (s : Ship) (x : List Int) : Nat → Line → Line := toldLine s (setOfX s x) (nsOf s x) (offOf x)
def toldTo (s : Ship) (x : List Int) (k : Nat) : List Line := (s.log.mapIdx (tlnX s x)).take k ++ s.log.drop k
theorem toldTo_len (s : Ship) (x : List Int) (k : Nat) : (toldTo s x k).length = s.log.length := by simp [toldTo]; omega
theorem toldTo_get (s : Ship) (x : List Int) {k : Nat} (h : k < s.log.length) : (toldTo s x k)[k]'(by rw [toldTo_len]; exact h) = s.log[k] := by
 have hl : ((s.log.mapIdx (tlnX s x)).take k).length = k := by simp; omega
 have e : (toldTo s x k)[k]? = s.log[k]? := by
  simp only [toldTo]
  rw [List.getElem?_append_right (by omega), hl, Nat.sub_self, List.getElem?_drop, Nat.add_zero]
 have hk : k < (toldTo s x k).length := by rw [toldTo_len]; exact h
 rw [List.getElem?_eq_getElem hk, List.getElem?_eq_getElem h] at e
 exact Option.some.inj e
theorem toldTo_set (s : Ship) (x : List Int) {k : Nat} (h : k < s.log.length) : (toldTo s x k).set k (tlnX s x k s.log[k]) = toldTo s x (k + 1) := by
 have hl : ((s.log.mapIdx (tlnX s x)).take k).length = k := by simp; omega
 have hk : k < (s.log.mapIdx (tlnX s x)).length := by simpa using h
 simp only [toldTo]
 rw [List.set_append_right _ _ (by omega), hl, Nat.sub_self, List.drop_eq_getElem_cons h, List.set_cons_zero, List.take_succ_eq_append_getElem hk, List.append_assoc]
 simp
theorem toldTo_end (s : Ship) (x : List Int) : ({ s with log := toldTo s x s.log.length } : Ship) = toldX s x := by
 have : toldTo s x s.log.length = s.log.mapIdx (tlnX s x) := by
  simp only [toldTo, List.drop_length, List.append_nil]
  exact List.take_of_length_le (by simp)
 rw [this]; rfl
theorem crs_at (s : Ship) (h : Nat) (n : Int) (bl : List Int) {w : Nat} (hw : w < (course s h n bl).length) : (course s h n bl)[w] = marksAt s h n (cooled bl h) w := by simp [course, courseOf]
theorem crs_len (s : Ship) (h : Nat) (n : Int) (bl : List Int) : (course s h n bl).length = s.heat.length + 1 := by simp [course, courseOf]
theorem allCells_intsL (l : List (List Int)) : allCells 1 (l.map ints) = true := allCells_ints l
set_option maxHeartbeats 1000000 in
theorem told_ok (s : Ship) (x : List Int) (hv : Vd s) (hx : Bytes x) : Pure T 38 [encShip s, u8s x] (.tuple [encShip (toldX s x), ints (setOfX s x), intss (tcrs s x s.holds.length)]) := by
 refine pure_fn (af := a38) rfl (by simp [a38]) dd ?_
 have hno := hv.nholds
 have hnh := hv.nheat
 have hnl := hv.nlog
 have htr := truth_of hv hx
 obtain ⟨j, hj, hjl⟩ := nat_rem (turnOf_bd hx 0).1 (sets_ne (s := s))
 have hset : (setsOf s)[j] = setOfX s x := by
  rw [setOfX, hj, Int.toNat_natCast, List.getElem?_eq_getElem hjl, Option.getD_some]
 have hsl : (setOfX s x).length ≤ 4 := (sets_small hv).2 _ htr.set
 have hrs := rsets_ok s hv
 obtain ⟨W, hW⟩ : ∃ W, setOfX s x = W := ⟨_, rfl⟩
 obtain ⟨A, hA⟩ : ∃ A, setsOf s = A := ⟨_, rfl⟩
 have hAne : ((A.length : Nat) : Int) ≠ 0 := by have := sets_ne (s := s); rw [hA] at this; omega
 have hAW : ∃ h2 : j < A.length, A[j] = W := by subst hA; exact ⟨hjl, by rw [hset, hW]⟩
 rw [hA] at hj hrs
 obtain ⟨hjA, hset2⟩ := hAW
 obtain ⟨N, hN⟩ : ∃ N, s.holds.length = N := ⟨_, rfl⟩
 rw [hW] at hsl
 obtain ⟨R, hR⟩ : ∃ R, encShip (toldX s x) = R := ⟨_, rfl⟩
 rw [hR]
 (repeat (first | simp only [↓QA, QB, Nat.reduceLT, reduceIte, Nat.reduceEqDiff, Nat.reduceAdd, Nat.reduceLeDiff, Nat.reduceMul, Nat.reduceBEq, QXHHdQA, a38, u8s] | refine rd0 rfl ?_))
 ((first | refine callK_d (hrs) rfl dd ?_ | refine callD_d (hrs) rfl dd ?_); (repeat (first | simp only [↓QA, QB, Nat.reduceLT, reduceIte, Nat.reduceEqDiff, Nat.reduceAdd, Nat.reduceLeDiff, Nat.reduceMul, Nat.reduceBEq, QXHHdQA, intss] | refine rd0 rfl ?_)))
 ((first | refine callK_d (turn_ok x 0 hx (by omega)) rfl dd ?_ | refine callD_d (turn_ok x 0 hx (by omega)) rfl dd ?_); (repeat (first | simp only [↓QA, QB, Nat.reduceLT, reduceIte, Nat.reduceEqDiff, Nat.reduceAdd, Nat.reduceLeDiff, Nat.reduceMul, Nat.reduceBEq, QXHHdQA, V_rem _ _ _ hAne, hj, hjA, hset2] | refine rd0 rfl ?_)))
 refine loopE (S := Nat) 0 (fun k => k ≤ N) (fun k => N - k)
  (fun k => [(1, u8s x), (2, .ptr 0 0), (4, .ptr 1 0), (8, ints W), (9, .lit ((tcrs s x k).map ints) (k == 0) none), (10, .int .i64 k)])
  (fun k => [.cells (shipCells s), .cells [.int .i64 0, .int .i64 0, .int .i64 0, .lit [] true none, .int .i64 0, .lit [] true none, .lit [] true none]]) (by simp) (by simp [shipCells, ints]) ?_ fun k hk => ?_
 ·try simp only [TrimX, QE, Nat.reduceLT, reduceIte, Nat.reduceEqDiff, Nat.reduceAdd, Nat.reduceLeDiff, Nat.reduceMul, Nat.reduceBEq, QXHHdQA, u8s]
  try simp [tcrs]
 ·(repeat (first | simp only [↓QA, QB, Nat.reduceLT, reduceIte, Nat.reduceEqDiff, Nat.reduceAdd, Nat.reduceLeDiff, Nat.reduceMul, Nat.reduceBEq, QXHHdQA, L38_0, u8s, hN] | refine rd0 rfl ?_))
  refine iteP_intro (fun h => ?_) fun h => ?_
  ·have hk1 : k < s.holds.length := by rw [hN]; simpa using h
   have hw := wrapN hk1 (by omega)
   have hw1 : IntKind.i64.wrap (1 + (k : Int)) = ((1 + k : Nat) : Int) := by rw [wrap64 ⟨by omega, by omega⟩]; omega
   obtain ⟨z, hz⟩ : ∃ z, s.holds[k] = z := ⟨_, rfl⟩
   have ho := (hv.holds _ (List.getElem_mem hk1)).start
   have hst := htr.starts k hk1
   rw [hz] at ho hst
   have hns : nsOf s x k = z.start.lo + (turnOf x (1 + k)).tmod (z.start.hi - z.start.lo + 1) := by simp only [nsOf, List.getElem?_eq_getElem hk1, hz]
   have w1 : IntKind.i64.wrap (z.start.hi - z.start.lo) = z.start.hi - z.start.lo := wrap64 ⟨by omega, by omega⟩
   have w2 : IntKind.i64.wrap (z.start.hi - z.start.lo + 1) = z.start.hi - z.start.lo + 1 := wrap64 ⟨by omega, by omega⟩
   have w3 : IntKind.i64.wrap (z.start.lo + (turnOf x (1 + k)).tmod (z.start.hi - z.start.lo + 1)) = nsOf s x k := by rw [hns]; exact wrap64 ⟨by omega, by omega⟩
   have hrem := V_rem .i64 (turnOf x (1 + k)) (z.start.hi - z.start.lo + 1) (by omega)
   have hcs := rcourse_ok s hv k (by omega) (nsOf s x k) (by omega) W (by omega)
   have hcl := tcrs_len s x k
   have hsu := tcrs_succ s x k
   rw [hW] at hsu
   obtain ⟨C, hC⟩ : ∃ C, course s k (nsOf s x k) W = C := ⟨_, rfl⟩
   rw [hC] at hcs hsu
   obtain ⟨Z, hZ⟩ : ∃ Z, tcrs s x k = Z := ⟨_, rfl⟩
   rw [hZ] at hcl hsu
   rw [hZ]
   by_cases hk0 : k = 0
   ·subst hk0
    have hZ0 : Z = [] := List.length_eq_zero_iff.1 hcl
    subst hZ0
    have q2 : ∀ (σ : St), appendAV 1 24 σ (.lit [] true none) (.lit [ints C] true none) = some (.lit [ints C] false (some σ.length), σ ++ [.tok 1 1 true]) := fun σ => app_full (xs := []) ⟨rfl, allCells_intsL [C], by simp [room], by simp [room]⟩ (by simp)
    simp only [ints_def] at q2
    (repeat (first | simp only [↓QA, QB, Nat.reduceLT, reduceIte, Nat.reduceEqDiff, Nat.reduceAdd, Nat.reduceLeDiff, Nat.reduceMul, Nat.reduceBEq, QXHHdQA, hk1, hz, hw1, w1, w2, List.map_nil] | refine rd0 rfl ?_))
    ((first | refine callK_d (turn_ok x (1 + 0) hx (by omega)) rfl dd ?_ | refine callD_d (turn_ok x (1 + 0) hx (by omega)) rfl dd ?_); (repeat (first | simp only [↓QA, QB, Nat.reduceLT, reduceIte, Nat.reduceEqDiff, Nat.reduceAdd, Nat.reduceLeDiff, Nat.reduceMul, Nat.reduceBEq, QXHHdQA, hrem, w1, w2, w3, app_nil] | refine rd0 rfl ?_)))
    ((first | refine callK_d (hcs) rfl dd ?_ | refine callD_d (hcs) rfl dd ?_); (repeat (first | simp only [↓QA, QB, Nat.reduceLT, reduceIte, Nat.reduceEqDiff, Nat.reduceAdd, Nat.reduceLeDiff, Nat.reduceMul, Nat.reduceBEq, QXHHdQA, q2, hw] | refine rd0 rfl ?_)))
    refine ⟨0 + 1, by omega, by omega, ?_⟩
    try simp only [TrimX, QE, Nat.reduceLT, reduceIte, Nat.reduceEqDiff, Nat.reduceAdd, Nat.reduceLeDiff, Nat.reduceMul, Nat.reduceBEq, QXHHdQA, hw, u8s, hsu]
    try simp [okBlk, ints]
   ·have hkb : (k == 0) = false := by simpa using hk0
    have hal := allCells_intsL Z
    have q1 : ∀ σ : St, appendAV 1 24 σ (.lit [] true none) (.lit (Z.map ints) false none) = some (.lit (Z.map ints) false (some σ.length), σ ++ [.tok 1 k true]) := fun σ => by
     rw [app_full (xs := []) ⟨rfl, hal, by simp [room, hcl]; omega, by simp [room, hcl]; omega⟩ (by simp [hcl]; exact hk0)]; simp [hcl]
    have q2 : ∀ (b0 b1 b2 : ABlk) (τ : St), appendAV 1 24 (b0 :: b1 :: b2 :: .tok 1 k true :: τ) (.lit (Z.map ints) false (some 3)) (.lit [ints C] true none) = some (.lit ((Z ++ [C]).map ints) false (some 3), b0 :: b1 :: b2 :: .tok 1 (k + 1) true :: τ) := fun b0 b1 b2 τ => by
     have := app_tok (σ := b0 :: b1 :: b2 :: .tok 1 k true :: τ) (sz := 1) (b := 24) (xs := Z.map ints) (ys := [ints C]) (t := 3) (tk := none) (f := true) (ex := true) ⟨hal, allCells_intsL [C], by simp [room, hcl]; omega, by simp [room, hcl]; omega⟩ (by simp) (by simp [hcl])
     simpa [hcl] using this
    simp only [ints_def] at q2
    (repeat (first | simp only [↓QA, QB, Nat.reduceLT, reduceIte, Nat.reduceEqDiff, Nat.reduceAdd, Nat.reduceLeDiff, Nat.reduceMul, Nat.reduceBEq, QXHHdQA, hk1, hz, hkb, hw1, w1, w2] | refine rd0 rfl ?_))
    ((first | refine callK_d (turn_ok x (1 + k) hx (by omega)) rfl dd ?_ | refine callD_d (turn_ok x (1 + k) hx (by omega)) rfl dd ?_); (repeat (first | simp only [↓QA, QB, Nat.reduceLT, reduceIte, Nat.reduceEqDiff, Nat.reduceAdd, Nat.reduceLeDiff, Nat.reduceMul, Nat.reduceBEq, QXHHdQA, hrem, w1, w2, w3, q1] | refine rd0 rfl ?_)))
    ((first | refine callK_d (hcs) rfl dd ?_ | refine callD_d (hcs) rfl dd ?_); (repeat (first | simp only [↓QA, QB, Nat.reduceLT, reduceIte, Nat.reduceEqDiff, Nat.reduceAdd, Nat.reduceLeDiff, Nat.reduceMul, Nat.reduceBEq, QXHHdQA, q2, hw] | refine rd0 rfl ?_)))
    refine ⟨k + 1, by omega, by omega, ?_⟩
    try simp only [TrimX, QE, Nat.reduceLT, reduceIte, Nat.reduceEqDiff, Nat.reduceAdd, Nat.reduceLeDiff, Nat.reduceMul, Nat.reduceBEq, QXHHdQA, hw, u8s, hsu]
    try simp [okBlk]
  ·have hk1 : k = N := by simp at h; omega
   subst hk1
   have hkb : (k == 0) = false := by simp; omega
   have hcl := tcrs_len s x k
   have hcg := fun {h} (hh : h < (tcrs s x k).length) => tcrs_get s x hh
   rw [hW] at hcg
   obtain ⟨Z, hZ⟩ : ∃ Z, tcrs s x k = Z := ⟨_, rfl⟩
   rw [hZ] at hcl
   have hcg2 : ∀ h (hh : h < Z.length), Z[h] = course s h (nsOf s x h) W := by subst hZ; exact fun h hh => hcg hh
   clear hcg
   rw [hN, hZ]
   by_cases hlk : s.log = []
   ·have e : toldX s x = s := by
     have h1 : s.log.mapIdx (tlnX s x) = s.log := by rw [hlk]; rfl
     show ({ s with log := s.log.mapIdx (tlnX s x) } : Ship) = s
     rw [h1]
    rw [← hR, e, hW]
    have hnil : List.map encLine s.log = [] := by rw [hlk]; rfl
    have hap0 : ∀ σ : St, aprefAV 3 24 σ (.lit [] true none) (.lit [] false none) = some (.lit [] true none, σ) := fun σ => by simp [aprefAV, view]
    (repeat (first | simp only [↓QA, QB, Nat.reduceLT, reduceIte, Nat.reduceEqDiff, Nat.reduceAdd, Nat.reduceLeDiff, Nat.reduceMul, Nat.reduceBEq, QXHHdQA, hnil, hap0] | refine rd0 rfl ?_))
    refine loopE (S := Unit) () (fun _ => True) (fun _ => 0) (fun _ => [(2, .ptr 0 0), (4, .ptr 1 0), (8, ints W), (9, intss Z), (13, .int .i64 0)])
     (fun _ => [.cells [.int .i64 s.cold, .int .i64 s.power, .int .i64 s.warm, .lit (s.heat.map (.int .i64)) false none, .int .i64 s.frm, .lit (s.holds.map encHold) false none, .lit [] true none], .cells [.int .i64 0, .int .i64 0, .int .i64 0, .lit [] true none, .int .i64 0, .lit [] true none, .lit [] true none]]) trivial rfl ?_ fun _ _ => ?_
    ·try simp only [TrimX, QE, Nat.reduceLT, reduceIte, Nat.reduceEqDiff, Nat.reduceAdd, Nat.reduceLeDiff, Nat.reduceMul, Nat.reduceBEq, QXHHdQA, hkb]
     try simp [intss]
    ·(repeat (first | simp only [↓QA, QB, Nat.reduceLT, reduceIte, Nat.reduceEqDiff, Nat.reduceAdd, Nat.reduceLeDiff, Nat.reduceMul, Nat.reduceBEq, QXHHdQA, L38_2, show decide ((0 : Int) < ((0 : Nat) : Int)) = false from rfl, intss] | refine rd0 rfl ?_))
     rw [hnil]
   ·obtain ⟨M, hM⟩ : ∃ M, s.log.length = M := ⟨_, rfl⟩
    have hh0 : toldTo s x 0 = s.log := by simp [toldTo]
    have hhl : ∀ i, (toldTo s x i).length = M := fun i => by rw [toldTo_len, hM]
    have hfl : ∀ i, (flatC lineC (toldTo s x i)).length = M * 3 := fun i => by rw [flatC_len lineC_ok, hhl]
    have hap := fun σ : St => flatC_apref lineC_ok (b := 24) (σ := σ) hlk (by simp [room]; omega) (by simp [room]; omega)
    rw [hM] at hap
    (repeat (first | simp only [↓QA, QB, Nat.reduceLT, reduceIte, Nat.reduceEqDiff, Nat.reduceAdd, Nat.reduceLeDiff, Nat.reduceMul, Nat.reduceBEq, QXHHdQA, hap, hM] | refine rd0 rfl ?_))
    refine loopE (S := Nat) 0 (fun i => i ≤ M) (fun i => M - i) (fun i => [(1, u8s x), (2, .ptr 0 0), (4, .ptr 1 0), (8, ints W), (9, intss Z), (13, .int .i64 i)])
     (fun i => [.cells [.int .i64 s.cold, .int .i64 s.power, .int .i64 s.warm, .lit (s.heat.map (.int .i64)) false none, .int .i64 s.frm, .lit (s.holds.map encHold) false none, .ref 2 0 M 3], .cells [.int .i64 0, .int .i64 0, .int .i64 0, .lit [] true none, .int .i64 0, .lit [] true none, .lit [] true none], .cells (flatC lineC (toldTo s x i))]) (by simp) (by rw [hh0]) ?_ fun i hi => ?_
    ·try simp only [TrimX, QE, Nat.reduceLT, reduceIte, Nat.reduceEqDiff, Nat.reduceAdd, Nat.reduceLeDiff, Nat.reduceMul, Nat.reduceBEq, QXHHdQA, hkb, u8s]
     try simp [intss]
    ·(repeat (first | simp only [↓QA, QB, Nat.reduceLT, reduceIte, Nat.reduceEqDiff, Nat.reduceAdd, Nat.reduceLeDiff, Nat.reduceMul, Nat.reduceBEq, QXHHdQA, L38_2, intss, u8s] | refine rd0 rfl ?_))
     refine iteP_intro (fun h2 => ?_) fun h2 => ?_
     ·have hi1 : i < s.log.length := by rw [hM]; simpa using h2
      have hw := wrapN hi1 (by omega)
      have hw5 : IntKind.i64.wrap (5 + (i : Int)) = ((5 + i : Nat) : Int) := by rw [wrap64 ⟨by omega, by omega⟩]; omega
      have i1 : (0 : Int) ≤ (i : Int) ∧ (i : Int) < ((M : Nat) : Int) ∧ 3 = 3 := ⟨by omega, by omega, rfl⟩
      have c1 : i * 3 + 3 ≤ M * 3 := by omega
      obtain ⟨y, hy⟩ : ∃ y, s.log[i] = y := ⟨_, rfl⟩
      have hly := hv.log _ (List.getElem_mem hi1)
      rw [hy] at hly
      have hat := flatC_at lineC_ok (toldTo s x i) i (by rw [hhl]; omega)
      rw [toldTo_get s x hi1, hy] at hat
      have hset := flatC_set lineC_ok (toldTo s x i) i (tlnX s x i y) (by rw [hhl]; omega)
      rw [← hy, toldTo_set s x hi1, hy] at hset
      have hh1 : y.hold.toNat < Z.length := by omega
      have hZg := hcg2 _ hh1
      have hwl : y.watch.toNat < (course s y.hold.toNat (nsOf s x y.hold.toNat) W).length := by rw [crs_len]; omega
      have hcw := crs_at s y.hold.toNat (nsOf s x y.hold.toNat) W hwl
      have hh0' : 0 ≤ y.hold := hly.1.1
      have hw0 : 0 ≤ y.watch := hly.2.1.1
      have hof := tmod_bd (turnOf_bd hx (5 + i)).1 (show (0 : Int) < 3 by omega)
      have hmb := marks_bd hv (h := y.hold.toNat) (n := nsOf s x y.hold.toNat) (by
       have hq : y.hold.toNat < s.holds.length := by omega
       have a := htr.starts _ hq
       have b := (hv.holds _ (List.getElem_mem hq)).start
       omega) (cooled W y.hold.toNat) y.watch.toNat (by omega)
      simp only [lineC] at hat
      have etl : tlnX s x i y = ⟨y.watch, y.hold, max 0 (min 80 (marksAt s y.hold.toNat (nsOf s x y.hold.toNat) (cooled W y.hold.toNat) y.watch.toNat + ((turnOf x (5 + i)).tmod 3 - 1)))⟩ := by
       simp only [tlnX, toldLine, hW, offOf]
      rw [etl] at hset
      simp only [lineC] at hset
      obtain ⟨V, hV⟩ : ∃ V, marksAt s y.hold.toNat (nsOf s x y.hold.toNat) (cooled W y.hold.toNat) y.watch.toNat = V := ⟨_, rfl⟩
      rw [hV] at hcw hset hmb
      obtain ⟨C, hC⟩ : ∃ C, course s y.hold.toNat (nsOf s x y.hold.toNat) W = C := ⟨_, rfl⟩
      simp only [hC] at hZg hwl hcw
      have wa : IntKind.i64.wrap ((turnOf x (5 + i)).tmod 3 - 1) = (turnOf x (5 + i)).tmod 3 - 1 := wrap64 ⟨by omega, by omega⟩
      have wb : IntKind.i64.wrap (V + ((turnOf x (5 + i)).tmod 3 - 1)) = V + ((turnOf x (5 + i)).tmod 3 - 1) := wrap64 ⟨by omega, by omega⟩
      have hrem := V_rem .i64 (turnOf x (5 + i)) 3 (by decide)
      (repeat (first | simp only [↓QA, QB, Nat.reduceLT, reduceIte, Nat.reduceEqDiff, Nat.reduceAdd, Nat.reduceLeDiff, Nat.reduceMul, Nat.reduceBEq, QXHHdQA, i1, c1, hfl, hat, hw5, Nat.zero_add] | refine rd0 rfl ?_))
      ((first | refine callK_d (turn_ok x (5 + i) hx (by omega)) rfl dd ?_ | refine callD_d (turn_ok x (5 + i) hx (by omega)) rfl dd ?_); (repeat (first | simp only [↓QA, QB, Nat.reduceLT, reduceIte, Nat.reduceEqDiff, Nat.reduceAdd, Nat.reduceLeDiff, Nat.reduceMul, Nat.reduceBEq, QXHHdQA, i1, c1, hfl, hset, hrem, wa, wb, V_idxI, hh0', hw0, hh1, hZg, hwl, hcw, hw, Nat.zero_add, ints_def] | refine rd0 rfl ?_)))
      refine ⟨i + 1, by omega, by omega, ?_⟩
      try simp only [TrimX, QE, Nat.reduceLT, reduceIte, Nat.reduceEqDiff, Nat.reduceAdd, Nat.reduceLeDiff, Nat.reduceMul, Nat.reduceBEq, QXHHdQA, hw, u8s]
      have := flatC_okVs lineC_ok 3 (lineC_okV 3) (toldTo s x (i + 1))
      simp [okBlk, this]
     ·have hi1 : i = s.log.length := by rw [hM]; simp at h2; omega
      subst hi1
      have hend := toldTo_end s x
      have hsl2 := toldTo_len s x s.log.length
      obtain ⟨L, hL⟩ : ∃ L, toldTo s x s.log.length = L := ⟨_, rfl⟩
      rw [hL] at hend hsl2
      have hML : M = L.length := by omega
      have hsn : ∀ (b0 b1 : ABlk) (τ : St), snapM (b0 :: b1 :: .cells (flatC lineC L) :: τ) 0 20 (.ref 2 0 M 3) = some (.lit (L.map encLine) false none) := fun b0 b1 τ => by
       rw [hML]
       exact flatC_snap lineC_ok (by simp [cellsAt])
      rw [hL]
      have eT : encShip (toldX s x) = .agg [.int .i64 s.cold, .int .i64 s.power, .int .i64 s.warm, .lit (s.heat.map (.int .i64)) false none, .int .i64 s.frm, .lit (s.holds.map encHold) false none, .lit (L.map encLine) false none] := by
       rw [← hend]; simp only [encShip, shipCells, ints]
      rw [← hR, eT, hW]
      (repeat (first | simp only [↓QA, QB, Nat.reduceLT, reduceIte, Nat.reduceEqDiff, Nat.reduceAdd, Nat.reduceLeDiff, Nat.reduceMul, Nat.reduceBEq, QXHHdQA, hsn, intss] | refine rd0 rfl ?_))
theorem reachedFrom_some {c : Nat → Int} {most : Int} : ∀ (k w i : Nat), w ≤ i → i < w + k → c i ≤ most → 0 ≤ reachedFrom c most k w
 | 0, w, i, h1, h2, _ => by omega
 | k + 1, w, i, h1, h2, h3 => by
  simp only [reachedFrom]
  split
  ·omega
  ·rename_i hn
   refine reachedFrom_some k (w + 1) i ?_ (by omega) h3
   by_cases e : w = i
   ·subst e; exact absurd h3 hn
   ·omega
theorem reaches_told {d : Ship} (hs : someV d = true) {h w : Nat} (hh : h < d.holds.length) {c : Nat → Int} (hc : c ∈ coursesIn d (truths d []) h []) (hw : w ≤ d.heat.length) (hb : 0 ≤ c w ∧ c w ≤ 80) :
  ∃ S how, reachesOf d h (c w) = (S, how, 0) ∧ how ≠ 2 ∧ S.lo ≤ reached d c (c w) ∧ reached d c (c w) ≤ S.hi := by
 have he : reachesErr d h (c w) = 0 := by
  have hi : inR (c w) 0 80 = true := inR_iff.2 (by omega)
  rw [reachesErr, asked0 (some_iff.1 hs).1 hh]
  simp [errWithin, hi, known0 hs]
 have h0 : 0 ≤ reached d c (c w) := reachedFrom_some _ 0 w (by omega) (by omega) (Int.le_refl _)
 obtain ⟨R, hR⟩ : ∃ R, reached d c (c w) = R := ⟨_, rfl⟩
 rw [hR] at h0 ⊢
 have hm : R ∈ ((coursesIn d (truths d []) h []).map fun q => reached d q (c w)).filter fun v => decide (0 ≤ v) := by
  rw [List.mem_filter]
  exact ⟨List.mem_map.2 ⟨c, hc, hR⟩, by simpa using h0⟩
 refine ⟨_, _, by rw [reachesOf, if_pos he], ?_, ?_⟩
 ·intro e
  rw [Int.toNat_natCast, show (coursesIn d (truths d []) h []).length = ((coursesIn d (truths d []) h []).map fun q => reached d q (c w)).length by simp, settled_two] at e
  have := e.2 R (List.mem_map.2 ⟨c, hc, hR⟩)
  simp at this; omega
 ·simp only [Int.toNat_natCast]
  exact (spanL_spec (List.ne_nil_of_mem hm)).2.2 R hm
theorem span_told {d : Ship} {h w : Nat} {c : Nat → Int} (hc : c ∈ coursesIn d (truths d []) h []) : (spanAt d h w).lo ≤ c w ∧ c w ≤ (spanAt d h w).hi := by
 have hm : c w ∈ (coursesIn d (truths d []) h []).map fun c => c w := List.mem_map.2 ⟨c, hc, rfl⟩
 exact (spanL_spec (List.ne_nil_of_mem hm)).2.2 _ hm
end Go.Am.Room
set_option maxRecDepth 8000
namespace Go.Am.Room
def QXHHdQB := And.intro @encShip_eq (And.intro @shipCells_eq (And.intro @encHold_eq (And.intro @encLine_eq (And.intro @encSpan_eq (And.intro @S_mapHold (And.intro @S_mapLine (And.intro @T_sapp (And.intro @List.length_append.{0} (And.intro @Int.toNat_natCast (And.intro @S_u8s (@S_mapT)))))))))))
set_option maxHeartbeats 2000000 in
theorem holdtrue_ok (s : Ship) (x : List Int) (hf : Fits s) (hx : Bytes x) : Pure T 8 [encShip s, u8s x] (.bool true) := by
 refine pure_fn (af := a8) rfl (by simp [a8]) dd ?_
 by_cases hc : (check s).2.2 = 0
 ·have hd0 : decide ((check s).2.2 = 0) = true := by simpa using hc
  have hv := vd_of_check hc
  have hno := hv.nholds
  have hnh := hv.nheat
  have htr := truth_of hv hx
  have hvd : Vd (toldX s x) := told_vd hv _ _ _
  have hsd : someV (toldX s x) = true := some_iff.2 ⟨by rw [check_of_vd hvd], told_some hv htr⟩
  have hfd : Fits (toldX s x) := ⟨hf.heat, hf.holds, by have := told_len s (setOfX s x) (nsOf s x) (offOf x); show (told s _ _ _).log.length < _; rw [this]; exact hf.log⟩
  have hwr : wrongOf (toldX s x) = ([], 0) := by
   have : wrongL (toldX s x) = [] := told_wrong hv htr
   rw [wrongOf, if_pos (by rw [check_of_vd hvd]), this]
  have hbl : blockedOf (toldX s x) = ((numbers 0 s.holds.length).filter (sureBl (truths (toldX s x) [])), (numbers 0 s.holds.length).filter (mayBl (truths (toldX s x) [])), 0) := blocked_tr hsd
  have hsp : spoilsOf (toldX s x) = ((numbers 0 s.holds.length).filter (fun h => decide (keepsIn (toldX s x) (truths (toldX s x) []) h.toNat [] = 2)), (numbers 0 s.holds.length).filter (fun h => decide (keepsIn (toldX s x) (truths (toldX s x) []) h.toNat [] ≠ 1)), 0) := spoils_tr hsd
  obtain ⟨t, ht, htb⟩ : ∃ t ∈ truths (toldX s x) [], t.blocked = setOfX s x := told_truth hv htr
  have hcrs : ∀ h, h < s.holds.length → marksAt s h (nsOf s x h) (cooled (setOfX s x) h) ∈ coursesIn (toldX s x) (truths (toldX s x) []) h [] := fun h hh => told_course hv htr hh
  have hset : ∀ y ∈ setOfX s x, 0 ≤ y ∧ y < s.holds.length := fun y hy => by
   exact setok_lt (mem_sets.1 htr.set) hy
  have htold := told_ok s x hv hx
  have hlen := tcrs_len s x s.holds.length
  have hget := fun {h} (hh : h < (tcrs s x s.holds.length).length) => tcrs_get s x hh
  have hns : ∀ h, h < s.holds.length → 0 ≤ nsOf s x h ∧ nsOf s x h ≤ 80 := fun h hh => by
   have a := htr.starts h hh
   have b := (hv.holds _ (List.getElem_mem hh)).start
   omega
  obtain ⟨d, hd⟩ : ∃ d, toldX s x = d := ⟨_, rfl⟩
  have hdh : d.heat.length = s.heat.length := by rw [← hd]; rfl
  have hdn : d.holds.length = s.holds.length := by rw [← hd]; rfl
  rw [hd] at hvd hsd hfd hwr hbl hsp ht hcrs htold
  obtain ⟨W, hW⟩ : ∃ W, setOfX s x = W := ⟨_, rfl⟩
  rw [hW] at htb hcrs hset htold
  have hWl : W.length ≤ 4 := by rw [← hW]; exact (sets_small hv).2 _ htr.set
  have bl := blocked_len d
  have sl := spoils_len d
  rw [hbl] at bl
  rw [hsp] at sl
  have s1 : ((numbers 0 s.holds.length).filter (sureBl (truths d []))).all W.contains = true := by
   rw [List.all_eq_true]
   intro v hv1
   have := List.all_eq_true.1 (List.mem_filter.1 hv1).2 t ht
   rwa [htb] at this
  have s2 : W.all ((numbers 0 s.holds.length).filter (mayBl (truths d []))).contains = true := by
   rw [List.all_eq_true]
   intro v hv1
   rw [List.contains_iff_mem, List.mem_filter, numbers_mem]
   refine ⟨by have := hset v hv1; omega, List.any_eq_true.2 ⟨t, ht, by rw [htb]; simpa using hv1⟩⟩
  have hbad : ∀ h : Nat, h < s.holds.length → keptOf d h (marksAt s h (nsOf s x h) (cooled W h)) = true → ((numbers 0 s.holds.length).filter (fun h => decide (keepsIn d (truths d []) h.toNat [] = 2))).contains (h : Int) = false := fun h hh hk => by
   rw [Bool.eq_false_iff]
   intro hcn
   rw [List.contains_iff_mem, List.mem_filter, decide_eq_true_eq, Int.toNat_natCast] at hcn
   have := (keepsIn_two.1 hcn.2).2 _ (hcrs h hh)
   rw [hk] at this; cases this
  have hper : ∀ h : Nat, h < s.holds.length → keptOf d h (marksAt s h (nsOf s x h) (cooled W h)) = false → ((numbers 0 s.holds.length).filter (fun h => decide (keepsIn d (truths d []) h.toNat [] ≠ 1))).contains (h : Int) = true := fun h hh hk => by
   rw [List.contains_iff_mem, List.mem_filter, decide_eq_true_eq, Int.toNat_natCast, numbers_mem]
   refine ⟨by omega, fun h1 => ?_⟩
   have := keepsIn_one.1 h1 _ (hcrs h hh)
   rw [hk] at this; cases this
  obtain ⟨S1, hS1⟩ : ∃ S1, (numbers 0 s.holds.length).filter (sureBl (truths d [])) = S1 := ⟨_, rfl⟩
  obtain ⟨M1, hM1⟩ : ∃ M1, (numbers 0 s.holds.length).filter (mayBl (truths d [])) = M1 := ⟨_, rfl⟩
  obtain ⟨B1, hB1⟩ : ∃ B1, (numbers 0 s.holds.length).filter (fun h => decide (keepsIn d (truths d []) h.toNat [] = 2)) = B1 := ⟨_, rfl⟩
  obtain ⟨P1, hP1⟩ : ∃ P1, (numbers 0 s.holds.length).filter (fun h => decide (keepsIn d (truths d []) h.toNat [] ≠ 1)) = P1 := ⟨_, rfl⟩
  rw [hS1, hM1] at hbl bl
  rw [hB1, hP1] at hsp sl
  rw [hS1] at s1
  rw [hM1] at s2
  rw [hB1] at hbad
  rw [hP1] at hper
  simp only at bl sl
  obtain ⟨N, hN⟩ : ∃ N, s.holds.length = N := ⟨_, rfl⟩
  rw [hN] at hlen hget htold
  obtain ⟨Z, hZ⟩ : ∃ Z, tcrs s x N = Z := ⟨_, rfl⟩
  rw [hW] at hget
  have hget2 : ∀ h (hh : h < Z.length), Z[h] = course s h (nsOf s x h) W := by subst hZ; exact fun h hh => hget hh
  clear hget
  rw [hZ] at hlen htold
  have okz : ((0 : Int) == 0) = true := rfl
  have gz : decide ((0 : Int) < ((0 : Nat) : Int)) = false := rfl
  (repeat (first | simp only [↓QA, QB, Nat.reduceLT, reduceIte, Nat.reduceEqDiff, Nat.reduceAdd, Nat.reduceLeDiff, Nat.reduceMul, Nat.reduceBEq, QXHHdQB, a8, u8s] | refine rd0 rfl ?_))
  ((first | refine callK_d (valid_ok s hf) rfl dd ?_ | refine callD_d (valid_ok s hf) rfl dd ?_); (repeat (first | simp only [↓QA, QB, Nat.reduceLT, reduceIte, Nat.reduceEqDiff, Nat.reduceAdd, Nat.reduceLeDiff, Nat.reduceMul, Nat.reduceBEq, QXHHdQB, hd0] | refine rd0 rfl ?_)))
  ((first | refine callK_d (htold) rfl dd ?_ | refine callD_d (htold) rfl dd ?_); (repeat (first | simp only [↓QA, QB, Nat.reduceLT, reduceIte, Nat.reduceEqDiff, Nat.reduceAdd, Nat.reduceLeDiff, Nat.reduceMul, Nat.reduceBEq, QXHHdQB, intss] | refine rd0 rfl ?_)))
  ((first | refine callK_d (pwrong_ok d hfd) rfl dd ?_ | refine callD_d (pwrong_ok d hfd) rfl dd ?_); (repeat (first | simp only [↓QA, QB, Nat.reduceLT, reduceIte, Nat.reduceEqDiff, Nat.reduceAdd, Nat.reduceLeDiff, Nat.reduceMul, Nat.reduceBEq, QXHHdQB, hwr, encLE] | refine rd0 rfl ?_)))
  ((first | refine callK_d (pblocked_ok d hfd) rfl dd ?_ | refine callD_d (pblocked_ok d hfd) rfl dd ?_); (repeat (first | simp only [↓QA, QB, Nat.reduceLT, reduceIte, Nat.reduceEqDiff, Nat.reduceAdd, Nat.reduceLeDiff, Nat.reduceMul, Nat.reduceBEq, QXHHdQB, hbl, encLLE] | refine rd0 rfl ?_)))
  ((first | refine callK_d (pspoils_ok d hfd) rfl dd ?_ | refine callD_d (pspoils_ok d hfd) rfl dd ?_); (repeat (first | simp only [↓QA, QB, Nat.reduceLT, reduceIte, Nat.reduceEqDiff, Nat.reduceAdd, Nat.reduceLeDiff, Nat.reduceMul, Nat.reduceBEq, QXHHdQB, hsp, encLLE, okz, gz, List.map_nil] | refine rd0 rfl ?_)))
  ((first | refine callK_d (subset_ok S1 W (by omega) (by omega)) rfl dd ?_ | refine callD_d (subset_ok S1 W (by omega) (by omega)) rfl dd ?_); (repeat (first | simp only [↓QA, QB, Nat.reduceLT, reduceIte, Nat.reduceEqDiff, Nat.reduceAdd, Nat.reduceLeDiff, Nat.reduceMul, Nat.reduceBEq, QXHHdQB, s1] | refine rd0 rfl ?_)))
  ((first | refine callK_d (subset_ok W M1 (by omega) (by omega)) rfl dd ?_ | refine callD_d (subset_ok W M1 (by omega) (by omega)) rfl dd ?_); (repeat (first | simp only [↓QA, QB, Nat.reduceLT, reduceIte, Nat.reduceEqDiff, Nat.reduceAdd, Nat.reduceLeDiff, Nat.reduceMul, Nat.reduceBEq, QXHHdQB, s2] | refine rd0 rfl ?_)))
  refine loopE (S := Nat) 0 (fun h => h ≤ N) (fun h => N - h) (fun h => [(7, .ptr 1 0), (9, intss Z), (15, ints B1), (16, ints P1), (18, .int .i64 h)]) (fun _ => [.cells (shipCells s), .cells (shipCells d)]) (by simp) (by simp [shipCells, ints]) ?_ fun h hh => ?_
  ·try simp only [TrimX, QE, Nat.reduceLT, reduceIte, Nat.reduceEqDiff, Nat.reduceAdd, Nat.reduceLeDiff, Nat.reduceMul, Nat.reduceBEq, QXHHdQB]
   try simp [intss]
  ·(repeat (first | simp only [↓QA, QB, Nat.reduceLT, reduceIte, Nat.reduceEqDiff, Nat.reduceAdd, Nat.reduceLeDiff, Nat.reduceMul, Nat.reduceBEq, QXHHdQB, L8_0, intss, hlen] | refine rd0 rfl ?_))
   refine iteP_intro (fun h2 => ?_) fun h2 => ?_
   ·have hh1 : h < N := by simpa using h2
    have hhs : h < s.holds.length := by omega
    have hw := wrapN hh1 (by omega)
    have hhZ : h < Z.length := by omega
    have hZg := hget2 h hhZ
    have hkp := rkept_ok d hvd h (by omega) (marksAt s h (nsOf s x h) (cooled W h))
    have hcl := crs_len s h (nsOf s x h) W
    have hce : (List.range (d.heat.length + 1)).map (marksAt s h (nsOf s x h) (cooled W h)) = course s h (nsOf s x h) W := by rw [hdh]; rfl
    rw [hce] at hkp
    have hcat := fun w (hw : w < (course s h (nsOf s x h) W).length) => crs_at s h (nsOf s x h) W hw
    have hre := fun m => reached_eq d (marksAt s h (nsOf s x h) (cooled W h)) m
    rw [hce] at hre
    have hmem := hcrs h hhs
    have hkb := hbad h hhs
    have hkq := hper h hhs
    obtain ⟨f, hfd2⟩ : ∃ f, marksAt s h (nsOf s x h) (cooled W h) = f := ⟨_, rfl⟩
    have hfb : ∀ w, w ≤ s.heat.length → 0 ≤ f w ∧ f w ≤ 80 := fun w hw => by rw [← hfd2]; exact marks_bd hv (hns h hhs) _ w hw
    rw [hfd2] at hkp hmem hkb hkq
    simp only [hfd2] at hcat hre
    obtain ⟨C, hC⟩ : ∃ C, course s h (nsOf s x h) W = C := ⟨_, rfl⟩
    simp only [hC] at hkp hcl hcat hre hZg
    obtain ⟨Kp, hKp⟩ : ∃ Kp, keptOf d h f = Kp := ⟨_, rfl⟩
    rw [hKp] at hkp hkb hkq
    (repeat (first | simp only [↓QA, QB, Nat.reduceLT, reduceIte, Nat.reduceEqDiff, Nat.reduceAdd, Nat.reduceLeDiff, Nat.reduceMul, Nat.reduceBEq, QXHHdQB, hhZ, hZg] | refine rd0 rfl ?_))
    ((first | refine callK_d (hkp) rfl dd ?_ | refine callD_d (hkp) rfl dd ?_); (repeat (first | simp only [↓QA, QB, Nat.reduceLT, reduceIte, Nat.reduceEqDiff, Nat.reduceAdd, Nat.reduceLeDiff, Nat.reduceMul, Nat.reduceBEq, QXHHdQB, hhZ, hZg] | refine rd0 rfl ?_)))
    cases Kp
    case' false =>
     (repeat (first | simp only [↓QA, QB, Nat.reduceLT, reduceIte, Nat.reduceEqDiff, Nat.reduceAdd, Nat.reduceLeDiff, Nat.reduceMul, Nat.reduceBEq, QXHHdQB] | refine rd0 rfl ?_))
     ((first | refine callK_d (has_ok P1 (h : Int) (by omega)) rfl dd ?_ | refine callD_d (has_ok P1 (h : Int) (by omega)) rfl dd ?_); (repeat (first | simp only [↓QA, QB, Nat.reduceLT, reduceIte, Nat.reduceEqDiff, Nat.reduceAdd, Nat.reduceLeDiff, Nat.reduceMul, Nat.reduceBEq, QXHHdQB, hkq rfl] | refine rd0 rfl ?_)))
    case' true =>
     (repeat (first | simp only [↓QA, QB, Nat.reduceLT, reduceIte, Nat.reduceEqDiff, Nat.reduceAdd, Nat.reduceLeDiff, Nat.reduceMul, Nat.reduceBEq, QXHHdQB] | refine rd0 rfl ?_))
     ((first | refine callK_d (has_ok B1 (h : Int) (by omega)) rfl dd ?_ | refine callD_d (has_ok B1 (h : Int) (by omega)) rfl dd ?_); (repeat (first | simp only [↓QA, QB, Nat.reduceLT, reduceIte, Nat.reduceEqDiff, Nat.reduceAdd, Nat.reduceLeDiff, Nat.reduceMul, Nat.reduceBEq, QXHHdQB, hkb rfl] | refine rd0 rfl ?_)))
    all_goals
     refine loopE (S := Nat) 0 (fun w => w ≤ C.length) (fun w => C.length - w) (fun w => [(7, .ptr 1 0), (9, intss Z), (15, ints B1), (16, ints P1), (18, .int .i64 h), (20, .int .i64 w)]) (fun _ => [.cells (shipCells s), .cells (shipCells d)]) (by simp) (by simp [shipCells, ints]) ?_ fun w hw2 => ?_
     ·try simp only [TrimX, QE, Nat.reduceLT, reduceIte, Nat.reduceEqDiff, Nat.reduceAdd, Nat.reduceLeDiff, Nat.reduceMul, Nat.reduceBEq, QXHHdQB]
      try simp [intss]
     ·(repeat (first | simp only [↓QA, QB, Nat.reduceLT, reduceIte, Nat.reduceEqDiff, Nat.reduceAdd, Nat.reduceLeDiff, Nat.reduceMul, Nat.reduceBEq, QXHHdQB, L8_2, intss, hhZ, hZg] | refine rd0 rfl ?_))
      refine iteP_intro (fun h3 => ?_) fun h3 => ?_
      ·have hw1 : w < C.length := by simpa using h3
       have hww := wrapN hw1 (by omega)
       have hCw := hcat w hw1
       have hm1 := marks_tr hsd (n := h) (w := w) (by omega) (by omega)
       obtain ⟨S, how, hr1, hr2, hr3, hr4⟩ := reaches_told hsd (h := h) (w := w) (by omega) hmem (by omega) (hfb w (by omega))
       have hst := span_told hmem (w := w)
       have hro := rreached_ok C (f w) (by omega)
       rw [hre] at hro
       obtain ⟨R, hR⟩ : ∃ R, reached d f (f w) = R := ⟨_, rfl⟩
       rw [hR] at hro hr3 hr4
       obtain ⟨A, hA⟩ : ∃ A, spanAt d h w = A := ⟨_, rfl⟩
       rw [hA] at hm1 hst
       obtain ⟨V, hV⟩ : ∃ V, f w = V := ⟨_, rfl⟩
       rw [hV] at hst hr1 hro hCw
       have n1 : inR V A.lo A.hi = true := inR_iff.2 hst
       have n2 : inR R S.lo S.hi = true := inR_iff.2 ⟨hr3, hr4⟩
       have n3 : (how == 2) = false := by simpa using hr2
       (repeat (first | simp only [↓QA, QB, Nat.reduceLT, reduceIte, Nat.reduceEqDiff, Nat.reduceAdd, Nat.reduceLeDiff, Nat.reduceMul, Nat.reduceBEq, QXHHdQB] | refine rd0 rfl ?_))
       ((first | refine callK_d (pmarks_ok d h w hfd) rfl dd ?_ | refine callD_d (pmarks_ok d h w hfd) rfl dd ?_); (repeat (first | simp only [↓QA, QB, Nat.reduceLT, reduceIte, Nat.reduceEqDiff, Nat.reduceAdd, Nat.reduceLeDiff, Nat.reduceMul, Nat.reduceBEq, QXHHdQB, hm1, encSE, hhZ, hZg, hw1, hCw] | refine rd0 rfl ?_)))
       refine rK_dreg1 [.cells [.int .i64 0, .int .i64 0]] rfl ?_
       (repeat (first | simp only [↓QA, QB, Nat.reduceLT, reduceIte, Nat.reduceEqDiff, Nat.reduceAdd, Nat.reduceLeDiff, Nat.reduceMul, Nat.reduceBEq, QXHHdQB, hhZ, hZg, hw1, hCw] | refine rd0 rfl ?_))
       ((first | refine callK_d (preaches_ok d h V hfd) rfl dd ?_ | refine callD_d (preaches_ok d h V hfd) rfl dd ?_); (repeat (first | simp only [↓QA, QB, Nat.reduceLT, reduceIte, Nat.reduceEqDiff, Nat.reduceAdd, Nat.reduceLeDiff, Nat.reduceMul, Nat.reduceBEq, QXHHdQB, hr1, encSNE, hhZ, hZg, hw1, hCw] | refine rd0 rfl ?_)))
       ((first | refine callK_d (hro) rfl dd ?_ | refine callD_d (hro) rfl dd ?_); (repeat (first | simp only [↓QA, QB, Nat.reduceLT, reduceIte, Nat.reduceEqDiff, Nat.reduceAdd, Nat.reduceLeDiff, Nat.reduceMul, Nat.reduceBEq, QXHHdQB, okz, hhZ, hZg, hw1, hCw] | refine rd0 rfl ?_)))
       ((first | refine callK_d (inside_ok V A) rfl dd ?_ | refine callD_d (inside_ok V A) rfl dd ?_); (repeat (first | simp only [↓QA, QB, Nat.reduceLT, reduceIte, Nat.reduceEqDiff, Nat.reduceAdd, Nat.reduceLeDiff, Nat.reduceMul, Nat.reduceBEq, QXHHdQB, n1, n3, hhZ, hZg, hw1, hCw, V_getN] | refine rd0 rfl ?_)))
       ((first | refine callK_d (inside_ok R S) rfl dd ?_ | refine callD_d (inside_ok R S) rfl dd ?_); (repeat (first | simp only [↓QA, QB, Nat.reduceLT, reduceIte, Nat.reduceEqDiff, Nat.reduceAdd, Nat.reduceLeDiff, Nat.reduceMul, Nat.reduceBEq, QXHHdQB, n2, hww, hhZ, hZg, hw1, hCw, V_getN] | refine rd0 rfl ?_)))
       refine ⟨w + 1, by omega, by omega, ?_⟩
       try simp only [TrimX, QE, Nat.reduceLT, reduceIte, Nat.reduceEqDiff, Nat.reduceAdd, Nat.reduceLeDiff, Nat.reduceMul, Nat.reduceBEq, QXHHdQB, hww]
       try simp [okBlk, intss]
      ·(repeat (first | simp only [↓QA, QB, Nat.reduceLT, reduceIte, Nat.reduceEqDiff, Nat.reduceAdd, Nat.reduceLeDiff, Nat.reduceMul, Nat.reduceBEq, QXHHdQB, hw] | refine rd0 rfl ?_))
       refine ⟨h + 1, by omega, by omega, ?_⟩
       try simp only [TrimX, QE, Nat.reduceLT, reduceIte, Nat.reduceEqDiff, Nat.reduceAdd, Nat.reduceLeDiff, Nat.reduceMul, Nat.reduceBEq, QXHHdQB, hw]
       try simp [okBlk, intss]
   ·(repeat (first | simp only [↓QA, QB, Nat.reduceLT, reduceIte, Nat.reduceEqDiff, Nat.reduceAdd, Nat.reduceLeDiff, Nat.reduceMul, Nat.reduceBEq, QXHHdQB] | refine rd0 rfl ?_))
    refine callK_d awake_ok rfl datas_nil ?_
    (repeat (first | simp only [↓QA, QB, Nat.reduceLT, reduceIte, Nat.reduceEqDiff, Nat.reduceAdd, Nat.reduceLeDiff, Nat.reduceMul, Nat.reduceBEq, QXHHdQB] | refine rd0 rfl ?_))
 ·have hd0 : decide ((check s).2.2 = 0) = false := by simpa using hc
  have e1 : wrongOf s = ([], (check s).2.2) := if_neg hc
  have g : ((check s).2.2 == 0) = false := by simpa using hc
  (repeat (first | simp only [↓QA, QB, Nat.reduceLT, reduceIte, Nat.reduceEqDiff, Nat.reduceAdd, Nat.reduceLeDiff, Nat.reduceMul, Nat.reduceBEq, QXHHdQB, a8, u8s] | refine rd0 rfl ?_))
  ((first | refine callK_d (valid_ok s hf) rfl dd ?_ | refine callD_d (valid_ok s hf) rfl dd ?_); (repeat (first | simp only [↓QA, QB, Nat.reduceLT, reduceIte, Nat.reduceEqDiff, Nat.reduceAdd, Nat.reduceLeDiff, Nat.reduceMul, Nat.reduceBEq, QXHHdQB, hd0] | refine rd0 rfl ?_)))
  ((first | refine callK_d (pwrong_ok s hf) rfl dd ?_ | refine callD_d (pwrong_ok s hf) rfl dd ?_); (repeat (first | simp only [↓QA, QB, Nat.reduceLT, reduceIte, Nat.reduceEqDiff, Nat.reduceAdd, Nat.reduceLeDiff, Nat.reduceMul, Nat.reduceBEq, QXHHdQB, encLE, e1, g] | refine rd0 rfl ?_)))
  refine callK_d awake_ok rfl datas_nil ?_
  (repeat (first | simp only [↓QA, QB, Nat.reduceLT, reduceIte, Nat.reduceEqDiff, Nat.reduceAdd, Nat.reduceLeDiff, Nat.reduceMul, Nat.reduceBEq, QXHHdQB] | refine rd0 rfl ?_))
end Go.Am.Room
