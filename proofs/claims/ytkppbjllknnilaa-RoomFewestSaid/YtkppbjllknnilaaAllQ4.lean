/- A part of the proofs: an abstract machine, or what functions come to on it. -/
import Derived.Test.YtkppbjllknnilaaAllQ3
import Derived.Laws.RangeAny
set_option linter.unusedVariables false
set_option linter.unusedSimpArgs false
set_option linter.defProp false
namespace Go.Am
variable {T : FuncId → Option AFunc}
def Same (T : FuncId → Option AFunc) (f : AV) (args : List AV) (σ : St) (v : AV) : Prop := Run T (.callv f args σ) fun o => o.v = v ∧ o.σ = σ
def BaseR (o : Option AV) (σ0 σ : St) (v : AV) : Prop := ∃ v0 τ, o = some v0 ∧ σ = σ0 ++ τ ∧ snapM σ σ0.length 20 v0 = some v
@[congr] theorem BaseR_congr {o o' : Option AV} {σ0 σ σ' : St} {v : AV} (h : o = o') (h2 : σ = σ') : BaseR o σ0 σ v = BaseR o' σ0 σ' v := by rw [h, h2]
def BaseK (rs : List ARes) (σ0 : St) (v : AV) : KJ := fun j e σ => (j = none ∨ j = some .ret) ∧ BaseR (resOf rs e σ) σ0 σ v
theorem Y_none (rs : List ARes) (σ0 : St) (v : AV) (e : Env) (σ : St) : BaseK rs σ0 v none e σ = BaseR (resOf rs e σ) σ0 σ v := by simp [BaseK]
theorem Y_ret (rs : List ARes) (σ0 : St) (v : AV) (e : Env) (σ : St) : BaseK rs σ0 v (some .ret) e σ = BaseR (resOf rs e σ) σ0 σ v := by simp [BaseK]
theorem baseR {v0 : AV} {σ0 σ : St} {v : AV} (τ : St) (h1 : σ = σ0 ++ τ) (h2 : snapM σ σ0.length 20 v0 = some v) : BaseR (some v0) σ0 σ v := ⟨v0, τ, rfl, h1, h2⟩
theorem same_fn {f : FuncId} {first cap args : List AV} {σ : St} {af : AFunc} {v : AV} (hf : T f = some af) (hn : (first ++ args ++ cap).length ≤ af.ntmps) (h : wp T af.body (argsEnv 0 (first ++ args ++ cap)) σ (BaseK af.results σ v)) : Same T (.func f first cap) args σ v := by
 refine .callf (.call hf hn (run_wp h fun o ho => ho) fun o ho => ?_)
 obtain ⟨h1, v0, τ, h2, h3, h4⟩ := ho
 refine ⟨h1, v0, h2, ?_⟩
 unfold snapM at h4
 cases hs : snap o.σ σ.length 20 v0 with
 | none => rw [hs] at h4; cases h4
 | some v1 =>
  rw [hs] at h4
  simp at h4
  exact .inr ⟨20, v1, v, hs, .inr h4.symm, fun i hi => .inl (by rw [h3]; exact List.getElem?_append_left hi), by rw [h3]; simp, rfl, by rw [h3]; simp⟩
theorem callK_same {f : AV} {args : List AV} {v : AV} {σ : St} {K : AV → St → Prop} (h : Same T f args σ v) (k : K v σ) : cK (K := ⟨K⟩) T f args σ := .mono h fun o ho => by rw [ho.1, ho.2]; exact k
theorem callD_same {f : AV} {args : List AV} {v : AV} {σ : St} {K : AV → St → Prop} (h : Same T f args σ v) (k : K v σ) : cD (K := ⟨K⟩) T f args σ := ⟨v, σ, h, k⟩
def Keeps (σ : St) (v : AV) : Prop := ∀ τ, snapM (σ ++ τ) σ.length 20 v = some v
theorem Keeps.nil {σ : St} {v : AV} (h : Keeps σ v) : snapM σ σ.length 20 v = some v := by simpa using h []
theorem T_sr (m : Nat) : ∀ (σ τ : St), EqS m σ (σ ++ τ) σ = True
 | [], τ => by cases τ <;> simp [EqS]
 | b :: σ, τ => by simp [EqS, T_sr m σ τ]
theorem T_sr0 (m : Nat) (σ : St) : EqS m σ σ σ = True := by simpa using T_sr m σ []
theorem st_app (σ τ υ : St) : σ ++ τ ++ υ = σ ++ (τ ++ υ) := List.append_assoc _ _ _
theorem V_snextT {s : ByteArray} {k : Nat} (h : k < s.size) : vSnext [.siter s k] (.ptr 0 0) = some (.tuple [.bool true, .int .i64 k, .int .i32 (Utf8.decode s k).1], [.siter s (k + (Utf8.decode s k).2)]) := by
 simp [vSnext, h]
theorem V_snextF {s : ByteArray} {k : Nat} (h : ¬ k < s.size) : vSnext [.siter s k] (.ptr 0 0) = some (.tuple [.bool false], [.siter s k]) := by
 simp [vSnext, h]
theorem byteAt_ascii {s : ByteArray} {k : Nat} (h : k < s.size) (hb : byteAt s k < 128) : Utf8.decode s k = ((byteAt s k).toNat, 1) := by
 have e : byteAt s k = ((s[k]'h).toNat : Int) := by simp [byteAt, h]
 rw [decode_ascii s k h (by omega), e]
 simp
theorem byteAt_high {s : ByteArray} {k : Nat} (h : k < s.size) (hb : 128 ≤ byteAt s k) : 128 ≤ (Utf8.decode s k).1 := by
 have e : byteAt s k = ((s[k]'h).toNat : Int) := by simp [byteAt, h]
 exact (decode_high s k h (by omega)).1
theorem V_take {α : Type} {sz : Nat} {enc : α → AV} {l : List α} {i : Nat} {σ : St} {t : Option Nat} (hi : i ≤ l.length) (hs : ∀ x, (enc x).cells.length = sz) : vSlicev sz σ (.lit (l.map enc) false t) none (some (.int .i64 (i : Int))) none = some (.lit ((l.take i).map enc) false t) := by
 have hc : cutFits sz (l.map enc) 0 (i : Int) = true := by
  unfold cutFits
  by_cases h0 : i = 0
  ·subst h0; simp
  ·cases l with
   | nil => simp at hi; omega
   | cons x l => simp [hs]
 simp only [vSlicev, lenAV, vBound, Option.map_none, intOf, sliceAV]
 rw [if_pos ⟨by omega, by omega, by simp; omega, hc⟩]
 simp [List.map_take]
theorem callK_v {f : FuncId} {args args0 : List AV} {v : AV} {σ : St} {K : AV → St → Prop} (h : Pure T f args0 v) (ha : clrs args = args0) (hk : okVs 0 args) (k : K v σ) : cK (K := ⟨K⟩) T (.func f [] []) args σ :=
 callK_fn h (by simpa using ha) (by simpa using hk) k
theorem callD_v {f : FuncId} {args args0 : List AV} {v : AV} {σ : St} {K : AV → St → Prop} (h : Pure T f args0 v) (ha : clrs args = args0) (hk : okVs 0 args) (k : K v σ) : cD (K := ⟨K⟩) T (.func f [] []) args σ :=
 callD_fn h (by simpa using ha) (by simpa using hk) k
end Go.Am
namespace Go.Am
def QV := And.intro @V_str (And.intro @st_set (And.intro @st_set0 (And.intro @st_app (And.intro @V_sidx (And.intro @V_min2 (And.intro @V_max2 (And.intro @q_put (And.intro @q_put0 (And.intro @q_get (And.intro @q_evt (And.intro @q_evc (And.intro @q_arg (And.intro @q_arg0 (And.intro @W_bindB (And.intro @W_bindG1 (And.intro @W_bindG0 (And.intro @W_bindGT (And.intro @iteP_true (And.intro @iteP_false (And.intro @E_evs0 (And.intro @E_evs1 (And.intro @E_ovs0 (And.intro @E_ovs1 (And.intro @B_some (And.intro @O_map (And.intro @O_bind (And.intro @V_nilP (And.intro @V_nilL (And.intro @V_nilF (And.intro @V_field (And.intro @V_conv (And.intro @V_neg (And.intro @V_pickT (And.intro @V_pickF (And.intro @V_eqI (And.intro @V_eqB (And.intro @V_eqS (And.intro @V_oand (And.intro @V_eqC0 (And.intro @V_eqC1 (And.intro @V_eq1 (And.intro @V_ne1 (And.intro @V_eqA (And.intro @V_neA (And.intro @V_add (And.intro @V_sub (And.intro @V_mul (And.intro @V_lss (And.intro @V_leq (And.intro @V_gtr (And.intro @V_geq (And.intro @V_len (And.intro @V_lenS (And.intro @V_lenR (And.intro @q_faddrP (And.intro @q_faddrL (And.intro @q_extT (And.intro @q_notB (And.intro @M_ptr (And.intro @M_lptr (And.intro @M_at0 (And.intro @M_atS (And.intro @M_base (And.intro @M_base0 (And.intro @M_sh1 (And.intro @M_shN (And.intro @M_store (And.intro @M_set (And.intro @C_cells (And.intro @C_int (And.intro @C_bool (And.intro @C_str (And.intro @C_lit (And.intro @C_ref (And.intro @C_ptr (And.intro @C_func (And.intro @C_map (And.intro @C_nilPtr (And.intro @C_nilFunc (And.intro @C_agg (And.intro @C_0 (And.intro @C1_int (And.intro @C1_bool (And.intro @C1_str (And.intro @C1_lit (And.intro @C1_ref (And.intro @C1_ptr (And.intro @C1_func (And.intro @C1_map (And.intro @C1_nilPtr (And.intro @C1_nilFunc (And.intro @K_int (And.intro @K_bool (And.intro @K_str (And.intro @K_lit (And.intro @K_ref (And.intro @K_ptr (And.intro @K_func (And.intro @K_map (And.intro @K_agg (And.intro @K_nilPtr (And.intro @K_nilFunc (And.intro @M_bc0 (And.intro @M_bc1 (And.intro @L_all0 (And.intro @L_all1 (And.intro @L_lit (And.intro @V_iaL (And.intro @V_iaA (And.intro @V_iaAL (And.intro @V_iaR (And.intro @X_res0 (And.intro @X_res1 (And.intro @X_res2 (And.intro @X_ra0 (And.intro @X_ra1 (And.intro @X_rt (And.intro @X_rc (And.intro @R_some (And.intro @I_some (And.intro @A_mov (And.intro @A_pick (And.intro @A_alloc (And.intro @A_box (And.intro @A_build (And.intro @A_mklit (And.intro @A_mkref (And.intro @A_load (And.intro @A_store (And.intro @A_nilCheck (And.intro @A_bin (And.intro @A_eql (And.intro @A_not (And.intro @A_neg (And.intro @A_conv (And.intro @A_mkfun (And.intro @A_mkmap (And.intro @A_mkslice (And.intro @A_slicev (And.intro @A_slicea (And.intro @A_faddr (And.intro @A_field (And.intro @A_iaddr (And.intro @A_index (And.intro @A_sindex (And.intro @A_lookup (And.intro @A_mapset (And.intro @A_ext (And.intro @A_len (And.intro @A_append (And.intro @A_apref (And.intro @A_copy (And.intro @A_min (And.intro @A_max (And.intro @A_srange (@A_snext))))))))))))))))))))))))))))))))))))))))))))))))))))))))))))))))))))))))))))))))))))))))))))))))))))))))))))))))))))))))))))))))))))))))))))))))))))))))))))
def QP := And.intro @Y_none (And.intro @Y_ret (And.intro @q_reg (And.intro @q_seq (And.intro @q_jump (And.intro @q_then (And.intro @q_thenJ (And.intro @q_skip (And.intro @q_block (And.intro @q_scope (And.intro @q_nil (And.intro @X_bn (And.intro @X_br (And.intro @X_be1 (And.intro @X_be2 (And.intro @V_idxN (And.intro @V_getN (And.intro @W_call (And.intro @W_guard (And.intro @W_cond (And.intro @W_loop (And.intro @W_range (And.intro @D_reg (And.intro @R_none (And.intro @R_ret (And.intro @I_none (And.intro @I_ret (And.intro @T_back (And.intro @T_out (And.intro @W_mov (And.intro @W_pick (And.intro @W_alloc (And.intro @W_box (And.intro @W_build (And.intro @W_mklit (And.intro @W_mkref (And.intro @W_load (And.intro @W_store (And.intro @W_nilCheck (And.intro @W_bin (And.intro @W_eql (And.intro @W_not (And.intro @W_neg (And.intro @W_conv (And.intro @W_mkfun (And.intro @W_mkmap (And.intro @W_mkslice (And.intro @W_slicev (And.intro @W_slicea (And.intro @W_faddr (And.intro @W_field (And.intro @W_iaddr (And.intro @W_index (And.intro @W_sindex (And.intro @W_lookup (And.intro @W_mapset (And.intro @W_ext (And.intro @W_len (And.intro @W_append (And.intro @W_apref (And.intro @W_copy (And.intro @W_min (And.intro @W_max (And.intro @W_srange (@W_snext))))))))))))))))))))))))))))))))))))))))))))))))))))))))))))))))
def QD := And.intro @D_nil (And.intro @D_call (And.intro @D_alloc (And.intro @D_guardC (And.intro @D_mov (And.intro @D_pick (And.intro @D_box (And.intro @D_build (And.intro @D_mklit (And.intro @D_mkref (And.intro @D_load (And.intro @D_store (And.intro @D_nilCheck (And.intro @D_bin (And.intro @D_eql (And.intro @D_not (And.intro @D_neg (And.intro @D_conv (And.intro @D_mkfun (And.intro @D_mkmap (And.intro @D_mkslice (And.intro @D_slicev (And.intro @D_slicea (And.intro @D_faddr (And.intro @D_field (And.intro @D_iaddr (And.intro @D_index (And.intro @D_sindex (And.intro @D_lookup (And.intro @D_mapset (And.intro @D_ext (And.intro @D_len (And.intro @D_append (And.intro @D_apref (And.intro @D_copy (And.intro @D_min (And.intro @D_max (And.intro @D_srange (And.intro @D_snext (And.intro @G_mov (And.intro @G_pick (And.intro @G_box (And.intro @G_build (And.intro @G_mklit (And.intro @G_mkref (And.intro @G_load (And.intro @G_store (And.intro @G_nilCheck (And.intro @G_bin (And.intro @G_eql (And.intro @G_not (And.intro @G_neg (And.intro @G_conv (And.intro @G_mkfun (And.intro @G_mkmap (And.intro @G_mkslice (And.intro @G_slicev (And.intro @G_slicea (And.intro @G_faddr (And.intro @G_field (And.intro @G_iaddr (And.intro @G_index (And.intro @G_sindex (And.intro @G_lookup (And.intro @G_mapset (And.intro @G_ext (And.intro @G_len (And.intro @G_append (And.intro @G_apref (And.intro @G_copy (And.intro @G_min (And.intro @G_max (And.intro @G_srange (@G_snext)))))))))))))))))))))))))))))))))))))))))))))))))))))))))))))))))))))))))
def QS := And.intro @S_mapL (And.intro @S_ints (And.intro @S_app (And.intro @S_mapI (And.intro @S_mapS (And.intro @S_int (And.intro @S_bool (And.intro @S_str (And.intro @S_nilPtr (And.intro @S_nilFunc (And.intro @S_ptr (And.intro @S_map (And.intro @S_nil (And.intro @S_cons (And.intro @S_tuple (And.intro @S_agg (And.intro @S_lit0 (And.intro @S_lit1 (And.intro @S_func (And.intro @O_map (@O_bind))))))))))))))))))))
def QR := And.intro @D_readsN (And.intro @D_readsC (And.intro @D_readN (@D_readC)))
def QT := And.intro @T_sr (And.intro @T_sr0 (And.intro @T_e0 (And.intro @T_e1 (And.intro @T_s0 (And.intro @T_s1 (And.intro @T_s2 (And.intro @T_w0 (And.intro @T_w1 (@q_get)))))))))
variable {T : FuncId → Option AFunc}
mutual
theorem okV_up {m : Nat} : ∀ v, okV 0 v → okV m v
 | .func _ first cap, h => ⟨okVs_up first h.1, okVs_up cap h.2⟩
 | .lptr xs _ _ tk, h => ⟨fun t e => absurd (h.1 t e) (by omega), okVs_up xs h.2⟩
 | .lit xs _ tk, h => ⟨fun t e => absurd (h.1 t e) (by omega), okVs_up xs h.2⟩
 | .agg cs, h => okVs_up cs h
 | .tuple vs, h => okVs_up vs h
 | .yield _, h | .ptr _ _, h | .ref _ _ _ _, h | .map _, h => absurd h (by simp [okV])
 | .undef, _ | .int _ _, _ | .bool _, _ | .str _, _ | .nilFunc, _ | .nilPtr, _ | .nilMap, _ => trivial
theorem okVs_up {m : Nat} : ∀ vs, okVs 0 vs → okVs m vs
 | [], _ => trivial
 | v :: vs, h => ⟨okV_up v h.1, okVs_up vs h.2⟩
end
theorem S_refK {σ : St} {m d id off len sz : Nat} (h : id < m) : snapM σ m d (.ref id off len sz) = some (.ref id off len sz) := by
 cases d <;> simp [snapM, snap, h, clr]
theorem okVs_app {m : Nat} : ∀ {xs ys : List AV}, okVs m xs → okVs m ys → okVs m (xs ++ ys)
 | [], _, _, h => h
 | x :: xs, ys, h, h2 => ⟨h.1, okVs_app h.2 h2⟩
end Go.Am
namespace Go.Am
theorem ints_def (l : List Int) : ints l = .lit (l.map (.int .i64)) false none := by simp only [ints]
theorem strs_def (l : List ByteArray) : strs l = .lit (l.map .str) false none := by simp only [strs]
def QC := And.intro @and_self (And.intro @and_true (And.intro @true_and (And.intro @true_or (And.intro @or_true (And.intro @ints_def (And.intro @strs_def (And.intro @decide_true (And.intro @decide_false (And.intro @Nat.lt_irrefl (And.intro @Nat.le_refl (And.intro @List.length_cons.{0} (And.intro @List.length_nil.{0} (And.intro @List.cons_append.{0} (And.intro @List.nil_append.{0} (And.intro @List.append_nil.{0} (And.intro @List.getElem?_cons_zero.{0} (And.intro @List.getElem?_cons_succ.{0} (And.intro @List.take_zero.{0} (And.intro @List.drop_zero.{0} (And.intro @List.take_succ_cons.{0} (And.intro @List.drop_succ_cons.{0} (And.intro @List.take_nil.{0} (And.intro @List.drop_nil.{0} (And.intro @List.set_cons_zero.{0} (And.intro @List.set_cons_succ.{0} (And.intro @List.length_map.{0, 0} (And.intro @Bool.and_true (And.intro @Bool.true_and (And.intro @Bool.and_self (And.intro @Bool.not_true (And.intro @Bool.not_false (And.intro @beq_self_eq_true.{0} (And.intro @Nat.zero_add (And.intro @implies_true.{0} (And.intro @implies_true.{1} (And.intro @forall_const.{0} (And.intro @forall_const.{1} (And.intro @ne_eq.{1} (And.intro @not_false_eq_true (@not_true_eq_false))))))))))))))))))))))))))))))))))))))))
def QA := And.intro QP QD
def QB := And.intro QR (And.intro QV (And.intro QS QC))
def QE := And.intro QT (And.intro QS (And.intro @q_get (And.intro @List.length_append.{0} (And.intro @Nat.le_add_right QC))))
class Dat (v : AV) : Prop where
 h : Data v
class Dats (vs : List AV) : Prop where
 h : Datas vs
theorem dd {vs : List AV} [k : Dats vs] : Datas vs := k.h
instance : Dats [] := ⟨datas_nil⟩
instance {v : AV} {vs : List AV} [a : Dat v] [b : Dats vs] : Dats (v :: vs) := ⟨datas_cons a.h b.h⟩
instance (k : IntKind) (n : Int) : Dat (.int k n) := ⟨data_int k n⟩
instance (b : Bool) : Dat (.bool b) := ⟨data_bool b⟩
instance (s : ByteArray) : Dat (.str s) := ⟨data_str s⟩
instance (l : List Int) : Dat (ints l) := ⟨data_ints l⟩
instance (l : List ByteArray) : Dat (strs l) := ⟨data_strs l⟩
instance (s : Span) : Dat (encSpan s) := ⟨data_span s⟩
instance {cs : List AV} [a : Dats cs] : Dat (.agg cs) := ⟨data_agg a.h⟩
instance {cs : List AV} [a : Dats cs] : Dat (.tuple cs) := ⟨data_tuple a.h⟩
instance {cs : List AV} [a : Dats cs] : Dat (.lit cs false none) := ⟨data_lit a.h⟩
instance (k : IntKind) (l : List Int) : Dats (l.map (.int k)) := ⟨datas_map (data_int k) l⟩
end Go.Am
namespace Go.Am.Room
def inR (n lo hi : Int) : Bool := decide (lo ≤ n) && decide (n ≤ hi)
theorem in_ok (n lo hi : Int) : Pure T 73 [.int .i64 n, .int .i64 lo, .int .i64 hi] (.bool (inR n lo hi)) := by
 refine pure_fn (af := a73) rfl (by simp [a73]) dd ?_
 (repeat (first | simp only [↓QA, QB, Nat.reduceLT, reduceIte, Nat.reduceEqDiff, Nat.reduceAdd, Nat.reduceLeDiff, Nat.reduceMul, Nat.reduceBEq, a73] | refine rd0 rfl ?_))
 refine iteP_intro (fun h => ?_) fun h => ?_
 all_goals
  (repeat (first | simp only [↓QA, QB, Nat.reduceLT, reduceIte, Nat.reduceEqDiff, Nat.reduceAdd, Nat.reduceLeDiff, Nat.reduceMul, Nat.reduceBEq, h] | refine rd0 rfl ?_))
  simp [inR, h]
def ends (s : Span) (lo hi : Int) : Int := if !inR s.lo lo hi || !inR s.hi lo hi then 7 else if s.hi < s.lo then 2 else 0
theorem ends_ok (s : Span) (lo hi : Int) : Pure T 72 [encSpan s, .int .i64 lo, .int .i64 hi] (.int .i64 (ends s lo hi)) := by
 refine pure_fn (af := a72) rfl (by simp [a72]) dd ?_
 (repeat (first | simp only [↓QA, QB, Nat.reduceLT, reduceIte, Nat.reduceEqDiff, Nat.reduceAdd, Nat.reduceLeDiff, Nat.reduceMul, Nat.reduceBEq, a72, encSpan_eq] | refine rd0 rfl ?_))
 refine callK_d (in_ok _ _ _) rfl dd ?_
 (repeat (first | simp only [↓QA, QB, Nat.reduceLT, reduceIte, Nat.reduceEqDiff, Nat.reduceAdd, Nat.reduceLeDiff, Nat.reduceMul, Nat.reduceBEq] | refine rd0 rfl ?_))
 cases h1 : inR s.lo lo hi
 ·(repeat (first | simp only [↓QA, QB, Nat.reduceLT, reduceIte, Nat.reduceEqDiff, Nat.reduceAdd, Nat.reduceLeDiff, Nat.reduceMul, Nat.reduceBEq] | refine rd0 rfl ?_))
  simp [ends, h1]
 ·(repeat (first | simp only [↓QA, QB, Nat.reduceLT, reduceIte, Nat.reduceEqDiff, Nat.reduceAdd, Nat.reduceLeDiff, Nat.reduceMul, Nat.reduceBEq] | refine rd0 rfl ?_))
  refine callK_d (in_ok _ _ _) rfl dd ?_
  (repeat (first | simp only [↓QA, QB, Nat.reduceLT, reduceIte, Nat.reduceEqDiff, Nat.reduceAdd, Nat.reduceLeDiff, Nat.reduceMul, Nat.reduceBEq] | refine rd0 rfl ?_))
  cases h2 : inR s.hi lo hi
  ·(repeat (first | simp only [↓QA, QB, Nat.reduceLT, reduceIte, Nat.reduceEqDiff, Nat.reduceAdd, Nat.reduceLeDiff, Nat.reduceMul, Nat.reduceBEq] | refine rd0 rfl ?_))
   simp [ends, h1, h2]
  ·(repeat (first | simp only [↓QA, QB, Nat.reduceLT, reduceIte, Nat.reduceEqDiff, Nat.reduceAdd, Nat.reduceLeDiff, Nat.reduceMul, Nat.reduceBEq] | refine rd0 rfl ?_))
   refine iteP_intro (fun h => ?_) fun h => ?_
   all_goals
    (repeat (first | simp only [↓QA, QB, Nat.reduceLT, reduceIte, Nat.reduceEqDiff, Nat.reduceAdd, Nat.reduceLeDiff, Nat.reduceMul, Nat.reduceBEq, h] | refine rd0 rfl ?_))
    simp [ends, h1, h2]
    simpa using h
def join (s : Span) (n : Int) : Span := ⟨min s.lo n, max s.hi n⟩
def less : List Int → List Int → Bool
 | _, [] => false
 | [], _ :: _ => true
 | a :: az, b :: bs => if a = b then less az bs else decide (a < b)
theorem less_step {a b : List Int} {k : Nat} (ha : k < a.length) (hb : k < b.length) (h : a[k] = b[k]) : less (a.drop (k + 1)) (b.drop (k + 1)) = less (a.drop k) (b.drop k) := by
 rw [List.drop_eq_getElem_cons ha, List.drop_eq_getElem_cons hb]; simp [less, h]
theorem less_ok (a b : List Int) (ha : a.length < 9223372036854775808) (hb : b.length < 9223372036854775808) : Pure T 51 [ints a, ints b] (.bool (less a b)) := by
 refine pure_fn (af := a51) rfl (by simp [a51]) dd ?_
 (repeat (first | simp only [↓QA, QB, Nat.reduceLT, reduceIte, Nat.reduceEqDiff, Nat.reduceAdd, Nat.reduceLeDiff, Nat.reduceMul, Nat.reduceBEq, a51] | refine rd0 rfl ?_))
 refine loopE (S := Nat) 0 (fun k => k ≤ a.length ∧ k ≤ b.length ∧ less (a.drop k) (b.drop k) = less a b) (fun k => a.length - k) (fun k => [(0, ints a), (1, ints b), (5, .int .i64 k)]) (fun _ => []) ⟨Nat.zero_le _, Nat.zero_le _, rfl⟩ rfl ?_ fun k hk => ?_
 ·try simp only [TrimX, QE, Nat.reduceLT, reduceIte, Nat.reduceEqDiff, Nat.reduceAdd, Nat.reduceLeDiff, Nat.reduceMul, Nat.reduceBEq]
  try simp
 ·obtain ⟨hka, hkb, hl⟩ := hk
  (repeat (first | simp only [↓QA, QB, Nat.reduceLT, reduceIte, Nat.reduceEqDiff, Nat.reduceAdd, Nat.reduceLeDiff, Nat.reduceMul, Nat.reduceBEq, L51_0] | refine rd0 rfl ?_))
  by_cases h1 : k < a.length
  ·have g1 : decide ((k : Int) < a.length) = true := by simpa using h1
   by_cases h2 : k < b.length
   ·have g2 : decide ((k : Int) < b.length) = true := by simpa using h2
    (repeat (first | simp only [↓QA, QB, Nat.reduceLT, reduceIte, Nat.reduceEqDiff, Nat.reduceAdd, Nat.reduceLeDiff, Nat.reduceMul, Nat.reduceBEq, g1, g2, h1, h2] | refine rd0 rfl ?_))
    refine iteP_intro (fun h3 => ?_) fun h3 => ?_
    ·have h3' : a[k] = b[k] := by simpa using h3
     (repeat (first | simp only [↓QA, QB, Nat.reduceLT, reduceIte, Nat.reduceEqDiff, Nat.reduceAdd, Nat.reduceLeDiff, Nat.reduceMul, Nat.reduceBEq, h3] | refine rd0 rfl ?_))
     refine ⟨k + 1, ⟨by omega, by omega, (less_step h1 h2 h3').trans hl⟩, by omega, ?_⟩
     try simp only [TrimX, QE, Nat.reduceLT, reduceIte, Nat.reduceEqDiff, Nat.reduceAdd, Nat.reduceLeDiff, Nat.reduceMul, Nat.reduceBEq, wrapN h1 ha]
    ·have h3' : a[k] ≠ b[k] := by simpa using h3
     have e1 : ((k : Int) == b.length) = false := by simp; omega
     have e2 : ((k : Int) == a.length) = false := by simp; omega
     (repeat (first | simp only [↓QA, QB, Nat.reduceLT, reduceIte, Nat.reduceEqDiff, Nat.reduceAdd, Nat.reduceLeDiff, Nat.reduceMul, Nat.reduceBEq, h3, e1, e2, h1, h2] | refine rd0 rfl ?_))
     rw [← hl, List.drop_eq_getElem_cons h1, List.drop_eq_getElem_cons h2]
     simp [less, h3']
   ·have hkb' : k = b.length := by omega
    have g2 : decide ((k : Int) < b.length) = false := by simp; omega
    have e1 : ((k : Int) == b.length) = true := by simp; omega
    (repeat (first | simp only [↓QA, QB, Nat.reduceLT, reduceIte, Nat.reduceEqDiff, Nat.reduceAdd, Nat.reduceLeDiff, Nat.reduceMul, Nat.reduceBEq, g1, g2, e1] | refine rd0 rfl ?_))
    rw [← hl, hkb', List.drop_length]
    cases List.drop b.length a <;> simp [less]
  ·have g1 : decide ((k : Int) < a.length) = false := by simp; omega
   have e2 : ((k : Int) == a.length) = true := by simp; omega
   have hka' : k = a.length := by omega
   (repeat (first | simp only [↓QA, QB, Nat.reduceLT, reduceIte, Nat.reduceEqDiff, Nat.reduceAdd, Nat.reduceLeDiff, Nat.reduceMul, Nat.reduceBEq, g1] | refine rd0 rfl ?_))
   refine iteP_intro (fun h3 => ?_) fun h3 => ?_
   ·have h3' : k = b.length := by simp at h3; omega
    (repeat (first | simp only [↓QA, QB, Nat.reduceLT, reduceIte, Nat.reduceEqDiff, Nat.reduceAdd, Nat.reduceLeDiff, Nat.reduceMul, Nat.reduceBEq] | refine rd0 rfl ?_))
    rw [← hl, h3', List.drop_length]
    cases List.drop b.length a <;> simp [less]
   ·have h3' : k < b.length := by simp at h3; omega
    (repeat (first | simp only [↓QA, QB, Nat.reduceLT, reduceIte, Nat.reduceEqDiff, Nat.reduceAdd, Nat.reduceLeDiff, Nat.reduceMul, Nat.reduceBEq, h3, e2] | refine rd0 rfl ?_))
    rw [← hl, hka', List.drop_length, List.drop_eq_getElem_cons (by omega)]
    simp [less]
theorem less_irr : ∀ a, less a a = false
 | [] => rfl
 | a :: az => by simp [less, less_irr az]
theorem less_tri : ∀ a b, less a b = false → less b a = false → a = b
 | [], [], _, _ => rfl
 | [], b :: bs, h, _ => by simp [less] at h
 | a :: az, [], _, h => by simp [less] at h
 | a :: az, b :: bs, h1, h2 => by
  by_cases hab : a = b
  ·subst hab
   simp [less] at h1 h2
   rw [less_tri az bs h1 h2]
  ·simp [less, hab, Ne.symm hab] at h1 h2
   omega
theorem ints_ok (a b : List Int) (ha : a.length < 9223372036854775808) (hb : b.length < 9223372036854775808) : Pure T 28 [ints a, ints b] (.bool (decide (a = b))) := by
 refine pure_fn (af := a28) rfl (by simp [a28]) dd ?_
 (repeat (first | simp only [↓QA, QB, Nat.reduceLT, reduceIte, Nat.reduceEqDiff, Nat.reduceAdd, Nat.reduceLeDiff, Nat.reduceMul, Nat.reduceBEq, a28] | refine rd0 rfl ?_))
 refine iteP_intro (fun h => ?_) fun h => ?_
 ·(repeat (first | simp only [↓QA, QB, Nat.reduceLT, reduceIte, Nat.reduceEqDiff, Nat.reduceAdd, Nat.reduceLeDiff, Nat.reduceMul, Nat.reduceBEq, h] | refine rd0 rfl ?_))
  refine callK_d (less_ok a b ha hb) rfl dd ?_
  (repeat (first | simp only [↓QA, QB, Nat.reduceLT, reduceIte, Nat.reduceEqDiff, Nat.reduceAdd, Nat.reduceLeDiff, Nat.reduceMul, Nat.reduceBEq, h] | refine rd0 rfl ?_))
  cases h1 : less a b
  ·(repeat (first | simp only [↓QA, QB, Nat.reduceLT, reduceIte, Nat.reduceEqDiff, Nat.reduceAdd, Nat.reduceLeDiff, Nat.reduceMul, Nat.reduceBEq, h] | refine rd0 rfl ?_))
   refine callK_d (less_ok b a hb ha) rfl dd ?_
   (repeat (first | simp only [↓QA, QB, Nat.reduceLT, reduceIte, Nat.reduceEqDiff, Nat.reduceAdd, Nat.reduceLeDiff, Nat.reduceMul, Nat.reduceBEq, h] | refine rd0 rfl ?_))
   cases h2 : less b a
   ·rw [less_tri a b h1 h2]; simp
   ·have : a ≠ b := by rintro rfl; rw [less_irr] at h2; cases h2
    simp [this]
  ·have : a ≠ b := by rintro rfl; rw [less_irr] at h1; cases h1
   (repeat (first | simp only [↓QA, QB, Nat.reduceLT, reduceIte, Nat.reduceEqDiff, Nat.reduceAdd, Nat.reduceLeDiff, Nat.reduceMul, Nat.reduceBEq, h] | refine rd0 rfl ?_))
   simp [this]
 ·have : a ≠ b := by rintro rfl; simp at h
  (repeat (first | simp only [↓QA, QB, Nat.reduceLT, reduceIte, Nat.reduceEqDiff, Nat.reduceAdd, Nat.reduceLeDiff, Nat.reduceMul, Nat.reduceBEq, h] | refine rd0 rfl ?_))
  simp [this]
def fewer (a b : List Int) : Bool := if a.length = b.length then less a b else decide (a.length < b.length)
theorem str_beq (a b : ByteArray) : (a.toList == b.toList) = decide (a = b) := by
 rw [Bool.eq_iff_iff]; simp
 constructor
 ·intro h; rw [Go.Lib.toList_data, Go.Lib.toList_data] at h; exact ByteArray.ext (Array.toList_inj.1 h)
 ·rintro rfl; rfl
def ahead (s : ByteArray) : List ByteArray → Nat
 | [] => 0
 | x :: xs => if x = s then 0 else ahead s xs + 1
def whereI (s : ByteArray) (l : List ByteArray) : Int := if ahead s l = l.length then -1 else ahead s l
theorem ahead_step {s : ByteArray} {l : List ByteArray} {k : Nat} (h : k < l.length) (hx : l[k] ≠ s) : k + ahead s (l.drop k) = k + 1 + ahead s (l.drop (k + 1)) := by
 rw [List.drop_eq_getElem_cons h]; simp [ahead, hx]; omega
theorem where_ok (l : List ByteArray) (s : ByteArray) (hl : l.length < 9223372036854775808) : Pure T 103 [strs l, .str s] (.int .i64 (whereI s l)) := by
 refine pure_fn (af := a103) rfl (by simp [a103]) dd ?_
 (repeat (first | simp only [↓QA, QB, Nat.reduceLT, reduceIte, Nat.reduceEqDiff, Nat.reduceAdd, Nat.reduceLeDiff, Nat.reduceMul, Nat.reduceBEq, a103] | refine rd0 rfl ?_))
 refine loopE (S := Nat) 0 (fun k => k ≤ l.length ∧ k + ahead s (l.drop k) = ahead s l) (fun k => l.length - k) (fun k => [(0, strs l), (1, .str s), (5, .int .i64 k)]) (fun _ => []) ⟨Nat.zero_le _, by simp⟩ rfl ?_ fun k hk => ?_
 ·try simp only [TrimX, QE, Nat.reduceLT, reduceIte, Nat.reduceEqDiff, Nat.reduceAdd, Nat.reduceLeDiff, Nat.reduceMul, Nat.reduceBEq]
  try simp
 ·obtain ⟨hkl, ha⟩ := hk
  (repeat (first | simp only [↓QA, QB, Nat.reduceLT, reduceIte, Nat.reduceEqDiff, Nat.reduceAdd, Nat.reduceLeDiff, Nat.reduceMul, Nat.reduceBEq, L103_0, str_beq] | refine rd0 rfl ?_))
  refine iteP_intro (fun h => ?_) fun h => ?_
  ·have hk1 : k < l.length := by simpa using h
   have e2 : ((k : Int) == l.length) = false := by simp; omega
   (repeat (first | simp only [↓QA, QB, Nat.reduceLT, reduceIte, Nat.reduceEqDiff, Nat.reduceAdd, Nat.reduceLeDiff, Nat.reduceMul, Nat.reduceBEq, h, hk1, str_beq] | refine rd0 rfl ?_))
   refine iteP_intro (fun h3 => ?_) fun h3 => ?_
   ·have h3' : l[k] ≠ s := by simpa using h3
    (repeat (first | simp only [↓QA, QB, Nat.reduceLT, reduceIte, Nat.reduceEqDiff, Nat.reduceAdd, Nat.reduceLeDiff, Nat.reduceMul, Nat.reduceBEq, h3] | refine rd0 rfl ?_))
    refine ⟨k + 1, ⟨by omega, by rw [← ahead_step hk1 h3']; exact ha⟩, by omega, ?_⟩
    try simp only [TrimX, QE, Nat.reduceLT, reduceIte, Nat.reduceEqDiff, Nat.reduceAdd, Nat.reduceLeDiff, Nat.reduceMul, Nat.reduceBEq, wrapN hk1 hl]
   ·have h3' : l[k] = s := by simpa using h3
    have h4 : ahead s (l.drop k) = 0 := by rw [List.drop_eq_getElem_cons hk1]; simp [ahead, h3']
    (repeat (first | simp only [↓QA, QB, Nat.reduceLT, reduceIte, Nat.reduceEqDiff, Nat.reduceAdd, Nat.reduceLeDiff, Nat.reduceMul, Nat.reduceBEq, h3, e2] | refine rd0 rfl ?_))
    simp only [whereI]
    rw [if_neg (by omega)]
    simp; omega
  ·have hk1 : k = l.length := by simp at h; omega
   have e2 : ((k : Int) == l.length) = true := by simp; omega
   have h4 : ahead s (l.drop k) = 0 := by rw [hk1, List.drop_length]; rfl
   (repeat (first | simp only [↓QA, QB, Nat.reduceLT, reduceIte, Nat.reduceEqDiff, Nat.reduceAdd, Nat.reduceLeDiff, Nat.reduceMul, Nat.reduceBEq, h, e2] | refine rd0 rfl ?_))
   simp only [whereI]
   rw [if_pos (by omega)]
def okByte (i : Nat) (b : Int) : Bool := inR b 97 122 || (decide (0 < i) && (b == 46 || inR b 48 57))
def okUpTo (s : ByteArray) : Nat → Bool
 | 0 => true
 | k + 1 => okUpTo s k && okByte k (byteAt s k)
def nameOk (s : ByteArray) : Bool := inR s.size 1 16 && okUpTo s s.size
theorem name_ok (s : ByteArray) (hs : s.size < 9223372036854775808) : Pure T 104 [.str s] (.bool (nameOk s)) := by
 refine pure_fn (af := a104) rfl (by simp [a104]) dd ?_
 (repeat (first | simp only [↓QA, QB, Nat.reduceLT, reduceIte, Nat.reduceEqDiff, Nat.reduceAdd, Nat.reduceLeDiff, Nat.reduceMul, Nat.reduceBEq, a104] | refine rd0 rfl ?_))
 ((first | refine callK_d (in_ok _ _ _) rfl dd ?_ | refine callD_d (in_ok _ _ _) rfl dd ?_); (repeat (first | simp only [↓QA, QB, Nat.reduceLT, reduceIte, Nat.reduceEqDiff, Nat.reduceAdd, Nat.reduceLeDiff, Nat.reduceMul, Nat.reduceBEq] | refine rd0 rfl ?_)))
 refine loopE (S := Nat) 0 (fun k => k ≤ s.size) (fun k => s.size - k) (fun k => [(0, .str s), (3, .bool (inR s.size 1 16 && okUpTo s k)), (4, .int .i64 k)]) (fun _ => []) (Nat.zero_le _) rfl ?_ fun k hk => ?_
 ·try simp only [TrimX, QE, Nat.reduceLT, reduceIte, Nat.reduceEqDiff, Nat.reduceAdd, Nat.reduceLeDiff, Nat.reduceMul, Nat.reduceBEq, okUpTo]
  try simp
 ·(repeat (first | simp only [↓QA, QB, Nat.reduceLT, reduceIte, Nat.reduceEqDiff, Nat.reduceAdd, Nat.reduceLeDiff, Nat.reduceMul, Nat.reduceBEq, L104_0] | refine rd0 rfl ?_))
  refine iteP_intro (fun h => ?_) fun h => ?_
  ·have hk1 : k < s.size := by simpa using h
   have hb := byteAt_lt s k
   have hw : IntKind.i64.wrap (byteAt s k) = byteAt s k := wrap64 ⟨by omega, by omega⟩
   have fin : ∀ (later : Bool), later = (decide (0 < k) && (byteAt s k == 46 || inR (byteAt s k) 48 57)) → (inR s.size 1 16 && okUpTo s k && (inR (byteAt s k) 97 122 || later)) = (inR s.size 1 16 && okUpTo s (k + 1)) := by
    rintro _ rfl
    simp only [okUpTo, okByte, Bool.and_assoc]
   have tail : ∀ (later : Bool) (e : Env), later = (decide (0 < k) && (byteAt s k == 46 || inR (byteAt s k) 48 57)) → True := fun _ _ _ => trivial
   (repeat (first | simp only [↓QA, QB, Nat.reduceLT, reduceIte, Nat.reduceEqDiff, Nat.reduceAdd, Nat.reduceLeDiff, Nat.reduceMul, Nat.reduceBEq, hk1, hw] | refine rd0 rfl ?_))
   cases h0 : decide ((0 : Int) < k)
   ·have h0' : decide (0 < k) = false := by simpa using h0
    (repeat (first | simp only [↓QA, QB, Nat.reduceLT, reduceIte, Nat.reduceEqDiff, Nat.reduceAdd, Nat.reduceLeDiff, Nat.reduceMul, Nat.reduceBEq, hk1, hw] | refine rd0 rfl ?_))
    cases hf : (inR s.size 1 16 && okUpTo s k)
    ·(repeat (first | simp only [↓QA, QB, Nat.reduceLT, reduceIte, Nat.reduceEqDiff, Nat.reduceAdd, Nat.reduceLeDiff, Nat.reduceMul, Nat.reduceBEq, hk1, hw, hf] | refine rd0 rfl ?_))
     refine ⟨k + 1, by omega, by omega, ?_⟩
     try simp only [TrimX, QE, Nat.reduceLT, reduceIte, Nat.reduceEqDiff, Nat.reduceAdd, Nat.reduceLeDiff, Nat.reduceMul, Nat.reduceBEq, wrapN hk1 hs, ← fin false (by simp [h0']), hf]
     try simp
    ·(repeat (first | simp only [↓QA, QB, Nat.reduceLT, reduceIte, Nat.reduceEqDiff, Nat.reduceAdd, Nat.reduceLeDiff, Nat.reduceMul, Nat.reduceBEq, hk1, hw, hf] | refine rd0 rfl ?_))
     ((first | refine callK_d (in_ok _ _ _) rfl dd ?_ | refine callD_d (in_ok _ _ _) rfl dd ?_); (repeat (first | simp only [↓QA, QB, Nat.reduceLT, reduceIte, Nat.reduceEqDiff, Nat.reduceAdd, Nat.reduceLeDiff, Nat.reduceMul, Nat.reduceBEq] | refine rd0 rfl ?_)))
     cases h2 : inR (byteAt s k) 97 122
     all_goals
      (repeat (first | simp only [↓QA, QB, Nat.reduceLT, reduceIte, Nat.reduceEqDiff, Nat.reduceAdd, Nat.reduceLeDiff, Nat.reduceMul, Nat.reduceBEq, hk1, hw, hf] | refine rd0 rfl ?_))
      refine ⟨k + 1, by omega, by omega, ?_⟩
      try simp only [TrimX, QE, Nat.reduceLT, reduceIte, Nat.reduceEqDiff, Nat.reduceAdd, Nat.reduceLeDiff, Nat.reduceMul, Nat.reduceBEq, wrapN hk1 hs, ← fin false (by simp [h0']), hf, h2]
      try simp
   ·have h0' : decide (0 < k) = true := by simpa using h0
    (repeat (first | simp only [↓QA, QB, Nat.reduceLT, reduceIte, Nat.reduceEqDiff, Nat.reduceAdd, Nat.reduceLeDiff, Nat.reduceMul, Nat.reduceBEq, hk1, hw] | refine rd0 rfl ?_))
    cases h1 : (byteAt s k == 46)
    ·(repeat (first | simp only [↓QA, QB, Nat.reduceLT, reduceIte, Nat.reduceEqDiff, Nat.reduceAdd, Nat.reduceLeDiff, Nat.reduceMul, Nat.reduceBEq, hk1, hw] | refine rd0 rfl ?_))
     ((first | refine callK_d (in_ok _ _ _) rfl dd ?_ | refine callD_d (in_ok _ _ _) rfl dd ?_); (repeat (first | simp only [↓QA, QB, Nat.reduceLT, reduceIte, Nat.reduceEqDiff, Nat.reduceAdd, Nat.reduceLeDiff, Nat.reduceMul, Nat.reduceBEq] | refine rd0 rfl ?_)))
     cases hf : (inR s.size 1 16 && okUpTo s k)
     ·(repeat (first | simp only [↓QA, QB, Nat.reduceLT, reduceIte, Nat.reduceEqDiff, Nat.reduceAdd, Nat.reduceLeDiff, Nat.reduceMul, Nat.reduceBEq, hk1, hw, hf] | refine rd0 rfl ?_))
      refine ⟨k + 1, by omega, by omega, ?_⟩
      try simp only [TrimX, QE, Nat.reduceLT, reduceIte, Nat.reduceEqDiff, Nat.reduceAdd, Nat.reduceLeDiff, Nat.reduceMul, Nat.reduceBEq, wrapN hk1 hs, ← fin _ rfl, hf]
      try simp
     ·(repeat (first | simp only [↓QA, QB, Nat.reduceLT, reduceIte, Nat.reduceEqDiff, Nat.reduceAdd, Nat.reduceLeDiff, Nat.reduceMul, Nat.reduceBEq, hk1, hw, hf] | refine rd0 rfl ?_))
      ((first | refine callK_d (in_ok _ _ _) rfl dd ?_ | refine callD_d (in_ok _ _ _) rfl dd ?_); (repeat (first | simp only [↓QA, QB, Nat.reduceLT, reduceIte, Nat.reduceEqDiff, Nat.reduceAdd, Nat.reduceLeDiff, Nat.reduceMul, Nat.reduceBEq] | refine rd0 rfl ?_)))
      cases h2 : inR (byteAt s k) 97 122
      all_goals
       (repeat (first | simp only [↓QA, QB, Nat.reduceLT, reduceIte, Nat.reduceEqDiff, Nat.reduceAdd, Nat.reduceLeDiff, Nat.reduceMul, Nat.reduceBEq, hk1, hw, hf] | refine rd0 rfl ?_))
       refine ⟨k + 1, by omega, by omega, ?_⟩
       try simp only [TrimX, QE, Nat.reduceLT, reduceIte, Nat.reduceEqDiff, Nat.reduceAdd, Nat.reduceLeDiff, Nat.reduceMul, Nat.reduceBEq, wrapN hk1 hs, ← fin _ rfl, hf, h2, h0', h1]
       try simp
    ·(repeat (first | simp only [↓QA, QB, Nat.reduceLT, reduceIte, Nat.reduceEqDiff, Nat.reduceAdd, Nat.reduceLeDiff, Nat.reduceMul, Nat.reduceBEq, hk1, hw] | refine rd0 rfl ?_))
     cases hf : (inR s.size 1 16 && okUpTo s k)
     ·(repeat (first | simp only [↓QA, QB, Nat.reduceLT, reduceIte, Nat.reduceEqDiff, Nat.reduceAdd, Nat.reduceLeDiff, Nat.reduceMul, Nat.reduceBEq, hk1, hw, hf] | refine rd0 rfl ?_))
      refine ⟨k + 1, by omega, by omega, ?_⟩
      try simp only [TrimX, QE, Nat.reduceLT, reduceIte, Nat.reduceEqDiff, Nat.reduceAdd, Nat.reduceLeDiff, Nat.reduceMul, Nat.reduceBEq, wrapN hk1 hs, ← fin _ rfl, hf]
      try simp
     ·(repeat (first | simp only [↓QA, QB, Nat.reduceLT, reduceIte, Nat.reduceEqDiff, Nat.reduceAdd, Nat.reduceLeDiff, Nat.reduceMul, Nat.reduceBEq, hk1, hw, hf] | refine rd0 rfl ?_))
      ((first | refine callK_d (in_ok _ _ _) rfl dd ?_ | refine callD_d (in_ok _ _ _) rfl dd ?_); (repeat (first | simp only [↓QA, QB, Nat.reduceLT, reduceIte, Nat.reduceEqDiff, Nat.reduceAdd, Nat.reduceLeDiff, Nat.reduceMul, Nat.reduceBEq] | refine rd0 rfl ?_)))
      cases h2 : inR (byteAt s k) 97 122
      all_goals
       (repeat (first | simp only [↓QA, QB, Nat.reduceLT, reduceIte, Nat.reduceEqDiff, Nat.reduceAdd, Nat.reduceLeDiff, Nat.reduceMul, Nat.reduceBEq, hk1, hw, hf] | refine rd0 rfl ?_))
       refine ⟨k + 1, by omega, by omega, ?_⟩
       try simp only [TrimX, QE, Nat.reduceLT, reduceIte, Nat.reduceEqDiff, Nat.reduceAdd, Nat.reduceLeDiff, Nat.reduceMul, Nat.reduceBEq, wrapN hk1 hs, ← fin _ rfl, hf, h2, h0', h1]
       try simp
  ·have hk1 : k = s.size := by simp at h; omega
   (repeat (first | simp only [↓QA, QB, Nat.reduceLT, reduceIte, Nat.reduceEqDiff, Nat.reduceAdd, Nat.reduceLeDiff, Nat.reduceMul, Nat.reduceBEq] | refine rd0 rfl ?_))
   simp [nameOk, hk1]
def fresh (s : ByteArray) (before : List ByteArray) : Int := if nameOk s = false then 6 else if ahead s before = before.length then 0 else 5
theorem fresh_ok (s : ByteArray) (l : List ByteArray) (hs : s.size < 9223372036854775808) (hl : l.length < 9223372036854775808) : Pure T 74 [.str s, strs l] (.int .i64 (fresh s l)) := by
 refine pure_fn (af := a74) rfl (by simp [a74]) dd ?_
 (repeat (first | simp only [↓QA, QB, Nat.reduceLT, reduceIte, Nat.reduceEqDiff, Nat.reduceAdd, Nat.reduceLeDiff, Nat.reduceMul, Nat.reduceBEq, a74] | refine rd0 rfl ?_))
 ((first | refine callK_d (where_ok l s hl) rfl dd ?_ | refine callD_d (where_ok l s hl) rfl dd ?_); (repeat (first | simp only [↓QA, QB, Nat.reduceLT, reduceIte, Nat.reduceEqDiff, Nat.reduceAdd, Nat.reduceLeDiff, Nat.reduceMul, Nat.reduceBEq] | refine rd0 rfl ?_)))
 refine iteP_intro (fun h => ?_) fun h => ?_
 ·have hin : ahead s l ≠ l.length := by
   intro e
   simp [whereI, e] at h
  (repeat (first | simp only [↓QA, QB, Nat.reduceLT, reduceIte, Nat.reduceEqDiff, Nat.reduceAdd, Nat.reduceLeDiff, Nat.reduceMul, Nat.reduceBEq] | refine rd0 rfl ?_))
  ((first | refine callK_d (name_ok s hs) rfl dd ?_ | refine callD_d (name_ok s hs) rfl dd ?_); (repeat (first | simp only [↓QA, QB, Nat.reduceLT, reduceIte, Nat.reduceEqDiff, Nat.reduceAdd, Nat.reduceLeDiff, Nat.reduceMul, Nat.reduceBEq] | refine rd0 rfl ?_)))
  cases hn : nameOk s
  all_goals
   (repeat (first | simp only [↓QA, QB, Nat.reduceLT, reduceIte, Nat.reduceEqDiff, Nat.reduceAdd, Nat.reduceLeDiff, Nat.reduceMul, Nat.reduceBEq] | refine rd0 rfl ?_))
   simp [fresh, hn, hin]
 ·have hin : ahead s l = l.length := by
   simp only [whereI] at h
   split at h
   ·assumption
   ·simp at h
  (repeat (first | simp only [↓QA, QB, Nat.reduceLT, reduceIte, Nat.reduceEqDiff, Nat.reduceAdd, Nat.reduceLeDiff, Nat.reduceMul, Nat.reduceBEq] | refine rd0 rfl ?_))
  ((first | refine callK_d (name_ok s hs) rfl dd ?_ | refine callD_d (name_ok s hs) rfl dd ?_); (repeat (first | simp only [↓QA, QB, Nat.reduceLT, reduceIte, Nat.reduceEqDiff, Nat.reduceAdd, Nat.reduceLeDiff, Nat.reduceMul, Nat.reduceBEq] | refine rd0 rfl ?_)))
  cases hn : nameOk s
  all_goals
   (repeat (first | simp only [↓QA, QB, Nat.reduceLT, reduceIte, Nat.reduceEqDiff, Nat.reduceAdd, Nat.reduceLeDiff, Nat.reduceMul, Nat.reduceBEq] | refine rd0 rfl ?_))
   simp [fresh, hn, hin]
def numbers (a : Int) : Nat → List Int
 | 0 => []
 | n + 1 => a :: numbers (a + 1) n
theorem numbers_len : ∀ n a, (numbers a n).length = n
 | 0, _ => rfl
 | n + 1, a => by simp [numbers, numbers_len n]
theorem numbers_mem : ∀ n a x, x ∈ numbers a n ↔ a ≤ x ∧ x < a + n
 | 0, a, x => by simp [numbers]
 | n + 1, a, x => by simp [numbers, numbers_mem n]; omega
def least (i : Nat) (c : List Int) : Int := if 0 < i then (c[i - 1]?).getD 0 + 1 else 0
def nexts (below i : Nat) (c : List Int) : List (List Int) := (numbers (least i c) ((below : Int) - least i c).toNat).map fun n => c ++ [n]
def choices (below : Nat) : Nat → List (List Int)
 | 0 => [[]]
 | i + 1 => (choices below i).flatMap (nexts below i)
theorem choices_spec (below : Nat) : ∀ i c, c ∈ choices below i → c.length = i ∧ ∀ x ∈ c, 0 ≤ x ∧ x < below
 | 0, c, h => by simp [choices] at h; subst h; simp
 | i + 1, c, h => by
  simp only [choices, List.mem_flatMap] at h
  obtain ⟨d, h1, h2⟩ := h
  obtain ⟨q1, q2⟩ := choices_spec below i d h1
  simp only [nexts, List.mem_map, numbers_mem] at h2
  obtain ⟨n, h3, rfl⟩ := h2
  refine ⟨by simp [q1], fun x hx => ?_⟩
  rcases List.mem_append.1 hx with hx | hx
  ·exact q2 x hx
  ·simp at hx
   subst hx
   have : 0 ≤ least i d := by
    unfold least
    split
    ·rename_i hi
     have hlt : i - 1 < d.length := by omega
     have := q2 d[i - 1] (List.getElem_mem hlt)
     simp [hlt]
     omega
    ·omega
   omega
structure Setting where
 name : ByteArray
 gain : Span
structure Look where
 day : Int
 colour : Int
 deriving DecidableEq
structure Rm where
 days : Int
 start : Span
 settings : List Setting
 opens : Int
 ran : List Int
 looks : List Look
def encSetting (s : Setting) : AV := .agg [.str s.name, .int .i64 s.gain.lo, .int .i64 s.gain.hi]
theorem encSetting_eq (s : Setting) : encSetting s = .agg [.str s.name, .int .i64 s.gain.lo, .int .i64 s.gain.hi] := by simp only [encSetting]
theorem data_setting (s : Setting) : Data (encSetting s) := data_agg (datas_cons (data_str _) (datas_cons (data_int _ _) (datas_cons (data_int _ _) datas_nil)))
instance (s : Setting) : Dat (encSetting s) := ⟨data_setting s⟩
def encLook (s : Look) : AV := .agg [.int .i64 s.day, .int .i64 s.colour]
theorem encLook_eq (s : Look) : encLook s = .agg [.int .i64 s.day, .int .i64 s.colour] := by simp only [encLook]
theorem data_look (s : Look) : Data (encLook s) := data_agg (datas_cons (data_int _ _) (datas_cons (data_int _ _) datas_nil))
instance (s : Look) : Dat (encLook s) := ⟨data_look s⟩
def roomCells (r : Rm) : List AV := [.int .i64 r.days, .int .i64 r.start.lo, .int .i64 r.start.hi, .lit (r.settings.map encSetting) false none, .int .i64 r.opens, ints r.ran, .lit (r.looks.map encLook) false none]
theorem roomCells_eq (r : Rm) : roomCells r = [.int .i64 r.days, .int .i64 r.start.lo, .int .i64 r.start.hi, .lit (r.settings.map encSetting) false none, .int .i64 r.opens, .lit (r.ran.map (.int .i64)) false none, .lit (r.looks.map encLook) false none] := by simp only [roomCells, ints]
def encRoom (r : Rm) : AV := .agg (roomCells r)
theorem encRoom_eq (r : Rm) : encRoom r = .agg (roomCells r) := by simp only [encRoom]
theorem data_room (r : Rm) : Data (encRoom r) := data_agg (datas_cons (data_int _ _) (datas_cons (data_int _ _) (datas_cons (data_int _ _) (datas_cons (data_list data_setting _) (datas_cons (data_int _ _) (datas_cons (data_ints _) (datas_cons (data_list data_look _) datas_nil)))))))
instance (r : Rm) : Dat (encRoom r) := ⟨data_room r⟩
instance (l : List Setting) : Dats (l.map encSetting) := ⟨datas_map data_setting l⟩
instance (l : List Look) : Dats (l.map encLook) := ⟨datas_map data_look l⟩
theorem S_mapSet (σ : St) (m d : Nat) (l : List Setting) : snapMs σ m d (l.map encSetting) = some (l.map encSetting) := S_datas (datas_map data_setting l) σ m d
theorem S_mapLook (σ : St) (m d : Nat) (l : List Look) : snapMs σ m d (l.map encLook) = some (l.map encLook) := S_datas (datas_map data_look l) σ m d
structure Fits (r : Rm) : Prop where
 settings : r.settings.length < 9223372036854775808
 ran : r.ran.length < 9223372036854775808
 looks : r.looks.length < 9223372036854775808
 names : ∀ s ∈ r.settings, s.name.size < 9223372036854775808
theorem today_ok (r : Rm) : Pure T 76 [encRoom r] (.int .i64 r.ran.length) := by
 refine pure_fn (af := a76) rfl (by simp [a76]) dd ?_
 (repeat (first | simp only [↓QA, QB, Nat.reduceLT, reduceIte, Nat.reduceEqDiff, Nat.reduceAdd, Nat.reduceLeDiff, Nat.reduceMul, Nat.reduceBEq, encRoom_eq, roomCells_eq, encSetting_eq, encLook_eq, encSpan_eq, a76] | refine rd0 rfl ?_))
def isSetting (r : Rm) (n : Int) : Bool := inR n 0 ((r.settings.length : Int) - 1)
theorem setting_ok (r : Rm) (n : Int) (h : Fits r) : Pure T 75 [encRoom r, .int .i64 n] (.bool (isSetting r n)) := by
 refine pure_fn (af := a75) rfl (by simp [a75]) dd ?_
 have hs := h.settings
 (repeat (first | simp only [↓QA, QB, Nat.reduceLT, reduceIte, Nat.reduceEqDiff, Nat.reduceAdd, Nat.reduceLeDiff, Nat.reduceMul, Nat.reduceBEq, encRoom_eq, roomCells_eq, encSetting_eq, encLook_eq, encSpan_eq, a75, wrap64 (show -9223372036854775808 ≤ (r.settings.length : Int) - 1 ∧ (r.settings.length : Int) - 1 ≤ 9223372036854775807 by omega)] | refine rd0 rfl ?_))
 ((first | refine callK_d (in_ok _ _ _) rfl dd ?_ | refine callD_d (in_ok _ _ _) rfl dd ?_); (repeat (first | simp only [↓QA, QB, Nat.reduceLT, reduceIte, Nat.reduceEqDiff, Nat.reduceAdd, Nat.reduceLeDiff, Nat.reduceMul, Nat.reduceBEq, encRoom_eq, roomCells_eq, encSetting_eq, encLook_eq, encSpan_eq, isSetting] | refine rd0 rfl ?_)))
def isColour (n : Int) : Bool := inR n 1 7
theorem iscolour_ok (n : Int) : Pure T 77 [.int .i64 n] (.bool (isColour n)) := by
 refine pure_fn (af := a77) rfl (by simp [a77]) dd ?_
 (repeat (first | simp only [↓QA, QB, Nat.reduceLT, reduceIte, Nat.reduceEqDiff, Nat.reduceAdd, Nat.reduceLeDiff, Nat.reduceMul, Nat.reduceBEq, encRoom_eq, roomCells_eq, encSetting_eq, encLook_eq, encSpan_eq, a77] | refine rd0 rfl ?_))
 ((first | refine callK_d (in_ok _ _ _) rfl dd ?_ | refine callD_d (in_ok _ _ _) rfl dd ?_); (repeat (first | simp only [↓QA, QB, Nat.reduceLT, reduceIte, Nat.reduceEqDiff, Nat.reduceAdd, Nat.reduceLeDiff, Nat.reduceMul, Nat.reduceBEq, encRoom_eq, roomCells_eq, encSetting_eq, encLook_eq, encSpan_eq, isColour] | refine rd0 rfl ?_)))
def firstBad {α : Type} (f : Nat → α → Int) : List α → Nat → Option (Nat × Int)
 | [], _ => none
 | x :: xs, i => if f i x = 0 then firstBad f xs (i + 1) else some (i, f i x)
theorem firstBad_step {α : Type} {f : Nat → α → Int} {l : List α} {k : Nat} (h : k < l.length) : firstBad f (l.drop k) k = if f k l[k] = 0 then firstBad f (l.drop (k + 1)) (k + 1) else some (k, f k l[k]) := by
 rw [List.drop_eq_getElem_cons h]; rfl
theorem firstBad_end {α : Type} {f : Nat → α → Int} {l : List α} {k : Nat} (h : k = l.length) : firstBad f (l.drop k) k = none := by
 rw [h, List.drop_length]; rfl
def setErr (r : Rm) (i : Nat) (s : Setting) : Int := if fresh s.name ((r.settings.take i).map Setting.name) = 0 then ends s.gain 0 15 else fresh s.name ((r.settings.take i).map Setting.name)
def ranErr (r : Rm) (_ : Nat) (n : Int) : Int := if isSetting r n then 0 else 4
def lookErr (r : Rm) (_ : Nat) (x : Look) : Int := if inR x.day 0 r.ran.length && isColour x.colour then 0 else 7
def check4 (r : Rm) : Int × Int × Int := if 4 < r.looks.length then (4, 0, 3) else match firstBad (lookErr r) r.looks 0 with | some (i, e) => (4, i, e) | none => (0, 0, 0)
def check3 (r : Rm) : Int × Int × Int := if r.days < r.ran.length then (3, 0, 3) else match firstBad (ranErr r) r.ran 0 with | some (i, e) => (3, i, e) | none => check4 r
def check2 (r : Rm) : Int × Int × Int := if inR r.settings.length 1 4 = false then (2, 0, 3) else match firstBad (setErr r) r.settings 0 with | some (i, e) => (2, i, e) | none => check3 r
def check (r : Rm) : Int × Int × Int :=
 if inR r.days 1 6 = false ∨ ends r.start 0 69 = 7 ∨ inR r.opens 0 6 = false then (1, 0, 7) else if ends r.start 0 69 ≠ 0 then (1, 0, ends r.start 0 69) else check2 r
def enc3 (x : Int × Int × Int) : AV := .tuple [.int .i64 x.1, .int .i64 x.2.1, .int .i64 x.2.2]
theorem take_name {r : Rm} {k : Nat} (h : k < r.settings.length) : (r.settings.take (k + 1)).map Setting.name = (r.settings.take k).map Setting.name ++ [r.settings[k].name] := by
 rw [List.take_succ_eq_append_getElem h, List.map_append]; rfl
theorem append_str {k : Nat} {ns : List ByteArray} {s : ByteArray} {b : ABlk} {ex : Bool} (hk : ns.length = k) (hn : k < 4) : appendAV 1 16 [b, .tok 1 k ex] (.lit (ns.map .str) false (some 1)) (.lit [.str s] true none) = some (.lit ((ns ++ [s]).map .str) false (some 1), [b, .tok 1 (k + 1) true]) := by
 rw [app_tok (ex := ex) ⟨L_allM 1 _ ns (fun x => C_str _), by simp [allCells, AV.cells, AV.cell], by simp [room, hk]; omega, by simp [room, hk]; omega⟩ (by simp) (by simp [hk])]
 simp [hk]
theorem refcheck_ok (r : Rm) (h : Fits r) : Pure T 16 [encRoom r] (enc3 (check r)) := by
 refine pure_fn (af := a16) rfl (by simp [a16]) dd ?_
 have hfs := h.settings
 have hfr := h.ran
 have hfl := h.looks
 (repeat (first | simp only [↓QA, QB, Nat.reduceLT, reduceIte, Nat.reduceEqDiff, Nat.reduceAdd, Nat.reduceLeDiff, Nat.reduceMul, Nat.reduceBEq, encRoom_eq, roomCells_eq, encSetting_eq, encLook_eq, encSpan_eq, a16] | refine rd0 rfl ?_))
 ((first | refine callK_d (ends_ok r.start _ _) rfl dd ?_ | refine callD_d (ends_ok r.start _ _) rfl dd ?_); (repeat (first | simp only [↓QA, QB, Nat.reduceLT, reduceIte, Nat.reduceEqDiff, Nat.reduceAdd, Nat.reduceLeDiff, Nat.reduceMul, Nat.reduceBEq, encRoom_eq, roomCells_eq, encSetting_eq, encLook_eq, encSpan_eq] | refine rd0 rfl ?_)))
 ((first | refine callK_d (in_ok _ _ _) rfl dd ?_ | refine callD_d (in_ok _ _ _) rfl dd ?_); (repeat (first | simp only [↓QA, QB, Nat.reduceLT, reduceIte, Nat.reduceEqDiff, Nat.reduceAdd, Nat.reduceLeDiff, Nat.reduceMul, Nat.reduceBEq, encRoom_eq, roomCells_eq, encSetting_eq, encLook_eq, encSpan_eq] | refine rd0 rfl ?_)))
 cases h1 : inR r.days 1 6
 ·(repeat (first | simp only [↓QA, QB, Nat.reduceLT, reduceIte, Nat.reduceEqDiff, Nat.reduceAdd, Nat.reduceLeDiff, Nat.reduceMul, Nat.reduceBEq, encRoom_eq, roomCells_eq, encSetting_eq, encLook_eq, encSpan_eq] | refine rd0 rfl ?_))
  simp [check, h1, enc3]
 ·(repeat (first | simp only [↓QA, QB, Nat.reduceLT, reduceIte, Nat.reduceEqDiff, Nat.reduceAdd, Nat.reduceLeDiff, Nat.reduceMul, Nat.reduceBEq, encRoom_eq, roomCells_eq, encSetting_eq, encLook_eq, encSpan_eq] | refine rd0 rfl ?_))
  cases h2 : (ends r.start 0 69 == 7)
  ·have h2' : ends r.start 0 69 ≠ 7 := by simpa using h2
   (repeat (first | simp only [↓QA, QB, Nat.reduceLT, reduceIte, Nat.reduceEqDiff, Nat.reduceAdd, Nat.reduceLeDiff, Nat.reduceMul, Nat.reduceBEq, encRoom_eq, roomCells_eq, encSetting_eq, encLook_eq, encSpan_eq, h2] | refine rd0 rfl ?_))
   ((first | refine callK_d (in_ok _ _ _) rfl dd ?_ | refine callD_d (in_ok _ _ _) rfl dd ?_); (repeat (first | simp only [↓QA, QB, Nat.reduceLT, reduceIte, Nat.reduceEqDiff, Nat.reduceAdd, Nat.reduceLeDiff, Nat.reduceMul, Nat.reduceBEq, encRoom_eq, roomCells_eq, encSetting_eq, encLook_eq, encSpan_eq] | refine rd0 rfl ?_)))
   cases h3 : inR r.opens 0 6
   ·(repeat (first | simp only [↓QA, QB, Nat.reduceLT, reduceIte, Nat.reduceEqDiff, Nat.reduceAdd, Nat.reduceLeDiff, Nat.reduceMul, Nat.reduceBEq, encRoom_eq, roomCells_eq, encSetting_eq, encLook_eq, encSpan_eq] | refine rd0 rfl ?_))
    simp [check, h3, enc3]
   ·(repeat (first | simp only [↓QA, QB, Nat.reduceLT, reduceIte, Nat.reduceEqDiff, Nat.reduceAdd, Nat.reduceLeDiff, Nat.reduceMul, Nat.reduceBEq, encRoom_eq, roomCells_eq, encSetting_eq, encLook_eq, encSpan_eq] | refine rd0 rfl ?_))
    cases h4 : (ends r.start 0 69 == 0)
    ·have h4' : ends r.start 0 69 ≠ 0 := by simpa using h4
     (repeat (first | simp only [↓QA, QB, Nat.reduceLT, reduceIte, Nat.reduceEqDiff, Nat.reduceAdd, Nat.reduceLeDiff, Nat.reduceMul, Nat.reduceBEq, encRoom_eq, roomCells_eq, encSetting_eq, encLook_eq, encSpan_eq, h4] | refine rd0 rfl ?_))
     simp [check, h1, h2', h3, h4', enc3]
    ·have h4' : ends r.start 0 69 = 0 := by simpa using h4
     have hc : check r = check2 r := by simp [check, h1, h3, h4']
     rw [hc]
     (repeat (first | simp only [↓QA, QB, Nat.reduceLT, reduceIte, Nat.reduceEqDiff, Nat.reduceAdd, Nat.reduceLeDiff, Nat.reduceMul, Nat.reduceBEq, encRoom_eq, roomCells_eq, encSetting_eq, encLook_eq, encSpan_eq, h4] | refine rd0 rfl ?_))
     ((first | refine callK_d (in_ok _ _ _) rfl dd ?_ | refine callD_d (in_ok _ _ _) rfl dd ?_); (repeat (first | simp only [↓QA, QB, Nat.reduceLT, reduceIte, Nat.reduceEqDiff, Nat.reduceAdd, Nat.reduceLeDiff, Nat.reduceMul, Nat.reduceBEq, encRoom_eq, roomCells_eq, encSetting_eq, encLook_eq, encSpan_eq] | refine rd0 rfl ?_)))
     cases h5 : inR r.settings.length 1 4
     ·(repeat (first | simp only [↓QA, QB, Nat.reduceLT, reduceIte, Nat.reduceEqDiff, Nat.reduceAdd, Nat.reduceLeDiff, Nat.reduceMul, Nat.reduceBEq, encRoom_eq, roomCells_eq, encSetting_eq, encLook_eq, encSpan_eq] | refine rd0 rfl ?_))
      simp [check2, h5, enc3]
     ·have h5' : r.settings.length ≤ 4 := by simp [inR] at h5; omega
      have hc : check2 r = match firstBad (setErr r) r.settings 0 with | some (i, e) => (2, (i : Int), e) | none => check3 r := by simp [check2, h5]
      rw [hc]
      (repeat (first | simp only [↓QA, QB, Nat.reduceLT, reduceIte, Nat.reduceEqDiff, Nat.reduceAdd, Nat.reduceLeDiff, Nat.reduceMul, Nat.reduceBEq, encRoom_eq, roomCells_eq, encSetting_eq, encLook_eq, encSpan_eq] | refine rd0 rfl ?_))
      refine ghostK 6 1 [] rfl ?_
      refine loopE (S := Nat × Bool) (0, false) (fun s => s.1 ≤ r.settings.length ∧ firstBad (setErr r) (r.settings.drop s.1) s.1 = firstBad (setErr r) r.settings 0) (fun s => r.settings.length - s.1)
       (fun s => [(1, .ptr 0 0), (6, .lit (((r.settings.take s.1).map Setting.name).map .str) false (some 1)), (7, .int .i64 s.1)]) (fun s => [.cells (roomCells r), .tok 1 s.1 s.2]) ⟨Nat.zero_le _, by simp⟩ (by simp [roomCells, ints]) ?_ fun s hs => ?_
      ·try simp only [TrimX, QE, Nat.reduceLT, reduceIte, Nat.reduceEqDiff, Nat.reduceAdd, Nat.reduceLeDiff, Nat.reduceMul, Nat.reduceBEq, encRoom_eq, roomCells_eq, encSetting_eq, encLook_eq, encSpan_eq]
       try simp
      ·obtain ⟨k, ex⟩ := s
       obtain ⟨hk, hb⟩ := hs
       simp only at hk hb
       have hlen : ((r.settings.take k).map Setting.name).length = k := by simp [hk]
       (repeat (first | simp only [↓QA, QB, Nat.reduceLT, reduceIte, Nat.reduceEqDiff, Nat.reduceAdd, Nat.reduceLeDiff, Nat.reduceMul, Nat.reduceBEq, encRoom_eq, roomCells_eq, encSetting_eq, encLook_eq, encSpan_eq, L16_0] | refine rd0 rfl ?_))
       refine iteP_intro (fun hd => ?_) fun hd => ?_
       ·have hk1 : k < r.settings.length := by simpa using hd
        rw [firstBad_step hk1] at hb
        have hw := wrapN hk1 hfs
        have hap := append_str (k := k) (ns := (r.settings.take k).map Setting.name) (s := r.settings[k].name) (b := .cells (roomCells r)) (ex := ex) hlen (by omega)
        rw [roomCells_eq] at hap
        (repeat (first | simp only [↓QA, QB, Nat.reduceLT, reduceIte, Nat.reduceEqDiff, Nat.reduceAdd, Nat.reduceLeDiff, Nat.reduceMul, Nat.reduceBEq, encRoom_eq, roomCells_eq, encSetting_eq, encLook_eq, encSpan_eq, hk1, hw] | refine rd0 rfl ?_))
        ((first | refine callK_s (fresh_ok r.settings[k].name ((r.settings.take k).map Setting.name) (h.names _ (List.getElem_mem hk1)) (by rw [hlen]; omega)) (by try simp only [QS, QC, Nat.reduceLT, reduceIte, Nat.reduceEqDiff, Nat.reduceAdd, Nat.reduceLeDiff, Nat.reduceMul, Nat.reduceBEq, encRoom_eq, roomCells_eq, encSetting_eq, encLook_eq, encSpan_eq]) trivial ?_ | refine callD_s (fresh_ok r.settings[k].name ((r.settings.take k).map Setting.name) (h.names _ (List.getElem_mem hk1)) (by rw [hlen]; omega)) (by try simp only [QS, QC, Nat.reduceLT, reduceIte, Nat.reduceEqDiff, Nat.reduceAdd, Nat.reduceLeDiff, Nat.reduceMul, Nat.reduceBEq, encRoom_eq, roomCells_eq, encSetting_eq, encLook_eq, encSpan_eq]) trivial ?_); (repeat (first | simp only [↓QA, QB, Nat.reduceLT, reduceIte, Nat.reduceEqDiff, Nat.reduceAdd, Nat.reduceLeDiff, Nat.reduceMul, Nat.reduceBEq, encRoom_eq, roomCells_eq, encSetting_eq, encLook_eq, encSpan_eq, hk1, hw, hap] | refine rd0 rfl ?_)))
        have hset : setErr r k r.settings[k] = if fresh r.settings[k].name ((r.settings.take k).map Setting.name) = 0 then ends r.settings[k].gain 0 15 else fresh r.settings[k].name ((r.settings.take k).map Setting.name) := rfl
        cases hf : (fresh r.settings[k].name ((r.settings.take k).map Setting.name) == 0)
        ·have hf' : fresh r.settings[k].name ((r.settings.take k).map Setting.name) ≠ 0 := by simpa using hf
         rw [hset, if_neg hf', if_neg hf'] at hb
         rw [← hb]
         (repeat (first | simp only [↓QA, QB, Nat.reduceLT, reduceIte, Nat.reduceEqDiff, Nat.reduceAdd, Nat.reduceLeDiff, Nat.reduceMul, Nat.reduceBEq, encRoom_eq, roomCells_eq, encSetting_eq, encLook_eq, encSpan_eq, hf] | refine rd0 rfl ?_))
         rfl
        ·have hf' : fresh r.settings[k].name ((r.settings.take k).map Setting.name) = 0 := by simpa using hf
         rw [hset, if_pos hf'] at hb
         (repeat (first | simp only [↓QA, QB, Nat.reduceLT, reduceIte, Nat.reduceEqDiff, Nat.reduceAdd, Nat.reduceLeDiff, Nat.reduceMul, Nat.reduceBEq, encRoom_eq, roomCells_eq, encSetting_eq, encLook_eq, encSpan_eq, hf, hk1] | refine rd0 rfl ?_))
         ((first | refine callK_d (ends_ok r.settings[k].gain _ _) rfl dd ?_ | refine callD_d (ends_ok r.settings[k].gain _ _) rfl dd ?_); (repeat (first | simp only [↓QA, QB, Nat.reduceLT, reduceIte, Nat.reduceEqDiff, Nat.reduceAdd, Nat.reduceLeDiff, Nat.reduceMul, Nat.reduceBEq, encRoom_eq, roomCells_eq, encSetting_eq, encLook_eq, encSpan_eq] | refine rd0 rfl ?_)))
         cases hg : (ends r.settings[k].gain 0 15 == 0)
         ·have hg' : ends r.settings[k].gain 0 15 ≠ 0 := by simpa using hg
          rw [if_neg hg'] at hb
          rw [← hb]
          (repeat (first | simp only [↓QA, QB, Nat.reduceLT, reduceIte, Nat.reduceEqDiff, Nat.reduceAdd, Nat.reduceLeDiff, Nat.reduceMul, Nat.reduceBEq, encRoom_eq, roomCells_eq, encSetting_eq, encLook_eq, encSpan_eq, hg] | refine rd0 rfl ?_))
          rfl
         ·have hg' : ends r.settings[k].gain 0 15 = 0 := by simpa using hg
          (repeat (first | simp only [↓QA, QB, Nat.reduceLT, reduceIte, Nat.reduceEqDiff, Nat.reduceAdd, Nat.reduceLeDiff, Nat.reduceMul, Nat.reduceBEq, encRoom_eq, roomCells_eq, encSetting_eq, encLook_eq, encSpan_eq, hg, hw] | refine rd0 rfl ?_))
          refine ⟨(k + 1, true), ⟨by simp only; omega, by rw [← hb, if_pos hg']⟩, by simp only; omega, ?_⟩
          try simp only [TrimX, QE, Nat.reduceLT, reduceIte, Nat.reduceEqDiff, Nat.reduceAdd, Nat.reduceLeDiff, Nat.reduceMul, Nat.reduceBEq, encRoom_eq, roomCells_eq, encSetting_eq, encLook_eq, encSpan_eq, take_name hk1, hw]
          try simp [okBlk]
       ·have hk1 : k = r.settings.length := by simp at hd; omega
        rw [firstBad_end hk1] at hb
        rw [← hb]
        (repeat (first | simp only [↓QA, QB, Nat.reduceLT, reduceIte, Nat.reduceEqDiff, Nat.reduceAdd, Nat.reduceLeDiff, Nat.reduceMul, Nat.reduceBEq, encRoom_eq, roomCells_eq, encSetting_eq, encLook_eq, encSpan_eq] | refine rd0 rfl ?_))
        cases h6 : decide (r.days < (r.ran.length : Int))
        ·have h6' : ¬ r.days < r.ran.length := by simpa using h6
         have hc : check3 r = match firstBad (ranErr r) r.ran 0 with | some (i, e) => (3, (i : Int), e) | none => check4 r := by simp only [check3, h6', if_false]
         rw [hc]
         (repeat (first | simp only [↓QA, QB, Nat.reduceLT, reduceIte, Nat.reduceEqDiff, Nat.reduceAdd, Nat.reduceLeDiff, Nat.reduceMul, Nat.reduceBEq, encRoom_eq, roomCells_eq, encSetting_eq, encLook_eq, encSpan_eq] | refine rd0 rfl ?_))
         refine loopE (S := Nat) 0 (fun s => s ≤ r.ran.length ∧ firstBad (ranErr r) (r.ran.drop s) s = firstBad (ranErr r) r.ran 0) (fun s => r.ran.length - s)
          (fun s => [(1, .ptr 0 0), (9, .int .i64 s)]) (fun _ => [.cells (roomCells r), .tok 1 k ex]) ⟨Nat.zero_le _, by simp⟩ (by simp [roomCells, ints]) ?_ fun j hj => ?_
         ·try simp only [TrimX, QE, Nat.reduceLT, reduceIte, Nat.reduceEqDiff, Nat.reduceAdd, Nat.reduceLeDiff, Nat.reduceMul, Nat.reduceBEq, encRoom_eq, roomCells_eq, encSetting_eq, encLook_eq, encSpan_eq]
          try simp
         ·obtain ⟨hj, hbj⟩ := hj
          (repeat (first | simp only [↓QA, QB, Nat.reduceLT, reduceIte, Nat.reduceEqDiff, Nat.reduceAdd, Nat.reduceLeDiff, Nat.reduceMul, Nat.reduceBEq, encRoom_eq, roomCells_eq, encSetting_eq, encLook_eq, encSpan_eq, L16_2] | refine rd0 rfl ?_))
          refine iteP_intro (fun hd2 => ?_) fun hd2 => ?_
          ·have hj1 : j < r.ran.length := by simpa using hd2
           rw [firstBad_step hj1] at hbj
           have hw2 := wrapN hj1 hfr
           (repeat (first | simp only [↓QA, QB, Nat.reduceLT, reduceIte, Nat.reduceEqDiff, Nat.reduceAdd, Nat.reduceLeDiff, Nat.reduceMul, Nat.reduceBEq, encRoom_eq, roomCells_eq, encSetting_eq, encLook_eq, encSpan_eq, hj1] | refine rd0 rfl ?_))
           ((first | refine callK_d (setting_ok r r.ran[j] h) rfl dd ?_ | refine callD_d (setting_ok r r.ran[j] h) rfl dd ?_); (repeat (first | simp only [↓QA, QB, Nat.reduceLT, reduceIte, Nat.reduceEqDiff, Nat.reduceAdd, Nat.reduceLeDiff, Nat.reduceMul, Nat.reduceBEq, encRoom_eq, roomCells_eq, encSetting_eq, encLook_eq, encSpan_eq] | refine rd0 rfl ?_)))
           have hre : ranErr r j r.ran[j] = if isSetting r r.ran[j] then 0 else 4 := rfl
           rw [hre] at hbj
           cases hi : isSetting r r.ran[j]
           ·(repeat (first | simp only [↓QA, QB, Nat.reduceLT, reduceIte, Nat.reduceEqDiff, Nat.reduceAdd, Nat.reduceLeDiff, Nat.reduceMul, Nat.reduceBEq, encRoom_eq, roomCells_eq, encSetting_eq, encLook_eq, encSpan_eq, hj1] | refine rd0 rfl ?_))
            rw [← hbj, hi]
            rfl
           ·(repeat (first | simp only [↓QA, QB, Nat.reduceLT, reduceIte, Nat.reduceEqDiff, Nat.reduceAdd, Nat.reduceLeDiff, Nat.reduceMul, Nat.reduceBEq, encRoom_eq, roomCells_eq, encSetting_eq, encLook_eq, encSpan_eq, hj1, hw2] | refine rd0 rfl ?_))
            refine ⟨j + 1, ⟨by omega, by rw [← hbj, hi]; rfl⟩, by omega, ?_⟩
            try simp only [TrimX, QE, Nat.reduceLT, reduceIte, Nat.reduceEqDiff, Nat.reduceAdd, Nat.reduceLeDiff, Nat.reduceMul, Nat.reduceBEq, encRoom_eq, roomCells_eq, encSetting_eq, encLook_eq, encSpan_eq, hw2]
            try simp
          ·have hj1 : j = r.ran.length := by simp at hd2; omega
           rw [firstBad_end hj1] at hbj
           rw [← hbj]
           (repeat (first | simp only [↓QA, QB, Nat.reduceLT, reduceIte, Nat.reduceEqDiff, Nat.reduceAdd, Nat.reduceLeDiff, Nat.reduceMul, Nat.reduceBEq, encRoom_eq, roomCells_eq, encSetting_eq, encLook_eq, encSpan_eq] | refine rd0 rfl ?_))
           cases h7 : decide (4 < (r.looks.length : Int))
           ·have h7' : ¬ 4 < r.looks.length := by simp at h7; omega
            have hc : check4 r = match firstBad (lookErr r) r.looks 0 with | some (i, e) => (4, (i : Int), e) | none => (0, 0, 0) := by simp only [check4, h7', if_false]
            rw [hc]
            (repeat (first | simp only [↓QA, QB, Nat.reduceLT, reduceIte, Nat.reduceEqDiff, Nat.reduceAdd, Nat.reduceLeDiff, Nat.reduceMul, Nat.reduceBEq, encRoom_eq, roomCells_eq, encSetting_eq, encLook_eq, encSpan_eq] | refine rd0 rfl ?_))
            refine loopE (S := Nat) 0 (fun s => s ≤ r.looks.length ∧ firstBad (lookErr r) (r.looks.drop s) s = firstBad (lookErr r) r.looks 0) (fun s => r.looks.length - s)
             (fun s => [(1, .ptr 0 0), (10, .int .i64 s)]) (fun _ => [.cells (roomCells r), .tok 1 k ex]) ⟨Nat.zero_le _, by simp⟩ (by simp [roomCells, ints]) ?_ fun i hi => ?_
            ·try simp only [TrimX, QE, Nat.reduceLT, reduceIte, Nat.reduceEqDiff, Nat.reduceAdd, Nat.reduceLeDiff, Nat.reduceMul, Nat.reduceBEq, encRoom_eq, roomCells_eq, encSetting_eq, encLook_eq, encSpan_eq]
             try simp
            ·obtain ⟨hi, hbi⟩ := hi
             (repeat (first | simp only [↓QA, QB, Nat.reduceLT, reduceIte, Nat.reduceEqDiff, Nat.reduceAdd, Nat.reduceLeDiff, Nat.reduceMul, Nat.reduceBEq, encRoom_eq, roomCells_eq, encSetting_eq, encLook_eq, encSpan_eq, L16_4] | refine rd0 rfl ?_))
             refine iteP_intro (fun hd3 => ?_) fun hd3 => ?_
             ·have hi1 : i < r.looks.length := by simpa using hd3
              rw [firstBad_step hi1] at hbi
              have hw3 := wrapN hi1 hfl
              have hle : lookErr r i r.looks[i] = if inR r.looks[i].day 0 r.ran.length && isColour r.looks[i].colour then 0 else 7 := rfl
              rw [hle] at hbi
              (repeat (first | simp only [↓QA, QB, Nat.reduceLT, reduceIte, Nat.reduceEqDiff, Nat.reduceAdd, Nat.reduceLeDiff, Nat.reduceMul, Nat.reduceBEq, encRoom_eq, roomCells_eq, encSetting_eq, encLook_eq, encSpan_eq, hi1] | refine rd0 rfl ?_))
              ((first | refine callK_d (today_ok r) rfl dd ?_ | refine callD_d (today_ok r) rfl dd ?_); (repeat (first | simp only [↓QA, QB, Nat.reduceLT, reduceIte, Nat.reduceEqDiff, Nat.reduceAdd, Nat.reduceLeDiff, Nat.reduceMul, Nat.reduceBEq, encRoom_eq, roomCells_eq, encSetting_eq, encLook_eq, encSpan_eq] | refine rd0 rfl ?_)))
              ((first | refine callK_d (in_ok _ _ _) rfl dd ?_ | refine callD_d (in_ok _ _ _) rfl dd ?_); (repeat (first | simp only [↓QA, QB, Nat.reduceLT, reduceIte, Nat.reduceEqDiff, Nat.reduceAdd, Nat.reduceLeDiff, Nat.reduceMul, Nat.reduceBEq, encRoom_eq, roomCells_eq, encSetting_eq, encLook_eq, encSpan_eq] | refine rd0 rfl ?_)))
              cases ha : inR r.looks[i].day 0 r.ran.length
              ·(repeat (first | simp only [↓QA, QB, Nat.reduceLT, reduceIte, Nat.reduceEqDiff, Nat.reduceAdd, Nat.reduceLeDiff, Nat.reduceMul, Nat.reduceBEq, encRoom_eq, roomCells_eq, encSetting_eq, encLook_eq, encSpan_eq, hi1] | refine rd0 rfl ?_))
               rw [← hbi, ha]
               rfl
              ·(repeat (first | simp only [↓QA, QB, Nat.reduceLT, reduceIte, Nat.reduceEqDiff, Nat.reduceAdd, Nat.reduceLeDiff, Nat.reduceMul, Nat.reduceBEq, encRoom_eq, roomCells_eq, encSetting_eq, encLook_eq, encSpan_eq, hi1] | refine rd0 rfl ?_))
               ((first | refine callK_d (iscolour_ok _) rfl dd ?_ | refine callD_d (iscolour_ok _) rfl dd ?_); (repeat (first | simp only [↓QA, QB, Nat.reduceLT, reduceIte, Nat.reduceEqDiff, Nat.reduceAdd, Nat.reduceLeDiff, Nat.reduceMul, Nat.reduceBEq, encRoom_eq, roomCells_eq, encSetting_eq, encLook_eq, encSpan_eq] | refine rd0 rfl ?_)))
               cases hcol : isColour r.looks[i].colour
               ·(repeat (first | simp only [↓QA, QB, Nat.reduceLT, reduceIte, Nat.reduceEqDiff, Nat.reduceAdd, Nat.reduceLeDiff, Nat.reduceMul, Nat.reduceBEq, encRoom_eq, roomCells_eq, encSetting_eq, encLook_eq, encSpan_eq, hi1] | refine rd0 rfl ?_))
                rw [← hbi, ha, hcol]
                rfl
               ·(repeat (first | simp only [↓QA, QB, Nat.reduceLT, reduceIte, Nat.reduceEqDiff, Nat.reduceAdd, Nat.reduceLeDiff, Nat.reduceMul, Nat.reduceBEq, encRoom_eq, roomCells_eq, encSetting_eq, encLook_eq, encSpan_eq, hi1, hw3] | refine rd0 rfl ?_))
                refine ⟨i + 1, ⟨by omega, by rw [← hbi, ha, hcol]; rfl⟩, by omega, ?_⟩
                try simp only [TrimX, QE, Nat.reduceLT, reduceIte, Nat.reduceEqDiff, Nat.reduceAdd, Nat.reduceLeDiff, Nat.reduceMul, Nat.reduceBEq, encRoom_eq, roomCells_eq, encSetting_eq, encLook_eq, encSpan_eq, hw3]
                try simp
             ·have hi1 : i = r.looks.length := by simp at hd3; omega
              rw [firstBad_end hi1] at hbi
              rw [← hbi]
              (repeat (first | simp only [↓QA, QB, Nat.reduceLT, reduceIte, Nat.reduceEqDiff, Nat.reduceAdd, Nat.reduceLeDiff, Nat.reduceMul, Nat.reduceBEq, encRoom_eq, roomCells_eq, encSetting_eq, encLook_eq, encSpan_eq, enc3] | refine rd0 rfl ?_))
           ·have h7' : 4 < r.looks.length := by simp at h7; omega
            (repeat (first | simp only [↓QA, QB, Nat.reduceLT, reduceIte, Nat.reduceEqDiff, Nat.reduceAdd, Nat.reduceLeDiff, Nat.reduceMul, Nat.reduceBEq, encRoom_eq, roomCells_eq, encSetting_eq, encLook_eq, encSpan_eq] | refine rd0 rfl ?_))
            simp [check4, h7', enc3]
        ·have h6' : r.days < r.ran.length := by simpa using h6
         (repeat (first | simp only [↓QA, QB, Nat.reduceLT, reduceIte, Nat.reduceEqDiff, Nat.reduceAdd, Nat.reduceLeDiff, Nat.reduceMul, Nat.reduceBEq, encRoom_eq, roomCells_eq, encSetting_eq, encLook_eq, encSpan_eq] | refine rd0 rfl ?_))
         simp [check3, h6', enc3]
  ·have h2' : ends r.start 0 69 = 7 := by simpa using h2
   (repeat (first | simp only [↓QA, QB, Nat.reduceLT, reduceIte, Nat.reduceEqDiff, Nat.reduceAdd, Nat.reduceLeDiff, Nat.reduceMul, Nat.reduceBEq, encRoom_eq, roomCells_eq, encSetting_eq, encLook_eq, encSpan_eq, h2] | refine rd0 rfl ?_))
   simp [check, h2', enc3]
open Go
variable {P : Program}
def IsStruct (P : Program) (t : TypeId) (ts : List TypeId) : Prop := ∃ fs, P.underlying t = some (.struct fs) ∧ fs.toList.map Field.type = ts
structure Tys (P : Program) : Prop where
 str : P.underlying 9 = some .string
 int : P.underlying 3 = some (.int .i64)
 u8 : P.underlying 5 = some (.int .u8)
 span : IsStruct P 23 [3, 3]
 sets : P.underlying 24 = some (.slice 62)
 ints : P.underlying 25 = some (.slice 3)
 looks : P.underlying 26 = some (.slice 49)
 room : IsStruct P 28 [3, 23, 24, 3, 25, 26]
 look : IsStruct P 49 [3, 3]
 u8s : P.underlying 52 = some (.slice 5)
 set : IsStruct P 62 [9, 23]
 want : IsStruct P 65 [5, 5]
 lookB : P.bytesOf 49 = 16
theorem typ_st {n : Nat} {t : TypeId} {ts : List TypeId} {cs : List AV} (hu : IsStruct P t ts) (h : Typ P (n + 1) t cs) : mkV P t cs = .agg cs ∧ Parts P n ts cs := by
 obtain ⟨fs, h1, h2⟩ := hu
 have := typ_struct h1 h
 rw [h2] at this
 exact ⟨mkV_struct h1, this⟩
theorem mkV_ne {t : TypeId} {a : AV} {d : TypeDesc} (hu : P.underlying t = some d) (hd : ∀ fs, d ≠ .struct fs) : mkV P t [a] = a := mkV_one (by rw [hu]; intro fs e; cases e; exact hd _ rfl)
theorem ty_span {n : Nat} {cs : List AV} (T : Tys P) (h : Typ P (n + 2) 23 cs) : ∃ s : Span, cs = [.int .i64 s.lo, .int .i64 s.hi] := by
 obtain ⟨_, a, b, rfl, h1, c, d, rfl, h2, rfl⟩ := typ_st T.span h
 obtain ⟨x, rfl, _⟩ := typ_int T.int h1
 obtain ⟨y, rfl, _⟩ := typ_int T.int h2
 exact ⟨⟨x, y⟩, rfl⟩
theorem ty_setting {n : Nat} {cs : List AV} (T : Tys P) (h : Typ P (n + 3) 62 cs) : ∃ s : Setting, mkV P 62 cs = encSetting s ∧ s.name.size < 9223372036854775808 := by
 obtain ⟨e, a, b, rfl, h1, c, d, rfl, h2, rfl⟩ := typ_st T.set h
 obtain ⟨x, rfl, hx⟩ := typ_str T.str h1
 obtain ⟨y, rfl⟩ := ty_span T h2
 exact ⟨⟨x, y⟩, e, by simp only [maxLen] at hx; simp only; omega⟩
theorem ty_look {n : Nat} {cs : List AV} (T : Tys P) (h : Typ P (n + 2) 49 cs) : ∃ s : Look, mkV P 49 cs = encLook s ∧ True := by
 obtain ⟨e, a, b, rfl, h1, c, d, rfl, h2, rfl⟩ := typ_st T.look h
 obtain ⟨x, rfl, _⟩ := typ_int T.int h1
 obtain ⟨y, rfl, _⟩ := typ_int T.int h2
 exact ⟨⟨x, y⟩, e, trivial⟩
theorem ty_int {n : Nat} {cs : List AV} (T : Tys P) (h : Typ P (n + 1) 3 cs) : ∃ x : Int, mkV P 3 cs = .int .i64 x ∧ True := by
 obtain ⟨x, rfl, _⟩ := typ_int T.int h
 exact ⟨x, mkV_ne T.int (by intro fs e; cases e), trivial⟩
theorem ty_ints {n : Nat} {cs : List AV} (T : Tys P) (h : Typ P (n + 2) 25 cs) : ∃ l : List Int, mkV P 25 cs = Go.Am.ints l ∧ cs = [Go.Am.ints l] ∧ l.length < 9223372036854775808 := by
 obtain ⟨l, rfl, ⟨h1, _⟩, _⟩ := typ_slice (f := fun x : Int => AV.int .i64 x) T.ints h fun y hy => ty_int T hy
 exact ⟨l, mkV_ne T.ints (by intro fs e; cases e), rfl, h1⟩
theorem ty_roomB {n : Nat} {cs : List AV} (T : Tys P) (h : Typ P (n + 5) 28 cs) : ∃ r : Rm, mkV P 28 cs = encRoom r ∧ Fits r ∧ r.looks.length * 16 ≤ 140737488351232 := by
 obtain ⟨e, a1, b1, rfl, h1, a2, b2, rfl, h2, a3, b3, rfl, h3, a4, b4, rfl, h4, a5, b5, rfl, h5, a6, b6, rfl, h6, rfl⟩ := typ_st T.room h
 obtain ⟨x1, rfl, _⟩ := typ_int T.int h1
 obtain ⟨x2, rfl⟩ := ty_span T h2
 obtain ⟨x3, rfl, ⟨l3, _⟩, q3⟩ := typ_slice T.sets h3 fun y hy => ty_setting T hy
 obtain ⟨x4, rfl, _⟩ := typ_int T.int h4
 obtain ⟨x5, _, rfl, l5⟩ := ty_ints T h5
 obtain ⟨x6, rfl, ⟨l6, b6⟩, _⟩ := typ_slice T.looks h6 fun y hy => ty_look T hy
 exact ⟨⟨x1, x2, x3, x4, x5, x6⟩, e, ⟨l3, l5, l6, q3⟩, by rw [T.lookB] at b6; simpa [reachBytes] using b6⟩
end Go.Am.Room
set_option maxRecDepth 4000
namespace Go.Am.Room
def bits (p : Nat → Bool) : List AV := (List.range 160).map fun n => .bool (p n)
theorem bits_len (p : Nat → Bool) : (bits p).length = 160 := by simp [bits]
theorem bits_cell (p : Nat → Bool) : allCell (bits p) = true := C_mapc (fun n => .bool (p n)) _ fun _ => rfl
theorem bits_take (p : Nat → Bool) : (bits p).take 160 = bits p := List.take_of_length_le (by simp [bits_len])
theorem bits_drop (p : Nat → Bool) : (bits p).drop 160 = [] := List.drop_of_length_le (by simp [bits_len])
theorem bits_zero : Z160 = bits (fun _ => false) := by rw [Z160, bits, List.map_const', List.length_range]
theorem datas_bits (p : Nat → Bool) : Datas (bits p) := datas_map (fun n => data_bool (p n)) _
instance (p : Nat → Bool) : Dats (bits p) := ⟨datas_bits p⟩
theorem S_bits (σ : St) (m d : Nat) (p : Nat → Bool) : snapMs σ m d (bits p) = some (bits p) := S_datas (datas_bits p) σ m d
def setE (p : Nat → Bool) : AV := .agg (bits p)
theorem setE_eq (p : Nat → Bool) : setE p = .agg (bits p) := by simp only [setE]
theorem data_set (p : Nat → Bool) : Data (setE p) := data_agg (datas_bits p)
instance (p : Nat → Bool) : Dat (setE p) := ⟨data_set p⟩
def within (s : Span) (n : Nat) : Bool := decide (s.lo ≤ n) && decide ((n : Int) ≤ s.hi)
def grownTo (p : Nat → Bool) (g : Span) (n m : Nat) : Bool := (List.range n).any fun i => p i && (decide (g.lo ≤ (m : Int) - i) && decide ((m : Int) - i ≤ g.hi))
def shrTo (p : Nat → Bool) (a : Int) (x : Int) (n : Nat) : Bool := (List.range 160).any fun m => p m && (decide (a ≤ (m : Int) - n) && decide ((m : Int) - n < x))
def shrunk (p : Nat → Bool) (g : Span) (n : Nat) : Bool := shrTo p g.lo (g.hi + 1) n
def joinTo (p : Nat → Bool) : Nat → Span
 | 0 => ⟨160, -1⟩
 | n + 1 => if p n then join (joinTo p n) n else joinTo p n
def colourOf (n : Int) : Int := min 7 (1 + n / 10)
def soFrom (day : Int) (but : List Int) (c : Int) : List Look → Nat → Bool
 | [], _ => true
 | x :: xs, i => (if (x.day == day && !but.contains (i : Int)) = true then x.colour == c else true) && soFrom day but c xs (i + 1)
def seenP (looks : List Look) (day : Int) (but : List Int) (n : Nat) : Bool := soFrom day but (colourOf n) looks 0
end Go.Am.Room
set_option maxRecDepth 4000
namespace Go.Am.Room
structure Vd (r : Rm) : Prop where
 days : 1 ≤ r.days ∧ r.days ≤ 6
 start : 0 ≤ r.start.lo ∧ r.start.lo ≤ r.start.hi ∧ r.start.hi ≤ 69
 nset : 1 ≤ r.settings.length ∧ r.settings.length ≤ 4
 gains : ∀ s ∈ r.settings, 0 ≤ s.gain.lo ∧ s.gain.lo ≤ s.gain.hi ∧ s.gain.hi ≤ 15
 opens : 0 ≤ r.opens ∧ r.opens ≤ 6
 ranLen : (r.ran.length : Int) ≤ r.days
 ran : ∀ n ∈ r.ran, 0 ≤ n ∧ n < r.settings.length
 looksLen : r.looks.length ≤ 4
 looks : ∀ x ∈ r.looks, 0 ≤ x.day ∧ x.day ≤ r.ran.length ∧ 1 ≤ x.colour ∧ x.colour ≤ 7
def gainAt (r : Rm) (d : Nat) : Span := match r.ran[d]? with | some n => (match r.settings[n.toNat]? with | some s => s.gain | none => ⟨0, 0⟩) | none => ⟨0, 0⟩
theorem gainAt_eq {r : Rm} {d : Nat} (h : d < r.ran.length) (h2 : r.ran[d].toNat < r.settings.length) : gainAt r d = r.settings[r.ran[d].toNat].gain := by
 simp [gainAt, h, h2]
def dayF (r : Rm) (but : List Int) : Nat → Nat → Bool
 | 0 => fun n => within r.start n && seenP r.looks 0 but n
 | d + 1 => fun n => grownTo (dayF r but d) (gainAt r d) 160 n && seenP r.looks ((d : Int) + 1) but n
def dayK (r : Rm) (but : List Int) : Nat → Nat → Bool
 | 0 => dayF r but r.ran.length
 | k + 1 => fun n => dayF r but (r.ran.length - (k + 1)) n && shrunk (dayK r but k) (gainAt r (r.ran.length - (k + 1))) n
def dayB (r : Rm) (but : List Int) (d : Nat) : Nat → Bool := dayK r but (r.ran.length - d)
def flatL (ps : List (Nat → Bool)) : List AV := ps.flatMap bits
theorem flatL_drop : ∀ (ps : List (Nat → Bool)) (i : Nat), (flatL ps).drop (i * 160) = flatL (ps.drop i)
 | ps, 0 => by simp
 | [], i + 1 => by simp [flatL]
 | p :: ps, i + 1 => by
  rw [show (i + 1) * 160 = 160 + i * 160 by omega, ← List.drop_drop]
  simp only [flatL, List.flatMap_cons, List.drop_succ_cons]
  rw [List.drop_append_of_le_length (by rw [bits_len]; omega), bits_drop, List.nil_append]
  exact flatL_drop ps i
theorem flatL_at {ps : List (Nat → Bool)} {i : Nat} (h : i < ps.length) : ((flatL ps).drop (i * 160)).take 160 = bits ps[i] := by
 rw [flatL_drop, List.drop_eq_getElem_cons h]
 simp only [flatL, List.flatMap_cons]
 rw [List.take_append_of_le_length (by rw [bits_len]; omega), bits_take]
theorem chop_flat : ∀ ps : List (Nat → Bool), chop 160 ps.length (flatL ps) = ps.map setE
 | [] => rfl
 | p :: ps => by
  have h1 : (flatL (p :: ps)).take 160 = bits p := by have := flatL_at (ps := p :: ps) (i := 0) (by simp); simpa using this
  have h2 : (flatL (p :: ps)).drop 160 = flatL ps := by have := flatL_drop (p :: ps) 1; simpa using this
  simp only [List.length_cons, chop, h1, h2, chop_flat ps, List.map_cons]
  simp [setE]
end Go.Am.Room
set_option maxRecDepth 4000
namespace Go.Am.Room
theorem inR_iff {n lo hi : Int} : inR n lo hi = true ↔ lo ≤ n ∧ n ≤ hi := by simp [inR]
theorem ends_zero {s : Span} {lo hi : Int} (h : ends s lo hi = 0) : lo ≤ s.lo ∧ s.lo ≤ s.hi ∧ s.hi ≤ hi := by
 unfold ends at h
 split at h
 ·omega
 ·rename_i h1
  split at h
  ·omega
  ·simp [inR] at h1; omega
theorem firstBad_all {α : Type} {f : Nat → α → Int} : ∀ {l : List α} {i : Nat}, firstBad f l i = none → ∀ k (h : k < l.length), f (i + k) l[k] = 0
 | [], _, _, k, h => by simp at h
 | x :: xs, i, h, k, hk => by
  simp only [firstBad] at h
  split at h
  ·rename_i h0
   cases k with
   | zero => exact h0
   | succ k =>
    have := firstBad_all h k (by simpa using hk)
    simpa [Nat.add_assoc, Nat.add_comm 1 k] using this
  ·cases h
theorem firstBad_nz {α : Type} {f : Nat → α → Int} : ∀ {l : List α} {i j : Nat} {e : Int}, firstBad f l i = some (j, e) → e ≠ 0
 | [], _, _, _, h => by cases h
 | x :: xs, i, j, e, h => by
  simp only [firstBad] at h
  split at h
  ·exact firstBad_nz h
  ·rename_i hn
   simp at h
   rw [← h.2]
   exact hn
theorem vd_of_check {r : Rm} (h : (check r).2.2 = 0) : Vd r := by
 unfold check at h
 split at h
 ·simp at h
 rename_i c1
 split at h
 ·rename_i c2; exact absurd h c2
 rename_i c2
 unfold check2 at h
 split at h
 ·simp at h
 rename_i c3
 split at h
 ·rename_i i e he; exact absurd h (firstBad_nz he)
 rename_i f1
 unfold check3 at h
 split at h
 ·simp at h
 rename_i c4
 split at h
 ·rename_i i e he; exact absurd h (firstBad_nz he)
 rename_i f2
 unfold check4 at h
 split at h
 ·simp at h
 rename_i c5
 split at h
 ·rename_i i e he; exact absurd h (firstBad_nz he)
 rename_i f3
 simp only [not_or, Bool.not_eq_false] at c1 c3
 obtain ⟨d1, d2, d3⟩ := c1
 have e0 : ends r.start 0 69 = 0 := Decidable.not_not.1 c2
 have es := ends_zero e0
 rw [inR_iff] at d1 d3 c3
 refine ⟨d1, es, by omega, ?_, d3, by omega, ?_, by omega, ?_⟩
 ·intro s hs
  obtain ⟨k, hk, rfl⟩ := List.getElem_of_mem hs
  have := firstBad_all f1 k hk
  unfold setErr at this
  split at this
  ·exact ends_zero this
  ·rename_i hne; exact absurd this hne
 ·intro n hn
  obtain ⟨k, hk, rfl⟩ := List.getElem_of_mem hn
  have := firstBad_all f2 k hk
  unfold ranErr at this
  split at this
  ·rename_i hi; rw [isSetting, inR_iff] at hi; omega
  ·omega
 ·intro x hx
  obtain ⟨k, hk, rfl⟩ := List.getElem_of_mem hx
  have := firstBad_all f3 k hk
  unfold lookErr at this
  split at this
  ·rename_i hi
   rw [Bool.and_eq_true, isColour, inR_iff, inR_iff] at hi
   omega
  ·omega
def endsOf (p : Nat → Bool) : Span := joinTo p 160
def someB (r : Rm) (but : List Int) : Bool := decide (0 ≤ (endsOf (dayB r but r.ran.length)).hi)
def errKnown (r : Rm) (e : Int) : Int := if e = 0 then (if someB r [] = true then 0 else 8) else e
def errAsk (r : Rm) (n lo hi : Int) : Int := if (check r).2.2 = 0 then (if inR n lo hi = true then 0 else 7) else (check r).2.2
def pointsOf (r : Rm) (day : Int) : Span × Int :=
 if errKnown r (errAsk r day 0 r.ran.length) = 0 then (endsOf (dayB r [] day.toNat), 0) else (⟨0, 0⟩, errKnown r (errAsk r day 0 r.ran.length))
def encSE (x : Span × Int) : AV := .tuple [encSpan x.1, .int .i64 x.2]
theorem errAsk_ok {r : Rm} {n lo hi : Int} (h : errAsk r n lo hi = 0) : Vd r ∧ lo ≤ n ∧ n ≤ hi := by
 unfold errAsk at h
 split at h
 ·rename_i h0
  split at h
  ·rename_i h1; exact ⟨vd_of_check h0, inR_iff.1 h1⟩
  ·omega
 ·rename_i h0; exact absurd h h0
theorem errKnown_ok {r : Rm} {e : Int} (h : errKnown r e = 0) : e = 0 ∧ someB r [] = true := by
 unfold errKnown at h
 split at h
 ·rename_i h0
  split at h
  ·rename_i h1; exact ⟨h0, h1⟩
  ·omega
 ·rename_i h0; exact absurd h h0
theorem joinTo_none (p : Nat → Bool) : ∀ n, (∀ m, m < n → p m = false) → joinTo p n = ⟨160, -1⟩
 | 0, _ => rfl
 | n + 1, h => by
  simp only [joinTo]
  rw [if_neg (by rw [h n (by omega)]; simp), joinTo_none p n fun m hm => h m (by omega)]
theorem endsOf_within {s : Span} (h0 : 0 ≤ s.lo) (h1 : s.lo ≤ s.hi) (h2 : s.hi < 160) {p : Nat → Bool} (hp : ∀ n, n < 160 → p n = within s n) : endsOf p = s := by
 have key : ∀ n : Nat, n ≤ 160 → joinTo p n = if (n : Int) ≤ s.lo then ⟨160, -1⟩ else ⟨s.lo, min s.hi ((n : Int) - 1)⟩ := by
  intro n
  induction n with
  | zero => intro _; rw [if_pos (by simpa using h0)]; rfl
  | succ n ih =>
   intro hn
   have ih := ih (by omega)
   simp only [joinTo]
   rw [hp n (by omega), ih]
   by_cases hw : within s n = true
   ·rw [if_pos hw]
    simp only [within, Bool.and_eq_true, decide_eq_true_eq] at hw
    split <;> split <;> simp only [join, Span.mk.injEq] <;> omega
   ·rw [if_neg hw]
    simp only [within, Bool.and_eq_true, decide_eq_true_eq] at hw
    split <;> split <;> simp only [Span.mk.injEq, true_and] <;> omega
 have := key 160 (Nat.le_refl _)
 rw [endsOf, this, if_neg (by omega)]
 obtain ⟨lo, hi⟩ := s
 simp only [Span.mk.injEq, true_and] at *
 omega
theorem endsOf_none {p : Nat → Bool} (hp : ∀ n, n < 160 → p n = false) : endsOf p = ⟨160, -1⟩ := joinTo_none p 160 hp
def plus (a b : Span) : Span := ⟨a.lo + b.lo, a.hi + b.hi⟩
def both (a b : Span) : Span := ⟨max a.lo b.lo, min a.hi b.hi⟩
def back (b g : Span) : Span := ⟨b.lo - g.hi, b.hi - g.lo⟩
def ofC (c : Int) : Span := ⟨(c - 1) * 10, if c = 7 then 1000 else c * 10 - 1⟩
def ne (s : Span) : Option Span := if s.lo ≤ s.hi then some s else none
theorem within_both (a b : Span) (n : Nat) : within (both a b) n = (within a n && within b n) := by
 rw [Bool.eq_iff_iff]
 simp only [within, Bool.and_eq_true, decide_eq_true_eq]
 simp only [both]
 omega
theorem colour_iff {c : Int} (h1 : 1 ≤ c) (h2 : c ≤ 7) (n : Nat) (hn : n ≤ 1000) : (c == colourOf n) = within (ofC c) n := by
 rw [Bool.eq_iff_iff]
 simp only [beq_iff_eq, within, Bool.and_eq_true, decide_eq_true_eq]
 simp only [ofC, colourOf]
 split
 ·omega
 ·omega
theorem grown_within {s g : Span} (h0 : 0 ≤ s.lo) (hs : s.lo ≤ s.hi) (hg0 : 0 ≤ g.lo) (hg : g.lo ≤ g.hi) (hsum : s.hi < 160) {p : Nat → Bool} (hp : ∀ n, n < 160 → p n = within s n) (m : Nat) : grownTo p g 160 m = within (plus s g) m := by
 rw [Bool.eq_iff_iff]
 simp only [grownTo, List.any_eq_true, List.mem_range, Bool.and_eq_true, decide_eq_true_eq, within]
 simp only [plus]
 constructor
 ·rintro ⟨n, hn, h1, h2, h3⟩
  rw [hp n hn] at h1
  simp only [within, Bool.and_eq_true, decide_eq_true_eq] at h1
  omega
 ·rintro ⟨h1, h2⟩
  -- the point from which it is got: az low az it can be
  refine ⟨(max s.lo ((m : Int) - g.hi)).toNat, by omega, ?_, by omega, by omega⟩
  rw [hp _ (by omega)]
  simp only [within, Bool.and_eq_true, decide_eq_true_eq]
  omega
theorem grown_none {g : Span} {p : Nat → Bool} (hp : ∀ n, n < 160 → p n = false) (m : Nat) : grownTo p g 160 m = false := by
 rw [Bool.eq_false_iff]
 intro h
 simp only [grownTo, List.any_eq_true, List.mem_range, Bool.and_eq_true] at h
 obtain ⟨n, hn, h1, _⟩ := h
 rw [hp n hn] at h1
 cases h1
theorem shrunk_within {s g : Span} (hs : s.lo ≤ s.hi) (h0 : 0 ≤ s.lo) (h1 : s.hi < 160) (hg0 : 0 ≤ g.lo) (hg : g.lo ≤ g.hi) {p : Nat → Bool} (hp : ∀ n, n < 160 → p n = within s n) (n : Nat) : shrunk p g n = within (back s g) n := by
 rw [Bool.eq_iff_iff]
 simp only [shrunk, shrTo, List.any_eq_true, List.mem_range, Bool.and_eq_true, decide_eq_true_eq, within]
 simp only [back]
 constructor
 ·rintro ⟨m, hm, q1, q2, q3⟩
  rw [hp m hm] at q1
  simp only [within, Bool.and_eq_true, decide_eq_true_eq] at q1
  omega
 ·rintro ⟨q1, q2⟩
  refine ⟨(max s.lo ((n : Int) + g.lo)).toNat, by omega, ?_, by omega, by omega⟩
  rw [hp _ (by omega)]
  simp only [within, Bool.and_eq_true, decide_eq_true_eq]
  omega
theorem shrunk_none {g : Span} {p : Nat → Bool} (hp : ∀ n, n < 160 → p n = false) (n : Nat) : shrunk p g n = false := by
 rw [Bool.eq_false_iff]
 intro h
 simp only [shrunk, shrTo, List.any_eq_true, List.mem_range, Bool.and_eq_true] at h
 obtain ⟨m, hm, h1, _⟩ := h
 rw [hp m hm] at h1
 cases h1
def seenS (day : Int) (but : List Int) : List Look → Nat → Span
 | [], _ => ⟨0, 1000⟩
 | x :: xs, i => if (x.day == day && !but.contains (i : Int)) = true then both (ofC x.colour) (seenS day but xs (i + 1)) else seenS day but xs (i + 1)
theorem seen_within (day : Int) (but : List Int) (n : Nat) (hn : n ≤ 1000) : ∀ (l : List Look) (i : Nat), (∀ x ∈ l, 1 ≤ x.colour ∧ x.colour ≤ 7) → soFrom day but (colourOf n) l i = within (seenS day but l i) n
 | [], i, _ => by
  rw [soFrom, seenS, eq_comm]
  simp only [within, Bool.and_eq_true, decide_eq_true_eq]
  omega
 | x :: xs, i, h => by
  have ih := seen_within day but n hn xs (i + 1) fun y hy => h y (List.mem_cons_of_mem _ hy)
  have hx := h x (by simp)
  simp only [soFrom, seenS, ih]
  split
  ·rw [within_both, colour_iff hx.1 hx.2 n hn]
  ·simp
theorem seenS_bd (day : Int) (but : List Int) : ∀ (l : List Look) (i : Nat), (∀ x ∈ l, 1 ≤ x.colour ∧ x.colour ≤ 7) → 0 ≤ (seenS day but l i).lo ∧ (seenS day but l i).hi ≤ 1000
 | [], i, _ => by simp [seenS]
 | x :: xs, i, h => by
  have ih := seenS_bd day but xs (i + 1) fun y hy => h y (List.mem_cons_of_mem _ hy)
  have hx := h x (by simp)
  simp only [seenS]
  split
  ·simp only [both, ofC]; split <;> omega
  ·exact ih
def fwd (r : Rm) (but : List Int) : Nat → Option Span
 | 0 => ne (both r.start (seenS 0 but r.looks 0))
 | d + 1 => (fwd r but d).bind fun s => ne (both (plus s (gainAt r d)) (seenS ((d : Int) + 1) but r.looks 0))
theorem gain_bd {r : Rm} (hv : Vd r) {d : Nat} (h : d < r.ran.length) : 0 ≤ (gainAt r d).lo ∧ (gainAt r d).lo ≤ (gainAt r d).hi ∧ (gainAt r d).hi ≤ 15 := by
 have hg := hv.ran _ (List.getElem_mem h)
 have hg1 : r.ran[d].toNat < r.settings.length := by omega
 rw [gainAt_eq h hg1]
 exact hv.gains _ (List.getElem_mem hg1)
theorem fwd_bd {r : Rm} (hv : Vd r) (but : List Int) : ∀ d, d ≤ r.ran.length → ∀ s, fwd r but d = some s → 0 ≤ s.lo ∧ s.lo ≤ s.hi ∧ s.hi ≤ 69 + 15 * d
 | 0, _, s, h => by
  have hs := hv.start
  have hb := seenS_bd 0 but r.looks 0 fun x hx => (hv.looks x hx).2.2
  simp only [fwd, ne] at h
  split at h
  ·simp only [Option.some.injEq] at h
   subst h
   simp only [both] at *
   omega
  ·cases h
 | d + 1, hd, s, h => by
  have hg := gain_bd hv (show d < r.ran.length by omega)
  have hb := seenS_bd ((d : Int) + 1) but r.looks 0 fun x hx => (hv.looks x hx).2.2
  simp only [fwd] at h
  cases hf : fwd r but d with
  | none => rw [hf] at h; cases h
  | some s0 =>
   have ih := fwd_bd hv but d (by omega) s0 hf
   rw [hf] at h
   simp only [Option.bind_some, ne] at h
   split at h
   ·simp only [Option.some.injEq] at h
    subst h
    simp only [both, plus] at *
    omega
   ·cases h
def Is (o : Option Span) (p : Nat → Bool) : Prop := match o with | some s => ∀ n, n < 160 → p n = within s n | none => ∀ n, n < 160 → p n = false
theorem is_ne {s : Span} {p : Nat → Bool} (h : ∀ n, n < 160 → p n = within s n) : Is (ne s) p := by
 unfold ne
 split
 ·exact h
 ·intro n hn
  rw [h n hn]
  simp only [within]
  rw [Bool.eq_false_iff]
  simp
  omega
theorem fwd_is {r : Rm} (hv : Vd r) (but : List Int) : ∀ d, d ≤ r.ran.length → Is (fwd r but d) (dayF r but d)
 | 0, _ => by
  refine is_ne fun n hn => ?_
  rw [within_both]
  simp only [dayF, seenP]
  rw [seen_within 0 but n (by omega) r.looks 0 fun x hx => (hv.looks x hx).2.2]
 | d + 1, hd => by
  have ih := fwd_is hv but d (by omega)
  have hg := gain_bd hv (show d < r.ran.length by omega)
  simp only [fwd]
  cases hf : fwd r but d with
  | none =>
   rw [hf] at ih
   intro n hn
   simp only [dayF]
   rw [grown_none ih]; rfl
  | some s =>
   rw [hf] at ih
   have hb := fwd_bd hv but d (by omega) s hf
   have hrl : r.ran.length ≤ 6 := by have := hv.ranLen; have := hv.days; omega
   refine is_ne fun n hn => ?_
   rw [within_both]
   simp only [dayF, seenP]
   rw [grown_within hb.1 hb.2.1 hg.1 hg.2.1 (by omega) ih, seen_within _ but n (by omega) r.looks 0 fun x hx => (hv.looks x hx).2.2]
def bwd (r : Rm) (but : List Int) : Nat → Option Span
 | 0 => fwd r but r.ran.length
 | k + 1 => (bwd r but k).bind fun b => (fwd r but (r.ran.length - (k + 1))).bind fun f => ne (both f (back b (gainAt r (r.ran.length - (k + 1)))))
theorem bwd_bd {r : Rm} (hv : Vd r) (but : List Int) : ∀ k, k ≤ r.ran.length → ∀ s, bwd r but k = some s → 0 ≤ s.lo ∧ s.lo ≤ s.hi ∧ s.hi < 160
 | 0, _, s, h => by
  have hrl : r.ran.length ≤ 6 := by have := hv.ranLen; have := hv.days; omega
  have := fwd_bd hv but _ (Nat.le_refl _) s h
  omega
 | k + 1, hk, s, h => by
  have hrl : r.ran.length ≤ 6 := by have := hv.ranLen; have := hv.days; omega
  simp only [bwd] at h
  cases hb : bwd r but k with
  | none => rw [hb] at h; cases h
  | some b =>
   rw [hb] at h
   cases hf : fwd r but (r.ran.length - (k + 1)) with
   | none => rw [hf] at h; cases h
   | some f =>
    rw [hf] at h
    have h1 := fwd_bd hv but _ (by omega) f hf
    simp only [Option.bind_some, ne] at h
    split at h
    ·simp only [Option.some.injEq] at h
     subst h
     simp only [both, back] at *
     omega
    ·cases h
theorem bwd_is {r : Rm} (hv : Vd r) (but : List Int) : ∀ k, k ≤ r.ran.length → Is (bwd r but k) (dayK r but k)
 | 0, _ => fwd_is hv but _ (Nat.le_refl _)
 | k + 1, hk => by
  have ih := bwd_is hv but k (by omega)
  have hF := fwd_is hv but (r.ran.length - (k + 1)) (by omega)
  have hg := gain_bd hv (show r.ran.length - (k + 1) < r.ran.length by omega)
  simp only [bwd]
  cases hb : bwd r but k with
  | none =>
   rw [hb] at ih
   intro n hn
   simp only [dayK]
   rw [shrunk_none ih]
   simp
  | some b =>
   rw [hb] at ih
   have hbb := bwd_bd hv but k (by omega) b hb
   cases hf : fwd r but (r.ran.length - (k + 1)) with
   | none =>
    rw [hf] at hF
    intro n hn
    simp only [dayK]
    rw [hF n hn]; rfl
   | some f =>
    rw [hf] at hF
    refine is_ne fun n hn => ?_
    rw [within_both]
    simp only [dayK]
    rw [hF n hn, shrunk_within hbb.2.1 hbb.1 hbb.2.2 hg.1 hg.2.1 ih]
theorem fwd_some {r : Rm} {but : List Int} {d : Nat} : ∀ {e}, e ≤ d → (fwd r but d).isSome = true → (fwd r but e).isSome = true := by
  induction d with
  | zero => intro e he h; have : e = 0 := by omega
            subst this; exact h
  | succ d ih =>
    intro e he h
    by_cases hed : e = d + 1
    · subst hed; exact h
    · refine ih (by omega) ?_
      simp only [fwd] at h
      cases hf : fwd r but d with
      | none => rw [hf] at h; cases h
      | some s => rfl
theorem bwd_some {r : Rm} (hv : Vd r) {but : List Int} (h : (fwd r but r.ran.length).isSome = true) : ∀ k, k ≤ r.ran.length → ∃ b f, bwd r but k = some b ∧ fwd r but (r.ran.length - k) = some f ∧ f.lo ≤ b.lo ∧ b.hi ≤ f.hi
 | 0, _ => by
  obtain ⟨s, hs⟩ := Option.isSome_iff_exists.1 h
  exact ⟨s, s, hs, by simpa using hs, Int.le_refl _, Int.le_refl _⟩
 | k + 1, hk => by
  obtain ⟨b, f, h1, h2, h3, h4⟩ := bwd_some hv h k (by omega)
  have hb := bwd_bd hv but k (by omega) b h1
  have hg := gain_bd hv (show r.ran.length - (k + 1) < r.ran.length by omega)
  have e : r.ran.length - k = (r.ran.length - (k + 1)) + 1 := by omega
  rw [e] at h2
  simp only [fwd] at h2
  cases hf : fwd r but (r.ran.length - (k + 1)) with
  | none => rw [hf] at h2; cases h2
  | some f0 =>
   rw [hf] at h2
   have hf0 := fwd_bd hv but _ (show r.ran.length - (k + 1) ≤ r.ran.length by omega) f0 hf
   simp only [Option.bind_some, ne] at h2
   split at h2
   ·simp only [Option.some.injEq] at h2
    subst h2
    simp only [both, plus] at h3 h4
    refine ⟨both f0 (back b (gainAt r (r.ran.length - (k + 1)))), f0, ?_, rfl, ?_, ?_⟩
    ·simp only [bwd, h1, hf, Option.bind_some, ne]
     rw [if_pos]
     simp only [both, back]
     omega
    ·simp only [both]; omega
    ·simp only [both]; omega
   ·cases h2
end Go.Am.Room
set_option maxRecDepth 4000
namespace Go.Am.Room
theorem is_ends {o : Option Span} {p : Nat → Bool} (h : Is o p) (hb : ∀ s, o = some s → 0 ≤ s.lo ∧ s.lo ≤ s.hi ∧ s.hi < 160) : endsOf p = o.getD ⟨160, -1⟩ := by
 cases o with
 | none => exact endsOf_none h
 | some s => obtain ⟨h1, h2, h3⟩ := hb s rfl; exact endsOf_within h1 h2 h3 h
theorem someB_eq {r : Rm} (hv : Vd r) (but : List Int) : someB r but = (fwd r but r.ran.length).isSome := by
 have h1 := is_ends (bwd_is hv but 0 (by omega)) (bwd_bd hv but 0 (by omega))
 have h2 := bwd_bd hv but 0 (by omega)
 simp only [bwd, dayK] at h1 h2
 simp only [someB, dayB, Nat.sub_self, dayK]
 cases hf : fwd r but r.ran.length with
 | none => rw [hf] at h1; rw [h1]; rfl
 | some s =>
  rw [hf] at h1
  have := h2 s hf
  rw [h1]
  simp
  omega
def ptsS (r : Rm) (d : Nat) : Span := (bwd r [] (r.ran.length - d)).getD ⟨160, -1⟩
theorem ptsS_eq {r : Rm} (hv : Vd r) (d : Nat) : endsOf (dayB r [] d) = ptsS r d :=
 is_ends (bwd_is hv [] _ (by omega)) (bwd_bd hv [] _ (by omega))
theorem ptsS_bd {r : Rm} (hv : Vd r) (hs : someB r [] = true) (d : Nat) : 0 ≤ (ptsS r d).lo ∧ (ptsS r d).lo ≤ (ptsS r d).hi ∧ (ptsS r d).hi < 160 := by
 rw [someB_eq hv] at hs
 obtain ⟨b, f, h1, _⟩ := bwd_some hv hs (r.ran.length - d) (by omega)
 have := bwd_bd hv [] _ (by omega) b h1
 rw [ptsS, h1]
 exact this
theorem pts_bd {r : Rm} (hv : Vd r) (hs : someB r [] = true) (d : Nat) : 0 ≤ (endsOf (dayB r [] d)).lo ∧ (endsOf (dayB r [] d)).lo ≤ (endsOf (dayB r [] d)).hi ∧ (endsOf (dayB r [] d)).hi < 160 := by
 rw [ptsS_eq hv]; exact ptsS_bd hv hs d
def colours (s : Span) : Span := ⟨colourOf s.lo, colourOf s.hi⟩
def coloursOf (r : Rm) (day : Int) : Span × Int := if (pointsOf r day).2 = 0 then (colours (pointsOf r day).1, 0) else (⟨0, 0⟩, (pointsOf r day).2)
theorem pointsOf_ok {r : Rm} {day : Int} (h : (pointsOf r day).2 = 0) : Vd r ∧ someB r [] = true ∧ 0 ≤ day ∧ day ≤ r.ran.length ∧ (pointsOf r day).1 = endsOf (dayB r [] day.toNat) := by
 unfold pointsOf at h ⊢
 split at h
 ·rename_i h0
  obtain ⟨h1, h2⟩ := errKnown_ok h0
  obtain ⟨h3, h4, h5⟩ := errAsk_ok h1
  rw [if_pos h0]
  exact ⟨h3, h2, h4, h5, rfl⟩
 ·rename_i h0; exact absurd h h0
def gainN (r : Rm) (n : Int) : Span := match r.settings[n.toNat]? with | some s => s.gain | none => ⟨0, 0⟩
theorem gainN_eq {r : Rm} {n : Int} (h : n.toNat < r.settings.length) : gainN r n = r.settings[n.toNat].gain := by simp [gainN, h]
def changesOf : Int → List Int → Int
 | _, [] => 0
 | b, x :: xs => (if 0 ≤ b ∧ x ≠ b then 1 else 0) + changesOf x xs
theorem changesOf_bd : ∀ (l : List Int) (b : Int), 0 ≤ changesOf b l ∧ changesOf b l ≤ l.length
 | [], b => by simp [changesOf]
 | x :: xs, b => by
  have := changesOf_bd xs x
  simp only [changesOf, List.length_cons]
  split <;> omega
def beforeOf (r : Rm) : Int := if r.ran.length = 0 then -1 else (r.ran[r.ran.length - 1]?).getD 0
def sumS (r : Rm) : List Int → Span
 | [] => ⟨0, 0⟩
 | n :: ns => plus (gainN r n) (sumS r ns)
theorem sumS_bd {r : Rm} (hv : Vd r) : ∀ l : List Int, (∀ n ∈ l, 0 ≤ n ∧ n < r.settings.length) → 0 ≤ (sumS r l).lo ∧ (sumS r l).lo ≤ (sumS r l).hi ∧ (sumS r l).hi ≤ 15 * l.length
 | [], _ => by simp [sumS]
 | n :: ns, h => by
  have ih := sumS_bd hv ns fun m hm => h m (List.mem_cons_of_mem _ hm)
  have hx := h n (by simp)
  have h1 : n.toNat < r.settings.length := by omega
  have hg := hv.gains _ (List.getElem_mem h1)
  simp only [sumS, plus, gainN_eq h1, List.length_cons]
  omega
def givesOf (r : Rm) (s : Span) (l : List Int) (c : Int) : Bool := colourOf (s.lo + (sumS r l).lo) == c && colourOf (s.hi + (sumS r l).hi) == c
end Go.Am.Room
set_option maxRecDepth 4000
namespace Go.Am.Room
def listsOf (m : Nat) : Nat → List (List Int)
 | 0 => [[]]
 | i + 1 => (listsOf m i).flatMap fun c => (numbers 0 m).map fun n => c ++ [n]
theorem listsOf_spec (m : Nat) : ∀ i c, c ∈ listsOf m i → c.length = i ∧ ∀ x ∈ c, 0 ≤ x ∧ x < m
 | 0, c, h => by simp [listsOf] at h; subst h; simp
 | i + 1, c, h => by
  simp only [listsOf, List.mem_flatMap, List.mem_map, numbers_mem] at h
  obtain ⟨d, h1, n, h2, rfl⟩ := h
  obtain ⟨q1, q2⟩ := listsOf_spec m i d h1
  refine ⟨by simp [q1], fun x hx => ?_⟩
  rcases List.mem_append.1 hx with hx | hx
  ·exact q2 x hx
  ·simp at hx; omega
end Go.Am.Room
set_option maxRecDepth 4000
namespace Go.Am.Room
theorem plus_assoc (a b c : Span) : plus (plus a b) c = plus a (plus b c) := by simp only [plus, Span.mk.injEq]; omega
theorem now_is {r : Rm} (hv : Vd r) (hs : someB r [] = true) : 0 ≤ (ptsS r r.ran.length).lo ∧ (ptsS r r.ran.length).lo ≤ (ptsS r r.ran.length).hi ∧ (ptsS r r.ran.length).hi ≤ 69 + 15 * r.ran.length ∧ ∀ n, n < 160 → dayB r [] r.ran.length n = within (ptsS r r.ran.length) n := by
 have hs' := hs
 rw [someB_eq hv] at hs'
 obtain ⟨s, h⟩ := Option.isSome_iff_exists.1 hs'
 have h1 := fwd_is hv [] r.ran.length (Nat.le_refl _)
 rw [h] at h1
 have hb := fwd_bd hv [] _ (Nat.le_refl _) s h
 have e : ptsS r r.ran.length = s := by simp [ptsS, bwd, h]
 rw [e]
 refine ⟨hb.1, hb.2.1, hb.2.2, ?_⟩
 intro n hn
 simp only [dayB, Nat.sub_self, dayK]
 exact h1 n hn
def errLong (r : Rm) (l : List Int) : Int := if (check r).2.2 = 0 ∧ r.days - r.ran.length < l.length then 3 else (check r).2.2
def errEach (r : Rm) : Int → List Int → Int
 | e, [] => e
 | e, n :: ns => if e = 0 then errEach r (if isSetting r n = true then 0 else 4) ns else e
theorem errEach_eq (r : Rm) : ∀ (l : List Int) (e : Int), errEach r e l = if e = 0 then (if l.all (isSetting r) = true then 0 else 4) else e
 | [], e => by
  simp only [errEach, List.all_nil, if_true]
  split <;> simp_all
 | n :: ns, e => by
  simp only [errEach]
  by_cases h : e = 0
  ·simp only [h, if_true]
   rw [errEach_eq r ns]
   cases h2 : isSetting r n <;> simp [h2]
  ·simp [h]
def errSets (r : Rm) (l : List Int) : Int := errEach r (errLong r l) l
theorem errSets_ok {r : Rm} {l : List Int} (h : errSets r l = 0) : Vd r ∧ (l.length : Int) ≤ r.days - r.ran.length ∧ ∀ n ∈ l, 0 ≤ n ∧ n < r.settings.length := by
 rw [errSets, errEach_eq] at h
 split at h
 ·rename_i h1
  unfold errLong at h1
  split at h1
  ·omega
  ·rename_i h2
   split at h
   ·rename_i h3
    refine ⟨vd_of_check h1, ?_, fun n hn => ?_⟩
    ·by_cases h4 : r.days - r.ran.length < l.length
     ·exact absurd ⟨h1, h4⟩ h2
     ·omega
    ·have := List.all_eq_true.1 h3 n hn
     rw [isSetting, inR_iff] at this
     omega
   ·omega
 ·rename_i h1; exact absurd h h1
def becomeOf (r : Rm) (l : List Int) : Span × Int := if errKnown r (errSets r l) = 0 then (colours (plus (ptsS r r.ran.length) (sumS r l)), 0) else (⟨0, 0⟩, errKnown r (errSets r l))
end Go.Am.Room
set_option maxRecDepth 4000
namespace Go.Am.Room
def betr (o : Option (Nat × Int)) (n : Int) : Bool := match o with | none => true | some x => decide (n < x.2)
def bestIx (r : Rm) (s : Span) (b c : Int) : List (List Int) → Nat → Option (Nat × Int) → Option (Nat × Int)
 | [], _, o => o
 | l :: ls, i, o => bestIx r s b c ls (i + 1) (if changesOf b l ≤ r.opens ∧ betr o (changesOf b l) = true ∧ givesOf r s l c = true then some (i, changesOf b l) else o)
def bestOf (r : Rm) (s : Span) (b : Int) (many : Nat) (c : Int) : Option (List Int × Int) :=
 (bestIx r s b c (listsOf r.settings.length many) 0 none).map fun x => (((listsOf r.settings.length many)[x.1]?).getD [], x.2)
end Go.Am.Room
set_option maxRecDepth 4000
namespace Go.Am.Room
def errWant (e c : Int) : Int := if e = 0 then (if isColour c = true then 0 else 7) else e
theorem errWant_ok {e c : Int} (h : errWant e c = 0) : e = 0 ∧ 1 ≤ c ∧ c ≤ 7 := by
 unfold errWant at h
 split at h
 ·rename_i h0
  split at h
  ·rename_i h1
   rw [isColour, inR_iff] at h1
   exact ⟨h0, h1⟩
  ·omega
 ·rename_i h0; exact absurd h h0
def encLNE (x : List Int × Int × Int) : AV := .tuple [ints x.1, .int .i64 x.2.1, .int .i64 x.2.2]
def encLE (x : List Int × Int) : AV := .tuple [ints x.1, .int .i64 x.2]
def planErr (r : Rm) (day c : Int) : Int := errKnown r (errWant (errAsk r day r.ran.length r.days) c)
def planOf (r : Rm) (day c : Int) : List Int × Int × Int :=
 if planErr r day c = 0 then (match bestOf r (ptsS r r.ran.length) (beforeOf r) (day - r.ran.length).toNat c with | none => ([], 0, 9) | some x => (x.1, x.2, 0)) else ([], 0, planErr r day c)
end Go.Am.Room
set_option maxRecDepth 4000
namespace Go.Am.Room
def reachErr (r : Rm) (day : Int) : Int := errKnown r (errAsk r day r.ran.length r.days)
def reaches (r : Rm) (day c : Int) : Bool := (bestOf r (ptsS r r.ran.length) (beforeOf r) (day - r.ran.length).toNat c).isSome
def reachOf (r : Rm) (day : Int) : List Int × Int := if reachErr r day = 0 then ((numbers 1 7).filter (reaches r day), 0) else ([], reachErr r day)
def fillErr (r : Rm) (day c : Int) : Int := errWant (errAsk r day 0 r.days) c
def fills (r : Rm) (day c d : Int) : Bool := (bestOf r r.start (-1) (day - d).toNat c).isSome
def fillOf (r : Rm) (day c : Int) : List Int × Int := if fillErr r day c = 0 then ((numbers 0 (day + 1).toNat).filter (fills r day c), 0) else ([], fillErr r day c)
def wrongFrom (r : Rm) : Nat → Nat → List Int
 | 0, _ => ((choices r.looks.length r.looks.length)[0]?).getD []
 | k + 1, m => match (choices r.looks.length m).find? (someB r) with
  | some l => l
  | none => wrongFrom r k (m + 1)
def wrongOf (r : Rm) : List Int × Int := if (check r).2.2 = 0 then (wrongFrom r r.looks.length 0, 0) else ([], (check r).2.2)
end Go.Am.Room
set_option maxRecDepth 4000
namespace Go.Am.Room
def QXRm13 := And.intro @setE_eq (And.intro @bits_len (And.intro @bits_cell (And.intro @bits_take (And.intro @bits_drop (And.intro @bits_zero (And.intro @Nat.mul_one (And.intro @Int.toNat_natCast (And.intro @encRoom_eq (And.intro @roomCells_eq (And.intro @encSetting_eq (And.intro @encLook_eq (And.intro @encSpan_eq (@S_bits)))))))))))))
theorem tdiv10 {n : Int} (h : 0 ≤ n) : n.tdiv 10 = n / 10 := Int.tdiv_eq_ediv_of_nonneg h
theorem pcolour_ok (n : Int) (h0 : 0 ≤ n) (h1 : n < 9223372036854775808) : Pure T 111 [.int .i64 n] (.int .i64 (colourOf n)) := by
 refine pure_fn (af := a111) rfl (by simp [a111]) dd ?_
 have hw : IntKind.i64.wrap (n.tdiv 10) = n / 10 := by rw [tdiv10 h0, wrap64 ⟨by omega, by omega⟩]
 have hw2 : IntKind.i64.wrap (1 + n / 10) = 1 + n / 10 := wrap64 ⟨by omega, by omega⟩
 (repeat (first | simp only [↓QA, QB, Nat.reduceLT, reduceIte, Nat.reduceEqDiff, Nat.reduceAdd, Nat.reduceLeDiff, Nat.reduceMul, Nat.reduceBEq, QXRm13, a111, V_quo _ _ _ (show (10 : Int) ≠ 0 by decide), hw, hw2, colourOf] | refine rd0 rfl ?_))
theorem pcolours_ok (s : Span) (h0 : 0 ≤ s.lo) (h1 : s.lo < 9223372036854775808) (h2 : 0 ≤ s.hi) (h3 : s.hi < 9223372036854775808) : Pure T 83 [encSpan s] (encSpan (colours s)) := by
 refine pure_fn (af := a83) rfl (by simp [a83]) dd ?_
 (repeat (first | simp only [↓QA, QB, Nat.reduceLT, reduceIte, Nat.reduceEqDiff, Nat.reduceAdd, Nat.reduceLeDiff, Nat.reduceMul, Nat.reduceBEq, QXRm13, a83] | refine rd0 rfl ?_))
 ((first | refine callK_d (pcolour_ok _ h0 h1) rfl dd ?_ | refine callD_d (pcolour_ok _ h0 h1) rfl dd ?_); (repeat (first | simp only [↓QA, QB, Nat.reduceLT, reduceIte, Nat.reduceEqDiff, Nat.reduceAdd, Nat.reduceLeDiff, Nat.reduceMul, Nat.reduceBEq, QXRm13] | refine rd0 rfl ?_)))
 ((first | refine callK_d (pcolour_ok _ h2 h3) rfl dd ?_ | refine callD_d (pcolour_ok _ h2 h3) rfl dd ?_); (repeat (first | simp only [↓QA, QB, Nat.reduceLT, reduceIte, Nat.reduceEqDiff, Nat.reduceAdd, Nat.reduceLeDiff, Nat.reduceMul, Nat.reduceBEq, QXRm13, colours] | refine rd0 rfl ?_)))
theorem pplus_ok (a b : Span) (h0 : -9223372036854775808 < a.lo + b.lo) (h1 : a.lo + b.lo < 9223372036854775808) (h2 : -9223372036854775808 < a.hi + b.hi) (h3 : a.hi + b.hi < 9223372036854775808) : Pure T 86 [encSpan a, encSpan b] (encSpan (plus a b)) := by
 refine pure_fn (af := a86) rfl (by simp [a86]) dd ?_
 have w1 : IntKind.i64.wrap (a.lo + b.lo) = a.lo + b.lo := wrap64 ⟨by omega, by omega⟩
 have w2 : IntKind.i64.wrap (a.hi + b.hi) = a.hi + b.hi := wrap64 ⟨by omega, by omega⟩
 (repeat (first | simp only [↓QA, QB, Nat.reduceLT, reduceIte, Nat.reduceEqDiff, Nat.reduceAdd, Nat.reduceLeDiff, Nat.reduceMul, Nat.reduceBEq, QXRm13, a86, w1, w2, plus] | refine rd0 rfl ?_))
theorem pboth_ok (a b : Span) : Pure T 116 [encSpan a, encSpan b] (encSpan (both a b)) := by
 refine pure_fn (af := a116) rfl (by simp [a116]) dd ?_
 (repeat (first | simp only [↓QA, QB, Nat.reduceLT, reduceIte, Nat.reduceEqDiff, Nat.reduceAdd, Nat.reduceLeDiff, Nat.reduceMul, Nat.reduceBEq, QXRm13, a116, both] | refine rd0 rfl ?_))
theorem pof_ok (c : Int) (h1 : 1 ≤ c) (h2 : c ≤ 7) : Pure T 117 [.int .i64 c] (encSpan (ofC c)) := by
 refine pure_fn (af := a117) rfl (by simp [a117]) dd ?_
 have w1 : IntKind.i64.wrap (c - 1) = c - 1 := wrap64 ⟨by omega, by omega⟩
 have w2 : IntKind.i64.wrap ((c - 1) * 10) = (c - 1) * 10 := wrap64 ⟨by omega, by omega⟩
 have w3 : IntKind.i64.wrap (c * 10) = c * 10 := wrap64 ⟨by omega, by omega⟩
 have w4 : IntKind.i64.wrap (c * 10 - 1) = c * 10 - 1 := wrap64 ⟨by omega, by omega⟩
 (repeat (first | simp only [↓QA, QB, Nat.reduceLT, reduceIte, Nat.reduceEqDiff, Nat.reduceAdd, Nat.reduceLeDiff, Nat.reduceMul, Nat.reduceBEq, QXRm13, a117, w1, w2, w3, w4] | refine rd0 rfl ?_))
 (repeat (first | simp only [↓QA, QB, Nat.reduceLT, reduceIte, Nat.reduceEqDiff, Nat.reduceAdd, Nat.reduceLeDiff, Nat.reduceMul, Nat.reduceBEq, QXRm13, w1, w2, w3, w4] | refine rd0 rfl ?_))
 cases h : (c == 7)
 ·have h' : c ≠ 7 := by simpa using h
  (repeat (first | simp only [↓QA, QB, Nat.reduceLT, reduceIte, Nat.reduceEqDiff, Nat.reduceAdd, Nat.reduceLeDiff, Nat.reduceMul, Nat.reduceBEq, QXRm13, h] | refine rd0 rfl ?_))
  simp [ofC, h']
 ·have h' : c = 7 := by simpa using h
  (repeat (first | simp only [↓QA, QB, Nat.reduceLT, reduceIte, Nat.reduceEqDiff, Nat.reduceAdd, Nat.reduceLeDiff, Nat.reduceMul, Nat.reduceBEq, QXRm13, h] | refine rd0 rfl ?_))
  simp [ofC, h']
def ptsCells (ps : Nat → Span) : List AV := [.int .i64 (ps 0).lo, .int .i64 (ps 0).hi, .int .i64 (ps 1).lo, .int .i64 (ps 1).hi, .int .i64 (ps 2).lo, .int .i64 (ps 2).hi, .int .i64 (ps 3).lo, .int .i64 (ps 3).hi, .int .i64 (ps 4).lo, .int .i64 (ps 4).hi, .int .i64 (ps 5).lo, .int .i64 (ps 5).hi, .int .i64 (ps 6).lo, .int .i64 (ps 6).hi]
def rb (r : Rm) (ps : Nat → Span) (m : Nat) : List AV := roomCells r ++ (ptsCells ps ++ [.map m])
def updS (ps : Nat → Span) (d : Nat) (s : Span) : Nat → Span := fun i => if i = d then s else ps i
theorem rb_len (r : Rm) (ps : Nat → Span) (m : Nat) : (rb r ps m).length = 22 := by simp [rb, roomCells, ptsCells]
theorem pts_len (ps : Nat → Span) : (ptsCells ps).length = 14 := rfl
theorem rb_pts (r : Rm) (ps : Nat → Span) (m : Nat) : ((rb r ps m).drop 7).take 14 = ptsCells ps := by simp [rb, roomCells, ptsCells]
theorem rb_0 (r : Rm) (ps : Nat → Span) (m : Nat) : (rb r ps m)[0]? = some (.int .i64 r.days) := by simp [rb, roomCells]
theorem rb_3 (r : Rm) (ps : Nat → Span) (m : Nat) : (rb r ps m)[3]? = some (.lit (r.settings.map encSetting) false none) := by simp [rb, roomCells]
theorem rb_4 (r : Rm) (ps : Nat → Span) (m : Nat) : (rb r ps m)[4]? = some (.int .i64 r.opens) := by simp [rb, roomCells]
theorem rb_5 (r : Rm) (ps : Nat → Span) (m : Nat) : (rb r ps m)[5]? = some (ints r.ran) := by simp [rb, roomCells]
theorem rb_21 (r : Rm) (ps : Nat → Span) (m : Nat) : (rb r ps m)[21]? = some (.map m) := by simp [rb, roomCells, ptsCells]
theorem cases7 {P : Nat → Prop} (h0 : P 0) (h1 : P 1) (h2 : P 2) (h3 : P 3) (h4 : P 4) (h5 : P 5) (h6 : P 6) : ∀ d, d < 7 → P d
 | 0, _ => h0 | 1, _ => h1 | 2, _ => h2 | 3, _ => h3 | 4, _ => h4 | 5, _ => h5 | 6, _ => h6
 | d + 7, h => by omega
theorem rb_at (r : Rm) (ps : Nat → Span) (m : Nat) : ∀ d, d < 7 → ((rb r ps m).drop (7 + d * 2)).take 2 = [.int .i64 (ps d).lo, .int .i64 (ps d).hi] := by
 refine cases7 ?_ ?_ ?_ ?_ ?_ ?_ ?_ <;> simp [rb, roomCells, ptsCells]
theorem rb_lo (r : Rm) (ps : Nat → Span) (m : Nat) : ∀ d, d < 7 → (rb r ps m)[7 + d * 2]? = some (.int .i64 (ps d).lo) := by
 refine cases7 ?_ ?_ ?_ ?_ ?_ ?_ ?_ <;> simp [rb, roomCells, ptsCells]
theorem rb_hi (r : Rm) (ps : Nat → Span) (m : Nat) : ∀ d, d < 7 → (rb r ps m)[7 + d * 2 + 1]? = some (.int .i64 (ps d).hi) := by
 refine cases7 ?_ ?_ ?_ ?_ ?_ ?_ ?_ <;> simp [rb, roomCells, ptsCells]
theorem rb_set (r : Rm) (ps : Nat → Span) (m : Nat) (s : Span) : ∀ d, d < 7 → (rb r ps m).take (7 + d * 2) ++ [.int .i64 s.lo, .int .i64 s.hi] ++ (rb r ps m).drop (7 + d * 2 + 2) = rb r (updS ps d s) m := by
 refine cases7 ?_ ?_ ?_ ?_ ?_ ?_ ?_ <;> simp [rb, roomCells, ptsCells, updS]
theorem rb_ok (r : Rm) (ps : Nat → Span) {m k : Nat} (h : m < k) : okVs k (rb r ps m) := by
 have := okVs_up (m := k) _ (data_room r).1
 refine okVs_app this ?_
 simp [ptsCells, okVs, okV, h]
def samePts (ps qs : Nat → Span) : Bool := (List.range 7).all fun d => decide (ps d = qs d)
theorem samePts_iff (ps qs : Nat → Span) : samePts ps qs = true ↔ ∀ d, d < 7 → ps d = qs d := by simp [samePts]
theorem pts_ne (ps qs : Nat → Span) : eqCells [.i, .i, .i, .i, .i, .i, .i, .i, .i, .i, .i, .i, .i, .i] (ptsCells ps) (ptsCells qs) = some (samePts ps qs) := by
 have key : ∀ b : Bool, b = samePts ps qs → some b = some (samePts ps qs) := fun b h => by rw [h]
 simp only [ptsCells, V_eqC1, V_eqC0, V_eqI, V_oand]
 refine key _ ?_
 rw [Bool.eq_iff_iff]
 rw [samePts_iff]
 simp only [Bool.and_eq_true, beq_iff_eq]
 constructor
 ·intro h
  have e : ∀ a b : Span, a.lo = b.lo → a.hi = b.hi → a = b := fun a b h1 h2 => by cases a; cases b; simp_all
  refine cases7 ?_ ?_ ?_ ?_ ?_ ?_ ?_ <;> (refine e _ _ ?_ ?_ <;> simp [h])
 ·intro h
  rw [h 0 (by omega), h 1 (by omega), h 2 (by omega), h 3 (by omega), h 4 (by omega), h 5 (by omega), h 6 (by omega)]
  simp
end Go.Am.Room
set_option maxRecDepth 4000
namespace Go.Am.Room
def QXRm14 := And.intro @setE_eq (And.intro @bits_len (And.intro @bits_cell (And.intro @bits_take (And.intro @bits_drop (And.intro @bits_zero (And.intro @Nat.mul_one (And.intro @Int.toNat_natCast (And.intro @encRoom_eq (And.intro @roomCells_eq (And.intro @encSetting_eq (And.intro @encLook_eq (And.intro @encSpan_eq (And.intro @S_bits (And.intro @Nat.add_lt_add_iff_left (@Nat.lt_add_right_iff_pos)))))))))))))))
theorem T_sapp (m : Nat) : ∀ (σ a b c : St), EqS m (σ ++ a) (σ ++ b) (σ ++ c) = EqS m a b c
 | [], a, b, c => rfl
 | x :: σ, a, b, c => by simp only [List.cons_append, EqS, T_sapp m σ a b c, true_or, true_and, and_self]
theorem and1 (a : Nat) (h : a < 9223372036854775808) : Go.Am.bits .and .i64 (a : Int) 1 = ((a % 2 : Nat) : Int) := by
 have e1 : (BitVec.ofInt 64 (a : Int) &&& BitVec.ofInt 64 1).toNat = a % 2 := by
  rw [BitVec.toNat_and]
  have h1 : (BitVec.ofInt 64 (a : Int)).toNat = a := by
   rw [BitVec.toNat_ofInt]
   omega
  have h2 : (BitVec.ofInt 64 1).toNat = 1 := by decide
  rw [h1, h2, Nat.and_one_is_mod]
 show IntKind.i64.wrap (((BitVec.ofInt 64 (a : Int) &&& BitVec.ofInt 64 1).toNat : Nat) : Int) = _
 rw [e1]
 exact wrap64 ⟨by omega, by omega⟩
theorem V_and1 (a : Nat) (h : a < 9223372036854775808) : binAV .and (.int .i64 (a : Int)) (.int .i64 1) = some (.int .i64 ((a % 2 : Nat) : Int)) := by
 simp [binAV, binInt, and1 a h]
theorem V_shr (a i : Nat) (h : i ≤ 60) : binAV .shr (.int .i64 (a : Int)) (.int .i64 (i : Int)) = some (.int .i64 ((a / 2 ^ i : Nat) : Int)) := by
 have hm : Nat.min i 64 = i := Nat.min_eq_left (by omega)
 have h0 : ¬ (i : Int) < 0 := by omega
 simp only [binAV, h0, if_false, IntKind.bits, Int.toNat_natCast, hm, Option.some.injEq, AV.int.injEq, true_and]
 rw [Int.fdiv_eq_ediv_of_nonneg _ (Int.pow_nonneg (by omega))]
 norm_cast
structure ButIs (but : Nat) (bl : List Int) : Prop where
 lt : but < 9223372036854775808
 bit : ∀ i : Nat, i < 4 → (((but / 2 ^ i % 2 : Nat) : Int) == 0) = !bl.contains (i : Int)
def seeF (day : Int) (bl : List Int) : Span → List Look → Nat → Span
 | s, [], _ => s
 | s, x :: xs, i => seeF day bl (if (x.day == day && !bl.contains (i : Int)) = true then both s (ofC x.colour) else s) xs (i + 1)
theorem both_assoc (a b c : Span) : both (both a b) c = both a (both b c) := by simp only [both, Span.mk.injEq]; omega
theorem seeF_eq (day : Int) (bl : List Int) : ∀ (xs : List Look) (s : Span) (i : Nat), (∀ x ∈ xs, 1 ≤ x.colour ∧ x.colour ≤ 7) → 0 ≤ s.lo → s.hi ≤ 1000 → seeF day bl s xs i = both s (seenS day bl xs i)
 | [], s, i, _, h0, h1 => by
  obtain ⟨lo, hi⟩ := s
  simp only [seeF, seenS, both, Span.mk.injEq] at *
  omega
 | x :: xs, s, i, hx, h0, h1 => by
  have hc := hx x (by simp)
  have hr : ∀ y ∈ xs, 1 ≤ y.colour ∧ y.colour ≤ 7 := fun y hy => hx y (List.mem_cons_of_mem _ hy)
  simp only [seeF, seenS]
  split
  ·rw [seeF_eq day bl xs _ _ hr, both_assoc]
   ·simp only [both]; omega
   ·simp only [both]; omega
  ·exact seeF_eq day bl xs _ _ hr h0 h1
theorem look_in (σ : St) (r : Rm) (but : Nat) (bl : List Int) (ps : Nat → Span) (d : Nat) (s0 : Span) (e : Env) (K : KJ) (hv : Vd r) (hb : ButIs but bl)
  (e1 : Env.get e 1 = .int .i64 but) (e2 : Env.get e 2 = .ptr σ.length 0) (e6 : Env.get e 6 = .ptr (σ.length + 2) 0) (e7 : Env.get e 7 = .int .i64 r.ran.length) (e8 : Env.get e 8 = .int .i64 d) (e9 : Env.get e 9 = .ptr (σ.length + 3) 0) (e25 : Env.get e 25 = .int .i64 ((r.ran.length + 1 : Nat) : Int)) (e26 : Env.get e 26 = .int .i64 d)
  (e53 : Env.get e 53 = .lit (r.looks.map encLook) false none) (e54 : Env.get e 54 = .int .i64 r.looks.length) (e55 : Env.get e 55 = .int .i64 0)
  (hK : ∀ e', Env.get e' 1 = .int .i64 but → Env.get e' 2 = .ptr σ.length 0 → Env.get e' 6 = .ptr (σ.length + 2) 0 → Env.get e' 7 = .int .i64 r.ran.length → Env.get e' 8 = .int .i64 d → Env.get e' 9 = .ptr (σ.length + 3) 0 → Env.get e' 25 = .int .i64 ((r.ran.length + 1 : Nat) : Int) → Env.get e' 26 = .int .i64 d →
   K (some (.exit 2)) e' (σ ++ [.cells (roomCells r), .map [], .cells (rb r ps (σ.length + 1)), .cells [.int .i64 (seeF d bl s0 r.looks 0).lo, .int .i64 (seeF d bl s0 r.looks 0).hi]])) :
  rK (K := ⟨K⟩) T (.loop L91_2) e (σ ++ [.cells (roomCells r), .map [], .cells (rb r ps (σ.length + 1)), .cells [.int .i64 s0.lo, .int .i64 s0.hi]]) := by
 have hll := hv.looksLen
 refine loopE (S := Nat × Span) (0, s0) (fun s => s.1 ≤ r.looks.length ∧ seeF d bl s.2 (r.looks.drop s.1) s.1 = seeF d bl s0 r.looks 0) (fun s => r.looks.length - s.1)
  (fun s => [(1, .int .i64 but), (2, .ptr σ.length 0), (6, .ptr (σ.length + 2) 0), (7, .int .i64 r.ran.length), (8, .int .i64 d), (9, .ptr (σ.length + 3) 0), (25, .int .i64 ((r.ran.length + 1 : Nat) : Int)), (26, .int .i64 d), (53, .lit (r.looks.map encLook) false none), (54, .int .i64 r.looks.length), (55, .int .i64 s.1)])
  (fun s => σ ++ [.cells (roomCells r), .map [], .cells (rb r ps (σ.length + 1)), .cells [.int .i64 s.2.lo, .int .i64 s.2.hi]]) ⟨by simp, by simp⟩ rfl ?_ fun s hs => ?_
 ·try simp only [TrimX, QE, Nat.reduceLT, reduceIte, Nat.reduceEqDiff, Nat.reduceAdd, Nat.reduceLeDiff, Nat.reduceMul, Nat.reduceBEq, QXRm14, T_sapp, e1, e2, e6, e7, e8, e9, e25, e26, e53, e54, e55]
  try simp
 ·obtain ⟨i, s⟩ := s
  obtain ⟨hi, hq⟩ := hs
  simp only at hi hq
  (repeat (first | simp only [↓QA, QB, Nat.reduceLT, reduceIte, Nat.reduceEqDiff, Nat.reduceAdd, Nat.reduceLeDiff, Nat.reduceMul, Nat.reduceBEq, QXRm14, T_sapp, L91_2] | refine rd0 rfl ?_))
  refine iteP_intro (fun h => ?_) fun h => ?_
  ·have hi1 : i < r.looks.length := by simpa using h
   have hw := wrapN hi1 (by omega)
   have hl := hv.looks _ (List.getElem_mem hi1)
   have hdiv : but / 2 ^ i < 9223372036854775808 := Nat.lt_of_le_of_lt (Nat.div_le_self _ _) hb.lt
   have hbit := hb.bit i (by omega)
   have vs := V_shr but i (by omega)
   have va := V_and1 (but / 2 ^ i) hdiv
   rw [List.drop_eq_getElem_cons hi1] at hq
   simp only [seeF] at hq
   have hof := pof_ok r.looks[i].colour hl.2.2.1 hl.2.2.2
   have fin : ∀ (s' : Span) (e' : Env) (τ : List ABlk), (if (r.looks[i].day == (d : Int) && !bl.contains (i : Int)) = true then both s (ofC r.looks[i].colour) else s) = s' → True := fun _ _ _ _ => trivial
   (repeat (first | simp only [↓QA, QB, Nat.reduceLT, reduceIte, Nat.reduceEqDiff, Nat.reduceAdd, Nat.reduceLeDiff, Nat.reduceMul, Nat.reduceBEq, QXRm14, T_sapp, hi1, vs, va, hbit, List.length_append] | refine rd0 rfl ?_))
   cases h1 : (r.looks[i].day == (d : Int))
   ·rw [h1] at hq
    (repeat (first | simp only [↓QA, QB, Nat.reduceLT, reduceIte, Nat.reduceEqDiff, Nat.reduceAdd, Nat.reduceLeDiff, Nat.reduceMul, Nat.reduceBEq, QXRm14, T_sapp, h1, hi1, List.length_append, hw] | refine rd0 rfl ?_))
    refine ⟨(i + 1, s), ⟨by simp only; omega, by simpa using hq⟩, by simp only; omega, ?_⟩
    try simp only [TrimX, QE, Nat.reduceLT, reduceIte, Nat.reduceEqDiff, Nat.reduceAdd, Nat.reduceLeDiff, Nat.reduceMul, Nat.reduceBEq, QXRm14, T_sapp, hw, S_mapLook]
    try simp [okBlk, okVs, okV]
   ·rw [h1] at hq
    (repeat (first | simp only [↓QA, QB, Nat.reduceLT, reduceIte, Nat.reduceEqDiff, Nat.reduceAdd, Nat.reduceLeDiff, Nat.reduceMul, Nat.reduceBEq, QXRm14, T_sapp, h1, hi1, vs, va, hbit, List.length_append, hw] | refine rd0 rfl ?_))
    cases h2 : bl.contains (i : Int)
    ·rw [h2] at hq
     (repeat (first | simp only [↓QA, QB, Nat.reduceLT, reduceIte, Nat.reduceEqDiff, Nat.reduceAdd, Nat.reduceLeDiff, Nat.reduceMul, Nat.reduceBEq, QXRm14, T_sapp, h2, hi1, List.length_append, hw] | refine rd0 rfl ?_))
     ((first | refine callK_d (hof) rfl dd ?_ | refine callD_d (hof) rfl dd ?_); (repeat (first | simp only [↓QA, QB, Nat.reduceLT, reduceIte, Nat.reduceEqDiff, Nat.reduceAdd, Nat.reduceLeDiff, Nat.reduceMul, Nat.reduceBEq, QXRm14, T_sapp, List.length_append] | refine rd0 rfl ?_)))
     ((first | refine callK_d (pboth_ok s (ofC r.looks[i].colour)) rfl dd ?_ | refine callD_d (pboth_ok s (ofC r.looks[i].colour)) rfl dd ?_); (repeat (first | simp only [↓QA, QB, Nat.reduceLT, reduceIte, Nat.reduceEqDiff, Nat.reduceAdd, Nat.reduceLeDiff, Nat.reduceMul, Nat.reduceBEq, QXRm14, T_sapp, List.length_append, hw] | refine rd0 rfl ?_)))
     refine ⟨(i + 1, both s (ofC r.looks[i].colour)), ⟨by simp only; omega, by simpa using hq⟩, by simp only; omega, ?_⟩
     try simp only [TrimX, QE, Nat.reduceLT, reduceIte, Nat.reduceEqDiff, Nat.reduceAdd, Nat.reduceLeDiff, Nat.reduceMul, Nat.reduceBEq, QXRm14, T_sapp, hw, S_mapLook]
     try simp [okBlk, okVs, okV]
    ·rw [h2] at hq
     (repeat (first | simp only [↓QA, QB, Nat.reduceLT, reduceIte, Nat.reduceEqDiff, Nat.reduceAdd, Nat.reduceLeDiff, Nat.reduceMul, Nat.reduceBEq, QXRm14, T_sapp, h2, hi1, List.length_append, hw] | refine rd0 rfl ?_))
     refine ⟨(i + 1, s), ⟨by simp only; omega, by simpa using hq⟩, by simp only; omega, ?_⟩
     try simp only [TrimX, QE, Nat.reduceLT, reduceIte, Nat.reduceEqDiff, Nat.reduceAdd, Nat.reduceLeDiff, Nat.reduceMul, Nat.reduceBEq, QXRm14, T_sapp, hw, S_mapLook]
     try simp [okBlk, okVs, okV]
  ·have hi1 : i = r.looks.length := by simp at h; omega
   rw [hi1, List.drop_length] at hq
   simp only [seeF] at hq
   rw [hq]
   (repeat (first | simp only [↓QA, QB, Nat.reduceLT, reduceIte, Nat.reduceEqDiff, Nat.reduceAdd, Nat.reduceLeDiff, Nat.reduceMul, Nat.reduceBEq, QXRm14, T_sapp] | refine rd0 rfl ?_))
   refine hK _ ?_ ?_ ?_ ?_ ?_ ?_ ?_ ?_
   all_goals try simp only [TrimX, QE, Nat.reduceLT, reduceIte, Nat.reduceEqDiff, Nat.reduceAdd, Nat.reduceLeDiff, Nat.reduceMul, Nat.reduceBEq, QXRm14, T_sapp]
end Go.Am.Room
set_option maxRecDepth 4000
namespace Go.Am.Room
def QXRm15 := And.intro @setE_eq (And.intro @bits_len (And.intro @bits_cell (And.intro @bits_take (And.intro @bits_drop (And.intro @bits_zero (And.intro @Nat.mul_one (And.intro @Int.toNat_natCast (And.intro @encRoom_eq (And.intro @roomCells_eq (And.intro @encSetting_eq (And.intro @encLook_eq (And.intro @encSpan_eq (And.intro @S_bits (And.intro @Nat.add_lt_add_iff_left (And.intro @Nat.lt_add_right_iff_pos (@T_sapp))))))))))))))))
def fS (r : Rm) (bl : List Int) (i : Nat) : Span := (fwd r bl i).getD ⟨0, 0⟩
def psF (r : Rm) (bl : List Int) (d : Nat) : Nat → Span := fun i => if i < d then fS r bl i else ⟨0, 0⟩
def preS (r : Rm) (bl : List Int) : Nat → Span
 | 0 => r.start
 | d + 1 => plus (fS r bl d) (gainAt r d)
def curS (r : Rm) (bl : List Int) (d : Nat) : Span := seeF d bl (preS r bl d) r.looks 0
theorem fwd_cur {r : Rm} (hv : Vd r) (bl : List Int) (d : Nat) (hd : d ≤ r.ran.length) (h : ∀ i, i < d → (fwd r bl i).isSome = true) : fwd r bl d = ne (curS r bl d) := by
 have hc : ∀ x ∈ r.looks, 1 ≤ x.colour ∧ x.colour ≤ 7 := fun x hx => (hv.looks x hx).2.2
 have hs := hv.start
 have hdd := hv.days
 have hdr := hv.ranLen
 cases d with
 | zero =>
  simp only [curS, preS, fwd]
  rw [seeF_eq _ bl _ _ _ hc hs.1 (by omega)]
  rfl
 | succ d =>
  obtain ⟨s, hs2⟩ := Option.isSome_iff_exists.1 (h d (by omega))
  have hb := fwd_bd hv bl d (by omega) s hs2
  have hg := gain_bd hv (show d < r.ran.length by omega)
  have e1 : fS r bl d = s := by simp [fS, hs2]
  simp only [curS, preS, e1]
  rw [seeF_eq _ bl _ _ _ hc (by simp only [plus]; omega) (by simp only [plus]; omega)]
  simp only [fwd, hs2, Option.bind_some]
  rfl
theorem psF_succ (r : Rm) (bl : List Int) (d : Nat) : updS (psF r bl d) d (fS r bl d) = psF r bl (d + 1) := by
 funext i
 simp only [updS, psF]
 by_cases h1 : i = d
 ·subst h1; simp
 ·by_cases h2 : i < d
  ·simp [h1, h2, show i < d + 1 by omega]
  ·simp [h1, h2, show ¬ i < d + 1 by omega]
theorem look_fwd (σ : St) (r : Rm) (but : Nat) (bl : List Int) (e : Env) (K : KJ) (hv : Vd r) (hb : ButIs but bl)
  (e1 : Env.get e 1 = .int .i64 but) (e2 : Env.get e 2 = .ptr σ.length 0) (e6 : Env.get e 6 = .ptr (σ.length + 2) 0) (e7 : Env.get e 7 = .int .i64 r.ran.length) (e25 : Env.get e 25 = .int .i64 ((r.ran.length + 1 : Nat) : Int)) (e26 : Env.get e 26 = .int .i64 0)
  (hK : (∀ i, i ≤ r.ran.length → (fwd r bl i).isSome = true) → ∀ e', Env.get e' 2 = .ptr σ.length 0 → Env.get e' 6 = .ptr (σ.length + 2) 0 → Env.get e' 7 = .int .i64 r.ran.length →
   K (some (.exit 0)) e' (σ ++ [.cells (roomCells r), .map [], .cells (rb r (psF r bl (r.ran.length + 1)) (σ.length + 1))]))
  (hR : fwd r bl r.ran.length = none → ∀ e' ps b, Env.get e' 4 = .ptr (σ.length + 2) 0 → Env.get e' 5 = .bool false → K (some .ret) e' (σ ++ [.cells (roomCells r), .map [], .cells (rb r ps (σ.length + 1)), b])) :
  rK (K := ⟨K⟩) T (.loop L91_0) e (σ ++ [.cells (roomCells r), .map [], .cells (rb r (psF r bl 0) (σ.length + 1))]) := by
 have hll := hv.looksLen
 have hdd := hv.days
 have hdr := hv.ranLen
 have hss := hv.start
 refine loopE (S := Nat) 0 (fun d => d ≤ r.ran.length + 1 ∧ ∀ i, i < d → (fwd r bl i).isSome = true) (fun d => r.ran.length + 1 - d)
  (fun d => [(1, .int .i64 but), (2, .ptr σ.length 0), (6, .ptr (σ.length + 2) 0), (7, .int .i64 r.ran.length), (25, .int .i64 ((r.ran.length + 1 : Nat) : Int)), (26, .int .i64 d)])
  (fun d => σ ++ [.cells (roomCells r), .map [], .cells (rb r (psF r bl d) (σ.length + 1))]) ⟨by simp, by simp⟩ rfl ?_ fun d hd => ?_
 ·try simp only [TrimX, QE, Nat.reduceLT, reduceIte, Nat.reduceEqDiff, Nat.reduceAdd, Nat.reduceLeDiff, Nat.reduceMul, Nat.reduceBEq, QXRm15, e1, e2, e6, e7, e25, e26]
  try simp
 ·obtain ⟨hd, hsome⟩ := hd
  (repeat (first | simp only [↓QA, QB, Nat.reduceLT, reduceIte, Nat.reduceEqDiff, Nat.reduceAdd, Nat.reduceLeDiff, Nat.reduceMul, Nat.reduceBEq, QXRm15, L91_0] | refine rd0 rfl ?_))
  refine iteP_intro (fun h => ?_) fun h => ?_
  ·have hd1 : d < r.ran.length + 1 := by simp at h; omega
   have hw : IntKind.i64.wrap ((d : Int) + 1) = ((d + 1 : Nat) : Int) := wrapN hd1 (by omega)
   have hcur := fwd_cur hv bl d (by omega) hsome
   have hin := look_in σ r but bl (psF r bl d) d (preS r bl d)
   rw [roomCells_eq] at hin
   have hd7 : d < 7 := by omega
   cases h0 : decide ((0 : Int) < (d : Int))
   case' false =>
    have h0' : d = 0 := by simp at h0; omega
    have hpre : preS r bl d = r.start := by rw [h0']; rfl
    have hC : curS r bl d = seeF d bl r.start r.looks 0 := by rw [curS, hpre]
    rw [hpre, ← hC] at hin
    (repeat (first | simp only [↓QA, QB, Nat.reduceLT, reduceIte, Nat.reduceEqDiff, Nat.reduceAdd, Nat.reduceLeDiff, Nat.reduceMul, Nat.reduceBEq, QXRm15, List.length_append, h0] | refine rd0 rfl ?_))
   case' true =>
    have h0' : 0 < d := by simp at h0; omega
    obtain ⟨k, hdk⟩ : ∃ k, d = k + 1 := ⟨d - 1, by omega⟩
    have hpre : preS r bl d = plus (fS r bl k) (gainAt r k) := by rw [hdk]; rfl
    have hk1 : k < r.ran.length := by omega
    have hk7 : k < 7 := by omega
    have hw2 : IntKind.i64.wrap ((d : Int) - 1) = (k : Int) := by rw [wrap64 ⟨by omega, by omega⟩]; omega
    have hg := hv.ran _ (List.getElem_mem hk1)
    have hg0 : 0 ≤ r.ran[k] := hg.1
    have hg1 : r.ran[k].toNat < r.settings.length := by omega
    have hga := gainAt_eq hk1 hg1
    have hgb := gain_bd hv hk1
    obtain ⟨sp, hsp⟩ := Option.isSome_iff_exists.1 (hsome k (by omega))
    have hfb := fwd_bd hv bl k (by omega) sp hsp
    have hfs : fS r bl k = sp := by simp [fS, hsp]
    have hpk : psF r bl d k = fS r bl k := by simp [psF, show k < d by omega]
    have i1 : (0 : Int) ≤ (k : Int) ∧ (k : Int) < ((7 : Nat) : Int) := ⟨by omega, by omega⟩
    have b1 : 7 + k * 2 + 2 ≤ 22 := by omega
    have t1 := rb_at r (psF r bl d) (σ.length + 1) k hk7
    rw [hpk] at t1
    have hC : curS r bl d = seeF d bl (plus (fS r bl k) r.settings[r.ran[k].toNat].gain) r.looks 0 := by rw [curS, hpre, hga]
    rw [hpre, hga, ← hC] at hin
    rw [hga] at hgb
    (repeat (first | simp only [↓QA, QB, Nat.reduceLT, reduceIte, Nat.reduceEqDiff, Nat.reduceAdd, Nat.reduceLeDiff, Nat.reduceMul, Nat.reduceBEq, QXRm15, List.length_append, h0] | refine rd0 rfl ?_))
    (repeat (first | simp only [↓QA, QB, Nat.reduceLT, reduceIte, Nat.reduceEqDiff, Nat.reduceAdd, Nat.reduceLeDiff, Nat.reduceMul, Nat.reduceBEq, QXRm15, List.length_append, hw2, i1, b1, t1, rb_len, hk1, V_idxI, hg0, hg1] | refine rd0 rfl ?_))
    ((first | refine callK_d (pplus_ok (fS r bl k) r.settings[r.ran[k].toNat].gain (by rw [hfs]; omega) (by rw [hfs]; omega) (by rw [hfs]; omega) (by rw [hfs]; omega)) rfl dd ?_ | refine callD_d (pplus_ok (fS r bl k) r.settings[r.ran[k].toNat].gain (by rw [hfs]; omega) (by rw [hfs]; omega) (by rw [hfs]; omega) (by rw [hfs]; omega)) rfl dd ?_); (repeat (first | simp only [↓QA, QB, Nat.reduceLT, reduceIte, Nat.reduceEqDiff, Nat.reduceAdd, Nat.reduceLeDiff, Nat.reduceMul, Nat.reduceBEq, QXRm15, List.length_append, hw2, i1, b1, t1, rb_len, hk1, V_idxI, hg0, hg1] | refine rd0 rfl ?_)))
   all_goals
    refine hin _ _ hv hb ?_ ?_ ?_ ?_ ?_ ?_ ?_ ?_ ?_ ?_ ?_ ?_
    any_goals try simp only [TrimX, QE, Nat.reduceLT, reduceIte, Nat.reduceEqDiff, Nat.reduceAdd, Nat.reduceLeDiff, Nat.reduceMul, Nat.reduceBEq, QXRm15]
    intro e' q1 q2 q6 q7 q8 q9 q25 q26
    (repeat (first | simp only [↓QA, QB, Nat.reduceLT, reduceIte, Nat.reduceEqDiff, Nat.reduceAdd, Nat.reduceLeDiff, Nat.reduceMul, Nat.reduceBEq, QXRm15, q1, q2, q6, q7, q8, q9, q25, q26] | refine rd0 rfl ?_))
    cases hlt : decide ((curS r bl d).hi < (curS r bl d).lo)
    ·have hlt' : ¬ (curS r bl d).hi < (curS r bl d).lo := by simpa using hlt
     have hne : fwd r bl d = some (curS r bl d) := by rw [hcur, ne, if_pos (by omega)]
     have hfd : fS r bl d = curS r bl d := by simp [fS, hne]
     have j1 : (0 : Int) ≤ (d : Int) ∧ (d : Int) < ((7 : Nat) : Int) := ⟨by omega, by omega⟩
     have c1 : 7 + d * 2 + 2 ≤ 22 := by omega
     have u1 := rb_set r (psF r bl d) (σ.length + 1) (curS r bl d) d hd7
     rw [← hfd, psF_succ] at u1
     (repeat (first | simp only [↓QA, QB, Nat.reduceLT, reduceIte, Nat.reduceEqDiff, Nat.reduceAdd, Nat.reduceLeDiff, Nat.reduceMul, Nat.reduceBEq, QXRm15, hlt, ← hfd, q1, q2, q6, q7, q8, q9, q25, q26, j1, c1, u1, rb_len] | refine rd0 rfl ?_))
     refine ⟨d + 1, ⟨by omega, fun i hi => ?_⟩, by omega, ?_⟩
     ·by_cases hid : i = d
      ·rw [hid, hne]; rfl
      ·exact hsome i (by omega)
     ·try simp only [TrimX, QE, Nat.reduceLT, reduceIte, Nat.reduceEqDiff, Nat.reduceAdd, Nat.reduceLeDiff, Nat.reduceMul, Nat.reduceBEq, QXRm15, q1, q2, q6, q7, q8, q9, q25, q26, hw]
      have := rb_ok r (psF r bl (d + 1)) (show σ.length + 1 < σ.length + 3 by omega)
      simp [okBlk, this]
    ·have hlt' : (curS r bl d).hi < (curS r bl d).lo := by simpa using hlt
     have hnone : fwd r bl d = none := by rw [hcur, ne, if_neg (by omega)]
     have hlast : fwd r bl r.ran.length = none := by
      cases hf : fwd r bl r.ran.length with
      | none => rfl
      | some x =>
       have := fwd_some (r := r) (but := bl) (d := r.ran.length) (e := d) (by omega) (by rw [hf]; rfl)
       rw [hnone] at this
       cases this
     (repeat (first | simp only [↓QA, QB, Nat.reduceLT, reduceIte, Nat.reduceEqDiff, Nat.reduceAdd, Nat.reduceLeDiff, Nat.reduceMul, Nat.reduceBEq, QXRm15, hlt, q1, q2, q6, q7, q8, q9, q25, q26] | refine rd0 rfl ?_))
     have hr := hR hlast
     rw [roomCells_eq] at hr
     refine hr _ _ _ ?_ ?_
     all_goals try simp only [TrimX, QE, Nat.reduceLT, reduceIte, Nat.reduceEqDiff, Nat.reduceAdd, Nat.reduceLeDiff, Nat.reduceMul, Nat.reduceBEq, QXRm15, q6]
  ·have hd1 : d = r.ran.length + 1 := by simp at h; omega
   subst hd1
   (repeat (first | simp only [↓QA, QB, Nat.reduceLT, reduceIte, Nat.reduceEqDiff, Nat.reduceAdd, Nat.reduceLeDiff, Nat.reduceMul, Nat.reduceBEq, QXRm15] | refine rd0 rfl ?_))
   have hk := hK (fun i hi => hsome i (by omega))
   rw [roomCells_eq] at hk
   refine hk _ ?_ ?_ ?_
   all_goals try simp only [TrimX, QE, Nat.reduceLT, reduceIte, Nat.reduceEqDiff, Nat.reduceAdd, Nat.reduceLeDiff, Nat.reduceMul, Nat.reduceBEq, QXRm15]
end Go.Am.Room
set_option maxRecDepth 4000
namespace Go.Am.Room
def QXRm16 := And.intro @setE_eq (And.intro @bits_len (And.intro @bits_cell (And.intro @bits_take (And.intro @bits_drop (And.intro @bits_zero (And.intro @Nat.mul_one (And.intro @Int.toNat_natCast (And.intro @encRoom_eq (And.intro @roomCells_eq (And.intro @encSetting_eq (And.intro @encLook_eq (And.intro @encSpan_eq (And.intro @S_bits (And.intro @Nat.add_lt_add_iff_left (And.intro @Nat.lt_add_right_iff_pos (@T_sapp))))))))))))))))
def passK (r : Rm) (ps : Nat → Span) (k : Nat) : Nat → Span := fun i => if i < k then both (ps i) (back (ps (i + 1)) (gainAt r i)) else ps i
theorem passK_0 (r : Rm) (ps : Nat → Span) : passK r ps 0 = ps := by funext i; simp [passK]
theorem passK_succ (r : Rm) (ps : Nat → Span) (k : Nat) : updS (passK r ps k) k (both (ps k) (back (ps (k + 1)) (gainAt r k))) = passK r ps (k + 1) := by
 funext i
 simp only [updS, passK]
 by_cases h1 : i = k
 ·subst h1; simp
 ·by_cases h2 : i < k
  ·simp [h1, h2, show i < k + 1 by omega]
  ·simp [h1, h2, show ¬ i < k + 1 by omega]
theorem look_pass (σ τ : St) (r : Rm) (ps : Nat → Span) (j : Nat) (e : Env) (K : KJ) (hv : Vd r) (hps : ∀ i, -1000 ≤ (ps i).lo ∧ (ps i).lo ≤ 1000 ∧ -1000 ≤ (ps i).hi ∧ (ps i).hi ≤ 1000) (hj : j < τ.length + 3)
  (e2 : Env.get e 2 = .ptr σ.length 0) (e6 : Env.get e 6 = .ptr (σ.length + 2) 0) (e7 : Env.get e 7 = .int .i64 r.ran.length) (e12 : Env.get e 12 = .ptr (σ.length + j) 0) (e101 : Env.get e 101 = .int .i64 r.ran.length) (e102 : Env.get e 102 = .int .i64 0)
  (hK : ∀ e', Env.get e' 2 = .ptr σ.length 0 → Env.get e' 6 = .ptr (σ.length + 2) 0 → Env.get e' 7 = .int .i64 r.ran.length → Env.get e' 12 = .ptr (σ.length + j) 0 →
   K (some (.exit 6)) e' (σ ++ (.cells (roomCells r) :: .map [] :: .cells (rb r (passK r ps r.ran.length) (σ.length + 1)) :: τ))) :
  rK (K := ⟨K⟩) T (.loop L91_6) e (σ ++ (.cells (roomCells r) :: .map [] :: .cells (rb r ps (σ.length + 1)) :: τ)) := by
 have hdd := hv.days
 have hdr := hv.ranLen
 refine loopE (S := Nat) 0 (fun k => k ≤ r.ran.length) (fun k => r.ran.length - k)
  (fun k => [(2, .ptr σ.length 0), (6, .ptr (σ.length + 2) 0), (7, .int .i64 r.ran.length), (12, .ptr (σ.length + j) 0), (101, .int .i64 r.ran.length), (102, .int .i64 k)])
  (fun k => σ ++ (.cells (roomCells r) :: .map [] :: .cells (rb r (passK r ps k) (σ.length + 1)) :: τ)) (Nat.zero_le _) (by rw [passK_0]) ?_ fun k hk => ?_
 ·try simp only [TrimX, QE, Nat.reduceLT, reduceIte, Nat.reduceEqDiff, Nat.reduceAdd, Nat.reduceLeDiff, Nat.reduceMul, Nat.reduceBEq, QXRm16, e2, e6, e7, e12, e101, e102]
  try simp
 ·(repeat (first | simp only [↓QA, QB, Nat.reduceLT, reduceIte, Nat.reduceEqDiff, Nat.reduceAdd, Nat.reduceLeDiff, Nat.reduceMul, Nat.reduceBEq, QXRm16, L91_6] | refine rd0 rfl ?_))
  refine iteP_intro (fun h => ?_) fun h => ?_
  ·have hk1 : k < r.ran.length := by simp at h; omega
   have hk7 : k < 7 := by omega
   have hk8 : k + 1 < 7 := by omega
   have hw := wrapN hk1 (by omega)
   have hg := hv.ran _ (List.getElem_mem hk1)
   have hg0 : 0 ≤ r.ran[k] := hg.1
   have hg1 : r.ran[k].toNat < r.settings.length := by omega
   have hga := gainAt_eq hk1 hg1
   have hgb := gain_bd hv hk1
   rw [hga] at hgb
   have hb1 := hps (k + 1)
   have p1 : passK r ps k (k + 1) = ps (k + 1) := by simp [passK]; omega
   have p0 : passK r ps k k = ps k := by simp [passK]
   have i1 : (0 : Int) ≤ (k : Int) ∧ (k : Int) < ((7 : Nat) : Int) := ⟨by omega, by omega⟩
   have i2 : (0 : Int) ≤ ((k + 1 : Nat) : Int) ∧ ((k + 1 : Nat) : Int) < ((7 : Nat) : Int) := ⟨by omega, by omega⟩
   have c1 : 7 + k * 2 + 2 ≤ 22 := by omega
   have c2 : 7 + (k + 1) * 2 + 2 ≤ 22 := by omega
   have t0 := rb_at r (passK r ps k) (σ.length + 1) k hk7
   have t1 := rb_lo r (passK r ps k) (σ.length + 1) (k + 1) hk8
   have t2 := rb_hi r (passK r ps k) (σ.length + 1) (k + 1) hk8
   rw [p0] at t0
   rw [p1] at t1 t2
   have w1 : IntKind.i64.wrap ((ps (k + 1)).lo - r.settings[r.ran[k].toNat].gain.hi) = (ps (k + 1)).lo - r.settings[r.ran[k].toNat].gain.hi := wrap64 ⟨by omega, by omega⟩
   have w2 : IntKind.i64.wrap ((ps (k + 1)).hi - r.settings[r.ran[k].toNat].gain.lo) = (ps (k + 1)).hi - r.settings[r.ran[k].toNat].gain.lo := wrap64 ⟨by omega, by omega⟩
   obtain ⟨N, hN⟩ : ∃ N, both (ps k) (back (ps (k + 1)) r.settings[r.ran[k].toNat].gain) = N := ⟨_, rfl⟩
   have hbk : back (ps (k + 1)) r.settings[r.ran[k].toNat].gain = ⟨(ps (k + 1)).lo - r.settings[r.ran[k].toNat].gain.hi, (ps (k + 1)).hi - r.settings[r.ran[k].toNat].gain.lo⟩ := rfl
   have hbo := pboth_ok (ps k) (back (ps (k + 1)) r.settings[r.ran[k].toNat].gain)
   rw [hN, hbk] at hbo
   have ku := passK_succ r ps k
   rw [hga, hN] at ku
   (repeat (first | simp only [↓QA, QB, Nat.reduceLT, reduceIte, Nat.reduceEqDiff, Nat.reduceAdd, Nat.reduceLeDiff, Nat.reduceMul, Nat.reduceBEq, QXRm16, List.length_append] | refine rd0 rfl ?_))
   refine rK_dreg1 [.cells [.int .i64 0, .int .i64 0]] rfl ?_
   (repeat (first | simp only [↓QA, QB, Nat.reduceLT, reduceIte, Nat.reduceEqDiff, Nat.reduceAdd, Nat.reduceLeDiff, Nat.reduceMul, Nat.reduceBEq, QXRm16, List.length_append, hk1, V_idxI, hg0, hg1] | refine rd0 rfl ?_))
   refine rK_dreg1 [.cells [.int .i64 0, .int .i64 0]] rfl ?_
   (repeat (first | simp only [↓QA, QB, Nat.reduceLT, reduceIte, Nat.reduceEqDiff, Nat.reduceAdd, Nat.reduceLeDiff, Nat.reduceMul, Nat.reduceBEq, QXRm16, List.length_append, hw, i2, c2, Nat.add_zero, t1, t2, rb_len, w1, w2] | refine rd0 rfl ?_))
   refine rK_dreg1 [.cells [.int .i64 0, .int .i64 0]] rfl ?_
   (repeat (first | simp only [↓QA, QB, Nat.reduceLT, reduceIte, Nat.reduceEqDiff, Nat.reduceAdd, Nat.reduceLeDiff, Nat.reduceMul, Nat.reduceBEq, QXRm16, List.length_append, i1, c1, t0, rb_len] | refine rd0 rfl ?_))
   ((first | refine callK_d (hbo) rfl dd ?_ | refine callD_d (hbo) rfl dd ?_); (repeat (first | simp only [↓QA, QB, Nat.reduceLT, reduceIte, Nat.reduceEqDiff, Nat.reduceAdd, Nat.reduceLeDiff, Nat.reduceMul, Nat.reduceBEq, QXRm16, List.length_append, i1, c1, t0, rb_len] | refine rd0 rfl ?_)))
   have hrb := rb_ok r (passK r ps (k + 1)) (show σ.length + 1 < σ.length + (τ.length + 3) by omega)
   have u1 := rb_set r (passK r ps k) (σ.length + 1) N k hk7
   rw [ku] at u1
   cases hc : (N.lo == (ps k).lo && N.hi == (ps k).hi)
   ·(repeat (first | simp only [↓QA, QB, Nat.reduceLT, reduceIte, Nat.reduceEqDiff, Nat.reduceAdd, Nat.reduceLeDiff, Nat.reduceMul, Nat.reduceBEq, QXRm16, List.length_append, i1, c1, t0, rb_len, u1] | refine rd0 rfl ?_))
    refine ⟨k + 1, hk1, by omega, ?_⟩
    try simp only [TrimX, QE, Nat.reduceLT, reduceIte, Nat.reduceEqDiff, Nat.reduceAdd, Nat.reduceLeDiff, Nat.reduceMul, Nat.reduceBEq, QXRm16, hw, T_sr, List.length_append]
    try simp [okBlk, hrb, Nat.add_assoc]
    omega
   ·have hN2 : N = ps k := by
     simp only [Bool.and_eq_true, beq_iff_eq] at hc
     obtain ⟨a, b⟩ := N
     obtain ⟨x, y⟩ : ∃ s, s = ps k := ⟨_, rfl⟩
     rw [← y] at hc ⊢
     obtain ⟨c, d⟩ := x
     simp only [Span.mk.injEq] at *
     exact hc
    have hsame : passK r ps (k + 1) = passK r ps k := by
     rw [← ku, hN2, ← p0]
     funext i
     simp only [updS]
     split
     ·rename_i h; rw [h]
     ·rfl
    (repeat (first | simp only [↓QA, QB, Nat.reduceLT, reduceIte, Nat.reduceEqDiff, Nat.reduceAdd, Nat.reduceLeDiff, Nat.reduceMul, Nat.reduceBEq, QXRm16, List.length_append] | refine rd0 rfl ?_))
    refine ⟨k + 1, hk1, by omega, ?_⟩
    rw [hsame]
    try simp only [TrimX, QE, Nat.reduceLT, reduceIte, Nat.reduceEqDiff, Nat.reduceAdd, Nat.reduceLeDiff, Nat.reduceMul, Nat.reduceBEq, QXRm16, hw, T_sr, List.length_append]
    rw [hsame] at hrb
    simp [okBlk, hrb, Nat.add_assoc]
    omega
  ·have hk1 : k = r.ran.length := by simp at h; omega
   subst hk1
   (repeat (first | simp only [↓QA, QB, Nat.reduceLT, reduceIte, Nat.reduceEqDiff, Nat.reduceAdd, Nat.reduceLeDiff, Nat.reduceMul, Nat.reduceBEq, QXRm16] | refine rd0 rfl ?_))
   have hk := hK
   rw [roomCells_eq] at hk
   refine hk _ ?_ ?_ ?_ ?_
   all_goals try simp only [TrimX, QE, Nat.reduceLT, reduceIte, Nat.reduceEqDiff, Nat.reduceAdd, Nat.reduceLeDiff, Nat.reduceMul, Nat.reduceBEq, QXRm16]
def bS (r : Rm) (bl : List Int) (i : Nat) : Span := (bwd r bl (r.ran.length - i)).getD ⟨0, 0⟩
def psB (r : Rm) (bl : List Int) : Nat → Span := fun i => if i ≤ r.ran.length then bS r bl i else ⟨0, 0⟩
def Sub (a b : Span) : Prop := b.lo ≤ a.lo ∧ a.hi ≤ b.hi
theorem Sub.antisymm {a b : Span} (h1 : Sub a b) (h2 : Sub b a) : a = b := by
 cases a; cases b
 simp only [Sub, Span.mk.injEq] at *
 omega
theorem bS_facts {r : Rm} (hv : Vd r) {bl : List Int} (hs : (fwd r bl r.ran.length).isSome = true) (i : Nat) (hi : i ≤ r.ran.length) : 0 ≤ (bS r bl i).lo ∧ (bS r bl i).lo ≤ (bS r bl i).hi ∧ (bS r bl i).hi < 160 ∧ Sub (bS r bl i) (fS r bl i) := by
 obtain ⟨b, f, h1, h2, h3, h4⟩ := bwd_some hv hs (r.ran.length - i) (by omega)
 have hb := bwd_bd hv bl _ (by omega) b h1
 rw [show r.ran.length - (r.ran.length - i) = i by omega] at h2
 have e1 : bS r bl i = b := by simp [bS, h1]
 have e2 : fS r bl i = f := by simp [fS, h2]
 rw [e1, e2]
 exact ⟨hb.1, hb.2.1, hb.2.2, h3, h4⟩
theorem bS_last (r : Rm) (bl : List Int) : bS r bl r.ran.length = fS r bl r.ran.length := by simp [bS, fS, bwd]
theorem bS_step {r : Rm} (hv : Vd r) {bl : List Int} (hs : (fwd r bl r.ran.length).isSome = true) (i : Nat) (hi : i < r.ran.length) : bS r bl i = both (fS r bl i) (back (bS r bl (i + 1)) (gainAt r i)) := by
 obtain ⟨b, f, h1, h2, h3, h4⟩ := bwd_some hv hs (r.ran.length - i) (by omega)
 obtain ⟨b', f', h1', h2', h3', h4'⟩ := bwd_some hv hs (r.ran.length - (i + 1)) (by omega)
 rw [show r.ran.length - (r.ran.length - i) = i by omega] at h2
 have e1 : bS r bl i = b := by simp [bS, h1]
 have e2 : fS r bl i = f := by simp [fS, h2]
 have e3 : bS r bl (i + 1) = b' := by simp [bS, h1']
 rw [e1, e2, e3]
 rw [show r.ran.length - i = (r.ran.length - (i + 1)) + 1 by omega] at h1
 simp only [bwd, h1', Option.bind_some] at h1
 rw [show r.ran.length - (r.ran.length - (i + 1) + 1) = i by omega, h2] at h1
 simp only [Option.bind_some, ne] at h1
 split at h1
 ·exact (Option.some.inj h1).symm
 ·cases h1
structure Inv (r : Rm) (bl : List Int) (j : Nat) (ps : Nat → Span) : Prop where
 inn : ∀ i, i ≤ r.ran.length → Sub (bS r bl i) (ps i) ∧ Sub (ps i) (fS r bl i)
 out : ∀ i, r.ran.length < i → ps i = ⟨0, 0⟩
 eq : ∀ i, i ≤ r.ran.length → r.ran.length ≤ i + j → ps i = bS r bl i
theorem inv_start {r : Rm} (hv : Vd r) {bl : List Int} (hs : (fwd r bl r.ran.length).isSome = true) : Inv r bl 0 (psF r bl (r.ran.length + 1)) := by
 refine ⟨fun i hi => ?_, fun i hi => ?_, fun i hi h2 => ?_⟩
 ·have := (bS_facts hv hs i hi).2.2.2
  simp only [psF, show i < r.ran.length + 1 by omega, if_true]
  exact ⟨this, by simp [Sub]⟩
 ·simp only [psF, show ¬ i < r.ran.length + 1 by omega, if_false]
 ·have : i = r.ran.length := by omega
  subst this
  simp [psF, bS_last]
theorem both_sub {a b c : Span} (h1 : Sub c a) (h2 : Sub c b) : Sub c (both a b) := by simp only [Sub, both] at *; omega
theorem back_sub {a b g : Span} (h : Sub a b) : Sub (back a g) (back b g) := by simp only [Sub, back] at *; omega
theorem sub_trans {a b c : Span} (h1 : Sub a b) (h2 : Sub b c) : Sub a c := by simp only [Sub] at *; omega
theorem both_l (a b : Span) : Sub (both a b) a := by simp only [Sub, both]; omega
theorem both_r (a b : Span) : Sub (both a b) b := by simp only [Sub, both]; omega
theorem inv_step {r : Rm} (hv : Vd r) {bl : List Int} (hs : (fwd r bl r.ran.length).isSome = true) {j : Nat} {ps : Nat → Span} (h : Inv r bl j ps) : Inv r bl (j + 1) (passK r ps r.ran.length) := by
 have key : ∀ i, i < r.ran.length → Sub (bS r bl i) (both (ps i) (back (ps (i + 1)) (gainAt r i))) := fun i hi => by
  have e := bS_step hv hs i hi
  refine both_sub (h.inn i (by omega)).1 ?_
  rw [e]
  exact sub_trans (both_r _ _) (back_sub (h.inn (i + 1) hi).1)
 refine ⟨fun i hi => ?_, fun i hi => ?_, fun i hi h2 => ?_⟩
 ·by_cases hl : i < r.ran.length
  ·simp only [passK, hl, if_true]
   exact ⟨key i hl, sub_trans (both_l _ _) (h.inn i hi).2⟩
  ·simp only [passK, hl, if_false]
   exact h.inn i hi
 ·simp only [passK, show ¬ i < r.ran.length by omega, if_false]
  exact h.out i hi
 ·by_cases hl : i < r.ran.length
  ·simp only [passK, hl, if_true]
   refine Sub.antisymm ?_ (key i hl)
   rw [bS_step hv hs i hl, h.eq (i + 1) hl (by omega)]
   exact both_sub (sub_trans (both_l _ _) (h.inn i hi).2) (both_r _ _)
  ·simp only [passK, hl, if_false]
   exact h.eq i hi (by omega)
theorem inv_bd {r : Rm} (hv : Vd r) {bl : List Int} (hs : (fwd r bl r.ran.length).isSome = true) {j : Nat} {ps : Nat → Span} (h : Inv r bl j ps) (i : Nat) : -1000 ≤ (ps i).lo ∧ (ps i).lo ≤ 1000 ∧ -1000 ≤ (ps i).hi ∧ (ps i).hi ≤ 1000 := by
 by_cases hi : i ≤ r.ran.length
 ·obtain ⟨h1, h2⟩ := h.inn i hi
  have h3 := bS_facts hv hs i hi
  have hdd := hv.days
  have hdr := hv.ranLen
  obtain ⟨f, hf⟩ := Option.isSome_iff_exists.1 (fwd_some (r := r) (but := bl) (d := r.ran.length) hi hs)
  have h4 := fwd_bd hv bl i hi f hf
  have e2 : fS r bl i = f := by simp [fS, hf]
  rw [e2] at h2
  simp only [Sub] at *
  omega
 ·rw [h.out i (by omega)]; simp
theorem inv_fix {r : Rm} (hv : Vd r) {bl : List Int} (hs : (fwd r bl r.ran.length).isSome = true) {j : Nat} {ps : Nat → Span} (h : Inv r bl j ps) (hf : ∀ i, i < r.ran.length → ps i = passK r ps r.ran.length i) : ∀ k i, i + k = r.ran.length → ps i = bS r bl i
 | 0, i, hi => h.eq i (by omega) (by omega)
 | k + 1, i, hi => by
  have ih := inv_fix hv hs h hf k (i + 1) (by omega)
  have hl : i < r.ran.length := by omega
  have e := hf i hl
  simp only [passK, hl, if_true, ih] at e
  refine Sub.antisymm ?_ (h.inn i (by omega)).1
  rw [bS_step hv hs i hl]
  refine both_sub (h.inn i (by omega)).2 ?_
  rw [e]
  exact both_r _ _
structure PInv (r : Rm) (bl : List Int) (j : Nat) (was ps : Nat → Span) : Prop where
 now : Inv r bl j ps
 le : j ≤ r.ran.length + 1
 first : j = 0 → was = fun _ => ⟨0, 0⟩
 later : 1 ≤ j → Inv r bl (j - 1) was ∧ ps = passK r was r.ran.length
theorem pinv_exit {r : Rm} (hv : Vd r) {bl : List Int} (hs : (fwd r bl r.ran.length).isSome = true) {j : Nat} {was ps : Nat → Span} (h : PInv r bl j was ps) (he : samePts was ps = true) (i : Nat) (hi : i < 7) : ps i = psB r bl i := by
 rw [samePts_iff] at he
 have hdd := hv.days
 have hdr := hv.ranLen
 by_cases hl : i ≤ r.ran.length
 ·simp only [psB, hl, if_true]
  by_cases hj : j = 0
  ·have h0 := he i hi
   rw [h.first hj] at h0
   obtain ⟨h1, _⟩ := h.now.inn i hl
   have h3 := bS_facts hv hs i hl
   rw [← h0] at h1 ⊢
   refine Sub.antisymm ?_ h1
   simp only [Sub] at *
   omega
  ·obtain ⟨h1, h2⟩ := h.later (by omega)
   have hw : was i = bS r bl i := inv_fix hv hs h1 (fun i hi => by rw [← h2]; exact he i (by omega)) (r.ran.length - i) i (by omega)
   rw [← hw, he i hi]
 ·simp only [psB, hl, if_false]
  exact h.now.out i (by omega)
theorem pinv_next {r : Rm} (hv : Vd r) {bl : List Int} (hs : (fwd r bl r.ran.length).isSome = true) {j : Nat} {was ps : Nat → Span} (h : PInv r bl j was ps) (he : samePts was ps = false) : j ≤ r.ran.length ∧ PInv r bl (j + 1) ps (passK r ps r.ran.length) := by
 have hj : j ≤ r.ran.length := by
  by_cases hj : j ≤ r.ran.length
  ·exact hj
  ·exfalso
   have hje : j = r.ran.length + 1 := by have := h.le; omega
   obtain ⟨h1, h2⟩ := h.later (by omega)
   have : samePts was ps = true := by
    rw [samePts_iff]
    intro d hd
    by_cases hl : d ≤ r.ran.length
    ·rw [h1.eq d hl (by omega), h.now.eq d hl (by omega)]
    ·rw [h1.out d (by omega), h.now.out d (by omega)]
   rw [he] at this
   cases this
 exact ⟨hj, inv_step hv hs h.now, by omega, by omega, fun _ => ⟨h.now, rfl⟩⟩
theorem pinv_start {r : Rm} (hv : Vd r) {bl : List Int} (hs : (fwd r bl r.ran.length).isSome = true) : PInv r bl 0 (fun _ => ⟨0, 0⟩) (psF r bl (r.ran.length + 1)) :=
 ⟨inv_start hv hs, by omega, fun _ => rfl, by omega⟩
theorem rb_congr {r : Rm} {ps qs : Nat → Span} {m : Nat} (h : ∀ i, i < 7 → ps i = qs i) : rb r ps m = rb r qs m := by
 simp only [rb, ptsCells, h 0 (by omega), h 1 (by omega), h 2 (by omega), h 3 (by omega), h 4 (by omega), h 5 (by omega), h 6 (by omega)]
end Go.Am.Room
set_option maxRecDepth 4000
namespace Go.Am.Room
def QXRm18 := And.intro @setE_eq (And.intro @bits_len (And.intro @bits_cell (And.intro @bits_take (And.intro @bits_drop (And.intro @bits_zero (And.intro @Nat.mul_one (And.intro @Int.toNat_natCast (And.intro @encRoom_eq (And.intro @roomCells_eq (And.intro @encSetting_eq (And.intro @encLook_eq (And.intro @encSpan_eq (And.intro @S_bits (And.intro @Nat.add_lt_add_iff_left (And.intro @Nat.lt_add_right_iff_pos (And.intro @T_sapp (@pts_len)))))))))))))))))
theorem pts_take (ps : Nat → Span) : (ptsCells ps).take 14 = ptsCells ps := rfl
theorem pts_drop (ps : Nat → Span) : (ptsCells ps).drop 14 = [] := rfl
theorem pts_cell (ps : Nat → Span) : allCell (ptsCells ps) = true := by simp [ptsCells, allCell, AV.cell]
theorem pts_ok (ps : Nat → Span) (m : Nat) : okVs m (ptsCells ps) := by simp [ptsCells, okVs, okV]
theorem look_fix (σ : St) (r : Rm) (bl : List Int) (e : Env) (K : KJ) (hv : Vd r) (hs : (fwd r bl r.ran.length).isSome = true)
  (e2 : Env.get e 2 = .ptr σ.length 0) (e6 : Env.get e 6 = .ptr (σ.length + 2) 0) (e7 : Env.get e 7 = .int .i64 r.ran.length) (e12 : Env.get e 12 = .ptr (σ.length + 3) 0)
  (hK : ∀ e' τ, Env.get e' 6 = .ptr (σ.length + 2) 0 → K (some (.exit 4)) e' (σ ++ (.cells (roomCells r) :: .map [] :: .cells (rb r (psB r bl) (σ.length + 1)) :: τ))) :
  rK (K := ⟨K⟩) T (.loop L91_4) e (σ ++ [.cells (roomCells r), .map [], .cells (rb r (psF r bl (r.ran.length + 1)) (σ.length + 1)), .cells (ptsCells fun _ => ⟨0, 0⟩)]) := by
 refine loopE (S := Nat × (Nat → Span) × (Nat → Span) × St) (0, (fun _ => ⟨0, 0⟩), psF r bl (r.ran.length + 1), []) (fun s => PInv r bl s.1 s.2.1 s.2.2.1) (fun s => r.ran.length + 2 - s.1)
  (fun s => [(2, .ptr σ.length 0), (6, .ptr (σ.length + 2) 0), (7, .int .i64 r.ran.length), (12, .ptr (σ.length + (s.2.2.2.length + 3)) 0)])
  (fun s => σ ++ (.cells (roomCells r) :: .map [] :: .cells (rb r s.2.2.1 (σ.length + 1)) :: (s.2.2.2 ++ [.cells (ptsCells s.2.1)]))) (pinv_start hv hs) rfl ?_ fun s hP => ?_
 ·try simp only [TrimX, QE, Nat.reduceLT, reduceIte, Nat.reduceEqDiff, Nat.reduceAdd, Nat.reduceLeDiff, Nat.reduceMul, Nat.reduceBEq, QXRm18, pts_take, pts_drop, pts_cell, e2, e6, e7, e12]
  try simp
 ·obtain ⟨j, was, ps, olds⟩ := s
  simp only at hP
  have c1 : 7 + 14 ≤ 22 := by omega
  (repeat (first | simp only [↓QA, QB, Nat.reduceLT, reduceIte, Nat.reduceEqDiff, Nat.reduceAdd, Nat.reduceLeDiff, Nat.reduceMul, Nat.reduceBEq, QXRm18, pts_take, pts_drop, pts_cell, L91_4, rb_pts, rb_len, V_neA, pts_ne, List.take_append_of_le_length] | refine rd0 rfl ?_))
  cases hc : samePts was ps
  ·obtain ⟨hj, hnext⟩ := pinv_next hv hs hP hc
   have hpass := look_pass σ (olds ++ [.cells (ptsCells ps)]) r ps (olds.length + 3)
   rw [roomCells_eq] at hpass
   (repeat (first | simp only [↓QA, QB, Nat.reduceLT, reduceIte, Nat.reduceEqDiff, Nat.reduceAdd, Nat.reduceLeDiff, Nat.reduceMul, Nat.reduceBEq, QXRm18, pts_take, pts_drop, pts_cell, rb_pts, rb_len] | refine rd0 rfl ?_))
   refine hpass _ _ hv (inv_bd hv hs hP.now) (by simp) ?_ ?_ ?_ ?_ ?_ ?_ ?_
   any_goals try simp only [TrimX, QE, Nat.reduceLT, reduceIte, Nat.reduceEqDiff, Nat.reduceAdd, Nat.reduceLeDiff, Nat.reduceMul, Nat.reduceBEq, QXRm18, pts_take, pts_drop, pts_cell]
   intro e' q2 q6 q7 q12
   (repeat (first | simp only [↓QA, QB, Nat.reduceLT, reduceIte, Nat.reduceEqDiff, Nat.reduceAdd, Nat.reduceLeDiff, Nat.reduceMul, Nat.reduceBEq, QXRm18, pts_take, pts_drop, pts_cell, q2, q6, q7, q12, List.length_append] | refine rd0 rfl ?_))
   refine ⟨(j + 1, ps, passK r ps r.ran.length, olds ++ [.cells (ptsCells ps)]), hnext, by simp only; omega, ?_⟩
   have hrb := rb_ok r (passK r ps r.ran.length) (show σ.length + 1 < σ.length + (olds.length + 5) by omega)
   try simp only [TrimX, QE, Nat.reduceLT, reduceIte, Nat.reduceEqDiff, Nat.reduceAdd, Nat.reduceLeDiff, Nat.reduceMul, Nat.reduceBEq, QXRm18, pts_take, pts_drop, pts_cell, q2, q6, q7, q12, List.length_append, st_app]
   try simp [okBlk, hrb, pts_ok, Nat.add_assoc]
  ·have hps : rb r ps (σ.length + 1) = rb r (psB r bl) (σ.length + 1) := rb_congr fun i hi => pinv_exit hv hs hP hc i hi
   rw [hps]
   (repeat (first | simp only [↓QA, QB, Nat.reduceLT, reduceIte, Nat.reduceEqDiff, Nat.reduceAdd, Nat.reduceLeDiff, Nat.reduceMul, Nat.reduceBEq, QXRm18, pts_take, pts_drop, pts_cell] | refine rd0 rfl ?_))
   have hk := hK
   rw [roomCells_eq] at hk
   refine hk _ _ ?_
   all_goals try simp only [TrimX, QE, Nat.reduceLT, reduceIte, Nat.reduceEqDiff, Nat.reduceAdd, Nat.reduceLeDiff, Nat.reduceMul, Nat.reduceBEq, QXRm18, pts_take, pts_drop, pts_cell]
theorem T_sapp0 (m : Nat) (σ b c : St) : EqS m σ (σ ++ b) (σ ++ c) = EqS m [] b c := by have := T_sapp m σ [] b c; rwa [List.append_nil] at this
def lookSt (σ : St) (r : Rm) (ps : Nat → Span) : St := σ ++ [.cells (roomCells r), .map [], .cells (rb r ps (σ.length + 1))]
theorem rb_zero (r : Rm) (bl : List Int) (m : Nat) : rb r (psF r bl 0) m = roomCells r ++ [.int .i64 0, .int .i64 0, .int .i64 0, .int .i64 0, .int .i64 0, .int .i64 0, .int .i64 0, .int .i64 0, .int .i64 0, .int .i64 0, .int .i64 0, .int .i64 0, .int .i64 0, .int .i64 0, .map m] := by
 simp [rb, ptsCells, psF]
theorem pts_zero : ptsCells (fun _ => ⟨0, 0⟩) = [.int .i64 0, .int .i64 0, .int .i64 0, .int .i64 0, .int .i64 0, .int .i64 0, .int .i64 0, .int .i64 0, .int .i64 0, .int .i64 0, .int .i64 0, .int .i64 0, .int .i64 0, .int .i64 0] := rfl
theorem look_runC (σ : St) (r : Rm) (but : Nat) (bl : List Int) (hv : Vd r) (hb : ButIs but bl) (ra : AV) (hra : ra = encRoom r ∨ clr ra = encRoom r) :
  Run T (.callv (.func 91 [] []) [ra, .int .i64 but] σ) fun o => ∃ ps, o.v = .tuple [.ptr (σ.length + 2) 0, .bool (someB r bl)] ∧ o.σ = lookSt σ r ps ∧ (someB r bl = true → ps = psB r bl) := by
 refine .callf (.call (af := a91) rfl (by simp [a91]) (R := fun o => (o.j = none ∨ o.j = some .ret) ∧ ∃ ps, o.env = [(4, .ptr (σ.length + 2) 0), (5, .bool (someB r bl))] ∧ o.σ = lookSt σ r ps ∧ (someB r bl = true → ps = psB r bl)) ?_ fun o ho => ?_)
 ·refine .weak (env' := argsEnv 0 [encRoom r, .int .i64 but]) (fun t => ?_) ?_
  ·simp only [List.nil_append, List.append_nil, argsEnv, Env.get]
   by_cases h0 : 0 = t
   ·subst h0
    simp only [if_true]
    rcases hra with h | h
    ·exact .inr (.inl h.symm)
    ·exact .inr (.inr h.symm)
   ·simp [h0]
  refine .trim2 (R := fun o => (o.j = none ∨ o.j = some .ret) ∧ ∃ ps τ, Env.get o.env 4 = .ptr (σ.length + 2) 0 ∧ Env.get o.env 5 = .bool (someB r bl) ∧ o.σ = σ ++ (.cells (roomCells r) :: .map [] :: .cells (rb r ps (σ.length + 1)) :: τ) ∧ (someB r bl = true → ps = psB r bl)) ?_ fun o ho => ?_
  ·refine run_wp (K := fun j e σ1 => (j = none ∨ j = some .ret) ∧ ∃ ps τ, Env.get e 4 = .ptr (σ.length + 2) 0 ∧ Env.get e 5 = .bool (someB r bl) ∧ σ1 = σ ++ (.cells (roomCells r) :: .map [] :: .cells (rb r ps (σ.length + 1)) :: τ) ∧ (someB r bl = true → ps = psB r bl)) ?_ fun o ho => ho
   have hdd := hv.days
   have hdr := hv.ranLen
   have hw : IntKind.i64.wrap ((r.ran.length : Int) + 1) = ((r.ran.length + 1 : Nat) : Int) := by rw [wrap64 ⟨by omega, by omega⟩]; omega
   have hfw := look_fwd σ r but bl
   rw [rb_zero] at hfw
   rw [roomCells_eq] at hfw
   (repeat (first | simp only [↓QA, QB, Nat.reduceLT, reduceIte, Nat.reduceEqDiff, Nat.reduceAdd, Nat.reduceLeDiff, Nat.reduceMul, Nat.reduceBEq, QXRm18, pts_take, pts_drop, pts_cell, a91, List.length_append, hw] | refine rd0 rfl ?_))
   refine hfw _ _ hv hb ?_ ?_ ?_ ?_ ?_ ?_ ?_ ?_
   ·try simp only [TrimX, QE, Nat.reduceLT, reduceIte, Nat.reduceEqDiff, Nat.reduceAdd, Nat.reduceLeDiff, Nat.reduceMul, Nat.reduceBEq, QXRm18, pts_take, pts_drop, pts_cell]
   ·try simp only [TrimX, QE, Nat.reduceLT, reduceIte, Nat.reduceEqDiff, Nat.reduceAdd, Nat.reduceLeDiff, Nat.reduceMul, Nat.reduceBEq, QXRm18, pts_take, pts_drop, pts_cell]
   ·try simp only [TrimX, QE, Nat.reduceLT, reduceIte, Nat.reduceEqDiff, Nat.reduceAdd, Nat.reduceLeDiff, Nat.reduceMul, Nat.reduceBEq, QXRm18, pts_take, pts_drop, pts_cell]
   ·try simp only [TrimX, QE, Nat.reduceLT, reduceIte, Nat.reduceEqDiff, Nat.reduceAdd, Nat.reduceLeDiff, Nat.reduceMul, Nat.reduceBEq, QXRm18, pts_take, pts_drop, pts_cell]
   ·try simp only [TrimX, QE, Nat.reduceLT, reduceIte, Nat.reduceEqDiff, Nat.reduceAdd, Nat.reduceLeDiff, Nat.reduceMul, Nat.reduceBEq, QXRm18, pts_take, pts_drop, pts_cell]
   ·try simp only [TrimX, QE, Nat.reduceLT, reduceIte, Nat.reduceEqDiff, Nat.reduceAdd, Nat.reduceLeDiff, Nat.reduceMul, Nat.reduceBEq, QXRm18, pts_take, pts_drop, pts_cell]
   ·intro hall e' q2 q6 q7
    have hs := hall _ (Nat.le_refl _)
    have hsb : someB r bl = true := by rw [someB_eq hv]; exact hs
    have hfx := look_fix σ r bl
    rw [pts_zero, roomCells_eq] at hfx
    (repeat (first | simp only [↓QA, QB, Nat.reduceLT, reduceIte, Nat.reduceEqDiff, Nat.reduceAdd, Nat.reduceLeDiff, Nat.reduceMul, Nat.reduceBEq, QXRm18, pts_take, pts_drop, pts_cell, q2, q6, q7, List.length_append] | refine rd0 rfl ?_))
    refine hfx _ _ hv hs ?_ ?_ ?_ ?_ ?_
    ·try simp only [TrimX, QE, Nat.reduceLT, reduceIte, Nat.reduceEqDiff, Nat.reduceAdd, Nat.reduceLeDiff, Nat.reduceMul, Nat.reduceBEq, QXRm18, pts_take, pts_drop, pts_cell, q2, q6, q7]
    ·try simp only [TrimX, QE, Nat.reduceLT, reduceIte, Nat.reduceEqDiff, Nat.reduceAdd, Nat.reduceLeDiff, Nat.reduceMul, Nat.reduceBEq, QXRm18, pts_take, pts_drop, pts_cell, q2, q6, q7]
    ·try simp only [TrimX, QE, Nat.reduceLT, reduceIte, Nat.reduceEqDiff, Nat.reduceAdd, Nat.reduceLeDiff, Nat.reduceMul, Nat.reduceBEq, QXRm18, pts_take, pts_drop, pts_cell, q2, q6, q7]
    ·try simp only [TrimX, QE, Nat.reduceLT, reduceIte, Nat.reduceEqDiff, Nat.reduceAdd, Nat.reduceLeDiff, Nat.reduceMul, Nat.reduceBEq, QXRm18, pts_take, pts_drop, pts_cell, q2, q6, q7]
    ·intro e' τ q6
     (repeat (first | simp only [↓QA, QB, Nat.reduceLT, reduceIte, Nat.reduceEqDiff, Nat.reduceAdd, Nat.reduceLeDiff, Nat.reduceMul, Nat.reduceBEq, QXRm18, pts_take, pts_drop, pts_cell, q6] | refine rd0 rfl ?_))
     refine ⟨psB r bl, τ, ?_⟩
     simp [q6, hsb]
   ·intro hnone e' ps b q4 q5
    have hsb : someB r bl = false := by rw [someB_eq hv, hnone]; rfl
    (repeat (first | simp only [↓QA, QB, Nat.reduceLT, reduceIte, Nat.reduceEqDiff, Nat.reduceAdd, Nat.reduceLeDiff, Nat.reduceMul, Nat.reduceBEq, QXRm18, pts_take, pts_drop, pts_cell, q4, q5] | refine rd0 rfl ?_))
    refine ⟨ps, [b], ?_⟩
    simp [q4, q5, hsb]
  ·obtain ⟨hj, ps, τ, q4, q5, hσ, hps⟩ := ho
   refine .inr ⟨[(4, .ptr (σ.length + 2) 0), (5, .bool (someB r bl))], lookSt σ r ps, trims_of ?_, hj, ps, rfl, rfl, hps⟩
   have hrb := rb_ok r ps (show σ.length + 1 < σ.length + 3 by omega)
   have hrc : okVs (σ.length + 3) (roomCells r) := okVs_up _ (show okVs 0 (roomCells r) from (data_room r).1)
   rw [roomCells_eq] at hrc
   rw [hσ, lookSt]
   try simp only [TrimX, QE, Nat.reduceLT, reduceIte, Nat.reduceEqDiff, Nat.reduceAdd, Nat.reduceLeDiff, Nat.reduceMul, Nat.reduceBEq, QXRm18, pts_take, pts_drop, pts_cell, q4, q5, T_sapp0]
   try simp [okBlk, hrb, hrc]
 ·obtain ⟨hj, ps, he, hσ, hps⟩ := ho
  refine ⟨hj, .tuple [.ptr (σ.length + 2) 0, .bool (someB r bl)], ?_, .inl ⟨ps, rfl, hσ, hps⟩⟩
  rw [he]
  rfl
theorem look_run (σ : St) (r : Rm) (but : Nat) (bl : List Int) (hv : Vd r) (hb : ButIs but bl) :
  Run T (.callv (.func 91 [] []) [encRoom r, .int .i64 but] σ) fun o => ∃ ps, o.v = .tuple [.ptr (σ.length + 2) 0, .bool (someB r bl)] ∧ o.σ = lookSt σ r ps ∧ (someB r bl = true → ps = psB r bl) := look_runC σ r but bl hv hb _ (.inl rfl)
def QXRm2 := And.intro @encRoom_eq (And.intro @roomCells_eq (And.intro @encSetting_eq (And.intro @encLook_eq (@encSpan_eq))))
def idxOf {α : Type} (p : α → Bool) : List α → Nat → Int
 | [], _ => -1
 | x :: xs, k => if p x then k else idxOf p xs (k + 1)
theorem idxOf_any {α : Type} (p : α → Bool) : ∀ (l : List α) (k : Nat), decide (0 ≤ idxOf p l k) = l.any p
 | [], k => by simp [idxOf]
 | x :: xs, k => by
  cases h : p x
  ·simp [idxOf, h, idxOf_any p xs (k + 1)]
  ·simp [idxOf, h]
theorem index_int (σ : St) (f : AV) (l : List Int) (p : Int → Bool) (hl : l.length < 9223372036854775808) (hk : Keeps σ f) (h : ∀ x ∈ l, Same T f [.int .i64 x] σ (.bool (p x))) : Same T (.func 120 [] []) [ints l, f] σ (.int .i64 (idxOf p l 0)) := by
 refine same_fn (af := a120) rfl (by simp [a120]) ?_
 have hk0 := hk.nil
 (repeat (first | simp only [↓QA, QB, Nat.reduceLT, reduceIte, Nat.reduceEqDiff, Nat.reduceAdd, Nat.reduceLeDiff, Nat.reduceMul, Nat.reduceBEq, QXRm2, a120] | refine rd0 rfl ?_))
 refine loopE (S := Nat) 0 (fun k => k ≤ l.length ∧ idxOf p (l.drop k) k = idxOf p l 0) (fun k => l.length - k) (fun k => [(0, ints l), (1, f), (7, .int .i64 l.length), (8, .int .i64 k)]) (fun _ => σ) ⟨Nat.zero_le _, by simp⟩ rfl ?_ fun k hk1 => ?_
 ·try simp only [TrimX, QE, Nat.reduceLT, reduceIte, Nat.reduceEqDiff, Nat.reduceAdd, Nat.reduceLeDiff, Nat.reduceMul, Nat.reduceBEq, QXRm2]
  try simp
 ·obtain ⟨hkl, hi⟩ := hk1
  (repeat (first | simp only [↓QA, QB, Nat.reduceLT, reduceIte, Nat.reduceEqDiff, Nat.reduceAdd, Nat.reduceLeDiff, Nat.reduceMul, Nat.reduceBEq, QXRm2, L120_0] | refine rd0 rfl ?_))
  refine iteP_intro (fun hd => ?_) fun hd => ?_
  ·have hlt : k < l.length := by simpa using hd
   rw [List.drop_eq_getElem_cons hlt] at hi
   simp only [idxOf] at hi
   have hw := wrapN hlt hl
   (repeat (first | simp only [↓QA, QB, Nat.reduceLT, reduceIte, Nat.reduceEqDiff, Nat.reduceAdd, Nat.reduceLeDiff, Nat.reduceMul, Nat.reduceBEq, QXRm2, hlt] | refine rd0 rfl ?_))
   refine callK_same (h l[k] (List.getElem_mem hlt)) ?_
   (repeat (first | simp only [↓QA, QB, Nat.reduceLT, reduceIte, Nat.reduceEqDiff, Nat.reduceAdd, Nat.reduceLeDiff, Nat.reduceMul, Nat.reduceBEq, QXRm2] | refine rd0 rfl ?_))
   cases hp : p l[k]
   ·(repeat (first | simp only [↓QA, QB, Nat.reduceLT, reduceIte, Nat.reduceEqDiff, Nat.reduceAdd, Nat.reduceLeDiff, Nat.reduceMul, Nat.reduceBEq, QXRm2, hw] | refine rd0 rfl ?_))
    refine ⟨k + 1, ⟨by omega, by rw [← hi, hp]; rfl⟩, by omega, ?_⟩
    try simp only [TrimX, QE, Nat.reduceLT, reduceIte, Nat.reduceEqDiff, Nat.reduceAdd, Nat.reduceLeDiff, Nat.reduceMul, Nat.reduceBEq, QXRm2, hw, hk0, Nat.le_refl]
   ·(repeat (first | simp only [↓QA, QB, Nat.reduceLT, reduceIte, Nat.reduceEqDiff, Nat.reduceAdd, Nat.reduceLeDiff, Nat.reduceMul, Nat.reduceBEq, QXRm2] | refine rd0 rfl ?_))
    refine baseR [] (by first | rfl | simp) ?_
    rw [← hi, hp]
    try simp only [QS, QC, Nat.reduceLT, reduceIte, Nat.reduceEqDiff, Nat.reduceAdd, Nat.reduceLeDiff, Nat.reduceMul, Nat.reduceBEq, QXRm2]
  ·have hlt : k = l.length := by simp at hd; omega
   (repeat (first | simp only [↓QA, QB, Nat.reduceLT, reduceIte, Nat.reduceEqDiff, Nat.reduceAdd, Nat.reduceLeDiff, Nat.reduceMul, Nat.reduceBEq, QXRm2] | refine rd0 rfl ?_))
   refine baseR [] (by first | rfl | simp) ?_
   rw [← hi, hlt, List.drop_length]
   try simp only [QS, QC, Nat.reduceLT, reduceIte, Nat.reduceEqDiff, Nat.reduceAdd, Nat.reduceLeDiff, Nat.reduceMul, Nat.reduceBEq, QXRm2, idxOf]
theorem contains_int (σ : St) (f : AV) (l : List Int) (p : Int → Bool) (hl : l.length < 9223372036854775808) (hk : Keeps σ f) (h : ∀ x ∈ l, Same T f [.int .i64 x] σ (.bool (p x))) : Same T (.func 101 [] []) [ints l, f] σ (.bool (l.any p)) := by
 refine same_fn (af := a101) rfl (by simp [a101]) ?_
 (repeat (first | simp only [↓QA, QB, Nat.reduceLT, reduceIte, Nat.reduceEqDiff, Nat.reduceAdd, Nat.reduceLeDiff, Nat.reduceMul, Nat.reduceBEq, QXRm2, a101] | refine rd0 rfl ?_))
 refine callK_same (index_int σ f l p hl hk h) ?_
 (repeat (first | simp only [↓QA, QB, Nat.reduceLT, reduceIte, Nat.reduceEqDiff, Nat.reduceAdd, Nat.reduceLeDiff, Nat.reduceMul, Nat.reduceBEq, QXRm2] | refine rd0 rfl ?_))
 refine baseR [] (by first | rfl | simp) ?_
 rw [← idxOf_any p l 0]
 try simp only [QS, QC, Nat.reduceLT, reduceIte, Nat.reduceEqDiff, Nat.reduceAdd, Nat.reduceLeDiff, Nat.reduceMul, Nat.reduceBEq, QXRm2]
def outside (lo hi n : Int) : Bool := decide (n < lo) || decide (hi < n)
theorem beyond1_ok (lo hi n : Int) : Same T (.func 102 [] [.ptr 0 0, .ptr 1 0]) [.int .i64 n] [.cells [.int .i64 lo], .cells [.int .i64 hi]] (.bool (outside lo hi n)) := by
 refine same_fn (af := a102) rfl (by simp [a102]) ?_
 (repeat (first | simp only [↓QA, QB, Nat.reduceLT, reduceIte, Nat.reduceEqDiff, Nat.reduceAdd, Nat.reduceLeDiff, Nat.reduceMul, Nat.reduceBEq, QXRm2, a102] | refine rd0 rfl ?_))
 refine iteP_intro (fun h => ?_) fun h => ?_
 all_goals
  (repeat (first | simp only [↓QA, QB, Nat.reduceLT, reduceIte, Nat.reduceEqDiff, Nat.reduceAdd, Nat.reduceLeDiff, Nat.reduceMul, Nat.reduceBEq, QXRm2, h] | refine rd0 rfl ?_))
  refine baseR [] (by first | rfl | simp) ?_
  try simp only [QS, QC, Nat.reduceLT, reduceIte, Nat.reduceEqDiff, Nat.reduceAdd, Nat.reduceLeDiff, Nat.reduceMul, Nat.reduceBEq, QXRm2, outside, h]
  try simp
def beyond (lo hi : Int) (ns : List Int) : Bool := ns.any (outside lo hi)
theorem beyond_ok (lo hi : Int) (ns : List Int) (hl : ns.length < 9223372036854775808) : Pure T 67 [.int .i64 lo, .int .i64 hi, ints ns] (.bool (beyond lo hi ns)) := by
 refine pure_fn (af := a67) rfl (by simp [a67]) dd ?_
 (repeat (first | simp only [↓QA, QB, Nat.reduceLT, reduceIte, Nat.reduceEqDiff, Nat.reduceAdd, Nat.reduceLeDiff, Nat.reduceMul, Nat.reduceBEq, QXRm2, a67] | refine rd0 rfl ?_))
 refine callK_same (contains_int _ _ ns (outside lo hi) hl (fun τ => ?_) fun x _ => beyond1_ok lo hi x) ?_
 ·try simp only [QS, QC, Nat.reduceLT, reduceIte, Nat.reduceEqDiff, Nat.reduceAdd, Nat.reduceLeDiff, Nat.reduceMul, Nat.reduceBEq, QXRm2]
 ·(repeat (first | simp only [↓QA, QB, Nat.reduceLT, reduceIte, Nat.reduceEqDiff, Nat.reduceAdd, Nat.reduceLeDiff, Nat.reduceMul, Nat.reduceBEq, QXRm2, beyond] | refine rd0 rfl ?_))
theorem off1_ok (lo hi n : Int) : Same T (.func 119 [] [.ptr 0 0, .ptr 1 0]) [.int .i64 n] [.cells [.int .i64 lo], .cells [.int .i64 hi]] (.bool (outside lo hi n)) := by
 refine same_fn (af := a119) rfl (by simp [a119]) ?_
 (repeat (first | simp only [↓QA, QB, Nat.reduceLT, reduceIte, Nat.reduceEqDiff, Nat.reduceAdd, Nat.reduceLeDiff, Nat.reduceMul, Nat.reduceBEq, QXRm2, a119] | refine rd0 rfl ?_))
 refine iteP_intro (fun h => ?_) fun h => ?_
 all_goals
  (repeat (first | simp only [↓QA, QB, Nat.reduceLT, reduceIte, Nat.reduceEqDiff, Nat.reduceAdd, Nat.reduceLeDiff, Nat.reduceMul, Nat.reduceBEq, QXRm2, h] | refine rd0 rfl ?_))
  refine baseR [] (by first | rfl | simp) ?_
  try simp only [QS, QC, Nat.reduceLT, reduceIte, Nat.reduceEqDiff, Nat.reduceAdd, Nat.reduceLeDiff, Nat.reduceMul, Nat.reduceBEq, QXRm2, outside, h]
  try simp
theorem off_ok (lo hi : Int) (ns : List Int) (hl : ns.length < 9223372036854775808) : Pure T 99 [.int .i64 lo, .int .i64 hi, ints ns] (.bool (beyond lo hi ns)) := by
 refine pure_fn (af := a99) rfl (by simp [a99]) dd ?_
 (repeat (first | simp only [↓QA, QB, Nat.reduceLT, reduceIte, Nat.reduceEqDiff, Nat.reduceAdd, Nat.reduceLeDiff, Nat.reduceMul, Nat.reduceBEq, QXRm2, a99] | refine rd0 rfl ?_))
 refine callK_same (contains_int _ _ ns (outside lo hi) hl (fun τ => ?_) fun x _ => off1_ok lo hi x) ?_
 ·try simp only [QS, QC, Nat.reduceLT, reduceIte, Nat.reduceEqDiff, Nat.reduceAdd, Nat.reduceLeDiff, Nat.reduceMul, Nat.reduceBEq, QXRm2]
 ·(repeat (first | simp only [↓QA, QB, Nat.reduceLT, reduceIte, Nat.reduceEqDiff, Nat.reduceAdd, Nat.reduceLeDiff, Nat.reduceMul, Nat.reduceBEq, QXRm2, beyond] | refine rd0 rfl ?_))
theorem okUpTo_mono (s : ByteArray) : ∀ n k, k ≤ n → okUpTo s k = false → okUpTo s n = false
  | 0, k, h, h1 => by have : k = 0 := by omega
                      subst this; exact h1
  | n + 1, k, h, h1 => by
    by_cases hk : k = n + 1
    · subst hk; exact h1
    · simp [okUpTo, okUpTo_mono s n k (by omega) h1]
theorem beyond1 (lo hi n : Int) : beyond lo hi [n] = !inR n lo hi := by
 rw [Bool.eq_iff_iff]; simp [beyond, outside, inR]
theorem beyond2 (lo hi n m : Int) : beyond lo hi [n, m] = (!inR n lo hi || !inR m lo hi) := by
 rw [Bool.eq_iff_iff]; simp [beyond, outside, inR]
theorem handname_ok (s : ByteArray) (hs : s.size < 9223372036854775808) : Pure T 64 [.str s] (.bool (nameOk s)) := by
 refine pure_fn (af := a64) rfl (by simp [a64]) dd ?_
 (repeat (first | simp only [↓QA, QB, Nat.reduceLT, reduceIte, Nat.reduceEqDiff, Nat.reduceAdd, Nat.reduceLeDiff, Nat.reduceMul, Nat.reduceBEq, QXRm2, a64] | refine rd0 rfl ?_))
 refine loopE (S := Nat) 0 (fun k => k ≤ s.size ∧ okUpTo s k = true) (fun k => s.size - k) (fun k => [(0, .str s), (7, .ptr 0 0)]) (fun k => [.siter s k]) ⟨Nat.zero_le _, rfl⟩ rfl ?_ fun k hk => ?_
 ·try simp only [TrimX, QE, Nat.reduceLT, reduceIte, Nat.reduceEqDiff, Nat.reduceAdd, Nat.reduceLeDiff, Nat.reduceMul, Nat.reduceBEq, QXRm2]
  try simp
 ·obtain ⟨hkl, hok⟩ := hk
  by_cases hk1 : k < s.size
  ·obtain ⟨R, hR⟩ : ∃ R : Int, ((Utf8.decode s k).1 : Int) = R := ⟨_, rfl⟩
   obtain ⟨W, hW⟩ : ∃ W, (Utf8.decode s k).2 = W := ⟨_, rfl⟩
   have hstep : okUpTo s (k + 1) = okByte k (byteAt s k) := by simp [okUpTo, hok]
   have hbl := byteAt_lt s k
   have key : (97 ≤ R ∧ R ≤ 122 ∨ 0 < k ∧ (R = 46 ∨ 48 ≤ R ∧ R ≤ 57)) → W = 1 ∧ okUpTo s (k + 1) = true := by
    intro h
    by_cases hb : byteAt s k < 128
    ·have := byteAt_ascii hk1 hb
     rw [this] at hR hW
     have hR' : R = byteAt s k := by simp at hR; omega
     refine ⟨hW.symm, ?_⟩
     rw [hstep, okByte, ← hR']
     simp [inR]
     omega
    ·have := byteAt_high hk1 (by omega)
     omega
   have key2 : ¬ (97 ≤ R ∧ R ≤ 122 ∨ 0 < k ∧ (R = 46 ∨ 48 ≤ R ∧ R ≤ 57)) → nameOk s = false := by
    intro h
    have : okUpTo s (k + 1) = false := by
     rw [hstep, okByte]
     by_cases hb : byteAt s k < 128
     ·have := byteAt_ascii hk1 hb
      rw [this] at hR hW
      have hR' : R = byteAt s k := by simp at hR; omega
      rw [← hR']
      simp [inR]
      omega
     ·simp [inR]; omega
    simp [nameOk, okUpTo_mono s s.size (k + 1) (by omega) this]
   have go : ∀ (e : Env), W = 1 ∧ okUpTo s (k + 1) = true → Env.get e 0 = .str s → Env.get e 7 = .ptr 0 0 → ∃ s', (s' ≤ s.size ∧ okUpTo s s' = true) ∧ s.size - s' < s.size - k ∧ TrimX [.siter s k] e [.siter s (k + W)] [(0, .str s), (7, .ptr 0 0)] [.siter s s'] := by
    intro e h e0 e7
    refine ⟨k + 1, ⟨by omega, h.2⟩, by omega, ?_⟩
    try simp only [TrimX, QE, Nat.reduceLT, reduceIte, Nat.reduceEqDiff, Nat.reduceAdd, Nat.reduceLeDiff, Nat.reduceMul, Nat.reduceBEq, QXRm2, e0, e7, h.1]
    try simp [okBlk]
   (repeat (first | simp only [↓QA, QB, Nat.reduceLT, reduceIte, Nat.reduceEqDiff, Nat.reduceAdd, Nat.reduceLeDiff, Nat.reduceMul, Nat.reduceBEq, QXRm2, L64_0, V_snextT hk1, hR, hW] | refine rd0 rfl ?_))
   cases h1 : decide (97 ≤ R)
   ·have h1' : ¬ 97 ≤ R := by simpa using h1
    (repeat (first | simp only [↓QA, QB, Nat.reduceLT, reduceIte, Nat.reduceEqDiff, Nat.reduceAdd, Nat.reduceLeDiff, Nat.reduceMul, Nat.reduceBEq, QXRm2, h1] | refine rd0 rfl ?_))
    cases h3 : ((k : Int) == 0)
    ·have h3' : 0 < k := by simp at h3; omega
     (repeat (first | simp only [↓QA, QB, Nat.reduceLT, reduceIte, Nat.reduceEqDiff, Nat.reduceAdd, Nat.reduceLeDiff, Nat.reduceMul, Nat.reduceBEq, QXRm2, h3] | refine rd0 rfl ?_))
     cases h4 : (R == 46)
     ·have h4' : R ≠ 46 := by simpa using h4
      (repeat (first | simp only [↓QA, QB, Nat.reduceLT, reduceIte, Nat.reduceEqDiff, Nat.reduceAdd, Nat.reduceLeDiff, Nat.reduceMul, Nat.reduceBEq, QXRm2, h4] | refine rd0 rfl ?_))
      cases h5 : decide (R < 48)
      ·have h5' : ¬ R < 48 := by simpa using h5
       (repeat (first | simp only [↓QA, QB, Nat.reduceLT, reduceIte, Nat.reduceEqDiff, Nat.reduceAdd, Nat.reduceLeDiff, Nat.reduceMul, Nat.reduceBEq, QXRm2, h5] | refine rd0 rfl ?_))
       cases h6 : decide (57 < R)
       ·have h6' : ¬ 57 < R := by simpa using h6
        (repeat (first | simp only [↓QA, QB, Nat.reduceLT, reduceIte, Nat.reduceEqDiff, Nat.reduceAdd, Nat.reduceLeDiff, Nat.reduceMul, Nat.reduceBEq, QXRm2, h6] | refine rd0 rfl ?_))
        exact go _ (key (by omega)) (by try simp only [TrimX, QE, Nat.reduceLT, reduceIte, Nat.reduceEqDiff, Nat.reduceAdd, Nat.reduceLeDiff, Nat.reduceMul, Nat.reduceBEq, QXRm2]) (by try simp only [TrimX, QE, Nat.reduceLT, reduceIte, Nat.reduceEqDiff, Nat.reduceAdd, Nat.reduceLeDiff, Nat.reduceMul, Nat.reduceBEq, QXRm2])
       ·have h6' : 57 < R := by simpa using h6
        rw [key2 (by omega)]
        (repeat (first | simp only [↓QA, QB, Nat.reduceLT, reduceIte, Nat.reduceEqDiff, Nat.reduceAdd, Nat.reduceLeDiff, Nat.reduceMul, Nat.reduceBEq, QXRm2, h6] | refine rd0 rfl ?_))
      ·have h5' : R < 48 := by simpa using h5
       rw [key2 (by omega)]
       (repeat (first | simp only [↓QA, QB, Nat.reduceLT, reduceIte, Nat.reduceEqDiff, Nat.reduceAdd, Nat.reduceLeDiff, Nat.reduceMul, Nat.reduceBEq, QXRm2, h5] | refine rd0 rfl ?_))
     ·have h4' : R = 46 := by simpa using h4
      (repeat (first | simp only [↓QA, QB, Nat.reduceLT, reduceIte, Nat.reduceEqDiff, Nat.reduceAdd, Nat.reduceLeDiff, Nat.reduceMul, Nat.reduceBEq, QXRm2, h4] | refine rd0 rfl ?_))
      exact go _ (key (by omega)) (by try simp only [TrimX, QE, Nat.reduceLT, reduceIte, Nat.reduceEqDiff, Nat.reduceAdd, Nat.reduceLeDiff, Nat.reduceMul, Nat.reduceBEq, QXRm2]) (by try simp only [TrimX, QE, Nat.reduceLT, reduceIte, Nat.reduceEqDiff, Nat.reduceAdd, Nat.reduceLeDiff, Nat.reduceMul, Nat.reduceBEq, QXRm2])
    ·have h3' : k = 0 := by simp at h3; omega
     rw [key2 (by omega)]
     (repeat (first | simp only [↓QA, QB, Nat.reduceLT, reduceIte, Nat.reduceEqDiff, Nat.reduceAdd, Nat.reduceLeDiff, Nat.reduceMul, Nat.reduceBEq, QXRm2, h3] | refine rd0 rfl ?_))
   ·have h1' : 97 ≤ R := by simpa using h1
    (repeat (first | simp only [↓QA, QB, Nat.reduceLT, reduceIte, Nat.reduceEqDiff, Nat.reduceAdd, Nat.reduceLeDiff, Nat.reduceMul, Nat.reduceBEq, QXRm2, h1] | refine rd0 rfl ?_))
    cases h2 : decide (R ≤ 122)
    ·have h2' : ¬ R ≤ 122 := by simpa using h2
     (repeat (first | simp only [↓QA, QB, Nat.reduceLT, reduceIte, Nat.reduceEqDiff, Nat.reduceAdd, Nat.reduceLeDiff, Nat.reduceMul, Nat.reduceBEq, QXRm2, h2] | refine rd0 rfl ?_))
     cases h3 : ((k : Int) == 0)
     ·have h3' : 0 < k := by simp at h3; omega
      (repeat (first | simp only [↓QA, QB, Nat.reduceLT, reduceIte, Nat.reduceEqDiff, Nat.reduceAdd, Nat.reduceLeDiff, Nat.reduceMul, Nat.reduceBEq, QXRm2, h3] | refine rd0 rfl ?_))
      cases h4 : (R == 46)
      ·have h4' : R ≠ 46 := by simpa using h4
       (repeat (first | simp only [↓QA, QB, Nat.reduceLT, reduceIte, Nat.reduceEqDiff, Nat.reduceAdd, Nat.reduceLeDiff, Nat.reduceMul, Nat.reduceBEq, QXRm2, h4] | refine rd0 rfl ?_))
       cases h5 : decide (R < 48)
       ·have h5' : ¬ R < 48 := by simpa using h5
        (repeat (first | simp only [↓QA, QB, Nat.reduceLT, reduceIte, Nat.reduceEqDiff, Nat.reduceAdd, Nat.reduceLeDiff, Nat.reduceMul, Nat.reduceBEq, QXRm2, h5] | refine rd0 rfl ?_))
        cases h6 : decide (57 < R)
        ·have h6' : ¬ 57 < R := by simpa using h6
         (repeat (first | simp only [↓QA, QB, Nat.reduceLT, reduceIte, Nat.reduceEqDiff, Nat.reduceAdd, Nat.reduceLeDiff, Nat.reduceMul, Nat.reduceBEq, QXRm2, h6] | refine rd0 rfl ?_))
         exact go _ (key (by omega)) (by try simp only [TrimX, QE, Nat.reduceLT, reduceIte, Nat.reduceEqDiff, Nat.reduceAdd, Nat.reduceLeDiff, Nat.reduceMul, Nat.reduceBEq, QXRm2]) (by try simp only [TrimX, QE, Nat.reduceLT, reduceIte, Nat.reduceEqDiff, Nat.reduceAdd, Nat.reduceLeDiff, Nat.reduceMul, Nat.reduceBEq, QXRm2])
        ·have h6' : 57 < R := by simpa using h6
         rw [key2 (by omega)]
         (repeat (first | simp only [↓QA, QB, Nat.reduceLT, reduceIte, Nat.reduceEqDiff, Nat.reduceAdd, Nat.reduceLeDiff, Nat.reduceMul, Nat.reduceBEq, QXRm2, h6] | refine rd0 rfl ?_))
       ·have h5' : R < 48 := by simpa using h5
        rw [key2 (by omega)]
        (repeat (first | simp only [↓QA, QB, Nat.reduceLT, reduceIte, Nat.reduceEqDiff, Nat.reduceAdd, Nat.reduceLeDiff, Nat.reduceMul, Nat.reduceBEq, QXRm2, h5] | refine rd0 rfl ?_))
      ·have h4' : R = 46 := by simpa using h4
       (repeat (first | simp only [↓QA, QB, Nat.reduceLT, reduceIte, Nat.reduceEqDiff, Nat.reduceAdd, Nat.reduceLeDiff, Nat.reduceMul, Nat.reduceBEq, QXRm2, h4] | refine rd0 rfl ?_))
       exact go _ (key (by omega)) (by try simp only [TrimX, QE, Nat.reduceLT, reduceIte, Nat.reduceEqDiff, Nat.reduceAdd, Nat.reduceLeDiff, Nat.reduceMul, Nat.reduceBEq, QXRm2]) (by try simp only [TrimX, QE, Nat.reduceLT, reduceIte, Nat.reduceEqDiff, Nat.reduceAdd, Nat.reduceLeDiff, Nat.reduceMul, Nat.reduceBEq, QXRm2])
     ·have h3' : k = 0 := by simp at h3; omega
      rw [key2 (by omega)]
      (repeat (first | simp only [↓QA, QB, Nat.reduceLT, reduceIte, Nat.reduceEqDiff, Nat.reduceAdd, Nat.reduceLeDiff, Nat.reduceMul, Nat.reduceBEq, QXRm2, h3] | refine rd0 rfl ?_))
    ·have h2' : R ≤ 122 := by simpa using h2
     (repeat (first | simp only [↓QA, QB, Nat.reduceLT, reduceIte, Nat.reduceEqDiff, Nat.reduceAdd, Nat.reduceLeDiff, Nat.reduceMul, Nat.reduceBEq, QXRm2, h2] | refine rd0 rfl ?_))
     exact go _ (key (by omega)) (by try simp only [TrimX, QE, Nat.reduceLT, reduceIte, Nat.reduceEqDiff, Nat.reduceAdd, Nat.reduceLeDiff, Nat.reduceMul, Nat.reduceBEq, QXRm2]) (by try simp only [TrimX, QE, Nat.reduceLT, reduceIte, Nat.reduceEqDiff, Nat.reduceAdd, Nat.reduceLeDiff, Nat.reduceMul, Nat.reduceBEq, QXRm2])
  ·have hk2 : k = s.size := by omega
   (repeat (first | simp only [↓QA, QB, Nat.reduceLT, reduceIte, Nat.reduceEqDiff, Nat.reduceAdd, Nat.reduceLeDiff, Nat.reduceMul, Nat.reduceBEq, QXRm2, L64_0, V_snextF hk1] | refine rd0 rfl ?_))
   ((first | refine callK_v (off_ok 1 16 [(s.size : Int)] (by simp)) (by simp [clr, clrs, ints]) (by simp [okV, okVs]) ?_ | refine callD_v (off_ok 1 16 [(s.size : Int)] (by simp)) (by simp [clr, clrs, ints]) (by simp [okV, okVs]) ?_); (repeat (first | simp only [↓QA, QB, Nat.reduceLT, reduceIte, Nat.reduceEqDiff, Nat.reduceAdd, Nat.reduceLeDiff, Nat.reduceMul, Nat.reduceBEq, QXRm2] | refine rd0 rfl ?_)))
   rw [beyond1]
   (repeat (first | simp only [↓QA, QB, Nat.reduceLT, reduceIte, Nat.reduceEqDiff, Nat.reduceAdd, Nat.reduceLeDiff, Nat.reduceMul, Nat.reduceBEq, QXRm2] | refine rd0 rfl ?_))
   simp [nameOk, ← hk2, hok]
theorem rule1_ok (r : Rm) : Pure T 97 [encRoom r] (.bool (inR r.days 1 6 && (inR r.start.lo 0 69 && inR r.start.hi 0 69) && inR r.opens 0 6)) := by
 refine pure_fn (af := a97) rfl (by simp [a97]) dd ?_
 (repeat (first | simp only [↓QA, QB, Nat.reduceLT, reduceIte, Nat.reduceEqDiff, Nat.reduceAdd, Nat.reduceLeDiff, Nat.reduceMul, Nat.reduceBEq, QXRm2, a97] | refine rd0 rfl ?_))
 ((first | refine callK_v (beyond_ok 1 6 [r.days] (by simp)) (by simp [clr, clrs, ints]) (by simp [okV, okVs]) ?_ | refine callD_v (beyond_ok 1 6 [r.days] (by simp)) (by simp [clr, clrs, ints]) (by simp [okV, okVs]) ?_); (repeat (first | simp only [↓QA, QB, Nat.reduceLT, reduceIte, Nat.reduceEqDiff, Nat.reduceAdd, Nat.reduceLeDiff, Nat.reduceMul, Nat.reduceBEq, QXRm2, beyond1] | refine rd0 rfl ?_)))
 cases h1 : inR r.days 1 6
 ·(repeat (first | simp only [↓QA, QB, Nat.reduceLT, reduceIte, Nat.reduceEqDiff, Nat.reduceAdd, Nat.reduceLeDiff, Nat.reduceMul, Nat.reduceBEq, QXRm2] | refine rd0 rfl ?_))
  simp
 ·(repeat (first | simp only [↓QA, QB, Nat.reduceLT, reduceIte, Nat.reduceEqDiff, Nat.reduceAdd, Nat.reduceLeDiff, Nat.reduceMul, Nat.reduceBEq, QXRm2] | refine rd0 rfl ?_))
  ((first | refine callK_v (beyond_ok 0 69 [r.start.lo, r.start.hi] (by simp)) (by simp [clr, clrs, ints]) (by simp [okV, okVs]) ?_ | refine callD_v (beyond_ok 0 69 [r.start.lo, r.start.hi] (by simp)) (by simp [clr, clrs, ints]) (by simp [okV, okVs]) ?_); (repeat (first | simp only [↓QA, QB, Nat.reduceLT, reduceIte, Nat.reduceEqDiff, Nat.reduceAdd, Nat.reduceLeDiff, Nat.reduceMul, Nat.reduceBEq, QXRm2, beyond2] | refine rd0 rfl ?_)))
  cases h2 : (!inR r.start.lo 0 69 || !inR r.start.hi 0 69)
  ·have h2' : (inR r.start.lo 0 69 && inR r.start.hi 0 69) = true := by simpa using h2
   (repeat (first | simp only [↓QA, QB, Nat.reduceLT, reduceIte, Nat.reduceEqDiff, Nat.reduceAdd, Nat.reduceLeDiff, Nat.reduceMul, Nat.reduceBEq, QXRm2] | refine rd0 rfl ?_))
   ((first | refine callK_v (beyond_ok 0 6 [r.opens] (by simp)) (by simp [clr, clrs, ints]) (by simp [okV, okVs]) ?_ | refine callD_v (beyond_ok 0 6 [r.opens] (by simp)) (by simp [clr, clrs, ints]) (by simp [okV, okVs]) ?_); (repeat (first | simp only [↓QA, QB, Nat.reduceLT, reduceIte, Nat.reduceEqDiff, Nat.reduceAdd, Nat.reduceLeDiff, Nat.reduceMul, Nat.reduceBEq, QXRm2, beyond1, h2'] | refine rd0 rfl ?_)))
   simp
  ·have h2' : (inR r.start.lo 0 69 && inR r.start.hi 0 69) = false := by cases ha : inR r.start.lo 0 69 <;> simp_all
   (repeat (first | simp only [↓QA, QB, Nat.reduceLT, reduceIte, Nat.reduceEqDiff, Nat.reduceAdd, Nat.reduceLeDiff, Nat.reduceMul, Nat.reduceBEq, QXRm2, h2'] | refine rd0 rfl ?_))
   try simp
theorem rule2_ok (r : Rm) : Pure T 98 [encRoom r] (.bool (decide (r.start.lo ≤ r.start.hi))) := by
 refine pure_fn (af := a98) rfl (by simp [a98]) dd ?_
 (repeat (first | simp only [↓QA, QB, Nat.reduceLT, reduceIte, Nat.reduceEqDiff, Nat.reduceAdd, Nat.reduceLeDiff, Nat.reduceMul, Nat.reduceBEq, QXRm2, a98] | refine rd0 rfl ?_))
def theRules : List AV := [.agg [.int .i64 7, .func 97 [] []], .agg [.int .i64 2, .func 98 [] []]]
theorem rules_ok : Pure T 61 [] (.lit theRules false none) := by
 refine pure_fn (af := a61) rfl (by simp [a61]) datas_nil ?_
 (repeat (first | simp only [↓QA, QB, Nat.reduceLT, reduceIte, Nat.reduceEqDiff, Nat.reduceAdd, Nat.reduceLeDiff, Nat.reduceMul, Nat.reduceBEq, QXRm2, a61, theRules] | refine rd0 rfl ?_))
theorem index_set (σ : St) (f : AV) (l : List Setting) (p : Setting → Bool) (hl : l.length < 9223372036854775808) (hk : Keeps σ f) (h : ∀ x ∈ l, Same T f [encSetting x] σ (.bool (p x))) : Same T (.func 100 [] []) [.lit (l.map encSetting) false none, f] σ (.int .i64 (idxOf p l 0)) := by
 refine same_fn (af := a100) rfl (by simp [a100]) ?_
 have hk0 := hk.nil
 (repeat (first | simp only [↓QA, QB, Nat.reduceLT, reduceIte, Nat.reduceEqDiff, Nat.reduceAdd, Nat.reduceLeDiff, Nat.reduceMul, Nat.reduceBEq, QXRm2, a100] | refine rd0 rfl ?_))
 refine loopE (S := Nat) 0 (fun k => k ≤ l.length ∧ idxOf p (l.drop k) k = idxOf p l 0) (fun k => l.length - k) (fun k => [(0, .lit (l.map encSetting) false none), (1, f), (7, .int .i64 l.length), (8, .int .i64 k)]) (fun _ => σ) ⟨Nat.zero_le _, by simp⟩ rfl ?_ fun k hk1 => ?_
 ·try simp only [TrimX, QE, Nat.reduceLT, reduceIte, Nat.reduceEqDiff, Nat.reduceAdd, Nat.reduceLeDiff, Nat.reduceMul, Nat.reduceBEq, QXRm2]
  try simp
 ·obtain ⟨hkl, hi⟩ := hk1
  (repeat (first | simp only [↓QA, QB, Nat.reduceLT, reduceIte, Nat.reduceEqDiff, Nat.reduceAdd, Nat.reduceLeDiff, Nat.reduceMul, Nat.reduceBEq, QXRm2, L100_0] | refine rd0 rfl ?_))
  refine iteP_intro (fun hd => ?_) fun hd => ?_
  ·have hlt : k < l.length := by simpa using hd
   rw [List.drop_eq_getElem_cons hlt] at hi
   simp only [idxOf] at hi
   have hw := wrapN hlt hl
   (repeat (first | simp only [↓QA, QB, Nat.reduceLT, reduceIte, Nat.reduceEqDiff, Nat.reduceAdd, Nat.reduceLeDiff, Nat.reduceMul, Nat.reduceBEq, QXRm2, hlt] | refine rd0 rfl ?_))
   refine callK_same (h l[k] (List.getElem_mem hlt)) ?_
   (repeat (first | simp only [↓QA, QB, Nat.reduceLT, reduceIte, Nat.reduceEqDiff, Nat.reduceAdd, Nat.reduceLeDiff, Nat.reduceMul, Nat.reduceBEq, QXRm2] | refine rd0 rfl ?_))
   cases hp : p l[k]
   ·(repeat (first | simp only [↓QA, QB, Nat.reduceLT, reduceIte, Nat.reduceEqDiff, Nat.reduceAdd, Nat.reduceLeDiff, Nat.reduceMul, Nat.reduceBEq, QXRm2, hw] | refine rd0 rfl ?_))
    refine ⟨k + 1, ⟨by omega, by rw [← hi, hp]; rfl⟩, by omega, ?_⟩
    try simp only [TrimX, QE, Nat.reduceLT, reduceIte, Nat.reduceEqDiff, Nat.reduceAdd, Nat.reduceLeDiff, Nat.reduceMul, Nat.reduceBEq, QXRm2, hw, hk0, Nat.le_refl, S_mapSet]
   ·(repeat (first | simp only [↓QA, QB, Nat.reduceLT, reduceIte, Nat.reduceEqDiff, Nat.reduceAdd, Nat.reduceLeDiff, Nat.reduceMul, Nat.reduceBEq, QXRm2] | refine rd0 rfl ?_))
    refine baseR [] (by first | rfl | simp) ?_
    rw [← hi, hp]
    try simp only [QS, QC, Nat.reduceLT, reduceIte, Nat.reduceEqDiff, Nat.reduceAdd, Nat.reduceLeDiff, Nat.reduceMul, Nat.reduceBEq, QXRm2]
  ·have hlt : k = l.length := by simp at hd; omega
   (repeat (first | simp only [↓QA, QB, Nat.reduceLT, reduceIte, Nat.reduceEqDiff, Nat.reduceAdd, Nat.reduceLeDiff, Nat.reduceMul, Nat.reduceBEq, QXRm2] | refine rd0 rfl ?_))
   refine baseR [] (by first | rfl | simp) ?_
   rw [← hi, hlt, List.drop_length]
   try simp only [QS, QC, Nat.reduceLT, reduceIte, Nat.reduceEqDiff, Nat.reduceAdd, Nat.reduceLeDiff, Nat.reduceMul, Nat.reduceBEq, QXRm2, idxOf]
theorem contains_set (σ : St) (f : AV) (l : List Setting) (p : Setting → Bool) (hl : l.length < 9223372036854775808) (hk : Keeps σ f) (h : ∀ x ∈ l, Same T f [encSetting x] σ (.bool (p x))) : Same T (.func 65 [] []) [.lit (l.map encSetting) false none, f] σ (.bool (l.any p)) := by
 refine same_fn (af := a65) rfl (by simp [a65]) ?_
 (repeat (first | simp only [↓QA, QB, Nat.reduceLT, reduceIte, Nat.reduceEqDiff, Nat.reduceAdd, Nat.reduceLeDiff, Nat.reduceMul, Nat.reduceBEq, QXRm2, a65] | refine rd0 rfl ?_))
 refine callK_same (index_set σ f l p hl hk h) ?_
 (repeat (first | simp only [↓QA, QB, Nat.reduceLT, reduceIte, Nat.reduceEqDiff, Nat.reduceAdd, Nat.reduceLeDiff, Nat.reduceMul, Nat.reduceBEq, QXRm2] | refine rd0 rfl ?_))
 refine baseR [] (by first | rfl | simp) ?_
 rw [← idxOf_any p l 0]
 try simp only [QS, QC, Nat.reduceLT, reduceIte, Nat.reduceEqDiff, Nat.reduceAdd, Nat.reduceLeDiff, Nat.reduceMul, Nat.reduceBEq, QXRm2]
def failing {α : Type} (least most : Int) (of : Nat → α → Int) (l : List α) : Int × Int := if inR l.length least most = false then (0, 3) else match firstBad of l 0 with | some (i, e) => (i, e) | none => (0, 0)
def enc2 (x : Int × Int) : AV := .tuple [.int .i64 x.1, .int .i64 x.2]
theorem failing_set (σ : St) (f : AV) (l : List Setting) (least most : Int) (of : Nat → Setting → Int) (hl : l.length < 9223372036854775808) (hk : Keeps σ f)
  (h : ∀ i (hi : i < l.length), Same T f [.int .i64 i, encSetting l[i]] (σ ++ [.cells (encSetting l[i]).cells]) (.int .i64 (of i l[i]))) : Same T (.func 62 [] []) [.lit (l.map encSetting) false none, .int .i64 least, .int .i64 most, f] σ (enc2 (failing least most of l)) := by
 refine same_fn (af := a62) rfl (by simp [a62]) ?_
 have hk0 := hk.nil
 have hk2 : ∀ τ, snapM (σ ++ τ) σ.length 20 f = some f := hk
 (repeat (first | simp only [↓QA, QB, Nat.reduceLT, reduceIte, Nat.reduceEqDiff, Nat.reduceAdd, Nat.reduceLeDiff, Nat.reduceMul, Nat.reduceBEq, QXRm2, a62] | refine rd0 rfl ?_))
 ((first | refine callK_v (beyond_ok least most [(l.length : Int)] (by simp)) (by simp [clr, clrs, ints]) (by simp [okV, okVs]) ?_ | refine callD_v (beyond_ok least most [(l.length : Int)] (by simp)) (by simp [clr, clrs, ints]) (by simp [okV, okVs]) ?_); (repeat (first | simp only [↓QA, QB, Nat.reduceLT, reduceIte, Nat.reduceEqDiff, Nat.reduceAdd, Nat.reduceLeDiff, Nat.reduceMul, Nat.reduceBEq, QXRm2, beyond1] | refine rd0 rfl ?_)))
 cases h1 : inR l.length least most
 ·(repeat (first | simp only [↓QA, QB, Nat.reduceLT, reduceIte, Nat.reduceEqDiff, Nat.reduceAdd, Nat.reduceLeDiff, Nat.reduceMul, Nat.reduceBEq, QXRm2] | refine rd0 rfl ?_))
  refine baseR [] (by first | rfl | simp) ?_
  try simp only [QS, QC, Nat.reduceLT, reduceIte, Nat.reduceEqDiff, Nat.reduceAdd, Nat.reduceLeDiff, Nat.reduceMul, Nat.reduceBEq, QXRm2, enc2, failing, h1]
 ·(repeat (first | simp only [↓QA, QB, Nat.reduceLT, reduceIte, Nat.reduceEqDiff, Nat.reduceAdd, Nat.reduceLeDiff, Nat.reduceMul, Nat.reduceBEq, QXRm2] | refine rd0 rfl ?_))
  refine loopE (S := Nat) 0 (fun k => k ≤ l.length ∧ firstBad of (l.drop k) k = firstBad of l 0) (fun k => l.length - k) (fun k => [(3, f), (19, .lit (l.map encSetting) false none), (20, .int .i64 l.length), (21, .int .i64 k)]) (fun _ => σ) ⟨Nat.zero_le _, by simp⟩ rfl ?_ fun k hk1 => ?_
  ·try simp only [TrimX, QE, Nat.reduceLT, reduceIte, Nat.reduceEqDiff, Nat.reduceAdd, Nat.reduceLeDiff, Nat.reduceMul, Nat.reduceBEq, QXRm2]
   try simp
  ·obtain ⟨hkl, hi⟩ := hk1
   (repeat (first | simp only [↓QA, QB, Nat.reduceLT, reduceIte, Nat.reduceEqDiff, Nat.reduceAdd, Nat.reduceLeDiff, Nat.reduceMul, Nat.reduceBEq, QXRm2, L62_0] | refine rd0 rfl ?_))
   refine iteP_intro (fun hd => ?_) fun hd => ?_
   ·have hlt : k < l.length := by simpa using hd
    have hs := h k hlt
    rw [firstBad_step hlt] at hi
    have hw := wrapN hlt hl
    try simp only [↓QA, QB, Nat.reduceLT, reduceIte, Nat.reduceEqDiff, Nat.reduceAdd, Nat.reduceLeDiff, Nat.reduceMul, Nat.reduceBEq, QXRm2, hlt] at hs
    (repeat (first | simp only [↓QA, QB, Nat.reduceLT, reduceIte, Nat.reduceEqDiff, Nat.reduceAdd, Nat.reduceLeDiff, Nat.reduceMul, Nat.reduceBEq, QXRm2, hlt] | refine rd0 rfl ?_))
    refine callK_same hs ?_
    (repeat (first | simp only [↓QA, QB, Nat.reduceLT, reduceIte, Nat.reduceEqDiff, Nat.reduceAdd, Nat.reduceLeDiff, Nat.reduceMul, Nat.reduceBEq, QXRm2] | refine rd0 rfl ?_))
    cases hp : (of k l[k] == 0)
    ·have hp' : of k l[k] ≠ 0 := by simpa using hp
     rw [if_neg hp'] at hi
     (repeat (first | simp only [↓QA, QB, Nat.reduceLT, reduceIte, Nat.reduceEqDiff, Nat.reduceAdd, Nat.reduceLeDiff, Nat.reduceMul, Nat.reduceBEq, QXRm2, hp] | refine rd0 rfl ?_))
     refine baseR _ rfl ?_
     try simp only [QS, QC, Nat.reduceLT, reduceIte, Nat.reduceEqDiff, Nat.reduceAdd, Nat.reduceLeDiff, Nat.reduceMul, Nat.reduceBEq, QXRm2, enc2, failing, h1, ← hi, reduceCtorEq]
    ·have hp' : of k l[k] = 0 := by simpa using hp
     rw [if_pos hp'] at hi
     (repeat (first | simp only [↓QA, QB, Nat.reduceLT, reduceIte, Nat.reduceEqDiff, Nat.reduceAdd, Nat.reduceLeDiff, Nat.reduceMul, Nat.reduceBEq, QXRm2, hp, hw] | refine rd0 rfl ?_))
     refine ⟨k + 1, ⟨by omega, hi⟩, by omega, ?_⟩
     try simp only [TrimX, QE, Nat.reduceLT, reduceIte, Nat.reduceEqDiff, Nat.reduceAdd, Nat.reduceLeDiff, Nat.reduceMul, Nat.reduceBEq, QXRm2, hw, hk0, hk2, Nat.le_refl, S_mapSet]
   ·have hlt : k = l.length := by simp at hd; omega
    rw [firstBad_end hlt] at hi
    (repeat (first | simp only [↓QA, QB, Nat.reduceLT, reduceIte, Nat.reduceEqDiff, Nat.reduceAdd, Nat.reduceLeDiff, Nat.reduceMul, Nat.reduceBEq, QXRm2] | refine rd0 rfl ?_))
    refine baseR [] (by first | rfl | simp) ?_
    try simp only [QS, QC, Nat.reduceLT, reduceIte, Nat.reduceEqDiff, Nat.reduceAdd, Nat.reduceLeDiff, Nat.reduceMul, Nat.reduceBEq, QXRm2, enc2, failing, h1, ← hi, reduceCtorEq]
theorem failing_look (σ : St) (f : AV) (l : List Look) (least most : Int) (of : Nat → Look → Int) (hl : l.length < 9223372036854775808) (hk : Keeps σ f)
  (h : ∀ i (hi : i < l.length), Same T f [.int .i64 i, encLook l[i]] (σ ++ [.cells (encLook l[i]).cells]) (.int .i64 (of i l[i]))) : Same T (.func 70 [] []) [.lit (l.map encLook) false none, .int .i64 least, .int .i64 most, f] σ (enc2 (failing least most of l)) := by
 refine same_fn (af := a70) rfl (by simp [a70]) ?_
 have hk0 := hk.nil
 have hk2 : ∀ τ, snapM (σ ++ τ) σ.length 20 f = some f := hk
 (repeat (first | simp only [↓QA, QB, Nat.reduceLT, reduceIte, Nat.reduceEqDiff, Nat.reduceAdd, Nat.reduceLeDiff, Nat.reduceMul, Nat.reduceBEq, QXRm2, a70] | refine rd0 rfl ?_))
 ((first | refine callK_v (beyond_ok least most [(l.length : Int)] (by simp)) (by simp [clr, clrs, ints]) (by simp [okV, okVs]) ?_ | refine callD_v (beyond_ok least most [(l.length : Int)] (by simp)) (by simp [clr, clrs, ints]) (by simp [okV, okVs]) ?_); (repeat (first | simp only [↓QA, QB, Nat.reduceLT, reduceIte, Nat.reduceEqDiff, Nat.reduceAdd, Nat.reduceLeDiff, Nat.reduceMul, Nat.reduceBEq, QXRm2, beyond1] | refine rd0 rfl ?_)))
 cases h1 : inR l.length least most
 ·(repeat (first | simp only [↓QA, QB, Nat.reduceLT, reduceIte, Nat.reduceEqDiff, Nat.reduceAdd, Nat.reduceLeDiff, Nat.reduceMul, Nat.reduceBEq, QXRm2] | refine rd0 rfl ?_))
  refine baseR [] (by first | rfl | simp) ?_
  try simp only [QS, QC, Nat.reduceLT, reduceIte, Nat.reduceEqDiff, Nat.reduceAdd, Nat.reduceLeDiff, Nat.reduceMul, Nat.reduceBEq, QXRm2, enc2, failing, h1]
 ·(repeat (first | simp only [↓QA, QB, Nat.reduceLT, reduceIte, Nat.reduceEqDiff, Nat.reduceAdd, Nat.reduceLeDiff, Nat.reduceMul, Nat.reduceBEq, QXRm2] | refine rd0 rfl ?_))
  refine loopE (S := Nat) 0 (fun k => k ≤ l.length ∧ firstBad of (l.drop k) k = firstBad of l 0) (fun k => l.length - k) (fun k => [(3, f), (19, .lit (l.map encLook) false none), (20, .int .i64 l.length), (21, .int .i64 k)]) (fun _ => σ) ⟨Nat.zero_le _, by simp⟩ rfl ?_ fun k hk1 => ?_
  ·try simp only [TrimX, QE, Nat.reduceLT, reduceIte, Nat.reduceEqDiff, Nat.reduceAdd, Nat.reduceLeDiff, Nat.reduceMul, Nat.reduceBEq, QXRm2]
   try simp
  ·obtain ⟨hkl, hi⟩ := hk1
   (repeat (first | simp only [↓QA, QB, Nat.reduceLT, reduceIte, Nat.reduceEqDiff, Nat.reduceAdd, Nat.reduceLeDiff, Nat.reduceMul, Nat.reduceBEq, QXRm2, L70_0] | refine rd0 rfl ?_))
   refine iteP_intro (fun hd => ?_) fun hd => ?_
   ·have hlt : k < l.length := by simpa using hd
    have hs := h k hlt
    rw [firstBad_step hlt] at hi
    have hw := wrapN hlt hl
    try simp only [↓QA, QB, Nat.reduceLT, reduceIte, Nat.reduceEqDiff, Nat.reduceAdd, Nat.reduceLeDiff, Nat.reduceMul, Nat.reduceBEq, QXRm2, hlt] at hs
    (repeat (first | simp only [↓QA, QB, Nat.reduceLT, reduceIte, Nat.reduceEqDiff, Nat.reduceAdd, Nat.reduceLeDiff, Nat.reduceMul, Nat.reduceBEq, QXRm2, hlt] | refine rd0 rfl ?_))
    refine callK_same hs ?_
    (repeat (first | simp only [↓QA, QB, Nat.reduceLT, reduceIte, Nat.reduceEqDiff, Nat.reduceAdd, Nat.reduceLeDiff, Nat.reduceMul, Nat.reduceBEq, QXRm2] | refine rd0 rfl ?_))
    cases hp : (of k l[k] == 0)
    ·have hp' : of k l[k] ≠ 0 := by simpa using hp
     rw [if_neg hp'] at hi
     (repeat (first | simp only [↓QA, QB, Nat.reduceLT, reduceIte, Nat.reduceEqDiff, Nat.reduceAdd, Nat.reduceLeDiff, Nat.reduceMul, Nat.reduceBEq, QXRm2, hp] | refine rd0 rfl ?_))
     refine baseR _ rfl ?_
     try simp only [QS, QC, Nat.reduceLT, reduceIte, Nat.reduceEqDiff, Nat.reduceAdd, Nat.reduceLeDiff, Nat.reduceMul, Nat.reduceBEq, QXRm2, enc2, failing, h1, ← hi, reduceCtorEq]
    ·have hp' : of k l[k] = 0 := by simpa using hp
     rw [if_pos hp'] at hi
     (repeat (first | simp only [↓QA, QB, Nat.reduceLT, reduceIte, Nat.reduceEqDiff, Nat.reduceAdd, Nat.reduceLeDiff, Nat.reduceMul, Nat.reduceBEq, QXRm2, hp, hw] | refine rd0 rfl ?_))
     refine ⟨k + 1, ⟨by omega, hi⟩, by omega, ?_⟩
     try simp only [TrimX, QE, Nat.reduceLT, reduceIte, Nat.reduceEqDiff, Nat.reduceAdd, Nat.reduceLeDiff, Nat.reduceMul, Nat.reduceBEq, QXRm2, hw, hk0, hk2, Nat.le_refl, S_mapLook]
   ·have hlt : k = l.length := by simp at hd; omega
    rw [firstBad_end hlt] at hi
    (repeat (first | simp only [↓QA, QB, Nat.reduceLT, reduceIte, Nat.reduceEqDiff, Nat.reduceAdd, Nat.reduceLeDiff, Nat.reduceMul, Nat.reduceBEq, QXRm2] | refine rd0 rfl ?_))
    refine baseR [] (by first | rfl | simp) ?_
    try simp only [QS, QC, Nat.reduceLT, reduceIte, Nat.reduceEqDiff, Nat.reduceAdd, Nat.reduceLeDiff, Nat.reduceMul, Nat.reduceBEq, QXRm2, enc2, failing, h1, ← hi, reduceCtorEq]
theorem failing_int (σ : St) (f : AV) (l : List Int) (least most : Int) (of : Nat → Int → Int) (hl : l.length < 9223372036854775808) (hk : Keeps σ f)
  (h : ∀ i (hi : i < l.length), Same T f [.int .i64 i, .int .i64 l[i]] σ (.int .i64 (of i l[i]))) : Same T (.func 68 [] []) [ints l, .int .i64 least, .int .i64 most, f] σ (enc2 (failing least most of l)) := by
 refine same_fn (af := a68) rfl (by simp [a68]) ?_
 have hk0 := hk.nil
 have hk2 : ∀ τ, snapM (σ ++ τ) σ.length 20 f = some f := hk
 (repeat (first | simp only [↓QA, QB, Nat.reduceLT, reduceIte, Nat.reduceEqDiff, Nat.reduceAdd, Nat.reduceLeDiff, Nat.reduceMul, Nat.reduceBEq, QXRm2, a68] | refine rd0 rfl ?_))
 ((first | refine callK_v (beyond_ok least most [(l.length : Int)] (by simp)) (by simp [clr, clrs, ints]) (by simp [okV, okVs]) ?_ | refine callD_v (beyond_ok least most [(l.length : Int)] (by simp)) (by simp [clr, clrs, ints]) (by simp [okV, okVs]) ?_); (repeat (first | simp only [↓QA, QB, Nat.reduceLT, reduceIte, Nat.reduceEqDiff, Nat.reduceAdd, Nat.reduceLeDiff, Nat.reduceMul, Nat.reduceBEq, QXRm2, beyond1] | refine rd0 rfl ?_)))
 cases h1 : inR l.length least most
 ·(repeat (first | simp only [↓QA, QB, Nat.reduceLT, reduceIte, Nat.reduceEqDiff, Nat.reduceAdd, Nat.reduceLeDiff, Nat.reduceMul, Nat.reduceBEq, QXRm2] | refine rd0 rfl ?_))
  refine baseR [] (by first | rfl | simp) ?_
  try simp only [QS, QC, Nat.reduceLT, reduceIte, Nat.reduceEqDiff, Nat.reduceAdd, Nat.reduceLeDiff, Nat.reduceMul, Nat.reduceBEq, QXRm2, enc2, failing, h1]
 ·(repeat (first | simp only [↓QA, QB, Nat.reduceLT, reduceIte, Nat.reduceEqDiff, Nat.reduceAdd, Nat.reduceLeDiff, Nat.reduceMul, Nat.reduceBEq, QXRm2] | refine rd0 rfl ?_))
  refine loopE (S := Nat) 0 (fun k => k ≤ l.length ∧ firstBad of (l.drop k) k = firstBad of l 0) (fun k => l.length - k) (fun k => [(3, f), (19, ints l), (20, .int .i64 l.length), (21, .int .i64 k)]) (fun _ => σ) ⟨Nat.zero_le _, by simp⟩ rfl ?_ fun k hk1 => ?_
  ·try simp only [TrimX, QE, Nat.reduceLT, reduceIte, Nat.reduceEqDiff, Nat.reduceAdd, Nat.reduceLeDiff, Nat.reduceMul, Nat.reduceBEq, QXRm2]
   try simp
  ·obtain ⟨hkl, hi⟩ := hk1
   (repeat (first | simp only [↓QA, QB, Nat.reduceLT, reduceIte, Nat.reduceEqDiff, Nat.reduceAdd, Nat.reduceLeDiff, Nat.reduceMul, Nat.reduceBEq, QXRm2, L68_0] | refine rd0 rfl ?_))
   refine iteP_intro (fun hd => ?_) fun hd => ?_
   ·have hlt : k < l.length := by simpa using hd
    have hs := h k hlt
    rw [firstBad_step hlt] at hi
    have hw := wrapN hlt hl
    try simp only [↓QA, QB, Nat.reduceLT, reduceIte, Nat.reduceEqDiff, Nat.reduceAdd, Nat.reduceLeDiff, Nat.reduceMul, Nat.reduceBEq, QXRm2, hlt] at hs
    (repeat (first | simp only [↓QA, QB, Nat.reduceLT, reduceIte, Nat.reduceEqDiff, Nat.reduceAdd, Nat.reduceLeDiff, Nat.reduceMul, Nat.reduceBEq, QXRm2, hlt] | refine rd0 rfl ?_))
    refine callK_same hs ?_
    (repeat (first | simp only [↓QA, QB, Nat.reduceLT, reduceIte, Nat.reduceEqDiff, Nat.reduceAdd, Nat.reduceLeDiff, Nat.reduceMul, Nat.reduceBEq, QXRm2] | refine rd0 rfl ?_))
    cases hp : (of k l[k] == 0)
    ·have hp' : of k l[k] ≠ 0 := by simpa using hp
     rw [if_neg hp'] at hi
     (repeat (first | simp only [↓QA, QB, Nat.reduceLT, reduceIte, Nat.reduceEqDiff, Nat.reduceAdd, Nat.reduceLeDiff, Nat.reduceMul, Nat.reduceBEq, QXRm2, hp] | refine rd0 rfl ?_))
     refine baseR [] (by first | rfl | simp) ?_
     try simp only [QS, QC, Nat.reduceLT, reduceIte, Nat.reduceEqDiff, Nat.reduceAdd, Nat.reduceLeDiff, Nat.reduceMul, Nat.reduceBEq, QXRm2, enc2, failing, h1, ← hi, reduceCtorEq]
    ·have hp' : of k l[k] = 0 := by simpa using hp
     rw [if_pos hp'] at hi
     (repeat (first | simp only [↓QA, QB, Nat.reduceLT, reduceIte, Nat.reduceEqDiff, Nat.reduceAdd, Nat.reduceLeDiff, Nat.reduceMul, Nat.reduceBEq, QXRm2, hp, hw] | refine rd0 rfl ?_))
     refine ⟨k + 1, ⟨by omega, hi⟩, by omega, ?_⟩
     try simp only [TrimX, QE, Nat.reduceLT, reduceIte, Nat.reduceEqDiff, Nat.reduceAdd, Nat.reduceLeDiff, Nat.reduceMul, Nat.reduceBEq, QXRm2, hw, hk0, hk2, Nat.le_refl, S_mapI]
   ·have hlt : k = l.length := by simp at hd; omega
    rw [firstBad_end hlt] at hi
    (repeat (first | simp only [↓QA, QB, Nat.reduceLT, reduceIte, Nat.reduceEqDiff, Nat.reduceAdd, Nat.reduceLeDiff, Nat.reduceMul, Nat.reduceBEq, QXRm2] | refine rd0 rfl ?_))
    refine baseR [] (by first | rfl | simp) ?_
    try simp only [QS, QC, Nat.reduceLT, reduceIte, Nat.reduceEqDiff, Nat.reduceAdd, Nat.reduceLeDiff, Nat.reduceMul, Nat.reduceBEq, QXRm2, enc2, failing, h1, ← hi, reduceCtorEq]
theorem any_name (s : ByteArray) : ∀ l : List Setting, l.any (fun x => decide (x.name = s)) = decide (ahead s (l.map Setting.name) ≠ (l.map Setting.name).length)
 | [] => by simp [ahead]
 | x :: xs => by
  simp only [List.any_cons, any_name s xs, List.map_cons, ahead, List.length_cons]
  by_cases h : x.name = s
  ·simp [h]
  ·simp [h]
theorem chk11_ok (s x : Setting) (b : ABlk) (τ : St) : Same T (.func 66 [] [.ptr (τ.length + 1) 0]) [encSetting x] (b :: (τ ++ [.cells (encSetting s).cells])) (.bool (decide (x.name = s.name))) := by
 refine same_fn (af := a66) rfl (by simp [a66]) ?_
 (repeat (first | simp only [↓QA, QB, Nat.reduceLT, reduceIte, Nat.reduceEqDiff, Nat.reduceAdd, Nat.reduceLeDiff, Nat.reduceMul, Nat.reduceBEq, QXRm2, a66, str_beq, List.length_append] | refine rd0 rfl ?_))
 refine baseR [.cells [.str x.name, .int .i64 x.gain.lo, .int .i64 x.gain.hi]] (by first | rfl | simp) ?_
 try simp only [QS, QC, Nat.reduceLT, reduceIte, Nat.reduceEqDiff, Nat.reduceAdd, Nat.reduceLeDiff, Nat.reduceMul, Nat.reduceBEq, QXRm2]
set_option maxRecDepth 2000 in
theorem chk1_ok (r : Rm) (h : Fits r) (i : Nat) (hi : i < r.settings.length) (τ : St) : Same T (.func 63 [] [.ptr 0 0]) [.int .i64 i, encSetting r.settings[i]] (.cells (roomCells r) :: τ) (.int .i64 (setErr r i r.settings[i])) := by
 refine same_fn (af := a63) rfl (by simp [a63]) ?_
 have hsz := h.names _ (List.getElem_mem hi)
 have hts : (r.settings.take i).length < 9223372036854775808 := by have := h.settings; simp; omega
 obtain ⟨s, hs⟩ : ∃ s, r.settings[i] = s := ⟨_, rfl⟩
 rw [hs] at hsz ⊢
 have fin : ∀ (v : Int) (e : Env) (b : List AV), v = setErr r i s → BaseR (some (.int .i64 v)) (.cells (roomCells r) :: τ) (.cells (roomCells r) :: (τ ++ [.cells b])) (.int .i64 (setErr r i s)) := fun v e b hv => by
  refine baseR [.cells b] (by first | rfl | simp) ?_
  rw [hv]
  try simp only [QS, QC, Nat.reduceLT, reduceIte, Nat.reduceEqDiff, Nat.reduceAdd, Nat.reduceLeDiff, Nat.reduceMul, Nat.reduceBEq, QXRm2]
 simp only [roomCells_eq] at fin
 (repeat (first | simp only [↓QA, QB, Nat.reduceLT, reduceIte, Nat.reduceEqDiff, Nat.reduceAdd, Nat.reduceLeDiff, Nat.reduceMul, Nat.reduceBEq, QXRm2, a63] | refine rd0 rfl ?_))
 ((first | refine callK_d (handname_ok s.name hsz) rfl dd ?_ | refine callD_d (handname_ok s.name hsz) rfl dd ?_); (repeat (first | simp only [↓QA, QB, Nat.reduceLT, reduceIte, Nat.reduceEqDiff, Nat.reduceAdd, Nat.reduceLeDiff, Nat.reduceMul, Nat.reduceBEq, QXRm2] | refine rd0 rfl ?_)))
 cases h1 : nameOk s.name
 ·(repeat (first | simp only [↓QA, QB, Nat.reduceLT, reduceIte, Nat.reduceEqDiff, Nat.reduceAdd, Nat.reduceLeDiff, Nat.reduceMul, Nat.reduceBEq, QXRm2] | refine rd0 rfl ?_))
  exact fin _ [] _ (by simp [setErr, fresh, h1])
 ·have hc := contains_set (.cells (roomCells r) :: (τ ++ [.cells (encSetting s).cells])) (.func 66 [] [.ptr (τ.length + 1) 0]) (r.settings.take i) (fun x => decide (x.name = s.name)) hts (fun υ => by try simp only [QS, QC, Nat.reduceLT, reduceIte, Nat.reduceEqDiff, Nat.reduceAdd, Nat.reduceLeDiff, Nat.reduceMul, Nat.reduceBEq, QXRm2, List.length_append]; simp) fun x _ => chk11_ok s x _ τ
  try simp only [↓QA, QB, Nat.reduceLT, reduceIte, Nat.reduceEqDiff, Nat.reduceAdd, Nat.reduceLeDiff, Nat.reduceMul, Nat.reduceBEq, QXRm2] at hc
  (repeat (first | simp only [↓QA, QB, Nat.reduceLT, reduceIte, Nat.reduceEqDiff, Nat.reduceAdd, Nat.reduceLeDiff, Nat.reduceMul, Nat.reduceBEq, QXRm2, V_take (enc := encSetting) (l := r.settings) (Nat.le_of_lt hi)] | refine rd0 rfl ?_))
  refine callK_same hc ?_
  rw [any_name]
  cases h2 : decide (ahead s.name ((r.settings.take i).map Setting.name) ≠ ((r.settings.take i).map Setting.name).length)
  ·have h2' : ahead s.name ((r.settings.take i).map Setting.name) = ((r.settings.take i).map Setting.name).length := by simpa using h2
   have hf : fresh s.name ((r.settings.take i).map Setting.name) = 0 := by simp only [fresh, h1, h2']; simp
   have hse : setErr r i s = ends s.gain 0 15 := by simp only [setErr, hf, if_true]
   (repeat (first | simp only [↓QA, QB, Nat.reduceLT, reduceIte, Nat.reduceEqDiff, Nat.reduceAdd, Nat.reduceLeDiff, Nat.reduceMul, Nat.reduceBEq, QXRm2] | refine rd0 rfl ?_))
   ((first | refine callK_v (beyond_ok 0 15 [s.gain.lo, s.gain.hi] (by simp)) (by simp [clr, clrs, ints]) (by simp [okV, okVs]) ?_ | refine callD_v (beyond_ok 0 15 [s.gain.lo, s.gain.hi] (by simp)) (by simp [clr, clrs, ints]) (by simp [okV, okVs]) ?_); (repeat (first | simp only [↓QA, QB, Nat.reduceLT, reduceIte, Nat.reduceEqDiff, Nat.reduceAdd, Nat.reduceLeDiff, Nat.reduceMul, Nat.reduceBEq, QXRm2, beyond2] | refine rd0 rfl ?_)))
   cases h3 : (!inR s.gain.lo 0 15 || !inR s.gain.hi 0 15)
   ·(repeat (first | simp only [↓QA, QB, Nat.reduceLT, reduceIte, Nat.reduceEqDiff, Nat.reduceAdd, Nat.reduceLeDiff, Nat.reduceMul, Nat.reduceBEq, QXRm2] | refine rd0 rfl ?_))
    refine iteP_intro (fun h4 => ?_) fun h4 => ?_
    ·have h4' : s.gain.hi < s.gain.lo := by simpa using h4
     (repeat (first | simp only [↓QA, QB, Nat.reduceLT, reduceIte, Nat.reduceEqDiff, Nat.reduceAdd, Nat.reduceLeDiff, Nat.reduceMul, Nat.reduceBEq, QXRm2] | refine rd0 rfl ?_))
     exact fin _ [] _ (by rw [hse, ends, h3]; simp [h4'])
    ·have h4' : ¬ s.gain.hi < s.gain.lo := by simpa using h4
     (repeat (first | simp only [↓QA, QB, Nat.reduceLT, reduceIte, Nat.reduceEqDiff, Nat.reduceAdd, Nat.reduceLeDiff, Nat.reduceMul, Nat.reduceBEq, QXRm2] | refine rd0 rfl ?_))
     exact fin _ [] _ (by rw [hse, ends, h3]; simp [h4'])
   ·(repeat (first | simp only [↓QA, QB, Nat.reduceLT, reduceIte, Nat.reduceEqDiff, Nat.reduceAdd, Nat.reduceLeDiff, Nat.reduceMul, Nat.reduceBEq, QXRm2] | refine rd0 rfl ?_))
    exact fin _ [] _ (by rw [hse, ends, h3]; simp)
  ·have h2' : ahead s.name ((r.settings.take i).map Setting.name) ≠ ((r.settings.take i).map Setting.name).length := by simpa using h2
   have hf : fresh s.name ((r.settings.take i).map Setting.name) = 5 := by simp only [fresh, h1, h2', if_false]; simp
   (repeat (first | simp only [↓QA, QB, Nat.reduceLT, reduceIte, Nat.reduceEqDiff, Nat.reduceAdd, Nat.reduceLeDiff, Nat.reduceMul, Nat.reduceBEq, QXRm2] | refine rd0 rfl ?_))
   exact fin _ [] _ (by simp only [setErr, hf]; simp)
theorem chk2_ok (r : Rm) (h : Fits r) (i : Int) (n : Int) : Same T (.func 69 [] [.ptr 0 0]) [.int .i64 i, .int .i64 n] [.cells (roomCells r)] (.int .i64 (ranErr r 0 n)) := by
 refine same_fn (af := a69) rfl (by simp [a69]) ?_
 have hsz := h.settings
 (repeat (first | simp only [↓QA, QB, Nat.reduceLT, reduceIte, Nat.reduceEqDiff, Nat.reduceAdd, Nat.reduceLeDiff, Nat.reduceMul, Nat.reduceBEq, QXRm2, a69, wrap64 (show -9223372036854775808 ≤ (r.settings.length : Int) - 1 ∧ (r.settings.length : Int) - 1 ≤ 9223372036854775807 by omega)] | refine rd0 rfl ?_))
 ((first | refine callK_v (beyond_ok 0 ((r.settings.length : Int) - 1) [n] (by simp)) (by simp [clr, clrs, ints]) (by simp [okV, okVs]) ?_ | refine callD_v (beyond_ok 0 ((r.settings.length : Int) - 1) [n] (by simp)) (by simp [clr, clrs, ints]) (by simp [okV, okVs]) ?_); (repeat (first | simp only [↓QA, QB, Nat.reduceLT, reduceIte, Nat.reduceEqDiff, Nat.reduceAdd, Nat.reduceLeDiff, Nat.reduceMul, Nat.reduceBEq, QXRm2, beyond1] | refine rd0 rfl ?_)))
 cases h1 : inR n 0 ((r.settings.length : Int) - 1)
 all_goals
  (repeat (first | simp only [↓QA, QB, Nat.reduceLT, reduceIte, Nat.reduceEqDiff, Nat.reduceAdd, Nat.reduceLeDiff, Nat.reduceMul, Nat.reduceBEq, QXRm2] | refine rd0 rfl ?_))
  refine baseR [] (by first | rfl | simp) ?_
  try simp only [QS, QC, Nat.reduceLT, reduceIte, Nat.reduceEqDiff, Nat.reduceAdd, Nat.reduceLeDiff, Nat.reduceMul, Nat.reduceBEq, QXRm2, ranErr, isSetting, h1, reduceCtorEq]
theorem chk3_ok (r : Rm) (i : Int) (x : Look) : Same T (.func 71 [] [.ptr 0 0]) [.int .i64 i, encLook x] [.cells (roomCells r), .cells (encLook x).cells] (.int .i64 (lookErr r 0 x)) := by
 refine same_fn (af := a71) rfl (by simp [a71]) ?_
 (repeat (first | simp only [↓QA, QB, Nat.reduceLT, reduceIte, Nat.reduceEqDiff, Nat.reduceAdd, Nat.reduceLeDiff, Nat.reduceMul, Nat.reduceBEq, QXRm2, a71] | refine rd0 rfl ?_))
 ((first | refine callK_v (beyond_ok 0 (r.ran.length : Int) [x.day] (by simp)) (by simp [clr, clrs, ints]) (by simp [okV, okVs]) ?_ | refine callD_v (beyond_ok 0 (r.ran.length : Int) [x.day] (by simp)) (by simp [clr, clrs, ints]) (by simp [okV, okVs]) ?_); (repeat (first | simp only [↓QA, QB, Nat.reduceLT, reduceIte, Nat.reduceEqDiff, Nat.reduceAdd, Nat.reduceLeDiff, Nat.reduceMul, Nat.reduceBEq, QXRm2, beyond1] | refine rd0 rfl ?_)))
 cases h1 : inR x.day 0 r.ran.length
 ·(repeat (first | simp only [↓QA, QB, Nat.reduceLT, reduceIte, Nat.reduceEqDiff, Nat.reduceAdd, Nat.reduceLeDiff, Nat.reduceMul, Nat.reduceBEq, QXRm2] | refine rd0 rfl ?_))
  refine baseR _ rfl ?_
  try simp only [QS, QC, Nat.reduceLT, reduceIte, Nat.reduceEqDiff, Nat.reduceAdd, Nat.reduceLeDiff, Nat.reduceMul, Nat.reduceBEq, QXRm2, lookErr, isColour, h1, reduceCtorEq, Bool.false_and, Bool.false_eq_true]
 ·(repeat (first | simp only [↓QA, QB, Nat.reduceLT, reduceIte, Nat.reduceEqDiff, Nat.reduceAdd, Nat.reduceLeDiff, Nat.reduceMul, Nat.reduceBEq, QXRm2] | refine rd0 rfl ?_))
  ((first | refine callK_v (beyond_ok 1 7 [x.colour] (by simp)) (by simp [clr, clrs, ints]) (by simp [okV, okVs]) ?_ | refine callD_v (beyond_ok 1 7 [x.colour] (by simp)) (by simp [clr, clrs, ints]) (by simp [okV, okVs]) ?_); (repeat (first | simp only [↓QA, QB, Nat.reduceLT, reduceIte, Nat.reduceEqDiff, Nat.reduceAdd, Nat.reduceLeDiff, Nat.reduceMul, Nat.reduceBEq, QXRm2, beyond1] | refine rd0 rfl ?_)))
  cases h2 : inR x.colour 1 7
  all_goals
   (repeat (first | simp only [↓QA, QB, Nat.reduceLT, reduceIte, Nat.reduceEqDiff, Nat.reduceAdd, Nat.reduceLeDiff, Nat.reduceMul, Nat.reduceBEq, QXRm2] | refine rd0 rfl ?_))
   refine baseR _ rfl ?_
   try simp only [QS, QC, Nat.reduceLT, reduceIte, Nat.reduceEqDiff, Nat.reduceAdd, Nat.reduceLeDiff, Nat.reduceMul, Nat.reduceBEq, QXRm2, lookErr, isColour, h1, h2, reduceCtorEq, Bool.false_and, Bool.false_eq_true]
def QXRm3 := And.intro @encRoom_eq (And.intro @roomCells_eq (And.intro @encSetting_eq (And.intro @encLook_eq (@encSpan_eq))))
theorem firstBad_ran (r : Rm) : ∀ (l : List Int) (i : Nat), firstBad (fun i n => ranErr r 0 n) l i = firstBad (ranErr r) l i
 | [], _ => rfl
 | x :: xs, i => by simp only [firstBad, firstBad_ran r xs (i + 1)]; rfl
theorem firstBad_look (r : Rm) : ∀ (l : List Look) (i : Nat), firstBad (fun i n => lookErr r 0 n) l i = firstBad (lookErr r) l i
 | [], _ => rfl
 | x :: xs, i => by simp only [firstBad, firstBad_look r xs (i + 1)]; rfl
theorem firstBad_ne {α : Type} {f : Nat → α → Int} : ∀ {l : List α} {i j : Nat} {e : Int}, firstBad f l i = some (j, e) → e ≠ 0
 | [], _, _, _, h => by cases h
 | x :: xs, i, j, e, h => by
  simp only [firstBad] at h
  split at h
  ·exact firstBad_ne h
  ·rename_i hn
   simp at h
   rw [← h.2]
   exact hn
theorem rule_idx0 : vIdx 2 theRules ((0 : Nat) : Int) none = some (.lptr theRules 0 0 none) := by simp [vIdx, theRules, AV.cells]
theorem rule_idx1 : vIdx 2 theRules ((1 : Nat) : Int) none = some (.lptr theRules 1 0 none) := by simp [vIdx, theRules, AV.cells]
theorem rule_get0 : theRules[0]? = some (.agg [.int .i64 7, .func 97 [] []]) := rfl
theorem rule_get1 : theRules[1]? = some (.agg [.int .i64 2, .func 98 [] []]) := rfl
theorem rule_len : theRules.length = 2 := rfl
theorem rule_data : Data (.lit theRules false none) := ⟨by simp [okV, okVs, theRules], by simp [clr, clrs, theRules]⟩
theorem rule_snap (σ : St) (m d : Nat) : snapMs σ m d theRules = some theRules := by
 have := S_data rule_data σ m d
 rw [S_lit0] at this
 cases h : snapMs σ m d theRules with
 | none => rw [h] at this; cases this
 | some x => rw [h] at this; simpa using this
theorem check_ok (r : Rm) (h : Fits r) : Pure T 15 [encRoom r] (enc3 (check r)) := by
 refine pure_fn (af := a15) rfl (by simp [a15]) dd ?_
 have hfs := h.settings
 have hfr := h.ran
 have hfl := h.looks
 (repeat (first | simp only [↓QA, QB, Nat.reduceLT, reduceIte, Nat.reduceEqDiff, Nat.reduceAdd, Nat.reduceLeDiff, Nat.reduceMul, Nat.reduceBEq, QXRm3, a15] | refine rd0 rfl ?_))
 refine callK_d rules_ok rfl datas_nil ?_
 (repeat (first | simp only [↓QA, QB, Nat.reduceLT, reduceIte, Nat.reduceEqDiff, Nat.reduceAdd, Nat.reduceLeDiff, Nat.reduceMul, Nat.reduceBEq, QXRm3, rule_len] | refine rd0 rfl ?_))
 refine loopE (S := Nat) 0 (fun j => j ≤ 2 ∧ (1 ≤ j → (inR r.days 1 6 && (inR r.start.lo 0 69 && inR r.start.hi 0 69) && inR r.opens 0 6) = true) ∧ (2 ≤ j → r.start.lo ≤ r.start.hi)) (fun j => 2 - j)
  (fun j => [(1, .ptr 0 0), (7, .lit theRules false none), (8, .int .i64 2), (9, .int .i64 j)]) (fun _ => [.cells (roomCells r)]) ⟨by omega, by omega, by omega⟩ (by simp [roomCells, ints]) ?_ fun j hj => ?_
 ·try simp only [TrimX, QE, Nat.reduceLT, reduceIte, Nat.reduceEqDiff, Nat.reduceAdd, Nat.reduceLeDiff, Nat.reduceMul, Nat.reduceBEq, QXRm3]
  try simp
 ·obtain ⟨hj2, hj0, hj1⟩ := hj
  have hcases : j = 0 ∨ j = 1 ∨ j = 2 := by omega
  rcases hcases with rfl | rfl | rfl
  ·(repeat (first | simp only [↓QA, QB, Nat.reduceLT, reduceIte, Nat.reduceEqDiff, Nat.reduceAdd, Nat.reduceLeDiff, Nat.reduceMul, Nat.reduceBEq, QXRm3, L15_0, rule_idx0, rule_get0, show decide (((0 : Nat) : Int) < 2) = true from rfl] | refine rd0 rfl ?_))
   ((first | refine callK_d (rule1_ok r) rfl dd ?_ | refine callD_d (rule1_ok r) rfl dd ?_); (repeat (first | simp only [↓QA, QB, Nat.reduceLT, reduceIte, Nat.reduceEqDiff, Nat.reduceAdd, Nat.reduceLeDiff, Nat.reduceMul, Nat.reduceBEq, QXRm3] | refine rd0 rfl ?_)))
   cases h1 : (inR r.days 1 6 && (inR r.start.lo 0 69 && inR r.start.hi 0 69) && inR r.opens 0 6)
   ·have hc : check r = (1, 0, 7) := by
     simp only [check]
     rw [if_pos]
     simp only [ends]
     cases g1 : inR r.days 1 6 <;> cases g2 : inR r.start.lo 0 69 <;> cases g3 : inR r.start.hi 0 69 <;> cases g4 : inR r.opens 0 6 <;> simp_all
    rw [hc]
    (repeat (first | simp only [↓QA, QB, Nat.reduceLT, reduceIte, Nat.reduceEqDiff, Nat.reduceAdd, Nat.reduceLeDiff, Nat.reduceMul, Nat.reduceBEq, QXRm3, enc3] | refine rd0 rfl ?_))
   ·(repeat (first | simp only [↓QA, QB, Nat.reduceLT, reduceIte, Nat.reduceEqDiff, Nat.reduceAdd, Nat.reduceLeDiff, Nat.reduceMul, Nat.reduceBEq, QXRm3] | refine rd0 rfl ?_))
    refine ⟨1, (by first | exact ⟨by omega, fun _ => h1, by omega⟩ | exact ⟨by omega, by omega⟩), by omega, ?_⟩
    try simp only [TrimX, QE, Nat.reduceLT, reduceIte, Nat.reduceEqDiff, Nat.reduceAdd, Nat.reduceLeDiff, Nat.reduceMul, Nat.reduceBEq, QXRm3, rule_snap]
    simp [wrap64]
  ·have h1 := hj0 (by omega)
   (repeat (first | simp only [↓QA, QB, Nat.reduceLT, reduceIte, Nat.reduceEqDiff, Nat.reduceAdd, Nat.reduceLeDiff, Nat.reduceMul, Nat.reduceBEq, QXRm3, L15_0, rule_idx1, rule_get1, show decide (((1 : Nat) : Int) < 2) = true from rfl] | refine rd0 rfl ?_))
   ((first | refine callK_d (rule2_ok r) rfl dd ?_ | refine callD_d (rule2_ok r) rfl dd ?_); (repeat (first | simp only [↓QA, QB, Nat.reduceLT, reduceIte, Nat.reduceEqDiff, Nat.reduceAdd, Nat.reduceLeDiff, Nat.reduceMul, Nat.reduceBEq, QXRm3] | refine rd0 rfl ?_)))
   have hends : inR r.days 1 6 = true ∧ inR r.opens 0 6 = true ∧ inR r.start.lo 0 69 = true ∧ inR r.start.hi 0 69 = true := by
    cases g1 : inR r.days 1 6 <;> cases g2 : inR r.start.lo 0 69 <;> cases g3 : inR r.start.hi 0 69 <;> cases g4 : inR r.opens 0 6 <;> simp_all
   cases h2 : decide (r.start.lo ≤ r.start.hi)
   ·have h2' : r.start.hi < r.start.lo := by simpa using h2
    have hc : check r = (1, 0, 2) := by simp [check, ends, hends.1, hends.2.1, hends.2.2.1, hends.2.2.2, h2']
    rw [hc]
    (repeat (first | simp only [↓QA, QB, Nat.reduceLT, reduceIte, Nat.reduceEqDiff, Nat.reduceAdd, Nat.reduceLeDiff, Nat.reduceMul, Nat.reduceBEq, QXRm3, enc3] | refine rd0 rfl ?_))
   ·have h2' : r.start.lo ≤ r.start.hi := by simpa using h2
    (repeat (first | simp only [↓QA, QB, Nat.reduceLT, reduceIte, Nat.reduceEqDiff, Nat.reduceAdd, Nat.reduceLeDiff, Nat.reduceMul, Nat.reduceBEq, QXRm3] | refine rd0 rfl ?_))
    refine ⟨2, (by first | exact ⟨by omega, fun _ => h1, fun _ => h2'⟩ | exact ⟨by omega, fun _ => h1⟩ | simp), by omega, ?_⟩
    try simp only [TrimX, QE, Nat.reduceLT, reduceIte, Nat.reduceEqDiff, Nat.reduceAdd, Nat.reduceLeDiff, Nat.reduceMul, Nat.reduceBEq, QXRm3, rule_snap]
    simp [wrap64]
  ·have h1 := hj0 (by omega)
   have h2 := hj1 (by omega)
   have hends : inR r.days 1 6 = true ∧ inR r.opens 0 6 = true ∧ inR r.start.lo 0 69 = true ∧ inR r.start.hi 0 69 = true := by
    cases g1 : inR r.days 1 6 <;> cases g2 : inR r.start.lo 0 69 <;> cases g3 : inR r.start.hi 0 69 <;> cases g4 : inR r.opens 0 6 <;> simp_all
   have hc : check r = check2 r := by
    have : ¬ r.start.hi < r.start.lo := by omega
    simp [check, ends, hends.1, hends.2.1, hends.2.2.1, hends.2.2.2, this]
   rw [hc]
   (repeat (first | simp only [↓QA, QB, Nat.reduceLT, reduceIte, Nat.reduceEqDiff, Nat.reduceAdd, Nat.reduceLeDiff, Nat.reduceMul, Nat.reduceBEq, QXRm3, L15_0, show decide (((2 : Nat) : Int) < 2) = false from rfl] | refine rd0 rfl ?_))
   have f1 := failing_set [.cells (roomCells r)] (.func 63 [] [.ptr 0 0]) r.settings 1 4 (setErr r) hfs (fun τ => by try simp only [QS, QC, Nat.reduceLT, reduceIte, Nat.reduceEqDiff, Nat.reduceAdd, Nat.reduceLeDiff, Nat.reduceMul, Nat.reduceBEq, QXRm3, List.length_append]) fun i hi => by
    have := chk1_ok r h i hi [.cells (encSetting r.settings[i]).cells]
    simpa using this
   try simp only [↓QA, QB, Nat.reduceLT, reduceIte, Nat.reduceEqDiff, Nat.reduceAdd, Nat.reduceLeDiff, Nat.reduceMul, Nat.reduceBEq, QXRm3] at f1
   refine callK_same f1 ?_
   (repeat (first | simp only [↓QA, QB, Nat.reduceLT, reduceIte, Nat.reduceEqDiff, Nat.reduceAdd, Nat.reduceLeDiff, Nat.reduceMul, Nat.reduceBEq, QXRm3, enc2] | refine rd0 rfl ?_))
   have f2 := failing_int [.cells (roomCells r)] (.func 69 [] [.ptr 0 0]) r.ran 0 r.days (fun i n => ranErr r 0 n) hfr (fun τ => by try simp only [QS, QC, Nat.reduceLT, reduceIte, Nat.reduceEqDiff, Nat.reduceAdd, Nat.reduceLeDiff, Nat.reduceMul, Nat.reduceBEq, QXRm3, List.length_append]) fun i hi => chk2_ok r h i r.ran[i]
   have f3 := failing_look [.cells (roomCells r)] (.func 71 [] [.ptr 0 0]) r.looks 0 4 (fun i n => lookErr r 0 n) hfl (fun τ => by try simp only [QS, QC, Nat.reduceLT, reduceIte, Nat.reduceEqDiff, Nat.reduceAdd, Nat.reduceLeDiff, Nat.reduceMul, Nat.reduceBEq, QXRm3, List.length_append]) fun i hi => by
    have := chk3_ok r i r.looks[i]
    simpa using this
   try simp only [↓QA, QB, Nat.reduceLT, reduceIte, Nat.reduceEqDiff, Nat.reduceAdd, Nat.reduceLeDiff, Nat.reduceMul, Nat.reduceBEq, QXRm3] at f2 f3
   cases h3 : inR r.settings.length 1 4
   ·have e1 : failing 1 4 (setErr r) r.settings = (0, 3) := by simp only [failing, h3, if_true]
    have e2 : check2 r = (2, 0, 3) := by simp only [check2, h3, if_true]
    rw [e1, e2]
    (repeat (first | simp only [↓QA, QB, Nat.reduceLT, reduceIte, Nat.reduceEqDiff, Nat.reduceAdd, Nat.reduceLeDiff, Nat.reduceMul, Nat.reduceBEq, QXRm3, show ((3 : Int) == 0) = false from rfl, enc3] | refine rd0 rfl ?_))
   ·cases h4 : firstBad (setErr r) r.settings 0 with
    | some p =>
     obtain ⟨i, e⟩ := p
     have hne : (e == 0) = false := by simpa using firstBad_ne h4
     have e1 : failing 1 4 (setErr r) r.settings = ((i : Int), e) := by simp only [failing, h3, h4]; rfl
     have e2 : check2 r = (2, (i : Int), e) := by simp only [check2, h3, h4]; rfl
     rw [e1, e2]
     (repeat (first | simp only [↓QA, QB, Nat.reduceLT, reduceIte, Nat.reduceEqDiff, Nat.reduceAdd, Nat.reduceLeDiff, Nat.reduceMul, Nat.reduceBEq, QXRm3, hne, enc3] | refine rd0 rfl ?_))
    | none =>
     have e1 : failing 1 4 (setErr r) r.settings = (0, 0) := by simp only [failing, h3, h4]; rfl
     have e2 : check2 r = check3 r := by simp only [check2, h3, h4]; rfl
     rw [e1, e2]
     (repeat (first | simp only [↓QA, QB, Nat.reduceLT, reduceIte, Nat.reduceEqDiff, Nat.reduceAdd, Nat.reduceLeDiff, Nat.reduceMul, Nat.reduceBEq, QXRm3, show ((0 : Int) == 0) = true from rfl] | refine rd0 rfl ?_))
     refine callK_same f2 ?_
     (repeat (first | simp only [↓QA, QB, Nat.reduceLT, reduceIte, Nat.reduceEqDiff, Nat.reduceAdd, Nat.reduceLeDiff, Nat.reduceMul, Nat.reduceBEq, QXRm3, enc2] | refine rd0 rfl ?_))
     by_cases h5 : r.days < r.ran.length
     ·have hi : inR r.ran.length 0 r.days = false := by simp [inR]; omega
      have e1 : failing 0 r.days (fun i n => ranErr r 0 n) r.ran = (0, 3) := by simp only [failing, hi, if_true]
      have e2 : check3 r = (3, 0, 3) := by simp only [check3, h5, if_true]
      rw [e1, e2]
      (repeat (first | simp only [↓QA, QB, Nat.reduceLT, reduceIte, Nat.reduceEqDiff, Nat.reduceAdd, Nat.reduceLeDiff, Nat.reduceMul, Nat.reduceBEq, QXRm3, show ((3 : Int) == 0) = false from rfl, enc3] | refine rd0 rfl ?_))
     ·have hi : inR r.ran.length 0 r.days = true := by simp [inR]; omega
      cases h6 : firstBad (ranErr r) r.ran 0 with
      | some p =>
       obtain ⟨i, e⟩ := p
       have hne : (e == 0) = false := by simpa using firstBad_ne h6
       have e1 : failing 0 r.days (fun i n => ranErr r 0 n) r.ran = ((i : Int), e) := by simp only [failing, hi, firstBad_ran, h6]; rfl
       have e2 : check3 r = (3, (i : Int), e) := by simp only [check3, h5, if_false, h6]
       rw [e1, e2]
       (repeat (first | simp only [↓QA, QB, Nat.reduceLT, reduceIte, Nat.reduceEqDiff, Nat.reduceAdd, Nat.reduceLeDiff, Nat.reduceMul, Nat.reduceBEq, QXRm3, hne, enc3] | refine rd0 rfl ?_))
      | none =>
       have e1 : failing 0 r.days (fun i n => ranErr r 0 n) r.ran = (0, 0) := by simp only [failing, hi, firstBad_ran, h6]; rfl
       have e2 : check3 r = check4 r := by simp only [check3, h5, if_false, h6]
       rw [e1, e2]
       (repeat (first | simp only [↓QA, QB, Nat.reduceLT, reduceIte, Nat.reduceEqDiff, Nat.reduceAdd, Nat.reduceLeDiff, Nat.reduceMul, Nat.reduceBEq, QXRm3, show ((0 : Int) == 0) = true from rfl] | refine rd0 rfl ?_))
       refine callK_same f3 ?_
       (repeat (first | simp only [↓QA, QB, Nat.reduceLT, reduceIte, Nat.reduceEqDiff, Nat.reduceAdd, Nat.reduceLeDiff, Nat.reduceMul, Nat.reduceBEq, QXRm3, enc2] | refine rd0 rfl ?_))
       by_cases h7 : 4 < r.looks.length
       ·have hi : inR r.looks.length 0 4 = false := by simp [inR]; omega
        have e1 : failing 0 4 (fun i n => lookErr r 0 n) r.looks = (0, 3) := by simp only [failing, hi, if_true]
        have e2 : check4 r = (4, 0, 3) := by simp only [check4, h7, if_true]
        rw [e1, e2]
        (repeat (first | simp only [↓QA, QB, Nat.reduceLT, reduceIte, Nat.reduceEqDiff, Nat.reduceAdd, Nat.reduceLeDiff, Nat.reduceMul, Nat.reduceBEq, QXRm3, show ((3 : Int) == 0) = false from rfl, enc3] | refine rd0 rfl ?_))
       ·have hi : inR r.looks.length 0 4 = true := by simp [inR]; omega
        cases h8 : firstBad (lookErr r) r.looks 0 with
        | some p =>
         obtain ⟨i, e⟩ := p
         have hne : (e == 0) = false := by simpa using firstBad_ne h8
         have e1 : failing 0 4 (fun i n => lookErr r 0 n) r.looks = ((i : Int), e) := by simp only [failing, hi, firstBad_look, h8]; rfl
         have e2 : check4 r = (4, (i : Int), e) := by simp only [check4, h7, if_false, h8]
         rw [e1, e2]
         (repeat (first | simp only [↓QA, QB, Nat.reduceLT, reduceIte, Nat.reduceEqDiff, Nat.reduceAdd, Nat.reduceLeDiff, Nat.reduceMul, Nat.reduceBEq, QXRm3, hne, enc3] | refine rd0 rfl ?_))
        | none =>
         have e1 : failing 0 4 (fun i n => lookErr r 0 n) r.looks = (0, 0) := by simp only [failing, hi, firstBad_look, h8]; rfl
         have e2 : check4 r = (0, 0, 0) := by simp only [check4, h7, if_false, h8]
         rw [e1, e2]
         (repeat (first | simp only [↓QA, QB, Nat.reduceLT, reduceIte, Nat.reduceEqDiff, Nat.reduceAdd, Nat.reduceLeDiff, Nat.reduceMul, Nat.reduceBEq, QXRm3, show ((0 : Int) == 0) = true from rfl, enc3] | refine rd0 rfl ?_))
end Go.Am.Room
set_option maxRecDepth 4000
namespace Go.Am.Room
def QXRm19 := And.intro @setE_eq (And.intro @bits_len (And.intro @bits_cell (And.intro @bits_take (And.intro @bits_drop (And.intro @bits_zero (And.intro @Nat.mul_one (And.intro @Int.toNat_natCast (And.intro @encRoom_eq (And.intro @roomCells_eq (And.intro @encSetting_eq (And.intro @encLook_eq (And.intro @encSpan_eq (And.intro @S_bits (And.intro @Nat.add_lt_add_iff_left (And.intro @Nat.lt_add_right_iff_pos (@T_sapp))))))))))))))))
def Does (T : FuncId → Option AFunc) (f : AV) (args : List AV) (σ : St) (v : AV) (σ' : St) : Prop := Run T (.callv f args σ) fun o => o.v = v ∧ o.σ = σ'
theorem callK_do {f : AV} {args : List AV} {v : AV} {σ σ' : St} {K : AV → St → Prop} (h : Does T f args σ v σ') (k : K v σ') : cK (K := ⟨K⟩) T f args σ := .mono h fun o ho => by rw [ho.1, ho.2]; exact k
theorem callD_do {f : AV} {args : List AV} {v : AV} {σ σ' : St} {K : AV → St → Prop} (h : Does T f args σ v σ') (k : K v σ') : cD (K := ⟨K⟩) T f args σ := ⟨v, σ', h, k⟩
def withinE : List Int → Int
 | n :: lo :: hi :: rest => if inR n lo hi = true then withinE rest else 7
 | _ => 0
theorem within_step {ns : List Int} {i : Nat} (h : i + 2 < ns.length) : withinE (ns.drop i) = if inR ns[i] ns[i + 1] ns[i + 2] = true then withinE (ns.drop (i + 3)) else 7 := by
 rw [List.drop_eq_getElem_cons (show i < ns.length by omega), List.drop_eq_getElem_cons (show i + 1 < ns.length by omega), List.drop_eq_getElem_cons h]
 rfl
theorem within_end {ns : List Int} {i : Nat} (h : ¬ i + 2 < ns.length) : withinE (ns.drop i) = 0 := by
 have hl : (ns.drop i).length ≤ 2 := by simp; omega
 match hd : ns.drop i with
 | [] => rfl
 | [_] => rfl
 | [_, _] => rfl
 | _ :: _ :: _ :: _ => rw [hd] at hl; simp at hl
theorem within1_ok (σ : St) (p : Nat) (ns : List Int) (f : Bool) (tk : Option Nat) (hl : ns.length ≤ 100) (hp : cellsAt σ p = some [.lit (ns.map (.int .i64)) f tk]) (hpl : p < σ.length) : Same T (.func 105 [] [.ptr p 0]) [] σ (.int .i64 (withinE ns)) := by
 refine same_fn (af := a105) rfl (by simp [a105]) ?_
 (repeat (first | simp only [↓QA, QB, Nat.reduceLT, reduceIte, Nat.reduceEqDiff, Nat.reduceAdd, Nat.reduceLeDiff, Nat.reduceMul, Nat.reduceBEq, QXRm19, a105] | refine rd0 rfl ?_))
 refine loopE (S := Nat) 0 (fun i => i ≤ ns.length + 2 ∧ withinE (ns.drop i) = withinE ns) (fun i => ns.length + 2 - i) (fun i => [(0, .ptr p 0), (2, .int .i64 i)]) (fun _ => σ) ⟨by omega, by simp⟩ rfl ?_ fun i hi => ?_
 ·try simp only [TrimX, QE, Nat.reduceLT, reduceIte, Nat.reduceEqDiff, Nat.reduceAdd, Nat.reduceLeDiff, Nat.reduceMul, Nat.reduceBEq, QXRm19]
  try simp
 ·obtain ⟨hi, hq⟩ := hi
  have w2 : IntKind.i64.wrap ((i : Int) + 2) = ((i + 2 : Nat) : Int) := by rw [wrap64 ⟨by omega, by omega⟩]; omega
  have w1 : IntKind.i64.wrap ((i : Int) + 1) = ((i + 1 : Nat) : Int) := by rw [wrap64 ⟨by omega, by omega⟩]; omega
  have w3 : IntKind.i64.wrap ((i : Int) + 3) = ((i + 3 : Nat) : Int) := by rw [wrap64 ⟨by omega, by omega⟩]; omega
  (repeat (first | simp only [↓QA, QB, Nat.reduceLT, reduceIte, Nat.reduceEqDiff, Nat.reduceAdd, Nat.reduceLeDiff, Nat.reduceMul, Nat.reduceBEq, QXRm19, L105_0, hp, w2] | refine rd0 rfl ?_))
  refine iteP_intro (fun h => ?_) fun h => ?_
  ·have h3 : i + 2 < ns.length := by simp at h; omega
   have h1 : i < ns.length := by omega
   have h2 : i + 1 < ns.length := by omega
   rw [within_step h3] at hq
   (repeat (first | simp only [↓QA, QB, Nat.reduceLT, reduceIte, Nat.reduceEqDiff, Nat.reduceAdd, Nat.reduceLeDiff, Nat.reduceMul, Nat.reduceBEq, QXRm19, hp, w1, w2, w3, h1, h2, h3] | refine rd0 rfl ?_))
   ((first | refine callK_v (beyond_ok ns[i + 1] ns[i + 2] [ns[i]] (by simp)) (by simp [clr, clrs, ints]) (by simp [okV, okVs]) ?_ | refine callD_v (beyond_ok ns[i + 1] ns[i + 2] [ns[i]] (by simp)) (by simp [clr, clrs, ints]) (by simp [okV, okVs]) ?_); (repeat (first | simp only [↓QA, QB, Nat.reduceLT, reduceIte, Nat.reduceEqDiff, Nat.reduceAdd, Nat.reduceLeDiff, Nat.reduceMul, Nat.reduceBEq, QXRm19, beyond1, hp, w1, w2, w3, h1, h2, h3] | refine rd0 rfl ?_)))
   cases hin : inR ns[i] ns[i + 1] ns[i + 2]
   ·(repeat (first | simp only [↓QA, QB, Nat.reduceLT, reduceIte, Nat.reduceEqDiff, Nat.reduceAdd, Nat.reduceLeDiff, Nat.reduceMul, Nat.reduceBEq, QXRm19, hp, w1, w2, w3, h1, h2, h3] | refine rd0 rfl ?_))
    refine baseR [] (by first | rfl | simp) ?_
    rw [← hq, hin]
    try simp only [QS, QC, Nat.reduceLT, reduceIte, Nat.reduceEqDiff, Nat.reduceAdd, Nat.reduceLeDiff, Nat.reduceMul, Nat.reduceBEq, QXRm19]
    rfl
   ·(repeat (first | simp only [↓QA, QB, Nat.reduceLT, reduceIte, Nat.reduceEqDiff, Nat.reduceAdd, Nat.reduceLeDiff, Nat.reduceMul, Nat.reduceBEq, QXRm19, hp, w1, w2, w3, h1, h2, h3] | refine rd0 rfl ?_))
    refine ⟨i + 3, ⟨by omega, ?_⟩, by omega, ?_⟩
    ·rw [← hq, hin]; rfl
    ·try simp only [TrimX, QE, Nat.reduceLT, reduceIte, Nat.reduceEqDiff, Nat.reduceAdd, Nat.reduceLeDiff, Nat.reduceMul, Nat.reduceBEq, QXRm19, w3, hpl, Nat.le_refl]
  ·have h3 : ¬ i + 2 < ns.length := by simp at h; omega
   rw [within_end h3] at hq
   (repeat (first | simp only [↓QA, QB, Nat.reduceLT, reduceIte, Nat.reduceEqDiff, Nat.reduceAdd, Nat.reduceLeDiff, Nat.reduceMul, Nat.reduceBEq, QXRm19] | refine rd0 rfl ?_))
   refine baseR [] (by first | rfl | simp) ?_
   rw [← hq]
   try simp only [QS, QC, Nat.reduceLT, reduceIte, Nat.reduceEqDiff, Nat.reduceAdd, Nat.reduceLeDiff, Nat.reduceMul, Nat.reduceBEq, QXRm19]
theorem within_run (σ : St) (xs : List AV) (f : Bool) : Does T (.func 79 [] []) [.lit xs f none] σ (.func 105 [] [.ptr σ.length 0]) (σ ++ [.cells [.lit xs f none]]) := by
 refine .callf (.call (af := a79) rfl (by simp [a79]) (run_wp (K := fun j e σ1 => (j = none ∨ j = some .ret) ∧ Env.get e 2 = .func 105 [] [.ptr σ.length 0] ∧ σ1 = σ ++ [.cells [.lit xs f none]]) ?_ fun o ho => ho) fun o ho => ?_)
 ·(repeat (first | simp only [↓QA, QB, Nat.reduceLT, reduceIte, Nat.reduceEqDiff, Nat.reduceAdd, Nat.reduceLeDiff, Nat.reduceMul, Nat.reduceBEq, QXRm19, a79, List.length_append] | refine rd0 rfl ?_))
  try simp
 ·refine ⟨ho.1, _, ?_, .inl ⟨ho.2.1, ho.2.2⟩⟩
  rfl
theorem today_m (σ : St) (p : Nat) (r : Rm) (ps : Nat → Span) (m : Nat) (hp : cellsAt σ p = some (rb r ps m)) : Same T (.func 85 [] []) [.ptr p 0] σ (.int .i64 r.ran.length) := by
 refine same_fn (af := a85) rfl (by simp [a85]) ?_
 (repeat (first | simp only [↓QA, QB, Nat.reduceLT, reduceIte, Nat.reduceEqDiff, Nat.reduceAdd, Nat.reduceLeDiff, Nat.reduceMul, Nat.reduceBEq, QXRm19, a85, hp, rb_5] | refine rd0 rfl ?_))
 refine baseR [] (by first | rfl | simp) ?_
 try simp only [QS, QC, Nat.reduceLT, reduceIte, Nat.reduceEqDiff, Nat.reduceAdd, Nat.reduceLeDiff, Nat.reduceMul, Nat.reduceBEq, QXRm19]
theorem before_m (σ : St) (p : Nat) (r : Rm) (ps : Nat → Span) (m : Nat) (hf : Fits r) (hp : cellsAt σ p = some (rb r ps m)) : Same T (.func 89 [] []) [.ptr p 0] σ (.int .i64 (beforeOf r)) := by
 refine same_fn (af := a89) rfl (by simp [a89]) ?_
 have hfr := hf.ran
 (repeat (first | simp only [↓QA, QB, Nat.reduceLT, reduceIte, Nat.reduceEqDiff, Nat.reduceAdd, Nat.reduceLeDiff, Nat.reduceMul, Nat.reduceBEq, QXRm19, a89] | refine rd0 rfl ?_))
 refine callK_same (today_m σ p r ps m hp) ?_
 by_cases h0 : r.ran.length = 0
 ·have g : ((r.ran.length : Int) == 0) = true := by rw [beq_iff_eq]; omega
  (repeat (first | simp only [↓QA, QB, Nat.reduceLT, reduceIte, Nat.reduceEqDiff, Nat.reduceAdd, Nat.reduceLeDiff, Nat.reduceMul, Nat.reduceBEq, QXRm19, g] | refine rd0 rfl ?_))
  refine baseR [] (by first | rfl | simp) ?_
  simp only [beforeOf, h0, if_true]
  try simp only [QS, QC, Nat.reduceLT, reduceIte, Nat.reduceEqDiff, Nat.reduceAdd, Nat.reduceLeDiff, Nat.reduceMul, Nat.reduceBEq, QXRm19]
 ·have g : ((r.ran.length : Int) == 0) = false := by rw [beq_eq_false_iff_ne]; omega
  have hw : IntKind.i64.wrap ((r.ran.length : Int) - 1) = ((r.ran.length - 1 : Nat) : Int) := by rw [wrap64 ⟨by omega, by omega⟩]; omega
  have hlt : r.ran.length - 1 < r.ran.length := by omega
  (repeat (first | simp only [↓QA, QB, Nat.reduceLT, reduceIte, Nat.reduceEqDiff, Nat.reduceAdd, Nat.reduceLeDiff, Nat.reduceMul, Nat.reduceBEq, QXRm19, g, hp, rb_5] | refine rd0 rfl ?_))
  refine callD_same (today_m σ p r ps m hp) ?_
  (repeat (first | simp only [↓QA, QB, Nat.reduceLT, reduceIte, Nat.reduceEqDiff, Nat.reduceAdd, Nat.reduceLeDiff, Nat.reduceMul, Nat.reduceBEq, QXRm19, hw, hlt, hp, rb_5, ints] | refine rd0 rfl ?_))
  refine baseR [] (by first | rfl | simp) ?_
  simp only [beforeOf, h0, if_false, List.getElem?_eq_getElem hlt, Option.getD_some]
  try simp only [QS, QC, Nat.reduceLT, reduceIte, Nat.reduceEqDiff, Nat.reduceAdd, Nat.reduceLeDiff, Nat.reduceMul, Nat.reduceBEq, QXRm19]
end Go.Am.Room
set_option maxRecDepth 4000
namespace Go.Am.Room
def QXRm20 := And.intro @setE_eq (And.intro @bits_len (And.intro @bits_cell (And.intro @bits_take (And.intro @bits_drop (And.intro @bits_zero (And.intro @Nat.mul_one (And.intro @Int.toNat_natCast (And.intro @encRoom_eq (And.intro @roomCells_eq (And.intro @encSetting_eq (And.intro @encLook_eq (And.intro @encSpan_eq (And.intro @S_bits (And.intro @Nat.add_lt_add_iff_left (And.intro @Nat.lt_add_right_iff_pos (@T_sapp))))))))))))))))
theorem but0 : ButIs 0 [] := ⟨by omega, fun i hi => by simp⟩
def enterE (r : Rm) (eo : Int) : Int := errKnown r (if (check r).2.2 = 0 then eo else (check r).2.2)
def enterV (r : Rm) (eo : Int) (n : Nat) : AV := if enterE r eo = 0 then .tuple [.ptr (n + 3) 0, .int .i64 0] else .tuple [.nilPtr, .int .i64 (enterE r eo)]
def enterSt (σ : St) (r : Rm) (eo : Int) : St := if enterE r eo = 0 then σ ++ [.cells (roomCells r), .cells (roomCells r), .map [], .cells (rb r (psB r []) (σ.length + 2))] else σ
theorem enter_run (σ : St) (r : Rm) (f : AV) (eo : Int) (hf : Fits r) (h : (check r).2.2 = 0 → Same T f [] (σ ++ [.cells (roomCells r)]) (.int .i64 eo)) : Does T (.func 78 [] []) [encRoom r, f] σ (enterV r eo σ.length) (enterSt σ r eo) := by
 refine .callf (.call (af := a78) rfl (by simp [a78]) (run_wp (K := fun j e σ1 => (j = none ∨ j = some .ret) ∧ (if enterE r eo = 0 then Env.get e 4 = .ptr (σ.length + 3) 0 ∧ Env.get e 5 = .int .i64 0 ∧ σ1 = enterSt σ r eo else Env.get e 4 = .nilPtr ∧ Env.get e 5 = .int .i64 (enterE r eo) ∧ ∃ τ, σ1 = σ ++ τ)) ?_ fun o ho => ho) fun o ho => ?_)
 ·(repeat (first | simp only [↓QA, QB, Nat.reduceLT, reduceIte, Nat.reduceEqDiff, Nat.reduceAdd, Nat.reduceLeDiff, Nat.reduceMul, Nat.reduceBEq, QXRm20, a78] | refine rd0 rfl ?_))
  ((first | refine callK_d (check_ok r hf) rfl dd ?_ | refine callD_d (check_ok r hf) rfl dd ?_); (repeat (first | simp only [↓QA, QB, Nat.reduceLT, reduceIte, Nat.reduceEqDiff, Nat.reduceAdd, Nat.reduceLeDiff, Nat.reduceMul, Nat.reduceBEq, QXRm20, enc3] | refine rd0 rfl ?_)))
  cases h0 : ((check r).2.2 == 0)
  ·have h0' : (check r).2.2 ≠ 0 := by simpa using h0
   have he : enterE r eo = (check r).2.2 := by simp [enterE, h0', errKnown]
   (repeat (first | simp only [↓QA, QB, Nat.reduceLT, reduceIte, Nat.reduceEqDiff, Nat.reduceAdd, Nat.reduceLeDiff, Nat.reduceMul, Nat.reduceBEq, QXRm20, h0] | refine rd0 rfl ?_))
   rw [he, if_neg h0']
   simp
  ·have h0' : (check r).2.2 = 0 := by simpa using h0
   have hv := vd_of_check h0'
   have h := h h0'
   try simp only [↓QA, QB, Nat.reduceLT, reduceIte, Nat.reduceEqDiff, Nat.reduceAdd, Nat.reduceLeDiff, Nat.reduceMul, Nat.reduceBEq, QXRm20] at h
   have he : enterE r eo = errKnown r eo := by simp [enterE, h0']
   rw [he]
   (repeat (first | simp only [↓QA, QB, Nat.reduceLT, reduceIte, Nat.reduceEqDiff, Nat.reduceAdd, Nat.reduceLeDiff, Nat.reduceMul, Nat.reduceBEq, QXRm20, h0] | refine rd0 rfl ?_))
   refine callK_same h ?_
   cases h1 : (eo == 0)
   ·have h1' : eo ≠ 0 := by simpa using h1
    have he2 : errKnown r eo = eo := by simp [errKnown, h1']
    (repeat (first | simp only [↓QA, QB, Nat.reduceLT, reduceIte, Nat.reduceEqDiff, Nat.reduceAdd, Nat.reduceLeDiff, Nat.reduceMul, Nat.reduceBEq, QXRm20, h1] | refine rd0 rfl ?_))
    rw [he2, if_neg h1']
    simp
   ·have h1' : eo = 0 := by simpa using h1
    have hlk := look_run (σ ++ [.cells (roomCells r)]) r 0 [] hv but0
    cases hs : someB r []
    ·have he2 : errKnown r eo = 8 := by simp [errKnown, h1', hs]
     rw [hs, roomCells_eq] at hlk
     (repeat (first | simp only [↓QA, QB, Nat.reduceLT, reduceIte, Nat.reduceEqDiff, Nat.reduceAdd, Nat.reduceLeDiff, Nat.reduceMul, Nat.reduceBEq, QXRm20, h1] | refine rd0 rfl ?_))
     refine .mono hlk fun o ho => ?_
     obtain ⟨ps, hov, hoσ, hps⟩ := ho
     rw [hov, hoσ]
     (repeat (first | simp only [↓QA, QB, Nat.reduceLT, reduceIte, Nat.reduceEqDiff, Nat.reduceAdd, Nat.reduceLeDiff, Nat.reduceMul, Nat.reduceBEq, QXRm20, List.length_append, lookSt] | refine rd0 rfl ?_))
     rw [he2]
     simp
    ·have he2 : errKnown r eo = 0 := by simp [errKnown, h1', hs]
     rw [hs, roomCells_eq] at hlk
     (repeat (first | simp only [↓QA, QB, Nat.reduceLT, reduceIte, Nat.reduceEqDiff, Nat.reduceAdd, Nat.reduceLeDiff, Nat.reduceMul, Nat.reduceBEq, QXRm20, h1] | refine rd0 rfl ?_))
     refine .mono hlk fun o ho => ?_
     obtain ⟨ps, hov, hoσ, hps⟩ := ho
     obtain rfl := hps rfl
     rw [hov, hoσ]
     (repeat (first | simp only [↓QA, QB, Nat.reduceLT, reduceIte, Nat.reduceEqDiff, Nat.reduceAdd, Nat.reduceLeDiff, Nat.reduceMul, Nat.reduceBEq, QXRm20, List.length_append, lookSt] | refine rd0 rfl ?_))
     rw [he2]
     simp [enterSt, he, he2, roomCells_eq]
 ·obtain ⟨hj, ho⟩ := ho
  by_cases he : enterE r eo = 0
  ·rw [if_pos he] at ho
   refine ⟨hj, enterV r eo σ.length, ?_, .inl ⟨rfl, ho.2.2⟩⟩
   simp [resOf, resAV, a78, ho.1, ho.2.1, enterV, he]
  ·rw [if_neg he] at ho
   obtain ⟨h4, h5, τ, hσ⟩ := ho
   refine ⟨hj, enterV r eo σ.length, ?_, .inr ⟨20, enterV r eo σ.length, enterV r eo σ.length, ?_, .inl rfl, fun i hi => .inl (by rw [hσ]; exact List.getElem?_append_left hi), by rw [hσ]; simp, rfl, by rw [hσ]; simp [enterSt, he]⟩⟩
   ·simp [resOf, resAV, a78, h4, h5, enterV, he]
   ·simp [enterV, he, snap, snaps]
end Go.Am.Room
set_option maxRecDepth 4000
namespace Go.Am.Room
def QXRm21 := And.intro @setE_eq (And.intro @bits_len (And.intro @bits_cell (And.intro @bits_take (And.intro @bits_drop (And.intro @bits_zero (And.intro @Nat.mul_one (And.intro @Int.toNat_natCast (And.intro @encRoom_eq (And.intro @roomCells_eq (And.intro @encSetting_eq (And.intro @encLook_eq (And.intro @encSpan_eq (And.intro @S_bits (And.intro @Nat.add_lt_add_iff_left (And.intro @Nat.lt_add_right_iff_pos (@T_sapp))))))))))))))))
theorem psB_pts {r : Rm} (hv : Vd r) (hs : someB r [] = true) {d : Nat} (hd : d ≤ r.ran.length) : psB r [] d = ptsS r d := by
 rw [someB_eq hv] at hs
 obtain ⟨b, f, h1, _⟩ := bwd_some hv hs (r.ran.length - d) (by omega)
 simp [psB, hd, bS, ptsS, h1]
theorem psB_ends {r : Rm} (hv : Vd r) (hs : someB r [] = true) {d : Nat} (hd : d ≤ r.ran.length) : psB r [] d = endsOf (dayB r [] d) := by rw [psB_pts hv hs hd, ptsS_eq hv]
theorem points_ok (r : Rm) (day : Int) (hf : Fits r) : Pure T 17 [encRoom r, .int .i64 day] (encSE (pointsOf r day)) := by
 refine pure_fn (af := a17) rfl (by simp [a17]) dd ?_
 (repeat (first | simp only [↓QA, QB, Nat.reduceLT, reduceIte, Nat.reduceEqDiff, Nat.reduceAdd, Nat.reduceLeDiff, Nat.reduceMul, Nat.reduceBEq, QXRm21, a17] | refine rd0 rfl ?_))
 refine callD_do (within_run _ _ _) ?_
 (repeat (first | simp only [↓QA, QB, Nat.reduceLT, reduceIte, Nat.reduceEqDiff, Nat.reduceAdd, Nat.reduceLeDiff, Nat.reduceMul, Nat.reduceBEq, QXRm21] | refine rd0 rfl ?_))
 refine callD_do (enter_run _ r _ (if inR day 0 r.ran.length = true then 0 else 7) hf ?_) ?_
 ·intro _
  have := within1_ok [.cells (roomCells r), .cells [.int .i64 0, .int .i64 0], .cells [.lit [.int .i64 day, .int .i64 0, .int .i64 r.ran.length] true none], .cells (roomCells r)] 2 [day, 0, r.ran.length] true none (by simp) (by simp [cellsAt]) (by simp)
  rw [roomCells_eq] at this
  have e : withinE [day, 0, (r.ran.length : Int)] = if inR day 0 r.ran.length = true then 0 else 7 := rfl
  rw [e] at this
  try simp only [↓QA, QB, Nat.reduceLT, reduceIte, Nat.reduceEqDiff, Nat.reduceAdd, Nat.reduceLeDiff, Nat.reduceMul, Nat.reduceBEq, QXRm21]
  exact this
 have he : enterE r (if inR day 0 r.ran.length = true then 0 else 7) = errKnown r (errAsk r day 0 r.ran.length) := rfl
 simp only [enterV, enterSt, he]
 by_cases h0 : errKnown r (errAsk r day 0 r.ran.length) = 0
 ·obtain ⟨h1, hs⟩ := errKnown_ok h0
  obtain ⟨hv, hd0, hd1⟩ := errAsk_ok h1
  have hdd := hv.days
  have hdr := hv.ranLen
  have hp : pointsOf r day = (psB r [] day.toNat, 0) := by rw [pointsOf, if_pos h0, psB_ends hv hs (by omega)]
  have i1 : (0 : Int) ≤ day ∧ day < ((7 : Nat) : Int) := ⟨hd0, by omega⟩
  have c1 : 7 + day.toNat * 2 + 2 ≤ 22 := by omega
  have t1 := fun m => rb_at r (psB r []) m day.toNat (by omega)
  rw [if_pos h0, if_pos h0, hp]
  (repeat (first | simp only [↓QA, QB, Nat.reduceLT, reduceIte, Nat.reduceEqDiff, Nat.reduceAdd, Nat.reduceLeDiff, Nat.reduceMul, Nat.reduceBEq, QXRm21, show ((0 : Int) == 0) = true from rfl, i1, c1, t1, rb_len, encSE] | refine rd0 rfl ?_))
 ·have h0' : (errKnown r (errAsk r day 0 r.ran.length) == 0) = false := by simpa using h0
  have hp : pointsOf r day = (⟨0, 0⟩, errKnown r (errAsk r day 0 r.ran.length)) := by rw [pointsOf, if_neg h0]
  rw [if_neg h0, if_neg h0, hp]
  (repeat (first | simp only [↓QA, QB, Nat.reduceLT, reduceIte, Nat.reduceEqDiff, Nat.reduceAdd, Nat.reduceLeDiff, Nat.reduceMul, Nat.reduceBEq, QXRm21, h0', encSE] | refine rd0 rfl ?_))
theorem colours_ok (r : Rm) (day : Int) (hf : Fits r) : Pure T 19 [encRoom r, .int .i64 day] (encSE (coloursOf r day)) := by
 refine pure_fn (af := a19) rfl (by simp [a19]) dd ?_
 (repeat (first | simp only [↓QA, QB, Nat.reduceLT, reduceIte, Nat.reduceEqDiff, Nat.reduceAdd, Nat.reduceLeDiff, Nat.reduceMul, Nat.reduceBEq, QXRm21, a19] | refine rd0 rfl ?_))
 ((first | refine callK_d (points_ok r day hf) rfl dd ?_ | refine callD_d (points_ok r day hf) rfl dd ?_); (repeat (first | simp only [↓QA, QB, Nat.reduceLT, reduceIte, Nat.reduceEqDiff, Nat.reduceAdd, Nat.reduceLeDiff, Nat.reduceMul, Nat.reduceBEq, QXRm21, encSE] | refine rd0 rfl ?_)))
 cases h0 : ((pointsOf r day).2 == 0)
 ·have h0' : (pointsOf r day).2 ≠ 0 := by simpa using h0
  (repeat (first | simp only [↓QA, QB, Nat.reduceLT, reduceIte, Nat.reduceEqDiff, Nat.reduceAdd, Nat.reduceLeDiff, Nat.reduceMul, Nat.reduceBEq, QXRm21, h0, coloursOf, h0', encSE] | refine rd0 rfl ?_))
 ·have h0' : (pointsOf r day).2 = 0 := by simpa using h0
  obtain ⟨hv, hs, _, _, hp⟩ := pointsOf_ok h0'
  have hb := pts_bd hv hs day.toNat
  rw [← hp] at hb
  (repeat (first | simp only [↓QA, QB, Nat.reduceLT, reduceIte, Nat.reduceEqDiff, Nat.reduceAdd, Nat.reduceLeDiff, Nat.reduceMul, Nat.reduceBEq, QXRm21, h0] | refine rd0 rfl ?_))
  ((first | refine callK_d (pcolours_ok (pointsOf r day).1 hb.1 (by omega) (by omega) (by omega)) rfl dd ?_ | refine callD_d (pcolours_ok (pointsOf r day).1 hb.1 (by omega) (by omega) (by omega)) rfl dd ?_); (repeat (first | simp only [↓QA, QB, Nat.reduceLT, reduceIte, Nat.reduceEqDiff, Nat.reduceAdd, Nat.reduceLeDiff, Nat.reduceMul, Nat.reduceBEq, QXRm21, coloursOf, h0', encSE] | refine rd0 rfl ?_)))
theorem began_ok (r : Rm) (hf : Fits r) : Pure T 21 [encRoom r] (encSE (pointsOf r 0)) := by
 refine pure_fn (af := a21) rfl (by simp [a21]) dd ?_
 (repeat (first | simp only [↓QA, QB, Nat.reduceLT, reduceIte, Nat.reduceEqDiff, Nat.reduceAdd, Nat.reduceLeDiff, Nat.reduceMul, Nat.reduceBEq, QXRm21, a21] | refine rd0 rfl ?_))
 ((first | refine callK_d (points_ok r 0 hf) rfl dd ?_ | refine callD_d (points_ok r 0 hf) rfl dd ?_); (repeat (first | simp only [↓QA, QB, Nat.reduceLT, reduceIte, Nat.reduceEqDiff, Nat.reduceAdd, Nat.reduceLeDiff, Nat.reduceMul, Nat.reduceBEq, QXRm21, encSE] | refine rd0 rfl ?_)))
theorem become1_ok (σ : St) (p q : Nat) (r : Rm) (l : List Int) (hv : Vd r) (hl : l.length < 9223372036854775808) (hp : cellsAt σ p = some [.lit (l.map (.int .i64)) false none]) (hq : cellsAt σ q = some (roomCells r)) :
  Same T (.func 84 [] [.ptr p 0, .ptr q 0]) [] σ (.int .i64 (if r.days - r.ran.length < l.length then 3 else if l.all (isSetting r) = true then 0 else 4)) := by
 refine same_fn (af := a84) rfl (by simp [a84]) ?_
 rw [roomCells_eq] at hq
 have hd1 := hv.days
 have hd2 := hv.ranLen
 have hns := hv.nset
 have hwd : IntKind.i64.wrap (r.days - (r.ran.length : Int)) = r.days - r.ran.length := wrap64 ⟨by omega, by omega⟩
 have hws : IntKind.i64.wrap ((r.settings.length : Int) - 1) = (r.settings.length : Int) - 1 := wrap64 ⟨by omega, by omega⟩
 have hall : beyond 0 ((r.settings.length : Int) - 1) l = !l.all (isSetting r) := by
  rw [Bool.eq_iff_iff]
  simp [beyond, outside, isSetting, inR, List.any_eq_true, List.all_eq_true]
  constructor
  ·rintro ⟨x, hx, h⟩; exact ⟨x, hx, by omega⟩
  ·rintro ⟨x, hx, h⟩; exact ⟨x, hx, by omega⟩
 (repeat (first | simp only [↓QA, QB, Nat.reduceLT, reduceIte, Nat.reduceEqDiff, Nat.reduceAdd, Nat.reduceLeDiff, Nat.reduceMul, Nat.reduceBEq, QXRm21, a84, hp, hq, hwd] | refine rd0 rfl ?_))
 cases h1 : decide (r.days - (r.ran.length : Int) < (l.length : Int))
 ·have h1' : ¬ r.days - (r.ran.length : Int) < (l.length : Int) := by simpa using h1
  (repeat (first | simp only [↓QA, QB, Nat.reduceLT, reduceIte, Nat.reduceEqDiff, Nat.reduceAdd, Nat.reduceLeDiff, Nat.reduceMul, Nat.reduceBEq, QXRm21, h1, hp, hq, hws] | refine rd0 rfl ?_))
  ((first | refine callK_d (beyond_ok 0 ((r.settings.length : Int) - 1) l hl) rfl dd ?_ | refine callD_d (beyond_ok 0 ((r.settings.length : Int) - 1) l hl) rfl dd ?_); (repeat (first | simp only [↓QA, QB, Nat.reduceLT, reduceIte, Nat.reduceEqDiff, Nat.reduceAdd, Nat.reduceLeDiff, Nat.reduceMul, Nat.reduceBEq, QXRm21, hall] | refine rd0 rfl ?_)))
  cases h2 : l.all (isSetting r)
  ·(repeat (first | simp only [↓QA, QB, Nat.reduceLT, reduceIte, Nat.reduceEqDiff, Nat.reduceAdd, Nat.reduceLeDiff, Nat.reduceMul, Nat.reduceBEq, QXRm21] | refine rd0 rfl ?_))
   refine baseR [] (by first | rfl | simp) ?_
   simp only [h1', if_false]
   try simp only [QS, QC, Nat.reduceLT, reduceIte, Nat.reduceEqDiff, Nat.reduceAdd, Nat.reduceLeDiff, Nat.reduceMul, Nat.reduceBEq, QXRm21]
   rfl
  ·(repeat (first | simp only [↓QA, QB, Nat.reduceLT, reduceIte, Nat.reduceEqDiff, Nat.reduceAdd, Nat.reduceLeDiff, Nat.reduceMul, Nat.reduceBEq, QXRm21] | refine rd0 rfl ?_))
   refine baseR [] (by first | rfl | simp) ?_
   simp only [h1', if_false]
   try simp only [QS, QC, Nat.reduceLT, reduceIte, Nat.reduceEqDiff, Nat.reduceAdd, Nat.reduceLeDiff, Nat.reduceMul, Nat.reduceBEq, QXRm21]
 ·have h1' : r.days - (r.ran.length : Int) < (l.length : Int) := by simpa using h1
  (repeat (first | simp only [↓QA, QB, Nat.reduceLT, reduceIte, Nat.reduceEqDiff, Nat.reduceAdd, Nat.reduceLeDiff, Nat.reduceMul, Nat.reduceBEq, QXRm21, h1] | refine rd0 rfl ?_))
  refine baseR [] (by first | rfl | simp) ?_
  simp only [h1', if_true]
  try simp only [QS, QC, Nat.reduceLT, reduceIte, Nat.reduceEqDiff, Nat.reduceAdd, Nat.reduceLeDiff, Nat.reduceMul, Nat.reduceBEq, QXRm21]
end Go.Am.Room
set_option maxRecDepth 4000
namespace Go.Am.Room
def QXRm22 := And.intro @setE_eq (And.intro @bits_len (And.intro @bits_cell (And.intro @bits_take (And.intro @bits_drop (And.intro @bits_zero (And.intro @Nat.mul_one (And.intro @Int.toNat_natCast (And.intro @encRoom_eq (And.intro @roomCells_eq (And.intro @encSetting_eq (And.intro @encLook_eq (And.intro @encSpan_eq (And.intro @S_bits (And.intro @Nat.add_lt_add_iff_left (And.intro @Nat.lt_add_right_iff_pos (@T_sapp))))))))))))))))
theorem flat_zeros (n : Nat) : (List.replicate n [AV.int .i64 0]).flatten = List.replicate n (.int .i64 0) := by
 induction n with
 | zero => rfl
 | succ n ih => simp [List.replicate_succ, ih]
theorem ints_cells (l : List Int) : (l.map (AV.int .i64)).flatMap AV.cells = l.map (.int .i64) := by
 induction l with
 | nil => rfl
 | cons x l ih => simp only [List.map_cons, List.flatMap_cons, ih, AV.cells]; rfl
theorem copy_ints (b0 b1 b2 b3 b4 b5 b6 : ABlk) (l : List Int) : copyAV 1 [b0, b1, b2, b3, b4, b5, b6, .cells (List.replicate l.length (.int .i64 0))] (.ref 7 0 l.length 1) (.lit (l.map (.int .i64)) false none) = some (.int .i64 l.length, [b0, b1, b2, b3, b4, b5, b6, .cells (l.map (.int .i64))]) := by
 have h1 : allCells 1 (l.map (AV.int .i64)) = true := L_allM 1 _ l (fun x => C_int _ _)
 have h2 : (l.map (AV.int .i64)).take l.length = l.map (.int .i64) := List.take_of_length_le (by simp)
 simp [copyAV, view, sized, h1, cellsAt, setCells, h2, ints_cells]
theorem becomeE (r : Rm) (l : List Int) : enterE r (if r.days - r.ran.length < l.length then 3 else if l.all (isSetting r) = true then 0 else 4) = errKnown r (errSets r l) := by
 simp only [enterE, errSets, errEach_eq, errLong]
 congr 1
 by_cases h0 : (check r).2.2 = 0
 ·by_cases h1 : r.days - (r.ran.length : Int) < (l.length : Int)
  ·simp [h0, h1]
  ·simp [h0, h1]
 ·simp [h0]
theorem become_ok (r : Rm) (l : List Int) (hf : Fits r) (hl : l.length < 9223372036854775808) : Pure T 24 [encRoom r, ints l] (encSE (becomeOf r l)) := by
 refine pure_fn (af := a24) rfl (by simp [a24]) dd ?_
 (repeat (first | simp only [↓QA, QB, Nat.reduceLT, reduceIte, Nat.reduceEqDiff, Nat.reduceAdd, Nat.reduceLeDiff, Nat.reduceMul, Nat.reduceBEq, QXRm22, a24] | refine rd0 rfl ?_))
 refine callK_do (enter_run _ r _ (if r.days - r.ran.length < l.length then 3 else if l.all (isSetting r) = true then 0 else 4) hf ?_) ?_
 ·intro h0
  have := become1_ok [.cells (roomCells r), .cells [.lit (l.map (.int .i64)) false none], .cells [.int .i64 0, .int .i64 0], .cells (roomCells r)] 1 0 r l (vd_of_check h0) hl (by simp [cellsAt]) (by simp [cellsAt])
  rw [roomCells_eq] at this
  try simp only [↓QA, QB, Nat.reduceLT, reduceIte, Nat.reduceEqDiff, Nat.reduceAdd, Nat.reduceLeDiff, Nat.reduceMul, Nat.reduceBEq, QXRm22]
  exact this
 simp only [enterV, enterSt, becomeE]
 by_cases h0 : errKnown r (errSets r l) = 0
 ·obtain ⟨h1, hs⟩ := errKnown_ok h0
  obtain ⟨hv, hlen, hn⟩ := errSets_ok h1
  have hdd := hv.days
  have hdr := hv.ranLen
  obtain ⟨b0, b1, b2, b3⟩ := now_is hv hs
  have hsb := sumS_bd hv l hn
  have hb : becomeOf r l = (colours (plus (ptsS r r.ran.length) (sumS r l)), 0) := if_pos h0
  have i1 : (0 : Int) ≤ (r.ran.length : Int) ∧ (r.ran.length : Int) < ((7 : Nat) : Int) := ⟨by omega, by omega⟩
  have c1 : 7 + r.ran.length * 2 + 2 ≤ 22 := by omega
  have t1 := fun m => rb_at r (psB r []) m r.ran.length (by omega)
  rw [psB_pts hv hs (Nat.le_refl _)] at t1
  have hmk : vMkslice 8 (.int .i64 l.length) (.int .i64 l.length) = some l.length := by simp [vMkslice, room]; omega
  rw [if_pos h0, if_pos h0, hb]
  (repeat (first | simp only [↓QA, QB, Nat.reduceLT, reduceIte, Nat.reduceEqDiff, Nat.reduceAdd, Nat.reduceLeDiff, Nat.reduceMul, Nat.reduceBEq, QXRm22, show ((0 : Int) == 0) = true from rfl, hmk, flat_zeros, copy_ints] | refine rd0 rfl ?_))
  refine rK_dreg1 [.cells [.int .i64 0, .int .i64 0]] rfl ?_
  (repeat (first | simp only [↓QA, QB, Nat.reduceLT, reduceIte, Nat.reduceEqDiff, Nat.reduceAdd, Nat.reduceLeDiff, Nat.reduceMul, Nat.reduceBEq, QXRm22] | refine rd0 rfl ?_))
  refine callD_same (today_m _ 6 r (psB r []) 5 (by simp [cellsAt])) ?_
  (repeat (first | simp only [↓QA, QB, Nat.reduceLT, reduceIte, Nat.reduceEqDiff, Nat.reduceAdd, Nat.reduceLeDiff, Nat.reduceMul, Nat.reduceBEq, QXRm22, i1, c1, t1, rb_len] | refine rd0 rfl ?_))
  refine loopE (S := Nat × Span) (0, ptsS r r.ran.length) (fun s => s.1 ≤ l.length ∧ plus s.2 (sumS r (l.drop s.1)) = plus (ptsS r r.ran.length) (sumS r l) ∧ 0 ≤ s.2.lo ∧ 0 ≤ s.2.hi) (fun s => l.length - s.1)
   (fun s => [(2, .ptr 0 0), (4, .ptr 2 0), (5, .int .i64 0), (9, .ptr 8 0), (35, .ref 7 0 l.length 1), (36, .int .i64 l.length), (37, .int .i64 s.1)])
   (fun s => [.cells (roomCells r), .cells [.lit (l.map (.int .i64)) false none], .cells [.int .i64 0, .int .i64 0], .cells (roomCells r), .cells (roomCells r), .map [], .cells (rb r (psB r []) 5), .cells (l.map (.int .i64)), .cells [.int .i64 s.2.lo, .int .i64 s.2.hi]])
   ⟨by simp, by simp, b0, by simp only; omega⟩ (by simp [roomCells, ints]) ?_ fun s hs => ?_
  ·try simp only [TrimX, QE, Nat.reduceLT, reduceIte, Nat.reduceEqDiff, Nat.reduceAdd, Nat.reduceLeDiff, Nat.reduceMul, Nat.reduceBEq, QXRm22]
   try simp
  ·obtain ⟨k, q⟩ := s
   obtain ⟨hk, hq, hq0, hq1⟩ := hs
   simp only at hk hq hq0 hq1
   (repeat (first | simp only [↓QA, QB, Nat.reduceLT, reduceIte, Nat.reduceEqDiff, Nat.reduceAdd, Nat.reduceLeDiff, Nat.reduceMul, Nat.reduceBEq, QXRm22, L24_0] | refine rd0 rfl ?_))
   refine iteP_intro (fun h => ?_) fun h => ?_
   ·have hk1 : k < l.length := by simpa using h
    have hw := wrapN hk1 (by omega)
    have hx := hn _ (List.getElem_mem hk1)
    have hx0 : 0 ≤ l[k] := hx.1
    have hx1 : l[k].toNat < r.settings.length := by omega
    have hg := hv.gains _ (List.getElem_mem hx1)
    have hrest := sumS_bd hv (l.drop (k + 1)) fun n hm => hn n (List.mem_of_mem_drop hm)
    rw [List.drop_eq_getElem_cons hk1] at hq
    simp only [sumS, gainN_eq hx1] at hq
    rw [← plus_assoc] at hq
    have hq2 := congrArg Span.hi hq
    have hq3 := congrArg Span.lo hq
    simp only [plus] at hq2 hq3
    have i2 : (0 : Int) ≤ (k : Int) ∧ (k : Int) < ((l.length : Nat) : Int) ∧ 1 = 1 := ⟨by omega, by omega, rfl⟩
    (repeat (first | simp only [↓QA, QB, Nat.reduceLT, reduceIte, Nat.reduceEqDiff, Nat.reduceAdd, Nat.reduceLeDiff, Nat.reduceMul, Nat.reduceBEq, QXRm22, i2, hk1, V_idxI, hx0, hx1, Nat.zero_add] | refine rd0 rfl ?_))
    ((first | refine callK_d (pplus_ok q r.settings[l[k].toNat].gain (by omega) (by omega) (by omega) (by omega)) rfl dd ?_ | refine callD_d (pplus_ok q r.settings[l[k].toNat].gain (by omega) (by omega) (by omega) (by omega)) rfl dd ?_); (repeat (first | simp only [↓QA, QB, Nat.reduceLT, reduceIte, Nat.reduceEqDiff, Nat.reduceAdd, Nat.reduceLeDiff, Nat.reduceMul, Nat.reduceBEq, QXRm22, i2, hk1, V_idxI, hx0, hx1, hw] | refine rd0 rfl ?_)))
    refine ⟨(k + 1, plus q r.settings[l[k].toNat].gain), ⟨by simp only; omega, hq, by simp only [plus]; omega, by simp only [plus]; omega⟩, by simp only; omega, ?_⟩
    try simp only [TrimX, QE, Nat.reduceLT, reduceIte, Nat.reduceEqDiff, Nat.reduceAdd, Nat.reduceLeDiff, Nat.reduceMul, Nat.reduceBEq, QXRm22, hw, plus]
    try simp [okBlk, okVs, okV]
    exact S_refK (by omega)
   ·have hk1 : k = l.length := by simp at h; omega
    rw [hk1, List.drop_length] at hq
    have hq' : q = plus (ptsS r r.ran.length) (sumS r l) := by rw [← hq]; simp [sumS, plus]
    have hqh : q.hi < 1000 := by rw [hq']; simp only [plus]; omega
    have hql : q.lo < 1000 := by rw [hq']; simp only [plus]; omega
    rw [← hq']
    (repeat (first | simp only [↓QA, QB, Nat.reduceLT, reduceIte, Nat.reduceEqDiff, Nat.reduceAdd, Nat.reduceLeDiff, Nat.reduceMul, Nat.reduceBEq, QXRm22] | refine rd0 rfl ?_))
    ((first | refine callK_d (pcolours_ok q hq0 (by omega) hq1 (by omega)) rfl dd ?_ | refine callD_d (pcolours_ok q hq0 (by omega) hq1 (by omega)) rfl dd ?_); (repeat (first | simp only [↓QA, QB, Nat.reduceLT, reduceIte, Nat.reduceEqDiff, Nat.reduceAdd, Nat.reduceLeDiff, Nat.reduceMul, Nat.reduceBEq, QXRm22, encSE] | refine rd0 rfl ?_)))
 ·have h0' : (errKnown r (errSets r l) == 0) = false := by simpa using h0
  have hb : becomeOf r l = (⟨0, 0⟩, errKnown r (errSets r l)) := if_neg h0
  rw [if_neg h0, if_neg h0, hb]
  (repeat (first | simp only [↓QA, QB, Nat.reduceLT, reduceIte, Nat.reduceEqDiff, Nat.reduceAdd, Nat.reduceLeDiff, Nat.reduceMul, Nat.reduceBEq, QXRm22, h0', encSE] | refine rd0 rfl ?_))
end Go.Am.Room
set_option maxRecDepth 4000
namespace Go.Am.Room
def QXRm23 := And.intro @setE_eq (And.intro @bits_len (And.intro @bits_cell (And.intro @bits_take (And.intro @bits_drop (And.intro @bits_zero (And.intro @Nat.mul_one (And.intro @Int.toNat_natCast (And.intro @encRoom_eq (And.intro @roomCells_eq (And.intro @encSetting_eq (And.intro @encLook_eq (And.intro @encSpan_eq (And.intro @S_bits (And.intro @Nat.add_lt_add_iff_left (And.intro @Nat.lt_add_right_iff_pos (And.intro @T_sapp (And.intro @List.length_append.{0} (And.intro @rb_0 (And.intro @rb_3 (And.intro @rb_4 (And.intro @rb_5 (@rb_21))))))))))))))))))))))
structure W4 where
 a : Int
 b : Int
 c : Int
 d : Int
 deriving DecidableEq
def W4.at (w : W4) : Nat → Int
 | 0 => w.a
 | 1 => w.b
 | 2 => w.c
 | 3 => w.d
 | _ => 0
def encW (w : W4) : AV := .agg [.int .i64 w.a, .int .i64 w.b, .int .i64 w.c, .int .i64 w.d]
theorem encW_eq (w : W4) : encW w = .agg [.int .i64 w.a, .int .i64 w.b, .int .i64 w.c, .int .i64 w.d] := by simp only [encW]
def waysTo (r : Rm) (w : W4) : Nat → Span
 | 0 => ⟨0, 0⟩
 | k + 1 => plus (waysTo r w k) (match r.settings[k]? with | some s => ⟨w.at k * s.gain.lo, w.at k * s.gain.hi⟩ | none => ⟨0, 0⟩)
def waySum (r : Rm) (w : W4) : Span := waysTo r w r.settings.length
abbrev Memo := List W4
def memoEs (r : Rm) (M : Memo) : List (AV × AV) := M.map fun w => (encW w, encSpan (waySum r w))
def memoStep (M : Memo) (w : W4) : Memo := if w ∈ M then M else M ++ [w]
theorem eqW (w x : W4) : eqSh (.agg [.i, .i, .i, .i]) (encW w) (encW x) = some (decide (w = x)) := by
 obtain ⟨a, b, c, d⟩ := w
 obtain ⟨a', b', c', d'⟩ := x
 have key : ∀ p q : Bool, p = q → some p = some q := fun p q h => by rw [h]
 simp only [eqSh, encW, V_eqC1, V_eqC0, V_eqI, V_oand]
 refine key _ _ ?_
 rw [Bool.eq_iff_iff]
 simp [W4.mk.injEq, and_assoc]
theorem findW (r : Rm) (w : W4) : ∀ M : Memo, findKey (.agg [.i, .i, .i, .i]) (encW w) (memoEs r M) = some (if w ∈ M then some (encSpan (waySum r w)) else none)
 | [] => by simp [memoEs, findKey]
 | x :: M => by
  have ih := findW r w M
  simp only [memoEs, List.map_cons, findKey, eqW] at ih ⊢
  by_cases h : w = x
  ·subst h; simp
  ·simp only [h, decide_false, ih, List.mem_cons, false_or]
theorem setW (r : Rm) (w : W4) : ∀ M : Memo, w ∉ M → setKey (.agg [.i, .i, .i, .i]) (encW w) (encSpan (waySum r w)) (memoEs r M) = some (memoEs r (M ++ [w]))
 | [], _ => by simp [memoEs, setKey]
 | x :: M, h => by
  have ih := setW r w M (fun q => h (List.mem_cons_of_mem _ q))
  have hx : w ≠ x := fun e => h (by rw [e]; simp)
  simp only [memoEs, List.map_cons, setKey, eqW, List.cons_append] at ih ⊢
  simp only [hx, decide_false, ih, Option.map_some]
structure RoomAt (S : Memo → St) (r : Rm) (ps : Nat → Span) (p m N : Nat) : Prop where
 len : ∀ M, (S M).length = N
 at0 : ∀ M, cellsAt (S M) p = some (rb r ps m)
 map0 : ∀ M, (S M)[m]? = some (.map (memoEs r M))
 mset : ∀ M M', (S M).set m (.map (memoEs r M')) = S M'
 pl : p < N
 ml : m < N
namespace RoomAt
variable {S : Memo → St} {r : Rm} {ps : Nat → Span} {p m N : Nat}
theorem base (h : RoomAt S r ps p m N) (M : Memo) (τ : St) (k : Nat) : cellsAt (S M ++ τ) (N + k) = cellsAt τ k := by rw [← h.len M]; exact M_base _ _ _
theorem base0 (h : RoomAt S r ps p m N) (M : Memo) (τ : St) : cellsAt (S M ++ τ) N = cellsAt τ 0 := h.base M τ 0
theorem bset (h : RoomAt S r ps p m N) (M : Memo) (τ : St) (k : Nat) (x : ABlk) : (S M ++ τ).set (N + k) x = S M ++ τ.set k x := by rw [← h.len M]; exact st_set _ _ _ _
theorem bset0 (h : RoomAt S r ps p m N) (M : Memo) (τ : St) (x : ABlk) : (S M ++ τ).set N x = S M ++ τ.set 0 x := h.bset M τ 0 x
theorem at1 (h : RoomAt S r ps p m N) (M : Memo) (τ : St) : cellsAt (S M ++ τ) p = some (rb r ps m) := by
 have := h.at0 M
 have hl := h.pl
 rw [← h.len M] at hl
 simp only [cellsAt] at this ⊢
 rw [List.getElem?_append_left hl]
 exact this
theorem map1 (h : RoomAt S r ps p m N) (M : Memo) (τ : St) : (S M ++ τ)[m]? = some (.map (memoEs r M)) := by
 have hl := h.ml
 rw [← h.len M] at hl
 rw [List.getElem?_append_left hl]
 exact h.map0 M
theorem mset1 (h : RoomAt S r ps p m N) (M M' : Memo) (τ : St) : (S M ++ τ).set m (.map (memoEs r M')) = S M' ++ τ := by
 have hl := h.ml
 rw [← h.len M] at hl
 rw [List.set_append_left _ _ hl, h.mset]
theorem look1 (h : RoomAt S r ps p m N) (M : Memo) (τ : St) (w : W4) : lookAV (.agg [.i, .i, .i, .i]) (S M ++ τ) (.map m) (encW w) = some (if w ∈ M then some (encSpan (waySum r w)) else none) := by
 simp only [lookAV, h.map1, findW, eqW]
 simp
theorem put1 (h : RoomAt S r ps p m N) (M : Memo) (τ : St) (w : W4) (hw : w ∉ M) : vMapset (.agg [.i, .i, .i, .i]) (S M ++ τ) (.map m) (encW w) (encSpan (waySum r w)) = some (S (M ++ [w]) ++ τ) := by
 simp only [vMapset, eqW, h.map1, setW r w M hw, Option.map_some, h.mset1]
 simp
theorem keep (h : RoomAt S r ps p m N) (M M' : Memo) (i : Nat) (hi : i ≠ m) : (S M')[i]? = (S M)[i]? := by
 rw [← h.mset M M', List.getElem?_set_ne (fun e => hi e.symm)]
theorem memo_ok (r : Rm) (M : Memo) (k : Nat) : okBlk k (.map (memoEs r M)) := by
 simp only [okBlk, memoEs]
 intro q hq
 obtain ⟨w, hw, rfl⟩ := List.mem_map.1 hq
 simp [encW, encSpan, okV, okVs]
theorem kept (h : RoomAt S r ps p m N) {M M' : Memo} {σ τ : St} (hσ : σ = S M' ++ τ) : ∀ i, i < (S M).length → blkKept (S M) σ (S M).length i := by
 intro i hi
 rw [hσ]
 have hl : i < (S M').length := by rw [h.len] at hi ⊢; exact hi
 by_cases him : i = m
 ·subst him
  refine .inr (.inl ⟨.map (memoEs r M'), ?_, memo_ok r M' _⟩)
  rw [List.getElem?_append_left hl, h.map0]
 ·refine .inl ?_
  rw [List.getElem?_append_left hl, h.keep M M' i him]
end RoomAt
theorem W4.get (w : W4) {k : Nat} (h : k < 4) : [AV.int .i64 w.a, .int .i64 w.b, .int .i64 w.c, .int .i64 w.d][k]? = some (.int .i64 (w.at k)) := by
 match k, h with
 | 0, _ => rfl
 | 1, _ => rfl
 | 2, _ => rfl
 | 3, _ => rfl
theorem mul_bd {a b : Int} (h0 : 0 ≤ a) (h1 : a ≤ 10) (h2 : 0 ≤ b) (h3 : b ≤ 15) : 0 ≤ a * b ∧ a * b ≤ 150 := by
  constructor
  · exact Int.mul_nonneg h0 h2
  · calc a * b ≤ 10 * b := Int.mul_le_mul_of_nonneg_right h1 h2
      _ ≤ 150 := by omega
theorem waysTo_succ {r : Rm} {w : W4} {k : Nat} (h : k < r.settings.length) : waysTo r w (k + 1) = plus (waysTo r w k) ⟨w.at k * r.settings[k].gain.lo, w.at k * r.settings[k].gain.hi⟩ := by
 simp only [waysTo, List.getElem?_eq_getElem h]
theorem waysTo_bd {r : Rm} (hv : Vd r) {w : W4} (hw : ∀ k, 0 ≤ w.at k ∧ w.at k ≤ 10) : ∀ k, k ≤ r.settings.length → 0 ≤ (waysTo r w k).lo ∧ (waysTo r w k).lo ≤ 150 * k ∧ 0 ≤ (waysTo r w k).hi ∧ (waysTo r w k).hi ≤ 150 * k
 | 0, _ => by simp [waysTo]
 | k + 1, h => by
  have ih := waysTo_bd hv hw k (by omega)
  have hk : k < r.settings.length := h
  have hg := hv.gains _ (List.getElem_mem hk)
  have m1 := mul_bd (hw k).1 (hw k).2 hg.1 (show r.settings[k].gain.lo ≤ 15 by omega)
  have m2 := mul_bd (hw k).1 (hw k).2 (show 0 ≤ r.settings[k].gain.hi by omega) hg.2.2
  rw [waysTo_succ hk]
  simp only [plus]
  omega
theorem V_lookS (z v : AV) : vLook true z (some (some v)) = some (.tuple [v, .bool true]) := rfl
theorem V_lookN (z : AV) : vLook true z (some none) = some (.tuple [z, .bool false]) := rfl
theorem sum_does {S : Memo → St} {r : Rm} {ps : Nat → Span} {p m N : Nat} (hR : RoomAt S r ps p m N) (hv : Vd r) (M : Memo) (w : W4) (hw : ∀ k, 0 ≤ w.at k ∧ w.at k ≤ 10) :
  Does T (.func 113 [] []) [.ptr p 0, encW w] (S M) (encSpan (waySum r w)) (S (memoStep M w)) := by
 have hns := hv.nset
 refine .callf (.call (af := a113) rfl (by simp [a113]) (run_wp (K := fun j e σ1 => (j = none ∨ j = some .ret) ∧ ∃ τ, resOf a113.results e σ1 = some (encSpan (waySum r w)) ∧ σ1 = S (memoStep M w) ++ τ) ?_ fun o ho => ho) fun o ho => ?_)
 ·have hl1 := fun τ => hR.look1 M τ w
  simp only [encW_eq, encSpan_eq] at hl1
  (repeat (first | simp only [↓QA, QB, Nat.reduceLT, reduceIte, Nat.reduceEqDiff, Nat.reduceAdd, Nat.reduceLeDiff, Nat.reduceMul, Nat.reduceBEq, QXRm23, encW_eq, hR.len, hR.base, hR.base0, hR.bset, hR.bset0, hR.at1, hR.at0, hR.map1, hR.map0, a113] | refine rd0 rfl ?_))
  refine rK_dreg1 [.cells [.int .i64 0, .int .i64 0]] rfl ?_
  by_cases hm : w ∈ M
  ·have hst : memoStep M w = M := by simp [memoStep, hm]
   rw [hst]
   simp only [hm, if_true] at hl1
   (repeat (first | simp only [↓QA, QB, Nat.reduceLT, reduceIte, Nat.reduceEqDiff, Nat.reduceAdd, Nat.reduceLeDiff, Nat.reduceMul, Nat.reduceBEq, QXRm23, encW_eq, hR.len, hR.base, hR.base0, hR.bset, hR.bset0, hR.at1, hR.at0, hR.map1, hR.map0, hl1, V_lookS, V_lookN] | refine rd0 rfl ?_))
   exact ⟨_, rfl⟩
  ·have hst : memoStep M w = M ++ [w] := by simp [memoStep, hm]
   have hput := fun τ => hR.put1 M τ w hm
   simp only [encW_eq, encSpan_eq] at hput
   rw [hst]
   simp only [hm, if_false] at hl1
   (repeat (first | simp only [↓QA, QB, Nat.reduceLT, reduceIte, Nat.reduceEqDiff, Nat.reduceAdd, Nat.reduceLeDiff, Nat.reduceMul, Nat.reduceBEq, QXRm23, encW_eq, hR.len, hR.base, hR.base0, hR.bset, hR.bset0, hR.at1, hR.at0, hR.map1, hR.map0, hl1, V_lookS, V_lookN] | refine rd0 rfl ?_))
   refine loopE (S := Nat × Span) (0, ⟨0, 0⟩) (fun s => s.1 ≤ r.settings.length ∧ s.2 = waysTo r w s.1) (fun s => r.settings.length - s.1)
    (fun s => [(0, .ptr p 0), (3, .ptr N 0), (4, .ptr (N + 1) 0), (7, .ptr (N + 3) 0), (25, .lit (r.settings.map encSetting) false none), (26, .int .i64 r.settings.length), (27, .int .i64 s.1)])
    (fun s => S M ++ [.cells [.int .i64 w.a, .int .i64 w.b, .int .i64 w.c, .int .i64 w.d], .cells [.int .i64 0, .int .i64 0], .cells [.int .i64 0, .int .i64 0], .cells [.int .i64 s.2.lo, .int .i64 s.2.hi]]) ⟨by simp, rfl⟩ rfl ?_ fun s hs => ?_
   ·try simp only [TrimX, QE, Nat.reduceLT, reduceIte, Nat.reduceEqDiff, Nat.reduceAdd, Nat.reduceLeDiff, Nat.reduceMul, Nat.reduceBEq, QXRm23, encW_eq, hR.len, hR.base, hR.base0, hR.bset, hR.bset0, hR.at1, hR.at0, hR.map1, hR.map0]
    try simp
   ·obtain ⟨k, q⟩ := s
    obtain ⟨hk, hq⟩ := hs
    simp only at hk hq
    (repeat (first | simp only [↓QA, QB, Nat.reduceLT, reduceIte, Nat.reduceEqDiff, Nat.reduceAdd, Nat.reduceLeDiff, Nat.reduceMul, Nat.reduceBEq, QXRm23, encW_eq, hR.len, hR.base, hR.base0, hR.bset, hR.bset0, hR.at1, hR.at0, hR.map1, hR.map0, L113_0] | refine rd0 rfl ?_))
    refine iteP_intro (fun h => ?_) fun h => ?_
    ·have hk1 : k < r.settings.length := by simp at h; omega
     have hk4 : k < 4 := by omega
     have hw1 := wrapN hk1 (by omega)
     have hg := hv.gains _ (List.getElem_mem hk1)
     have m1 := mul_bd (hw k).1 (hw k).2 hg.1 (show r.settings[k].gain.lo ≤ 15 by omega)
     have m2 := mul_bd (hw k).1 (hw k).2 (show 0 ≤ r.settings[k].gain.hi by omega) hg.2.2
     have bd := waysTo_bd hv hw k (by omega)
     rw [← hq] at bd
     have hs := waysTo_succ (w := w) hk1
     rw [← hq] at hs
     have hg4 := w.get hk4
     have i1 : (0 : Int) ≤ (k : Int) ∧ (k : Int) < ((4 : Nat) : Int) := ⟨by omega, by omega⟩
     have e1 : IntKind.i64.wrap (w.at k * r.settings[k].gain.lo) = w.at k * r.settings[k].gain.lo := wrap64 ⟨by omega, by omega⟩
     have e2 : IntKind.i64.wrap (w.at k * r.settings[k].gain.hi) = w.at k * r.settings[k].gain.hi := wrap64 ⟨by omega, by omega⟩
     (repeat (first | simp only [↓QA, QB, Nat.reduceLT, reduceIte, Nat.reduceEqDiff, Nat.reduceAdd, Nat.reduceLeDiff, Nat.reduceMul, Nat.reduceBEq, QXRm23, encW_eq, hR.len, hR.base, hR.base0, hR.bset, hR.bset0, hR.at1, hR.at0, hR.map1, hR.map0, hk1, hg4, i1, e1, e2, Nat.zero_add] | refine rd0 rfl ?_))
     ((first | refine callK_d (pplus_ok q ⟨w.at k * r.settings[k].gain.lo, w.at k * r.settings[k].gain.hi⟩ (by simp only; omega) (by simp only; omega) (by simp only; omega) (by simp only; omega)) rfl dd ?_ | refine callD_d (pplus_ok q ⟨w.at k * r.settings[k].gain.lo, w.at k * r.settings[k].gain.hi⟩ (by simp only; omega) (by simp only; omega) (by simp only; omega) (by simp only; omega)) rfl dd ?_); (repeat (first | simp only [↓QA, QB, Nat.reduceLT, reduceIte, Nat.reduceEqDiff, Nat.reduceAdd, Nat.reduceLeDiff, Nat.reduceMul, Nat.reduceBEq, QXRm23, encW_eq, hR.len, hR.base, hR.base0, hR.bset, hR.bset0, hR.at1, hR.at0, hR.map1, hR.map0, hk1, hg4, i1, e1, e2, Nat.zero_add, hw1] | refine rd0 rfl ?_)))
     refine ⟨(k + 1, plus q ⟨w.at k * r.settings[k].gain.lo, w.at k * r.settings[k].gain.hi⟩), ⟨by simp only; omega, by simp only; rw [← hs]⟩, by simp only; omega, ?_⟩
     try simp only [TrimX, QE, Nat.reduceLT, reduceIte, Nat.reduceEqDiff, Nat.reduceAdd, Nat.reduceLeDiff, Nat.reduceMul, Nat.reduceBEq, QXRm23, encW_eq, hR.len, hR.base, hR.base0, hR.bset, hR.bset0, hR.at1, hR.at0, hR.map1, hR.map0, hw1, hR.pl, S_mapSet, plus]
     have := hR.pl
     simp [okBlk, okVs, okV]
     try omega
    ·have hk1 : k = r.settings.length := by simp at h; omega
     have hq' : q = waySum r w := by rw [hq, hk1]; rfl
     rw [hq']
     (repeat (first | simp only [↓QA, QB, Nat.reduceLT, reduceIte, Nat.reduceEqDiff, Nat.reduceAdd, Nat.reduceLeDiff, Nat.reduceMul, Nat.reduceBEq, QXRm23, encW_eq, hR.len, hR.base, hR.base0, hR.bset, hR.bset0, hR.at1, hR.at0, hR.map1, hR.map0, hput] | refine rd0 rfl ?_))
     exact ⟨_, rfl⟩
 ·obtain ⟨hj, τ, hres, hσ⟩ := ho
  refine ⟨hj, encSpan (waySum r w), hres, .inr ⟨20, encSpan (waySum r w), encSpan (waySum r w), ?_, .inl rfl, ?_, ?_, rfl, ?_⟩⟩
  ·simp [encSpan, snap, snaps]
  ·exact hR.kept hσ
  ·rw [hσ, List.length_append, hR.len, hR.len]; omega
  ·rw [hσ, hR.len, ← hR.len (memoStep M w), List.take_left]
end Go.Am.Room
set_option maxRecDepth 4000
namespace Go.Am.Room
def QXRm24 := And.intro @setE_eq (And.intro @bits_len (And.intro @bits_cell (And.intro @bits_take (And.intro @bits_drop (And.intro @bits_zero (And.intro @Nat.mul_one (And.intro @Int.toNat_natCast (And.intro @encRoom_eq (And.intro @roomCells_eq (And.intro @encSetting_eq (And.intro @encLook_eq (And.intro @encSpan_eq (And.intro @S_bits (And.intro @Nat.add_lt_add_iff_left (And.intro @Nat.lt_add_right_iff_pos (And.intro @T_sapp (And.intro @encW_eq (And.intro @List.length_append.{0} (And.intro @rb_0 (And.intro @rb_3 (And.intro @rb_4 (And.intro @rb_5 (@rb_21)))))))))))))))))))))))
theorem RoomAt.app {S : Memo → St} {r : Rm} {ps : Nat → Span} {p m N : Nat} (h : RoomAt S r ps p m N) (τ : St) : RoomAt (fun M => S M ++ τ) r ps p m (N + τ.length) :=
 ⟨fun M => by rw [List.length_append, h.len], fun M => h.at1 M τ, fun M => h.map1 M τ, fun M M' => h.mset1 M M' τ, by have := h.pl; omega, by have := h.ml; omega⟩
def HasAt (S : Memo → St) (i : Nat) (cs : List AV) : Prop := ∀ M τ, cellsAt (S M ++ τ) i = some cs
theorem HasAt.nil {S : Memo → St} {i : Nat} {cs : List AV} (h : HasAt S i cs) (M : Memo) : cellsAt (S M) i = some cs := by simpa using h M []
def givesW (r : Rm) (now : Span) (w : W4) (c : Int) : Bool := (colours (plus now (waySum r w))).lo == c && (colours (plus now (waySum r w))).hi == c
theorem first1_does {S : Memo → St} {r : Rm} {ps : Nat → Span} {p m N : Nat} (hR : RoomAt S r ps p m N) (hv : Vd r) (now : Span) (want : Int) (pn pr pw : Nat) (hn : HasAt S pn [.int .i64 now.lo, .int .i64 now.hi]) (hr : HasAt S pr [.ptr p 0]) (hw0 : HasAt S pw [.int .i64 want])
  (h0 : 0 ≤ now.lo) (h1 : now.lo < 1000) (h2 : 0 ≤ now.hi) (h3 : now.hi < 1000) (M : Memo) (sl : List AV) (fl : Bool) (tk : Option Nat) (w : W4) (hw : ∀ k, 0 ≤ w.at k ∧ w.at k ≤ 10) (c : Int) :
  Does T (.func 112 [] [.ptr pn 0, .ptr pr 0, .ptr pw 0]) [.agg [.lit sl fl tk, .int .i64 w.a, .int .i64 w.b, .int .i64 w.c, .int .i64 w.d, .int .i64 c]] (S M) (.bool (givesW r now w want)) (S (memoStep M w)) := by
 have hns := hv.nset
 have bd := waysTo_bd hv hw r.settings.length (Nat.le_refl _)
 have hb : waysTo r w r.settings.length = waySum r w := rfl
 rw [hb] at bd
 refine .callf (.call (af := a112) rfl (by simp [a112]) (run_wp (K := fun j e σ1 => (j = none ∨ j = some .ret) ∧ ∃ τ, resOf a112.results e σ1 = some (.bool (givesW r now w want)) ∧ σ1 = S (memoStep M w) ++ τ) ?_ fun o ho => ho) fun o ho => ?_)
 ·have hs := sum_does (hR.app [.cells [.lit sl fl tk, .int .i64 w.a, .int .i64 w.b, .int .i64 w.c, .int .i64 w.d, .int .i64 c]]) hv M w hw
  try simp only [↓QA, QB, Nat.reduceLT, reduceIte, Nat.reduceEqDiff, Nat.reduceAdd, Nat.reduceLeDiff, Nat.reduceMul, Nat.reduceBEq, QXRm24, hR.len, hR.base, hR.base0, hR.bset, hR.bset0, hR.at1, hR.at0, hR.map1, hR.map0] at hs
  have hn' := fun M τ => hn M τ
  have hr' := fun M τ => hr M τ
  have hw' := fun M τ => hw0 M τ
  (repeat (first | simp only [↓QA, QB, Nat.reduceLT, reduceIte, Nat.reduceEqDiff, Nat.reduceAdd, Nat.reduceLeDiff, Nat.reduceMul, Nat.reduceBEq, QXRm24, hR.len, hR.base, hR.base0, hR.bset, hR.bset0, hR.at1, hR.at0, hR.map1, hR.map0, a112, hn', hr', hw'] | refine rd0 rfl ?_))
  refine callD_do hs ?_
  (repeat (first | simp only [↓QA, QB, Nat.reduceLT, reduceIte, Nat.reduceEqDiff, Nat.reduceAdd, Nat.reduceLeDiff, Nat.reduceMul, Nat.reduceBEq, QXRm24, hR.len, hR.base, hR.base0, hR.bset, hR.bset0, hR.at1, hR.at0, hR.map1, hR.map0, hn', hr', hw'] | refine rd0 rfl ?_))
  ((first | refine callK_d (pplus_ok now (waySum r w) (by omega) (by omega) (by omega) (by omega)) rfl dd ?_ | refine callD_d (pplus_ok now (waySum r w) (by omega) (by omega) (by omega) (by omega)) rfl dd ?_); (repeat (first | simp only [↓QA, QB, Nat.reduceLT, reduceIte, Nat.reduceEqDiff, Nat.reduceAdd, Nat.reduceLeDiff, Nat.reduceMul, Nat.reduceBEq, QXRm24, hR.len, hR.base, hR.base0, hR.bset, hR.bset0, hR.at1, hR.at0, hR.map1, hR.map0, hn', hr', hw'] | refine rd0 rfl ?_)))
  ((first | refine callK_d (pcolours_ok (plus now (waySum r w)) (by simp only [plus]; omega) (by simp only [plus]; omega) (by simp only [plus]; omega) (by simp only [plus]; omega)) rfl dd ?_ | refine callD_d (pcolours_ok (plus now (waySum r w)) (by simp only [plus]; omega) (by simp only [plus]; omega) (by simp only [plus]; omega) (by simp only [plus]; omega)) rfl dd ?_); (repeat (first | simp only [↓QA, QB, Nat.reduceLT, reduceIte, Nat.reduceEqDiff, Nat.reduceAdd, Nat.reduceLeDiff, Nat.reduceMul, Nat.reduceBEq, QXRm24, hR.len, hR.base, hR.base0, hR.bset, hR.bset0, hR.at1, hR.at0, hR.map1, hR.map0, hn', hr', hw'] | refine rd0 rfl ?_)))
  exact ⟨_, rfl, rfl⟩
 ·obtain ⟨hj, τ, hres, hσ⟩ := ho
  refine ⟨hj, .bool (givesW r now w want), hres, .inr ⟨20, .bool (givesW r now w want), .bool (givesW r now w want), ?_, .inl rfl, ?_, ?_, rfl, ?_⟩⟩
  ·simp [snap]
  ·exact hR.kept hσ
  ·rw [hσ, List.length_append, hR.len, hR.len]; omega
  ·rw [hσ, hR.len, ← hR.len (memoStep M w), List.take_left]
end Go.Am.Room
set_option maxRecDepth 4000
namespace Go.Am.Room
def QXRm25 := And.intro @Nat.mul_one (And.intro @Int.toNat_natCast (And.intro @encRoom_eq (And.intro @roomCells_eq (And.intro @encSpan_eq (And.intro @Nat.add_lt_add_iff_left (And.intro @Nat.lt_add_right_iff_pos (And.intro @T_sapp (And.intro @encW_eq (@List.length_append.{0})))))))))
theorem V_clip (σ : St) (l : List Int) (f : Bool) (tk : Option Nat) : vSlicev 1 σ (.lit (l.map (.int .i64)) f tk) none (some (.int .i64 (l.length : Int))) (some (.int .i64 (l.length : Int))) = some (.lit (l.map (.int .i64)) true tk) := by
 have hc : cutFits 1 (l.map (AV.int .i64)) 0 (l.length : Int) = true := by
  unfold cutFits
  cases l with
  | nil => simp
  | cons x l => simp [AV.cells]
 simp only [vSlicev, lenAV, vBound, Option.map_some, intOf, sliceAV]
 rw [if_pos (by simp), if_pos ⟨by omega, by omega, by simp, hc⟩]
 simp [List.take_of_length_le]
theorem clip_does (σ : St) (l : List Int) (f : Bool) (tk : Option Nat) : Does T (.func 123 [] []) [.lit (l.map (.int .i64)) f tk] σ (.lit (l.map (.int .i64)) true tk) σ := by
 refine .callf (.call (af := a123) rfl (by simp [a123]) (run_wp (K := fun j e σ1 => (j = none ∨ j = some .ret) ∧ Env.get e 2 = .lit (l.map (.int .i64)) true tk ∧ σ1 = σ) ?_ fun o ho => ho) fun o ho => ?_)
 ·(repeat (first | simp only [↓QA, QB, Nat.reduceLT, reduceIte, Nat.reduceEqDiff, Nat.reduceAdd, Nat.reduceLeDiff, Nat.reduceMul, Nat.reduceBEq, QXRm25, a123, V_clip] | refine rd0 rfl ?_))
  try simp
 ·exact ⟨ho.1, _, rfl, .inl ⟨ho.2.1, ho.2.2⟩⟩
theorem eqS_set (k : Nat) (x : ABlk) (hx : okBlk k x) : ∀ (A a b c : St) (i : Nat), EqS k (A ++ a) (A.set i x ++ b) (A.set i x ++ c) = EqS k a b c
 | [], a, b, c, i => by simp
 | y :: A, a, b, c, 0 => by
  simp only [List.set_cons_zero, List.cons_append, EqS, T_sapp, hx, or_true, true_and, and_self]
 | y :: A, a, b, c, i + 1 => by
  have := eqS_set k x hx A a b c i
  simp only [List.set_cons_succ, List.cons_append, EqS, this, true_or, true_and, and_self]
theorem RoomAt.eqS {S : Memo → St} {r : Rm} {ps : Nat → Span} {p m N : Nat} (h : RoomAt S r ps p m N) (k : Nat) (M M' : Memo) (a b c : St) : EqS k (S M ++ a) (S M' ++ b) (S M' ++ c) = EqS k a b c := by
 rw [← h.mset M M']
 exact eqS_set k _ (RoomAt.memo_ok r M' k) _ _ _ _ _
def W4.inc (w : W4) (n : Nat) : W4 := match n with | 0 => { w with a := w.a + 1 } | 1 => { w with b := w.b + 1 } | 2 => { w with c := w.c + 1 } | 3 => { w with d := w.d + 1 } | _ => w
structure Pl where
 l : List Int
 w : W4
 c : Int
def Pl.add (q : Pl) (b : Int) (n : Nat) : Pl := ⟨q.l ++ [(n : Int)], q.w.inc n, if 0 ≤ b ∧ (n : Int) ≠ b then q.c + 1 else q.c⟩
def overN (f : Nat → Memo → Option Pl × Memo) : Nat → Nat → Memo → Option Pl × Memo
 | 0, _, M => (none, M)
 | j + 1, n, M => match f n M with
  | (some x, M') => (some x, M')
  | (none, M') => overN f j (n + 1) M'
def nextS (r : Rm) (now : Span) (want ch : Int) : Nat → Pl → Int → Memo → Option Pl × Memo
 | 0, q, _, M => if q.c ≠ ch then (none, M) else if givesW r now q.w want = true then (some q, memoStep M q.w) else (none, memoStep M q.w)
 | k + 1, q, b, M => overN (fun n M => if 0 ≤ b ∧ (n : Int) ≠ b ∧ q.c = ch then (none, M) else nextS r now want ch k (q.add b n) n M) r.settings.length 0 M
end Go.Am.Room
set_option maxRecDepth 4000
namespace Go.Am.Room
def QXRm26 := And.intro @Nat.mul_one (And.intro @Int.toNat_natCast (And.intro @encSpan_eq (And.intro @Nat.add_lt_add_iff_left (And.intro @Nat.lt_add_right_iff_pos (And.intro @T_sapp (And.intro @encW_eq (@List.length_append.{0})))))))
def RA : ACode := .reg [⟨(some 14), .alloc [.lit [] true none, .int .i64 0, .int .i64 0, .int .i64 0, .int .i64 0, .int .i64 0], none⟩, ⟨none, .store 6 (.t 14) (.t 32), none⟩]
def lpB (st : LS) (pend : Option AJump) (e : Env) : ABlk := .loop st pend e [32] RA F88_0
def planC (sl : List AV) (f : Bool) (tk : Option Nat) (w : W4) (c : Int) : List AV := [.lit sl f tk, .int .i64 w.a, .int .i64 w.b, .int .i64 w.c, .int .i64 w.d, .int .i64 c]
def NEXT (N : Nat) : AV := .func 122 [] [.ptr (N + 12) 0, .ptr (N + 8) 0, .ptr (N + 9) 0, .ptr (N + 11) 0, .ptr (N + 6) 0, .ptr (N + 13) 0]
def fst (now : Span) (want b many ch : Int) (p N : Nat) (res : List AV) (fnd : Bool) (lp : ABlk) (plan : List AV) : St :=
 [.cells [.ptr p 0], .cells [.int .i64 now.lo, .int .i64 now.hi], .cells [.int .i64 want], .cells res, .cells [.bool fnd], .cells [.func 112 [] [.ptr (N + 1) 0, .ptr N 0, .ptr (N + 2) 0]],
  .cells [.ptr p 0], .cells [.int .i64 b], .cells [.int .i64 many], .cells [.int .i64 ch], lp, .cells [.yield (N + 10)], .cells plan, .cells [NEXT N]]
def zeroP : List AV := [.lit [] true none, .int .i64 0, .int .i64 0, .int .i64 0, .int .i64 0, .int .i64 0]
theorem yield_run {S : Memo → St} {r : Rm} {ps : Nat → Span} {p m N : Nat} (hR : RoomAt S r ps p m N) (hv : Vd r) (now : Span) (want b many ch : Int) (h0 : 0 ≤ now.lo) (h1 : now.lo < 1000) (h2 : 0 ≤ now.hi) (h3 : now.hi < 1000)
  (e : Env) (e10 : Env.get e 10 = .ptr (N + 3) 0) (e11 : Env.get e 11 = .ptr (N + 4) 0) (e12 : Env.get e 12 = .ptr (N + 5) 0)
  (M : Memo) (sl : List AV) (f : Bool) (tk : Option Nat) (w : W4) (hw : ∀ k, 0 ≤ w.at k ∧ w.at k ≤ 10) (c : Int) (τ : St) :
  Run T (.callv (.yield (N + 10)) [.agg (planC sl f tk w c)] (S M ++ (fst now want b many ch p N zeroP false (lpB .ready none e) (planC sl f tk w c) ++ τ))) fun o =>
   if givesW r now w want = true then o.v = .bool false ∧ ∃ τ', o.σ = S (memoStep M w) ++ (fst now want b many ch p N (planC sl f tk w c) true (lpB .done (some .ret) e) (planC sl f tk w c) ++ τ')
   else o.v = .bool true ∧ ∃ τ', o.σ = S (memoStep M w) ++ (fst now want b many ch p N zeroP false (lpB .ready none e) (planC sl f tk w c) ++ (τ ++ τ')) := by
 have hid : ∀ (M : Memo) (υ : St), (S M ++ υ)[N + 10]? = υ[10]? := fun M υ => by rw [← hR.len M]; exact st_get _ _ _
 refine .round (R := fun o => o.j = none ∧ Env.get o.env 10 = .ptr (N + 3) 0 ∧ Env.get o.env 11 = .ptr (N + 4) 0 ∧ Env.get o.env 12 = .ptr (N + 5) 0 ∧ Env.get o.env 14 = .ptr (N + (τ.length + 14)) 0 ∧ o.σ = S M ++ (fst now want b many ch p N zeroP false (lpB .ready none e) (planC sl f tk w c) ++ (τ ++ [.cells (planC sl f tk w c)])))
  (S := fun o => if givesW r now w want = true then o.j = some .ret ∧ ∃ τ', o.σ = S (memoStep M w) ++ (fst now want b many ch p N (planC sl f tk w c) true (lpB .busy none e) (planC sl f tk w c) ++ τ') else o.j = none ∧ ∃ τ', o.σ = S (memoStep M w) ++ (fst now want b many ch p N zeroP false (lpB .busy none e) (planC sl f tk w c) ++ (τ ++ τ'))) (env := e) (ps := [32]) (a := RA) (b := F88_0) ?_ rfl ?_ ?_ ?_ ?_
 ·rw [hid]; rfl
 ·refine run_wp (K := fun j e' σ' => j = none ∧ Env.get e' 10 = .ptr (N + 3) 0 ∧ Env.get e' 11 = .ptr (N + 4) 0 ∧ Env.get e' 12 = .ptr (N + 5) 0 ∧ Env.get e' 14 = .ptr (N + (τ.length + 14)) 0 ∧ σ' = S M ++ (fst now want b many ch p N zeroP false (lpB .ready none e) (planC sl f tk w c) ++ (τ ++ [.cells (planC sl f tk w c)]))) ?_ fun o ho => ho
  (repeat (first | simp only [↓QA, QB, Nat.reduceLT, reduceIte, Nat.reduceEqDiff, Nat.reduceAdd, Nat.reduceLeDiff, Nat.reduceMul, Nat.reduceBEq, QXRm26, hR.len, hR.base, hR.base0, hR.bset, hR.bset0, hR.at1, hR.at0, hR.map1, hR.map0, RA, bindPs, fst, planC, zeroP, e10, e11, e12] | refine rd0 rfl ?_))
 ·intro o ho
  refine ⟨ho.1, ?_⟩
  rw [ho.2.2.2.2.2, hid]; rfl
 ·rintro o ⟨hj, q10, q11, q12, q14, hσ⟩
  rw [hσ, hR.bset]
  have hset : ∀ υ : St, (fst now want b many ch p N zeroP false (lpB .ready none e) (planC sl f tk w c) ++ υ).set 10 (.loop .busy none e [32] RA F88_0) = fst now want b many ch p N zeroP false (lpB .busy none e) (planC sl f tk w c) ++ υ := fun υ => rfl
  rw [hset]
  have hg := first1_does (hR.app (fst now want b many ch p N zeroP false (lpB .busy none e) (planC sl f tk w c) ++ (τ ++ [.cells (planC sl f tk w c)]))) hv now want (N + 1) N (N + 2) (fun M υ => by simp [fst, hR.base, st_app, M_atS, M_at0]) (fun M υ => by simp [fst, hR.base0, st_app, M_at0]) (fun M υ => by simp [fst, hR.base, st_app, M_atS, M_at0]) h0 h1 h2 h3 M sl f tk w hw c
  refine run_wp (K := fun j e' σ' => if givesW r now w want = true then j = some .ret ∧ ∃ τ', σ' = S (memoStep M w) ++ (fst now want b many ch p N (planC sl f tk w c) true (lpB .busy none e) (planC sl f tk w c) ++ τ') else j = none ∧ ∃ τ', σ' = S (memoStep M w) ++ (fst now want b many ch p N zeroP false (lpB .busy none e) (planC sl f tk w c) ++ (τ ++ τ'))) ?_ fun o ho => ho
  simp only [fst, planC, zeroP] at hg ⊢
  try simp only [↓QA, QB, Nat.reduceLT, reduceIte, Nat.reduceEqDiff, Nat.reduceAdd, Nat.reduceLeDiff, Nat.reduceMul, Nat.reduceBEq, QXRm26, hR.len, hR.base, hR.base0, hR.bset, hR.bset0, hR.at1, hR.at0, hR.map1, hR.map0] at hg
  (repeat (first | simp only [↓QA, QB, Nat.reduceLT, reduceIte, Nat.reduceEqDiff, Nat.reduceAdd, Nat.reduceLeDiff, Nat.reduceMul, Nat.reduceBEq, QXRm26, hR.len, hR.base, hR.base0, hR.bset, hR.bset0, hR.at1, hR.at0, hR.map1, hR.map0, F88_0, q10, q11, q12, q14] | refine rd0 rfl ?_))
  refine callK_do hg ?_
  cases hG : givesW r now w want
  ·(repeat (first | simp only [↓QA, QB, Nat.reduceLT, reduceIte, Nat.reduceEqDiff, Nat.reduceAdd, Nat.reduceLeDiff, Nat.reduceMul, Nat.reduceBEq, QXRm26, hR.len, hR.base, hR.base0, hR.bset, hR.bset0, hR.at1, hR.at0, hR.map1, hR.map0, q10, q11, q12, q14] | refine rd0 rfl ?_))
   refine ⟨[.cells [.lit sl f tk, .int .i64 w.a, .int .i64 w.b, .int .i64 w.c, .int .i64 w.d, .int .i64 c]], ?_⟩
   try simp
  ·(repeat (first | simp only [↓QA, QB, Nat.reduceLT, reduceIte, Nat.reduceEqDiff, Nat.reduceAdd, Nat.reduceLeDiff, Nat.reduceMul, Nat.reduceBEq, QXRm26, hR.len, hR.base, hR.base0, hR.bset, hR.bset0, hR.at1, hR.at0, hR.map1, hR.map0, q10, q11, q12, q14] | refine rd0 rfl ?_))
   exact ⟨_, rfl⟩
 ·intro o ho
  cases hG : givesW r now w want
  ·rw [hG] at ho
   simp only [Bool.false_eq_true, if_false] at ho ⊢
   obtain ⟨hj, τ', hσ⟩ := ho
   rw [hσ, hid, hR.bset, hj]
   exact ⟨rfl, rfl, τ', rfl⟩
  ·rw [hG] at ho
   simp only [if_true] at ho ⊢
   obtain ⟨hj, τ', hσ⟩ := ho
   rw [hσ, hid, hR.bset, hj]
   exact ⟨rfl, rfl, τ', rfl⟩
end Go.Am.Room
