/- A part of the proof of RoomKnown: an abstract machine, or what functions come to on it. -/
import Derived.Test.YtkppbjllknnilaaRoomKnownQ3
set_option linter.unusedVariables false
set_option linter.unusedSimpArgs false
set_option maxRecDepth 4000
namespace Go.Am.Room
theorem T_sapp (m : Nat) : ∀ (σ a b c : St), EqS m (σ ++ a) (σ ++ b) (σ ++ c) = EqS m a b c
  | [], a, b, c => rfl
  | x :: σ, a, b, c => by simp only [List.cons_append, EqS, T_sapp m σ a b c, true_or, true_and, and_self]
theorem and1 (a : Nat) (h : a < 9223372036854775808) : Go.Am.bits .and .i64 (a : Int) 1 = ((a % 2 : Nat) : Int) := by
  have e1 : (BitVec.ofInt 64 (a : Int) &&& BitVec.ofInt 64 1).toNat = a % 2 := by
    rw [BitVec.toNat_and]
    have h1 : (BitVec.ofInt 64 (a : Int)).toNat = a := by
      rw [BitVec.toNat_ofInt]
      omega
    have h2 : (BitVec.ofInt 64 1).toNat = 1 := by decide
    rw [h1, h2, Nat.and_one_is_mod]
  show IntKind.i64.wrap (((BitVec.ofInt 64 (a : Int) &&& BitVec.ofInt 64 1).toNat : Nat) : Int) = _
  rw [e1]
  exact wrap64 ⟨by omega, by omega⟩
theorem V_and1 (a : Nat) (h : a < 9223372036854775808) : binAV .and (.int .i64 (a : Int)) (.int .i64 1) = some (.int .i64 ((a % 2 : Nat) : Int)) := by
  simp [binAV, binInt, and1 a h]
theorem V_shr (a i : Nat) (h : i ≤ 60) : binAV .shr (.int .i64 (a : Int)) (.int .i64 (i : Int)) = some (.int .i64 ((a / 2 ^ i : Nat) : Int)) := by
  have hm : Nat.min i 64 = i := Nat.min_eq_left (by omega)
  have h0 : ¬ (i : Int) < 0 := by omega
  simp only [binAV, h0, if_false, IntKind.bits, Int.toNat_natCast, hm, Option.some.injEq, AV.int.injEq, true_and]
  rw [Int.fdiv_eq_ediv_of_nonneg _ (Int.pow_nonneg (by omega))]
  norm_cast
/-- A set of looks, by bits and as a list. -/
structure ButIs (but : Nat) (bl : List Int) : Prop where
  lt : but < 9223372036854775808
  bit : ∀ i : Nat, i < 4 → (((but / 2 ^ i % 2 : Nat) : Int) == 0) = !bl.contains (i : Int)
/-- What looks of a day leave of a span, one behind the other. -/
def seeF (day : Int) (bl : List Int) : Span → List Look → Nat → Span
  | s, [], _ => s
  | s, x :: xs, i => seeF day bl (if (x.day == day && !bl.contains (i : Int)) = true then both s (ofC x.colour) else s) xs (i + 1)
theorem both_assoc (a b c : Span) : both (both a b) c = both a (both b c) := by simp only [both, Span.mk.injEq]; omega
theorem seeF_eq (day : Int) (bl : List Int) : ∀ (xs : List Look) (s : Span) (i : Nat), (∀ x ∈ xs, 1 ≤ x.colour ∧ x.colour ≤ 7) → 0 ≤ s.lo → s.hi ≤ 1000 → seeF day bl s xs i = both s (seenS day bl xs i)
  | [], s, i, _, h0, h1 => by
    obtain ⟨lo, hi⟩ := s
    simp only [seeF, seenS, both, Span.mk.injEq] at *
    omega
  | x :: xs, s, i, hx, h0, h1 => by
    have hc := hx x (by simp)
    have hr : ∀ y ∈ xs, 1 ≤ y.colour ∧ y.colour ≤ 7 := fun y hy => hx y (List.mem_cons_of_mem _ hy)
    simp only [seeF, seenS]
    split
    · rw [seeF_eq day bl xs _ _ hr, both_assoc]
      · simp only [both]; omega
      · simp only [both]; omega
    · exact seeF_eq day bl xs _ _ hr h0 h1
/-- The looks of a day. -/
theorem look_in (σ : St) (r : Rm) (but : Nat) (bl : List Int) (ps : Nat → Span) (d : Nat) (s0 : Span) (e : Env) (K : KJ) (hv : Vd r) (hb : ButIs but bl)
    (e1 : Env.get e 1 = .int .i64 but) (e2 : Env.get e 2 = .ptr σ.length 0) (e6 : Env.get e 6 = .ptr (σ.length + 2) 0) (e7 : Env.get e 7 = .int .i64 r.ran.length) (e8 : Env.get e 8 = .int .i64 d) (e9 : Env.get e 9 = .ptr (σ.length + 3) 0) (e25 : Env.get e 25 = .int .i64 ((r.ran.length + 1 : Nat) : Int)) (e26 : Env.get e 26 = .int .i64 d)
    (e53 : Env.get e 53 = .lit (r.looks.map encLook) false none) (e54 : Env.get e 54 = .int .i64 r.looks.length) (e55 : Env.get e 55 = .int .i64 0)
    (hK : ∀ e', Env.get e' 1 = .int .i64 but → Env.get e' 2 = .ptr σ.length 0 → Env.get e' 6 = .ptr (σ.length + 2) 0 → Env.get e' 7 = .int .i64 r.ran.length → Env.get e' 8 = .int .i64 d → Env.get e' 9 = .ptr (σ.length + 3) 0 → Env.get e' 25 = .int .i64 ((r.ran.length + 1 : Nat) : Int) → Env.get e' 26 = .int .i64 d →
      K (some (.exit 2)) e' (σ ++ [.cells (roomCells r), .map [], .cells (rb r ps (σ.length + 1)), .cells [.int .i64 (seeF d bl s0 r.looks 0).lo, .int .i64 (seeF d bl s0 r.looks 0).hi]])) :
    rK (K := ⟨K⟩) T (.loop L91_2) e (σ ++ [.cells (roomCells r), .map [], .cells (rb r ps (σ.length + 1)), .cells [.int .i64 s0.lo, .int .i64 s0.hi]]) := by
  have hll := hv.looksLen
  refine loopE (S := Nat × Span) (0, s0) (fun s => s.1 ≤ r.looks.length ∧ seeF d bl s.2 (r.looks.drop s.1) s.1 = seeF d bl s0 r.looks 0) (fun s => r.looks.length - s.1)
    (fun s => [(1, .int .i64 but), (2, .ptr σ.length 0), (6, .ptr (σ.length + 2) 0), (7, .int .i64 r.ran.length), (8, .int .i64 d), (9, .ptr (σ.length + 3) 0), (25, .int .i64 ((r.ran.length + 1 : Nat) : Int)), (26, .int .i64 d), (53, .lit (r.looks.map encLook) false none), (54, .int .i64 r.looks.length), (55, .int .i64 s.1)])
    (fun s => σ ++ [.cells (roomCells r), .map [], .cells (rb r ps (σ.length + 1)), .cells [.int .i64 s.2.lo, .int .i64 s.2.hi]]) ⟨by simp, by simp⟩ rfl ?_ fun s hs => ?_
  · try simp only [TrimX, QT, QS, q_get, List.length_append, Nat.le_add_right, QC, implies_true, forall_const, ne_eq, not_false_eq_true, not_true_eq_false, Nat.reduceLT, reduceIte, Nat.reduceEqDiff, Nat.reduceAdd, Nat.reduceLeDiff, Nat.reduceMul, Nat.reduceBEq, setE_eq, bits_len, bits_cell, bits_take, bits_drop, bits_zero, Nat.mul_one, Int.toNat_natCast, encRoom_eq, roomCells_eq, encSetting_eq, encLook_eq, encSpan_eq, S_bits, Nat.add_lt_add_iff_left, Nat.lt_add_right_iff_pos, T_sapp, e1, e2, e6, e7, e8, e9, e25, e26, e53, e54, e55]
    try simp
  · obtain ⟨i, s⟩ := s
    obtain ⟨hi, hq⟩ := hs
    simp only at hi hq
    (repeat (first | simp only [↓QP, ↓QD, QR, QV, QS, QC, implies_true, forall_const, ne_eq, not_false_eq_true, not_true_eq_false, Nat.reduceLT, reduceIte, Nat.reduceEqDiff, Nat.reduceAdd, Nat.reduceLeDiff, Nat.reduceMul, Nat.reduceBEq, setE_eq, bits_len, bits_cell, bits_take, bits_drop, bits_zero, Nat.mul_one, Int.toNat_natCast, encRoom_eq, roomCells_eq, encSetting_eq, encLook_eq, encSpan_eq, S_bits, Nat.add_lt_add_iff_left, Nat.lt_add_right_iff_pos, T_sapp, L91_2] | refine rK_dreg0 rfl ?_))
    refine iteP_intro (fun h => ?_) fun h => ?_
    · have hi1 : i < r.looks.length := by simpa using h
      have hw := wrapN hi1 (by omega)
      have hl := hv.looks _ (List.getElem_mem hi1)
      have hdiv : but / 2 ^ i < 9223372036854775808 := Nat.lt_of_le_of_lt (Nat.div_le_self _ _) hb.lt
      have hbit := hb.bit i (by omega)
      have vs := V_shr but i (by omega)
      have va := V_and1 (but / 2 ^ i) hdiv
      rw [List.drop_eq_getElem_cons hi1] at hq
      simp only [seeF] at hq
      have hof := pof_ok r.looks[i].colour hl.2.2.1 hl.2.2.2
      have fin : ∀ (s' : Span) (e' : Env) (τ : List ABlk), (if (r.looks[i].day == (d : Int) && !bl.contains (i : Int)) = true then both s (ofC r.looks[i].colour) else s) = s' → True := fun _ _ _ _ => trivial
      (repeat (first | simp only [↓QP, ↓QD, QR, QV, QS, QC, implies_true, forall_const, ne_eq, not_false_eq_true, not_true_eq_false, Nat.reduceLT, reduceIte, Nat.reduceEqDiff, Nat.reduceAdd, Nat.reduceLeDiff, Nat.reduceMul, Nat.reduceBEq, setE_eq, bits_len, bits_cell, bits_take, bits_drop, bits_zero, Nat.mul_one, Int.toNat_natCast, encRoom_eq, roomCells_eq, encSetting_eq, encLook_eq, encSpan_eq, S_bits, Nat.add_lt_add_iff_left, Nat.lt_add_right_iff_pos, T_sapp, hi1, vs, va, hbit, List.length_append] | refine rK_dreg0 rfl ?_))
      cases h1 : (r.looks[i].day == (d : Int))
      · rw [h1] at hq
        (repeat (first | simp only [↓QP, ↓QD, QR, QV, QS, QC, implies_true, forall_const, ne_eq, not_false_eq_true, not_true_eq_false, Nat.reduceLT, reduceIte, Nat.reduceEqDiff, Nat.reduceAdd, Nat.reduceLeDiff, Nat.reduceMul, Nat.reduceBEq, setE_eq, bits_len, bits_cell, bits_take, bits_drop, bits_zero, Nat.mul_one, Int.toNat_natCast, encRoom_eq, roomCells_eq, encSetting_eq, encLook_eq, encSpan_eq, S_bits, Nat.add_lt_add_iff_left, Nat.lt_add_right_iff_pos, T_sapp, h1, hi1, List.length_append, hw] | refine rK_dreg0 rfl ?_))
        refine ⟨(i + 1, s), ⟨by simp only; omega, by simpa using hq⟩, by simp only; omega, ?_⟩
        try simp only [TrimX, QT, QS, q_get, List.length_append, Nat.le_add_right, QC, implies_true, forall_const, ne_eq, not_false_eq_true, not_true_eq_false, Nat.reduceLT, reduceIte, Nat.reduceEqDiff, Nat.reduceAdd, Nat.reduceLeDiff, Nat.reduceMul, Nat.reduceBEq, setE_eq, bits_len, bits_cell, bits_take, bits_drop, bits_zero, Nat.mul_one, Int.toNat_natCast, encRoom_eq, roomCells_eq, encSetting_eq, encLook_eq, encSpan_eq, S_bits, Nat.add_lt_add_iff_left, Nat.lt_add_right_iff_pos, T_sapp, hw, S_mapLook]
        try simp [okBlk, okVs, okV]
      · rw [h1] at hq
        (repeat (first | simp only [↓QP, ↓QD, QR, QV, QS, QC, implies_true, forall_const, ne_eq, not_false_eq_true, not_true_eq_false, Nat.reduceLT, reduceIte, Nat.reduceEqDiff, Nat.reduceAdd, Nat.reduceLeDiff, Nat.reduceMul, Nat.reduceBEq, setE_eq, bits_len, bits_cell, bits_take, bits_drop, bits_zero, Nat.mul_one, Int.toNat_natCast, encRoom_eq, roomCells_eq, encSetting_eq, encLook_eq, encSpan_eq, S_bits, Nat.add_lt_add_iff_left, Nat.lt_add_right_iff_pos, T_sapp, h1, hi1, vs, va, hbit, List.length_append, hw] | refine rK_dreg0 rfl ?_))
        cases h2 : bl.contains (i : Int)
        · rw [h2] at hq
          (repeat (first | simp only [↓QP, ↓QD, QR, QV, QS, QC, implies_true, forall_const, ne_eq, not_false_eq_true, not_true_eq_false, Nat.reduceLT, reduceIte, Nat.reduceEqDiff, Nat.reduceAdd, Nat.reduceLeDiff, Nat.reduceMul, Nat.reduceBEq, setE_eq, bits_len, bits_cell, bits_take, bits_drop, bits_zero, Nat.mul_one, Int.toNat_natCast, encRoom_eq, roomCells_eq, encSetting_eq, encLook_eq, encSpan_eq, S_bits, Nat.add_lt_add_iff_left, Nat.lt_add_right_iff_pos, T_sapp, h2, hi1, List.length_append, hw] | refine rK_dreg0 rfl ?_))
          ((first | refine callK_d (hof) rfl (by repeat (first | exact datas_nil | refine datas_cons ?_ ?_ | exact data_int _ _ | exact data_ints _ | exact data_span _ | exact data_bool _ | exact data_str _ | exact data_strs _ | exact data_room _ | exact data_set _ | exact data_intss _ | exact data_days _)) ?_ | refine callD_d (hof) rfl (by repeat (first | exact datas_nil | refine datas_cons ?_ ?_ | exact data_int _ _ | exact data_ints _ | exact data_span _ | exact data_bool _ | exact data_str _ | exact data_strs _ | exact data_room _ | exact data_set _ | exact data_intss _ | exact data_days _)) ?_); (repeat (first | simp only [↓QP, ↓QD, QR, QV, QS, QC, implies_true, forall_const, ne_eq, not_false_eq_true, not_true_eq_false, Nat.reduceLT, reduceIte, Nat.reduceEqDiff, Nat.reduceAdd, Nat.reduceLeDiff, Nat.reduceMul, Nat.reduceBEq, setE_eq, bits_len, bits_cell, bits_take, bits_drop, bits_zero, Nat.mul_one, Int.toNat_natCast, encRoom_eq, roomCells_eq, encSetting_eq, encLook_eq, encSpan_eq, S_bits, Nat.add_lt_add_iff_left, Nat.lt_add_right_iff_pos, T_sapp, List.length_append] | refine rK_dreg0 rfl ?_)))
          ((first | refine callK_d (pboth_ok s (ofC r.looks[i].colour)) rfl (by repeat (first | exact datas_nil | refine datas_cons ?_ ?_ | exact data_int _ _ | exact data_ints _ | exact data_span _ | exact data_bool _ | exact data_str _ | exact data_strs _ | exact data_room _ | exact data_set _ | exact data_intss _ | exact data_days _)) ?_ | refine callD_d (pboth_ok s (ofC r.looks[i].colour)) rfl (by repeat (first | exact datas_nil | refine datas_cons ?_ ?_ | exact data_int _ _ | exact data_ints _ | exact data_span _ | exact data_bool _ | exact data_str _ | exact data_strs _ | exact data_room _ | exact data_set _ | exact data_intss _ | exact data_days _)) ?_); (repeat (first | simp only [↓QP, ↓QD, QR, QV, QS, QC, implies_true, forall_const, ne_eq, not_false_eq_true, not_true_eq_false, Nat.reduceLT, reduceIte, Nat.reduceEqDiff, Nat.reduceAdd, Nat.reduceLeDiff, Nat.reduceMul, Nat.reduceBEq, setE_eq, bits_len, bits_cell, bits_take, bits_drop, bits_zero, Nat.mul_one, Int.toNat_natCast, encRoom_eq, roomCells_eq, encSetting_eq, encLook_eq, encSpan_eq, S_bits, Nat.add_lt_add_iff_left, Nat.lt_add_right_iff_pos, T_sapp, List.length_append, hw] | refine rK_dreg0 rfl ?_)))
          refine ⟨(i + 1, both s (ofC r.looks[i].colour)), ⟨by simp only; omega, by simpa using hq⟩, by simp only; omega, ?_⟩
          try simp only [TrimX, QT, QS, q_get, List.length_append, Nat.le_add_right, QC, implies_true, forall_const, ne_eq, not_false_eq_true, not_true_eq_false, Nat.reduceLT, reduceIte, Nat.reduceEqDiff, Nat.reduceAdd, Nat.reduceLeDiff, Nat.reduceMul, Nat.reduceBEq, setE_eq, bits_len, bits_cell, bits_take, bits_drop, bits_zero, Nat.mul_one, Int.toNat_natCast, encRoom_eq, roomCells_eq, encSetting_eq, encLook_eq, encSpan_eq, S_bits, Nat.add_lt_add_iff_left, Nat.lt_add_right_iff_pos, T_sapp, hw, S_mapLook]
          try simp [okBlk, okVs, okV]
        · rw [h2] at hq
          (repeat (first | simp only [↓QP, ↓QD, QR, QV, QS, QC, implies_true, forall_const, ne_eq, not_false_eq_true, not_true_eq_false, Nat.reduceLT, reduceIte, Nat.reduceEqDiff, Nat.reduceAdd, Nat.reduceLeDiff, Nat.reduceMul, Nat.reduceBEq, setE_eq, bits_len, bits_cell, bits_take, bits_drop, bits_zero, Nat.mul_one, Int.toNat_natCast, encRoom_eq, roomCells_eq, encSetting_eq, encLook_eq, encSpan_eq, S_bits, Nat.add_lt_add_iff_left, Nat.lt_add_right_iff_pos, T_sapp, h2, hi1, List.length_append, hw] | refine rK_dreg0 rfl ?_))
          refine ⟨(i + 1, s), ⟨by simp only; omega, by simpa using hq⟩, by simp only; omega, ?_⟩
          try simp only [TrimX, QT, QS, q_get, List.length_append, Nat.le_add_right, QC, implies_true, forall_const, ne_eq, not_false_eq_true, not_true_eq_false, Nat.reduceLT, reduceIte, Nat.reduceEqDiff, Nat.reduceAdd, Nat.reduceLeDiff, Nat.reduceMul, Nat.reduceBEq, setE_eq, bits_len, bits_cell, bits_take, bits_drop, bits_zero, Nat.mul_one, Int.toNat_natCast, encRoom_eq, roomCells_eq, encSetting_eq, encLook_eq, encSpan_eq, S_bits, Nat.add_lt_add_iff_left, Nat.lt_add_right_iff_pos, T_sapp, hw, S_mapLook]
          try simp [okBlk, okVs, okV]
    · have hi1 : i = r.looks.length := by simp at h; omega
      rw [hi1, List.drop_length] at hq
      simp only [seeF] at hq
      rw [hq]
      (repeat (first | simp only [↓QP, ↓QD, QR, QV, QS, QC, implies_true, forall_const, ne_eq, not_false_eq_true, not_true_eq_false, Nat.reduceLT, reduceIte, Nat.reduceEqDiff, Nat.reduceAdd, Nat.reduceLeDiff, Nat.reduceMul, Nat.reduceBEq, setE_eq, bits_len, bits_cell, bits_take, bits_drop, bits_zero, Nat.mul_one, Int.toNat_natCast, encRoom_eq, roomCells_eq, encSetting_eq, encLook_eq, encSpan_eq, S_bits, Nat.add_lt_add_iff_left, Nat.lt_add_right_iff_pos, T_sapp] | refine rK_dreg0 rfl ?_))
      refine hK _ ?_ ?_ ?_ ?_ ?_ ?_ ?_ ?_
      all_goals try simp only [TrimX, QT, QS, q_get, List.length_append, Nat.le_add_right, QC, implies_true, forall_const, ne_eq, not_false_eq_true, not_true_eq_false, Nat.reduceLT, reduceIte, Nat.reduceEqDiff, Nat.reduceAdd, Nat.reduceLeDiff, Nat.reduceMul, Nat.reduceBEq, setE_eq, bits_len, bits_cell, bits_take, bits_drop, bits_zero, Nat.mul_one, Int.toNat_natCast, encRoom_eq, roomCells_eq, encSetting_eq, encLook_eq, encSpan_eq, S_bits, Nat.add_lt_add_iff_left, Nat.lt_add_right_iff_pos, T_sapp]
end Go.Am.Room
set_option linter.unusedVariables false
set_option linter.unusedSimpArgs false
set_option maxRecDepth 4000
namespace Go.Am.Room
def fS (r : Rm) (bl : List Int) (i : Nat) : Span := (fwd r bl i).getD ⟨0, 0⟩
def psF (r : Rm) (bl : List Int) (d : Nat) : Nat → Span := fun i => if i < d then fS r bl i else ⟨0, 0⟩
def preS (r : Rm) (bl : List Int) : Nat → Span
  | 0 => r.start
  | d + 1 => plus (fS r bl d) (gainAt r d)
def curS (r : Rm) (bl : List Int) (d : Nat) : Span := seeF d bl (preS r bl d) r.looks 0
theorem fwd_cur {r : Rm} (hv : Vd r) (bl : List Int) (d : Nat) (hd : d ≤ r.ran.length) (h : ∀ i, i < d → (fwd r bl i).isSome = true) : fwd r bl d = ne (curS r bl d) := by
  have hc : ∀ x ∈ r.looks, 1 ≤ x.colour ∧ x.colour ≤ 7 := fun x hx => (hv.looks x hx).2.2
  have hs := hv.start
  have hdd := hv.days
  have hdr := hv.ranLen
  cases d with
  | zero =>
    simp only [curS, preS, fwd]
    rw [seeF_eq _ bl _ _ _ hc hs.1 (by omega)]
    rfl
  | succ d =>
    obtain ⟨s, hs2⟩ := Option.isSome_iff_exists.1 (h d (by omega))
    have hb := fwd_bd hv bl d (by omega) s hs2
    have hg := gain_bd hv (show d < r.ran.length by omega)
    have e1 : fS r bl d = s := by simp [fS, hs2]
    simp only [curS, preS, e1]
    rw [seeF_eq _ bl _ _ _ hc (by simp only [plus]; omega) (by simp only [plus]; omega)]
    simp only [fwd, hs2, Option.bind_some]
    rfl
theorem psF_succ (r : Rm) (bl : List Int) (d : Nat) : updS (psF r bl d) d (fS r bl d) = psF r bl (d + 1) := by
  funext i
  simp only [updS, psF]
  by_cases h1 : i = d
  · subst h1; simp
  · by_cases h2 : i < d
    · simp [h1, h2, show i < d + 1 by omega]
    · simp [h1, h2, show ¬ i < d + 1 by omega]
theorem look_fwd (σ : St) (r : Rm) (but : Nat) (bl : List Int) (e : Env) (K : KJ) (hv : Vd r) (hb : ButIs but bl)
    (e1 : Env.get e 1 = .int .i64 but) (e2 : Env.get e 2 = .ptr σ.length 0) (e6 : Env.get e 6 = .ptr (σ.length + 2) 0) (e7 : Env.get e 7 = .int .i64 r.ran.length) (e25 : Env.get e 25 = .int .i64 ((r.ran.length + 1 : Nat) : Int)) (e26 : Env.get e 26 = .int .i64 0)
    (hK : (∀ i, i ≤ r.ran.length → (fwd r bl i).isSome = true) → ∀ e', Env.get e' 2 = .ptr σ.length 0 → Env.get e' 6 = .ptr (σ.length + 2) 0 → Env.get e' 7 = .int .i64 r.ran.length →
      K (some (.exit 0)) e' (σ ++ [.cells (roomCells r), .map [], .cells (rb r (psF r bl (r.ran.length + 1)) (σ.length + 1))]))
    (hR : fwd r bl r.ran.length = none → ∀ e' ps b, Env.get e' 4 = .ptr (σ.length + 2) 0 → Env.get e' 5 = .bool false → K (some .ret) e' (σ ++ [.cells (roomCells r), .map [], .cells (rb r ps (σ.length + 1)), b])) :
    rK (K := ⟨K⟩) T (.loop L91_0) e (σ ++ [.cells (roomCells r), .map [], .cells (rb r (psF r bl 0) (σ.length + 1))]) := by
  have hll := hv.looksLen
  have hdd := hv.days
  have hdr := hv.ranLen
  have hss := hv.start
  refine loopE (S := Nat) 0 (fun d => d ≤ r.ran.length + 1 ∧ ∀ i, i < d → (fwd r bl i).isSome = true) (fun d => r.ran.length + 1 - d)
    (fun d => [(1, .int .i64 but), (2, .ptr σ.length 0), (6, .ptr (σ.length + 2) 0), (7, .int .i64 r.ran.length), (25, .int .i64 ((r.ran.length + 1 : Nat) : Int)), (26, .int .i64 d)])
    (fun d => σ ++ [.cells (roomCells r), .map [], .cells (rb r (psF r bl d) (σ.length + 1))]) ⟨by simp, by simp⟩ rfl ?_ fun d hd => ?_
  · try simp only [TrimX, QT, QS, q_get, List.length_append, Nat.le_add_right, QC, implies_true, forall_const, ne_eq, not_false_eq_true, not_true_eq_false, Nat.reduceLT, reduceIte, Nat.reduceEqDiff, Nat.reduceAdd, Nat.reduceLeDiff, Nat.reduceMul, Nat.reduceBEq, setE_eq, bits_len, bits_cell, bits_take, bits_drop, bits_zero, Nat.mul_one, Int.toNat_natCast, encRoom_eq, roomCells_eq, encSetting_eq, encLook_eq, encSpan_eq, S_bits, Nat.add_lt_add_iff_left, Nat.lt_add_right_iff_pos, T_sapp, e1, e2, e6, e7, e25, e26]
    try simp
  · obtain ⟨hd, hsome⟩ := hd
    (repeat (first | simp only [↓QP, ↓QD, QR, QV, QS, QC, implies_true, forall_const, ne_eq, not_false_eq_true, not_true_eq_false, Nat.reduceLT, reduceIte, Nat.reduceEqDiff, Nat.reduceAdd, Nat.reduceLeDiff, Nat.reduceMul, Nat.reduceBEq, setE_eq, bits_len, bits_cell, bits_take, bits_drop, bits_zero, Nat.mul_one, Int.toNat_natCast, encRoom_eq, roomCells_eq, encSetting_eq, encLook_eq, encSpan_eq, S_bits, Nat.add_lt_add_iff_left, Nat.lt_add_right_iff_pos, T_sapp, L91_0] | refine rK_dreg0 rfl ?_))
    refine iteP_intro (fun h => ?_) fun h => ?_
    · have hd1 : d < r.ran.length + 1 := by simp at h; omega
      have hw : IntKind.i64.wrap ((d : Int) + 1) = ((d + 1 : Nat) : Int) := wrapN hd1 (by omega)
      have hcur := fwd_cur hv bl d (by omega) hsome
      have hin := look_in σ r but bl (psF r bl d) d (preS r bl d)
      rw [roomCells_eq] at hin
      have hd7 : d < 7 := by omega
      cases h0 : decide ((0 : Int) < (d : Int))
      case' false =>
        have h0' : d = 0 := by simp at h0; omega
        have hpre : preS r bl d = r.start := by rw [h0']; rfl
        have hC : curS r bl d = seeF d bl r.start r.looks 0 := by rw [curS, hpre]
        rw [hpre, ← hC] at hin
        (repeat (first | simp only [↓QP, ↓QD, QR, QV, QS, QC, implies_true, forall_const, ne_eq, not_false_eq_true, not_true_eq_false, Nat.reduceLT, reduceIte, Nat.reduceEqDiff, Nat.reduceAdd, Nat.reduceLeDiff, Nat.reduceMul, Nat.reduceBEq, setE_eq, bits_len, bits_cell, bits_take, bits_drop, bits_zero, Nat.mul_one, Int.toNat_natCast, encRoom_eq, roomCells_eq, encSetting_eq, encLook_eq, encSpan_eq, S_bits, Nat.add_lt_add_iff_left, Nat.lt_add_right_iff_pos, T_sapp, List.length_append, h0] | refine rK_dreg0 rfl ?_))
      case' true =>
        have h0' : 0 < d := by simp at h0; omega
        obtain ⟨k, hdk⟩ : ∃ k, d = k + 1 := ⟨d - 1, by omega⟩
        have hpre : preS r bl d = plus (fS r bl k) (gainAt r k) := by rw [hdk]; rfl
        have hk1 : k < r.ran.length := by omega
        have hk7 : k < 7 := by omega
        have hw2 : IntKind.i64.wrap ((d : Int) - 1) = (k : Int) := by rw [wrap64 ⟨by omega, by omega⟩]; omega
        have hg := hv.ran _ (List.getElem_mem hk1)
        have hg0 : 0 ≤ r.ran[k] := hg.1
        have hg1 : r.ran[k].toNat < r.settings.length := by omega
        have hga := gainAt_eq hk1 hg1
        have hgb := gain_bd hv hk1
        obtain ⟨sp, hsp⟩ := Option.isSome_iff_exists.1 (hsome k (by omega))
        have hfb := fwd_bd hv bl k (by omega) sp hsp
        have hfs : fS r bl k = sp := by simp [fS, hsp]
        have hpk : psF r bl d k = fS r bl k := by simp [psF, show k < d by omega]
        have i1 : (0 : Int) ≤ (k : Int) ∧ (k : Int) < ((7 : Nat) : Int) := ⟨by omega, by omega⟩
        have b1 : 7 + k * 2 + 2 ≤ 22 := by omega
        have t1 := rb_at r (psF r bl d) (σ.length + 1) k hk7
        rw [hpk] at t1
        have hC : curS r bl d = seeF d bl (plus (fS r bl k) r.settings[r.ran[k].toNat].gain) r.looks 0 := by rw [curS, hpre, hga]
        rw [hpre, hga, ← hC] at hin
        rw [hga] at hgb
        (repeat (first | simp only [↓QP, ↓QD, QR, QV, QS, QC, implies_true, forall_const, ne_eq, not_false_eq_true, not_true_eq_false, Nat.reduceLT, reduceIte, Nat.reduceEqDiff, Nat.reduceAdd, Nat.reduceLeDiff, Nat.reduceMul, Nat.reduceBEq, setE_eq, bits_len, bits_cell, bits_take, bits_drop, bits_zero, Nat.mul_one, Int.toNat_natCast, encRoom_eq, roomCells_eq, encSetting_eq, encLook_eq, encSpan_eq, S_bits, Nat.add_lt_add_iff_left, Nat.lt_add_right_iff_pos, T_sapp, List.length_append, h0] | refine rK_dreg0 rfl ?_))
        (repeat (first | simp only [↓QP, ↓QD, QR, QV, QS, QC, implies_true, forall_const, ne_eq, not_false_eq_true, not_true_eq_false, Nat.reduceLT, reduceIte, Nat.reduceEqDiff, Nat.reduceAdd, Nat.reduceLeDiff, Nat.reduceMul, Nat.reduceBEq, setE_eq, bits_len, bits_cell, bits_take, bits_drop, bits_zero, Nat.mul_one, Int.toNat_natCast, encRoom_eq, roomCells_eq, encSetting_eq, encLook_eq, encSpan_eq, S_bits, Nat.add_lt_add_iff_left, Nat.lt_add_right_iff_pos, T_sapp, List.length_append, hw2, i1, b1, t1, rb_len, hk1, V_idxI, hg0, hg1] | refine rK_dreg0 rfl ?_))
        ((first | refine callK_d (pplus_ok (fS r bl k) r.settings[r.ran[k].toNat].gain (by rw [hfs]; omega) (by rw [hfs]; omega) (by rw [hfs]; omega) (by rw [hfs]; omega)) rfl (by repeat (first | exact datas_nil | refine datas_cons ?_ ?_ | exact data_int _ _ | exact data_ints _ | exact data_span _ | exact data_bool _ | exact data_str _ | exact data_strs _ | exact data_room _ | exact data_set _ | exact data_intss _ | exact data_days _)) ?_ | refine callD_d (pplus_ok (fS r bl k) r.settings[r.ran[k].toNat].gain (by rw [hfs]; omega) (by rw [hfs]; omega) (by rw [hfs]; omega) (by rw [hfs]; omega)) rfl (by repeat (first | exact datas_nil | refine datas_cons ?_ ?_ | exact data_int _ _ | exact data_ints _ | exact data_span _ | exact data_bool _ | exact data_str _ | exact data_strs _ | exact data_room _ | exact data_set _ | exact data_intss _ | exact data_days _)) ?_); (repeat (first | simp only [↓QP, ↓QD, QR, QV, QS, QC, implies_true, forall_const, ne_eq, not_false_eq_true, not_true_eq_false, Nat.reduceLT, reduceIte, Nat.reduceEqDiff, Nat.reduceAdd, Nat.reduceLeDiff, Nat.reduceMul, Nat.reduceBEq, setE_eq, bits_len, bits_cell, bits_take, bits_drop, bits_zero, Nat.mul_one, Int.toNat_natCast, encRoom_eq, roomCells_eq, encSetting_eq, encLook_eq, encSpan_eq, S_bits, Nat.add_lt_add_iff_left, Nat.lt_add_right_iff_pos, T_sapp, List.length_append, hw2, i1, b1, t1, rb_len, hk1, V_idxI, hg0, hg1] | refine rK_dreg0 rfl ?_)))
      all_goals
        refine hin _ _ hv hb ?_ ?_ ?_ ?_ ?_ ?_ ?_ ?_ ?_ ?_ ?_ ?_
        any_goals try simp only [TrimX, QT, QS, q_get, List.length_append, Nat.le_add_right, QC, implies_true, forall_const, ne_eq, not_false_eq_true, not_true_eq_false, Nat.reduceLT, reduceIte, Nat.reduceEqDiff, Nat.reduceAdd, Nat.reduceLeDiff, Nat.reduceMul, Nat.reduceBEq, setE_eq, bits_len, bits_cell, bits_take, bits_drop, bits_zero, Nat.mul_one, Int.toNat_natCast, encRoom_eq, roomCells_eq, encSetting_eq, encLook_eq, encSpan_eq, S_bits, Nat.add_lt_add_iff_left, Nat.lt_add_right_iff_pos, T_sapp]
        intro e' q1 q2 q6 q7 q8 q9 q25 q26
        (repeat (first | simp only [↓QP, ↓QD, QR, QV, QS, QC, implies_true, forall_const, ne_eq, not_false_eq_true, not_true_eq_false, Nat.reduceLT, reduceIte, Nat.reduceEqDiff, Nat.reduceAdd, Nat.reduceLeDiff, Nat.reduceMul, Nat.reduceBEq, setE_eq, bits_len, bits_cell, bits_take, bits_drop, bits_zero, Nat.mul_one, Int.toNat_natCast, encRoom_eq, roomCells_eq, encSetting_eq, encLook_eq, encSpan_eq, S_bits, Nat.add_lt_add_iff_left, Nat.lt_add_right_iff_pos, T_sapp, q1, q2, q6, q7, q8, q9, q25, q26] | refine rK_dreg0 rfl ?_))
        cases hlt : decide ((curS r bl d).hi < (curS r bl d).lo)
        · have hlt' : ¬ (curS r bl d).hi < (curS r bl d).lo := by simpa using hlt
          have hne : fwd r bl d = some (curS r bl d) := by rw [hcur, ne, if_pos (by omega)]
          have hfd : fS r bl d = curS r bl d := by simp [fS, hne]
          have j1 : (0 : Int) ≤ (d : Int) ∧ (d : Int) < ((7 : Nat) : Int) := ⟨by omega, by omega⟩
          have c1 : 7 + d * 2 + 2 ≤ 22 := by omega
          have u1 := rb_set r (psF r bl d) (σ.length + 1) (curS r bl d) d hd7
          rw [← hfd, psF_succ] at u1
          (repeat (first | simp only [↓QP, ↓QD, QR, QV, QS, QC, implies_true, forall_const, ne_eq, not_false_eq_true, not_true_eq_false, Nat.reduceLT, reduceIte, Nat.reduceEqDiff, Nat.reduceAdd, Nat.reduceLeDiff, Nat.reduceMul, Nat.reduceBEq, setE_eq, bits_len, bits_cell, bits_take, bits_drop, bits_zero, Nat.mul_one, Int.toNat_natCast, encRoom_eq, roomCells_eq, encSetting_eq, encLook_eq, encSpan_eq, S_bits, Nat.add_lt_add_iff_left, Nat.lt_add_right_iff_pos, T_sapp, hlt, ← hfd, q1, q2, q6, q7, q8, q9, q25, q26, j1, c1, u1, rb_len] | refine rK_dreg0 rfl ?_))
          refine ⟨d + 1, ⟨by omega, fun i hi => ?_⟩, by omega, ?_⟩
          · by_cases hid : i = d
            · rw [hid, hne]; rfl
            · exact hsome i (by omega)
          · try simp only [TrimX, QT, QS, q_get, List.length_append, Nat.le_add_right, QC, implies_true, forall_const, ne_eq, not_false_eq_true, not_true_eq_false, Nat.reduceLT, reduceIte, Nat.reduceEqDiff, Nat.reduceAdd, Nat.reduceLeDiff, Nat.reduceMul, Nat.reduceBEq, setE_eq, bits_len, bits_cell, bits_take, bits_drop, bits_zero, Nat.mul_one, Int.toNat_natCast, encRoom_eq, roomCells_eq, encSetting_eq, encLook_eq, encSpan_eq, S_bits, Nat.add_lt_add_iff_left, Nat.lt_add_right_iff_pos, T_sapp, q1, q2, q6, q7, q8, q9, q25, q26, hw]
            have := rb_ok r (psF r bl (d + 1)) (show σ.length + 1 < σ.length + 3 by omega)
            simp [okBlk, this]
        · have hlt' : (curS r bl d).hi < (curS r bl d).lo := by simpa using hlt
          have hnone : fwd r bl d = none := by rw [hcur, ne, if_neg (by omega)]
          have hlast : fwd r bl r.ran.length = none := by
            cases hf : fwd r bl r.ran.length with
            | none => rfl
            | some x =>
              have := fwd_some (r := r) (but := bl) (d := r.ran.length) (e := d) (by omega) (by rw [hf]; rfl)
              rw [hnone] at this
              cases this
          (repeat (first | simp only [↓QP, ↓QD, QR, QV, QS, QC, implies_true, forall_const, ne_eq, not_false_eq_true, not_true_eq_false, Nat.reduceLT, reduceIte, Nat.reduceEqDiff, Nat.reduceAdd, Nat.reduceLeDiff, Nat.reduceMul, Nat.reduceBEq, setE_eq, bits_len, bits_cell, bits_take, bits_drop, bits_zero, Nat.mul_one, Int.toNat_natCast, encRoom_eq, roomCells_eq, encSetting_eq, encLook_eq, encSpan_eq, S_bits, Nat.add_lt_add_iff_left, Nat.lt_add_right_iff_pos, T_sapp, hlt, q1, q2, q6, q7, q8, q9, q25, q26] | refine rK_dreg0 rfl ?_))
          have hr := hR hlast
          rw [roomCells_eq] at hr
          refine hr _ _ _ ?_ ?_
          all_goals try simp only [TrimX, QT, QS, q_get, List.length_append, Nat.le_add_right, QC, implies_true, forall_const, ne_eq, not_false_eq_true, not_true_eq_false, Nat.reduceLT, reduceIte, Nat.reduceEqDiff, Nat.reduceAdd, Nat.reduceLeDiff, Nat.reduceMul, Nat.reduceBEq, setE_eq, bits_len, bits_cell, bits_take, bits_drop, bits_zero, Nat.mul_one, Int.toNat_natCast, encRoom_eq, roomCells_eq, encSetting_eq, encLook_eq, encSpan_eq, S_bits, Nat.add_lt_add_iff_left, Nat.lt_add_right_iff_pos, T_sapp, q6]
    · have hd1 : d = r.ran.length + 1 := by simp at h; omega
      subst hd1
      (repeat (first | simp only [↓QP, ↓QD, QR, QV, QS, QC, implies_true, forall_const, ne_eq, not_false_eq_true, not_true_eq_false, Nat.reduceLT, reduceIte, Nat.reduceEqDiff, Nat.reduceAdd, Nat.reduceLeDiff, Nat.reduceMul, Nat.reduceBEq, setE_eq, bits_len, bits_cell, bits_take, bits_drop, bits_zero, Nat.mul_one, Int.toNat_natCast, encRoom_eq, roomCells_eq, encSetting_eq, encLook_eq, encSpan_eq, S_bits, Nat.add_lt_add_iff_left, Nat.lt_add_right_iff_pos, T_sapp] | refine rK_dreg0 rfl ?_))
      have hk := hK (fun i hi => hsome i (by omega))
      rw [roomCells_eq] at hk
      refine hk _ ?_ ?_ ?_
      all_goals try simp only [TrimX, QT, QS, q_get, List.length_append, Nat.le_add_right, QC, implies_true, forall_const, ne_eq, not_false_eq_true, not_true_eq_false, Nat.reduceLT, reduceIte, Nat.reduceEqDiff, Nat.reduceAdd, Nat.reduceLeDiff, Nat.reduceMul, Nat.reduceBEq, setE_eq, bits_len, bits_cell, bits_take, bits_drop, bits_zero, Nat.mul_one, Int.toNat_natCast, encRoom_eq, roomCells_eq, encSetting_eq, encLook_eq, encSpan_eq, S_bits, Nat.add_lt_add_iff_left, Nat.lt_add_right_iff_pos, T_sapp]
end Go.Am.Room
set_option linter.unusedVariables false
set_option linter.unusedSimpArgs false
set_option maxRecDepth 4000
namespace Go.Am.Room
/-- The points after so many days of a pass. -/
def passK (r : Rm) (ps : Nat → Span) (k : Nat) : Nat → Span := fun i => if i < k then both (ps i) (back (ps (i + 1)) (gainAt r i)) else ps i
theorem passK_0 (r : Rm) (ps : Nat → Span) : passK r ps 0 = ps := by funext i; simp [passK]
theorem passK_succ (r : Rm) (ps : Nat → Span) (k : Nat) : updS (passK r ps k) k (both (ps k) (back (ps (k + 1)) (gainAt r k))) = passK r ps (k + 1) := by
  funext i
  simp only [updS, passK]
  by_cases h1 : i = k
  · subst h1; simp
  · by_cases h2 : i < k
    · simp [h1, h2, show i < k + 1 by omega]
    · simp [h1, h2, show ¬ i < k + 1 by omega]
theorem look_pass (σ τ : St) (r : Rm) (ps : Nat → Span) (j : Nat) (e : Env) (K : KJ) (hv : Vd r) (hps : ∀ i, -1000 ≤ (ps i).lo ∧ (ps i).lo ≤ 1000 ∧ -1000 ≤ (ps i).hi ∧ (ps i).hi ≤ 1000) (hj : j < τ.length + 3)
    (e2 : Env.get e 2 = .ptr σ.length 0) (e6 : Env.get e 6 = .ptr (σ.length + 2) 0) (e7 : Env.get e 7 = .int .i64 r.ran.length) (e12 : Env.get e 12 = .ptr (σ.length + j) 0) (e101 : Env.get e 101 = .int .i64 r.ran.length) (e102 : Env.get e 102 = .int .i64 0)
    (hK : ∀ e', Env.get e' 2 = .ptr σ.length 0 → Env.get e' 6 = .ptr (σ.length + 2) 0 → Env.get e' 7 = .int .i64 r.ran.length → Env.get e' 12 = .ptr (σ.length + j) 0 →
      K (some (.exit 6)) e' (σ ++ (.cells (roomCells r) :: .map [] :: .cells (rb r (passK r ps r.ran.length) (σ.length + 1)) :: τ))) :
    rK (K := ⟨K⟩) T (.loop L91_6) e (σ ++ (.cells (roomCells r) :: .map [] :: .cells (rb r ps (σ.length + 1)) :: τ)) := by
  have hdd := hv.days
  have hdr := hv.ranLen
  refine loopE (S := Nat) 0 (fun k => k ≤ r.ran.length) (fun k => r.ran.length - k)
    (fun k => [(2, .ptr σ.length 0), (6, .ptr (σ.length + 2) 0), (7, .int .i64 r.ran.length), (12, .ptr (σ.length + j) 0), (101, .int .i64 r.ran.length), (102, .int .i64 k)])
    (fun k => σ ++ (.cells (roomCells r) :: .map [] :: .cells (rb r (passK r ps k) (σ.length + 1)) :: τ)) (Nat.zero_le _) (by rw [passK_0]) ?_ fun k hk => ?_
  · try simp only [TrimX, QT, QS, q_get, List.length_append, Nat.le_add_right, QC, implies_true, forall_const, ne_eq, not_false_eq_true, not_true_eq_false, Nat.reduceLT, reduceIte, Nat.reduceEqDiff, Nat.reduceAdd, Nat.reduceLeDiff, Nat.reduceMul, Nat.reduceBEq, setE_eq, bits_len, bits_cell, bits_take, bits_drop, bits_zero, Nat.mul_one, Int.toNat_natCast, encRoom_eq, roomCells_eq, encSetting_eq, encLook_eq, encSpan_eq, S_bits, Nat.add_lt_add_iff_left, Nat.lt_add_right_iff_pos, T_sapp, e2, e6, e7, e12, e101, e102]
    try simp
  · (repeat (first | simp only [↓QP, ↓QD, QR, QV, QS, QC, implies_true, forall_const, ne_eq, not_false_eq_true, not_true_eq_false, Nat.reduceLT, reduceIte, Nat.reduceEqDiff, Nat.reduceAdd, Nat.reduceLeDiff, Nat.reduceMul, Nat.reduceBEq, setE_eq, bits_len, bits_cell, bits_take, bits_drop, bits_zero, Nat.mul_one, Int.toNat_natCast, encRoom_eq, roomCells_eq, encSetting_eq, encLook_eq, encSpan_eq, S_bits, Nat.add_lt_add_iff_left, Nat.lt_add_right_iff_pos, T_sapp, L91_6] | refine rK_dreg0 rfl ?_))
    refine iteP_intro (fun h => ?_) fun h => ?_
    · have hk1 : k < r.ran.length := by simp at h; omega
      have hk7 : k < 7 := by omega
      have hk8 : k + 1 < 7 := by omega
      have hw := wrapN hk1 (by omega)
      have hg := hv.ran _ (List.getElem_mem hk1)
      have hg0 : 0 ≤ r.ran[k] := hg.1
      have hg1 : r.ran[k].toNat < r.settings.length := by omega
      have hga := gainAt_eq hk1 hg1
      have hgb := gain_bd hv hk1
      rw [hga] at hgb
      have hb1 := hps (k + 1)
      have p1 : passK r ps k (k + 1) = ps (k + 1) := by simp [passK]; omega
      have p0 : passK r ps k k = ps k := by simp [passK]
      have i1 : (0 : Int) ≤ (k : Int) ∧ (k : Int) < ((7 : Nat) : Int) := ⟨by omega, by omega⟩
      have i2 : (0 : Int) ≤ ((k + 1 : Nat) : Int) ∧ ((k + 1 : Nat) : Int) < ((7 : Nat) : Int) := ⟨by omega, by omega⟩
      have c1 : 7 + k * 2 + 2 ≤ 22 := by omega
      have c2 : 7 + (k + 1) * 2 + 2 ≤ 22 := by omega
      have t0 := rb_at r (passK r ps k) (σ.length + 1) k hk7
      have t1 := rb_lo r (passK r ps k) (σ.length + 1) (k + 1) hk8
      have t2 := rb_hi r (passK r ps k) (σ.length + 1) (k + 1) hk8
      rw [p0] at t0
      rw [p1] at t1 t2
      have w1 : IntKind.i64.wrap ((ps (k + 1)).lo - r.settings[r.ran[k].toNat].gain.hi) = (ps (k + 1)).lo - r.settings[r.ran[k].toNat].gain.hi := wrap64 ⟨by omega, by omega⟩
      have w2 : IntKind.i64.wrap ((ps (k + 1)).hi - r.settings[r.ran[k].toNat].gain.lo) = (ps (k + 1)).hi - r.settings[r.ran[k].toNat].gain.lo := wrap64 ⟨by omega, by omega⟩
      obtain ⟨N, hN⟩ : ∃ N, both (ps k) (back (ps (k + 1)) r.settings[r.ran[k].toNat].gain) = N := ⟨_, rfl⟩
      have hbk : back (ps (k + 1)) r.settings[r.ran[k].toNat].gain = ⟨(ps (k + 1)).lo - r.settings[r.ran[k].toNat].gain.hi, (ps (k + 1)).hi - r.settings[r.ran[k].toNat].gain.lo⟩ := rfl
      have hbo := pboth_ok (ps k) (back (ps (k + 1)) r.settings[r.ran[k].toNat].gain)
      rw [hN, hbk] at hbo
      have ku := passK_succ r ps k
      rw [hga, hN] at ku
      (repeat (first | simp only [↓QP, ↓QD, QR, QV, QS, QC, implies_true, forall_const, ne_eq, not_false_eq_true, not_true_eq_false, Nat.reduceLT, reduceIte, Nat.reduceEqDiff, Nat.reduceAdd, Nat.reduceLeDiff, Nat.reduceMul, Nat.reduceBEq, setE_eq, bits_len, bits_cell, bits_take, bits_drop, bits_zero, Nat.mul_one, Int.toNat_natCast, encRoom_eq, roomCells_eq, encSetting_eq, encLook_eq, encSpan_eq, S_bits, Nat.add_lt_add_iff_left, Nat.lt_add_right_iff_pos, T_sapp, List.length_append] | refine rK_dreg0 rfl ?_))
      refine rK_dreg1 [.cells [.int .i64 0, .int .i64 0]] rfl ?_
      (repeat (first | simp only [↓QP, ↓QD, QR, QV, QS, QC, implies_true, forall_const, ne_eq, not_false_eq_true, not_true_eq_false, Nat.reduceLT, reduceIte, Nat.reduceEqDiff, Nat.reduceAdd, Nat.reduceLeDiff, Nat.reduceMul, Nat.reduceBEq, setE_eq, bits_len, bits_cell, bits_take, bits_drop, bits_zero, Nat.mul_one, Int.toNat_natCast, encRoom_eq, roomCells_eq, encSetting_eq, encLook_eq, encSpan_eq, S_bits, Nat.add_lt_add_iff_left, Nat.lt_add_right_iff_pos, T_sapp, List.length_append, hk1, V_idxI, hg0, hg1] | refine rK_dreg0 rfl ?_))
      refine rK_dreg1 [.cells [.int .i64 0, .int .i64 0]] rfl ?_
      (repeat (first | simp only [↓QP, ↓QD, QR, QV, QS, QC, implies_true, forall_const, ne_eq, not_false_eq_true, not_true_eq_false, Nat.reduceLT, reduceIte, Nat.reduceEqDiff, Nat.reduceAdd, Nat.reduceLeDiff, Nat.reduceMul, Nat.reduceBEq, setE_eq, bits_len, bits_cell, bits_take, bits_drop, bits_zero, Nat.mul_one, Int.toNat_natCast, encRoom_eq, roomCells_eq, encSetting_eq, encLook_eq, encSpan_eq, S_bits, Nat.add_lt_add_iff_left, Nat.lt_add_right_iff_pos, T_sapp, List.length_append, hw, i2, c2, Nat.add_zero, t1, t2, rb_len, w1, w2] | refine rK_dreg0 rfl ?_))
      refine rK_dreg1 [.cells [.int .i64 0, .int .i64 0]] rfl ?_
      (repeat (first | simp only [↓QP, ↓QD, QR, QV, QS, QC, implies_true, forall_const, ne_eq, not_false_eq_true, not_true_eq_false, Nat.reduceLT, reduceIte, Nat.reduceEqDiff, Nat.reduceAdd, Nat.reduceLeDiff, Nat.reduceMul, Nat.reduceBEq, setE_eq, bits_len, bits_cell, bits_take, bits_drop, bits_zero, Nat.mul_one, Int.toNat_natCast, encRoom_eq, roomCells_eq, encSetting_eq, encLook_eq, encSpan_eq, S_bits, Nat.add_lt_add_iff_left, Nat.lt_add_right_iff_pos, T_sapp, List.length_append, i1, c1, t0, rb_len] | refine rK_dreg0 rfl ?_))
      ((first | refine callK_d (hbo) rfl (by repeat (first | exact datas_nil | refine datas_cons ?_ ?_ | exact data_int _ _ | exact data_ints _ | exact data_span _ | exact data_bool _ | exact data_str _ | exact data_strs _ | exact data_room _ | exact data_set _ | exact data_intss _ | exact data_days _)) ?_ | refine callD_d (hbo) rfl (by repeat (first | exact datas_nil | refine datas_cons ?_ ?_ | exact data_int _ _ | exact data_ints _ | exact data_span _ | exact data_bool _ | exact data_str _ | exact data_strs _ | exact data_room _ | exact data_set _ | exact data_intss _ | exact data_days _)) ?_); (repeat (first | simp only [↓QP, ↓QD, QR, QV, QS, QC, implies_true, forall_const, ne_eq, not_false_eq_true, not_true_eq_false, Nat.reduceLT, reduceIte, Nat.reduceEqDiff, Nat.reduceAdd, Nat.reduceLeDiff, Nat.reduceMul, Nat.reduceBEq, setE_eq, bits_len, bits_cell, bits_take, bits_drop, bits_zero, Nat.mul_one, Int.toNat_natCast, encRoom_eq, roomCells_eq, encSetting_eq, encLook_eq, encSpan_eq, S_bits, Nat.add_lt_add_iff_left, Nat.lt_add_right_iff_pos, T_sapp, List.length_append, i1, c1, t0, rb_len] | refine rK_dreg0 rfl ?_)))
      have hrb := rb_ok r (passK r ps (k + 1)) (show σ.length + 1 < σ.length + (τ.length + 3) by omega)
      have u1 := rb_set r (passK r ps k) (σ.length + 1) N k hk7
      rw [ku] at u1
      cases hc : (N.lo == (ps k).lo && N.hi == (ps k).hi)
      · (repeat (first | simp only [↓QP, ↓QD, QR, QV, QS, QC, implies_true, forall_const, ne_eq, not_false_eq_true, not_true_eq_false, Nat.reduceLT, reduceIte, Nat.reduceEqDiff, Nat.reduceAdd, Nat.reduceLeDiff, Nat.reduceMul, Nat.reduceBEq, setE_eq, bits_len, bits_cell, bits_take, bits_drop, bits_zero, Nat.mul_one, Int.toNat_natCast, encRoom_eq, roomCells_eq, encSetting_eq, encLook_eq, encSpan_eq, S_bits, Nat.add_lt_add_iff_left, Nat.lt_add_right_iff_pos, T_sapp, List.length_append, i1, c1, t0, rb_len, u1] | refine rK_dreg0 rfl ?_))
        refine ⟨k + 1, hk1, by omega, ?_⟩
        try simp only [TrimX, QT, QS, q_get, List.length_append, Nat.le_add_right, QC, implies_true, forall_const, ne_eq, not_false_eq_true, not_true_eq_false, Nat.reduceLT, reduceIte, Nat.reduceEqDiff, Nat.reduceAdd, Nat.reduceLeDiff, Nat.reduceMul, Nat.reduceBEq, setE_eq, bits_len, bits_cell, bits_take, bits_drop, bits_zero, Nat.mul_one, Int.toNat_natCast, encRoom_eq, roomCells_eq, encSetting_eq, encLook_eq, encSpan_eq, S_bits, Nat.add_lt_add_iff_left, Nat.lt_add_right_iff_pos, T_sapp, hw, T_sr, List.length_append]
        try simp [okBlk, hrb, Nat.add_assoc]
        omega
      · have hN2 : N = ps k := by
          simp only [Bool.and_eq_true, beq_iff_eq] at hc
          obtain ⟨a, b⟩ := N
          obtain ⟨x, y⟩ : ∃ s, s = ps k := ⟨_, rfl⟩
          rw [← y] at hc ⊢
          obtain ⟨c, d⟩ := x
          simp only [Span.mk.injEq] at *
          exact hc
        have hsame : passK r ps (k + 1) = passK r ps k := by
          rw [← ku, hN2, ← p0]
          funext i
          simp only [updS]
          split
          · rename_i h; rw [h]
          · rfl
        (repeat (first | simp only [↓QP, ↓QD, QR, QV, QS, QC, implies_true, forall_const, ne_eq, not_false_eq_true, not_true_eq_false, Nat.reduceLT, reduceIte, Nat.reduceEqDiff, Nat.reduceAdd, Nat.reduceLeDiff, Nat.reduceMul, Nat.reduceBEq, setE_eq, bits_len, bits_cell, bits_take, bits_drop, bits_zero, Nat.mul_one, Int.toNat_natCast, encRoom_eq, roomCells_eq, encSetting_eq, encLook_eq, encSpan_eq, S_bits, Nat.add_lt_add_iff_left, Nat.lt_add_right_iff_pos, T_sapp, List.length_append] | refine rK_dreg0 rfl ?_))
        refine ⟨k + 1, hk1, by omega, ?_⟩
        rw [hsame]
        try simp only [TrimX, QT, QS, q_get, List.length_append, Nat.le_add_right, QC, implies_true, forall_const, ne_eq, not_false_eq_true, not_true_eq_false, Nat.reduceLT, reduceIte, Nat.reduceEqDiff, Nat.reduceAdd, Nat.reduceLeDiff, Nat.reduceMul, Nat.reduceBEq, setE_eq, bits_len, bits_cell, bits_take, bits_drop, bits_zero, Nat.mul_one, Int.toNat_natCast, encRoom_eq, roomCells_eq, encSetting_eq, encLook_eq, encSpan_eq, S_bits, Nat.add_lt_add_iff_left, Nat.lt_add_right_iff_pos, T_sapp, hw, T_sr, List.length_append]
        rw [hsame] at hrb
        simp [okBlk, hrb, Nat.add_assoc]
        omega
    · have hk1 : k = r.ran.length := by simp at h; omega
      subst hk1
      (repeat (first | simp only [↓QP, ↓QD, QR, QV, QS, QC, implies_true, forall_const, ne_eq, not_false_eq_true, not_true_eq_false, Nat.reduceLT, reduceIte, Nat.reduceEqDiff, Nat.reduceAdd, Nat.reduceLeDiff, Nat.reduceMul, Nat.reduceBEq, setE_eq, bits_len, bits_cell, bits_take, bits_drop, bits_zero, Nat.mul_one, Int.toNat_natCast, encRoom_eq, roomCells_eq, encSetting_eq, encLook_eq, encSpan_eq, S_bits, Nat.add_lt_add_iff_left, Nat.lt_add_right_iff_pos, T_sapp] | refine rK_dreg0 rfl ?_))
      have hk := hK
      rw [roomCells_eq] at hk
      refine hk _ ?_ ?_ ?_ ?_
      all_goals try simp only [TrimX, QT, QS, q_get, List.length_append, Nat.le_add_right, QC, implies_true, forall_const, ne_eq, not_false_eq_true, not_true_eq_false, Nat.reduceLT, reduceIte, Nat.reduceEqDiff, Nat.reduceAdd, Nat.reduceLeDiff, Nat.reduceMul, Nat.reduceBEq, setE_eq, bits_len, bits_cell, bits_take, bits_drop, bits_zero, Nat.mul_one, Int.toNat_natCast, encRoom_eq, roomCells_eq, encSetting_eq, encLook_eq, encSpan_eq, S_bits, Nat.add_lt_add_iff_left, Nat.lt_add_right_iff_pos, T_sapp]
end Go.Am.Room
set_option linter.unusedVariables false
set_option linter.unusedSimpArgs false
namespace Go.Am.Room
def bS (r : Rm) (bl : List Int) (i : Nat) : Span := (bwd r bl (r.ran.length - i)).getD ⟨0, 0⟩
def psB (r : Rm) (bl : List Int) : Nat → Span := fun i => if i ≤ r.ran.length then bS r bl i else ⟨0, 0⟩
def Sub (a b : Span) : Prop := b.lo ≤ a.lo ∧ a.hi ≤ b.hi
theorem Sub.antisymm {a b : Span} (h1 : Sub a b) (h2 : Sub b a) : a = b := by
  cases a; cases b
  simp only [Sub, Span.mk.injEq] at *
  omega
theorem bS_facts {r : Rm} (hv : Vd r) {bl : List Int} (hs : (fwd r bl r.ran.length).isSome = true) (i : Nat) (hi : i ≤ r.ran.length) : 0 ≤ (bS r bl i).lo ∧ (bS r bl i).lo ≤ (bS r bl i).hi ∧ (bS r bl i).hi < 160 ∧ Sub (bS r bl i) (fS r bl i) := by
  obtain ⟨b, f, h1, h2, h3, h4⟩ := bwd_some hv hs (r.ran.length - i) (by omega)
  have hb := bwd_bd hv bl _ (by omega) b h1
  rw [show r.ran.length - (r.ran.length - i) = i by omega] at h2
  have e1 : bS r bl i = b := by simp [bS, h1]
  have e2 : fS r bl i = f := by simp [fS, h2]
  rw [e1, e2]
  exact ⟨hb.1, hb.2.1, hb.2.2, h3, h4⟩
theorem bS_last (r : Rm) (bl : List Int) : bS r bl r.ran.length = fS r bl r.ran.length := by simp [bS, fS, bwd]
theorem bS_step {r : Rm} (hv : Vd r) {bl : List Int} (hs : (fwd r bl r.ran.length).isSome = true) (i : Nat) (hi : i < r.ran.length) : bS r bl i = both (fS r bl i) (back (bS r bl (i + 1)) (gainAt r i)) := by
  obtain ⟨b, f, h1, h2, h3, h4⟩ := bwd_some hv hs (r.ran.length - i) (by omega)
  obtain ⟨b', f', h1', h2', h3', h4'⟩ := bwd_some hv hs (r.ran.length - (i + 1)) (by omega)
  rw [show r.ran.length - (r.ran.length - i) = i by omega] at h2
  have e1 : bS r bl i = b := by simp [bS, h1]
  have e2 : fS r bl i = f := by simp [fS, h2]
  have e3 : bS r bl (i + 1) = b' := by simp [bS, h1']
  rw [e1, e2, e3]
  rw [show r.ran.length - i = (r.ran.length - (i + 1)) + 1 by omega] at h1
  simp only [bwd, h1', Option.bind_some] at h1
  rw [show r.ran.length - (r.ran.length - (i + 1) + 1) = i by omega, h2] at h1
  simp only [Option.bind_some, ne] at h1
  split at h1
  · exact (Option.some.inj h1).symm
  · cases h1
structure Inv (r : Rm) (bl : List Int) (j : Nat) (ps : Nat → Span) : Prop where
  inn : ∀ i, i ≤ r.ran.length → Sub (bS r bl i) (ps i) ∧ Sub (ps i) (fS r bl i)
  out : ∀ i, r.ran.length < i → ps i = ⟨0, 0⟩
  eq : ∀ i, i ≤ r.ran.length → r.ran.length ≤ i + j → ps i = bS r bl i
theorem inv_start {r : Rm} (hv : Vd r) {bl : List Int} (hs : (fwd r bl r.ran.length).isSome = true) : Inv r bl 0 (psF r bl (r.ran.length + 1)) := by
  refine ⟨fun i hi => ?_, fun i hi => ?_, fun i hi h2 => ?_⟩
  · have := (bS_facts hv hs i hi).2.2.2
    simp only [psF, show i < r.ran.length + 1 by omega, if_true]
    exact ⟨this, by simp [Sub]⟩
  · simp only [psF, show ¬ i < r.ran.length + 1 by omega, if_false]
  · have : i = r.ran.length := by omega
    subst this
    simp [psF, bS_last]
theorem both_sub {a b c : Span} (h1 : Sub c a) (h2 : Sub c b) : Sub c (both a b) := by simp only [Sub, both] at *; omega
theorem back_sub {a b g : Span} (h : Sub a b) : Sub (back a g) (back b g) := by simp only [Sub, back] at *; omega
theorem sub_trans {a b c : Span} (h1 : Sub a b) (h2 : Sub b c) : Sub a c := by simp only [Sub] at *; omega
theorem both_l (a b : Span) : Sub (both a b) a := by simp only [Sub, both]; omega
theorem both_r (a b : Span) : Sub (both a b) b := by simp only [Sub, both]; omega
theorem inv_step {r : Rm} (hv : Vd r) {bl : List Int} (hs : (fwd r bl r.ran.length).isSome = true) {j : Nat} {ps : Nat → Span} (h : Inv r bl j ps) : Inv r bl (j + 1) (passK r ps r.ran.length) := by
  have key : ∀ i, i < r.ran.length → Sub (bS r bl i) (both (ps i) (back (ps (i + 1)) (gainAt r i))) := fun i hi => by
    have e := bS_step hv hs i hi
    refine both_sub (h.inn i (by omega)).1 ?_
    rw [e]
    exact sub_trans (both_r _ _) (back_sub (h.inn (i + 1) hi).1)
  refine ⟨fun i hi => ?_, fun i hi => ?_, fun i hi h2 => ?_⟩
  · by_cases hl : i < r.ran.length
    · simp only [passK, hl, if_true]
      exact ⟨key i hl, sub_trans (both_l _ _) (h.inn i hi).2⟩
    · simp only [passK, hl, if_false]
      exact h.inn i hi
  · simp only [passK, show ¬ i < r.ran.length by omega, if_false]
    exact h.out i hi
  · by_cases hl : i < r.ran.length
    · simp only [passK, hl, if_true]
      refine Sub.antisymm ?_ (key i hl)
      rw [bS_step hv hs i hl, h.eq (i + 1) hl (by omega)]
      exact both_sub (sub_trans (both_l _ _) (h.inn i hi).2) (both_r _ _)
    · simp only [passK, hl, if_false]
      exact h.eq i hi (by omega)
theorem inv_bd {r : Rm} (hv : Vd r) {bl : List Int} (hs : (fwd r bl r.ran.length).isSome = true) {j : Nat} {ps : Nat → Span} (h : Inv r bl j ps) (i : Nat) : -1000 ≤ (ps i).lo ∧ (ps i).lo ≤ 1000 ∧ -1000 ≤ (ps i).hi ∧ (ps i).hi ≤ 1000 := by
  by_cases hi : i ≤ r.ran.length
  · obtain ⟨h1, h2⟩ := h.inn i hi
    have h3 := bS_facts hv hs i hi
    have hdd := hv.days
    have hdr := hv.ranLen
    obtain ⟨f, hf⟩ := Option.isSome_iff_exists.1 (fwd_some (r := r) (but := bl) (d := r.ran.length) hi hs)
    have h4 := fwd_bd hv bl i hi f hf
    have e2 : fS r bl i = f := by simp [fS, hf]
    rw [e2] at h2
    simp only [Sub] at *
    omega
  · rw [h.out i (by omega)]; simp
theorem inv_fix {r : Rm} (hv : Vd r) {bl : List Int} (hs : (fwd r bl r.ran.length).isSome = true) {j : Nat} {ps : Nat → Span} (h : Inv r bl j ps) (hf : ∀ i, i < r.ran.length → ps i = passK r ps r.ran.length i) : ∀ k i, i + k = r.ran.length → ps i = bS r bl i
  | 0, i, hi => h.eq i (by omega) (by omega)
  | k + 1, i, hi => by
    have ih := inv_fix hv hs h hf k (i + 1) (by omega)
    have hl : i < r.ran.length := by omega
    have e := hf i hl
    simp only [passK, hl, if_true, ih] at e
    refine Sub.antisymm ?_ (h.inn i (by omega)).1
    rw [bS_step hv hs i hl]
    refine both_sub (h.inn i (by omega)).2 ?_
    rw [e]
    exact both_r _ _
/-- A state of the passes: the points ahead of the last pass, and those behind it. -/
structure PInv (r : Rm) (bl : List Int) (j : Nat) (was ps : Nat → Span) : Prop where
  now : Inv r bl j ps
  le : j ≤ r.ran.length + 1
  first : j = 0 → was = fun _ => ⟨0, 0⟩
  later : 1 ≤ j → Inv r bl (j - 1) was ∧ ps = passK r was r.ran.length
theorem pinv_exit {r : Rm} (hv : Vd r) {bl : List Int} (hs : (fwd r bl r.ran.length).isSome = true) {j : Nat} {was ps : Nat → Span} (h : PInv r bl j was ps) (he : samePts was ps = true) (i : Nat) (hi : i < 7) : ps i = psB r bl i := by
  rw [samePts_iff] at he
  have hdd := hv.days
  have hdr := hv.ranLen
  by_cases hl : i ≤ r.ran.length
  · simp only [psB, hl, if_true]
    by_cases hj : j = 0
    · have h0 := he i hi
      rw [h.first hj] at h0
      obtain ⟨h1, _⟩ := h.now.inn i hl
      have h3 := bS_facts hv hs i hl
      rw [← h0] at h1 ⊢
      refine Sub.antisymm ?_ h1
      simp only [Sub] at *
      omega
    · obtain ⟨h1, h2⟩ := h.later (by omega)
      have hw : was i = bS r bl i := inv_fix hv hs h1 (fun i hi => by rw [← h2]; exact he i (by omega)) (r.ran.length - i) i (by omega)
      rw [← hw, he i hi]
  · simp only [psB, hl, if_false]
    exact h.now.out i (by omega)
theorem pinv_next {r : Rm} (hv : Vd r) {bl : List Int} (hs : (fwd r bl r.ran.length).isSome = true) {j : Nat} {was ps : Nat → Span} (h : PInv r bl j was ps) (he : samePts was ps = false) : j ≤ r.ran.length ∧ PInv r bl (j + 1) ps (passK r ps r.ran.length) := by
  have hj : j ≤ r.ran.length := by
    by_cases hj : j ≤ r.ran.length
    · exact hj
    · exfalso
      have hje : j = r.ran.length + 1 := by have := h.le; omega
      obtain ⟨h1, h2⟩ := h.later (by omega)
      have : samePts was ps = true := by
        rw [samePts_iff]
        intro d hd
        by_cases hl : d ≤ r.ran.length
        · rw [h1.eq d hl (by omega), h.now.eq d hl (by omega)]
        · rw [h1.out d (by omega), h.now.out d (by omega)]
      rw [he] at this
      cases this
  exact ⟨hj, inv_step hv hs h.now, by omega, by omega, fun _ => ⟨h.now, rfl⟩⟩
theorem pinv_start {r : Rm} (hv : Vd r) {bl : List Int} (hs : (fwd r bl r.ran.length).isSome = true) : PInv r bl 0 (fun _ => ⟨0, 0⟩) (psF r bl (r.ran.length + 1)) :=
  ⟨inv_start hv hs, by omega, fun _ => rfl, by omega⟩
theorem rb_congr {r : Rm} {ps qs : Nat → Span} {m : Nat} (h : ∀ i, i < 7 → ps i = qs i) : rb r ps m = rb r qs m := by
  simp only [rb, ptsCells, h 0 (by omega), h 1 (by omega), h 2 (by omega), h 3 (by omega), h 4 (by omega), h 5 (by omega), h 6 (by omega)]
end Go.Am.Room
set_option linter.unusedVariables false
set_option linter.unusedSimpArgs false
set_option maxRecDepth 4000
namespace Go.Am.Room
theorem pts_take (ps : Nat → Span) : (ptsCells ps).take 14 = ptsCells ps := rfl
theorem pts_drop (ps : Nat → Span) : (ptsCells ps).drop 14 = [] := rfl
theorem pts_cell (ps : Nat → Span) : allCell (ptsCells ps) = true := by simp [ptsCells, allCell, AV.cell]
theorem pts_ok (ps : Nat → Span) (m : Nat) : okVs m (ptsCells ps) := by simp [ptsCells, okVs, okV]
theorem look_fix (σ : St) (r : Rm) (bl : List Int) (e : Env) (K : KJ) (hv : Vd r) (hs : (fwd r bl r.ran.length).isSome = true)
    (e2 : Env.get e 2 = .ptr σ.length 0) (e6 : Env.get e 6 = .ptr (σ.length + 2) 0) (e7 : Env.get e 7 = .int .i64 r.ran.length) (e12 : Env.get e 12 = .ptr (σ.length + 3) 0)
    (hK : ∀ e' τ, Env.get e' 6 = .ptr (σ.length + 2) 0 → K (some (.exit 4)) e' (σ ++ (.cells (roomCells r) :: .map [] :: .cells (rb r (psB r bl) (σ.length + 1)) :: τ))) :
    rK (K := ⟨K⟩) T (.loop L91_4) e (σ ++ [.cells (roomCells r), .map [], .cells (rb r (psF r bl (r.ran.length + 1)) (σ.length + 1)), .cells (ptsCells fun _ => ⟨0, 0⟩)]) := by
  refine loopE (S := Nat × (Nat → Span) × (Nat → Span) × St) (0, (fun _ => ⟨0, 0⟩), psF r bl (r.ran.length + 1), []) (fun s => PInv r bl s.1 s.2.1 s.2.2.1) (fun s => r.ran.length + 2 - s.1)
    (fun s => [(2, .ptr σ.length 0), (6, .ptr (σ.length + 2) 0), (7, .int .i64 r.ran.length), (12, .ptr (σ.length + (s.2.2.2.length + 3)) 0)])
    (fun s => σ ++ (.cells (roomCells r) :: .map [] :: .cells (rb r s.2.2.1 (σ.length + 1)) :: (s.2.2.2 ++ [.cells (ptsCells s.2.1)]))) (pinv_start hv hs) rfl ?_ fun s hP => ?_
  · try simp only [TrimX, QT, QS, q_get, List.length_append, Nat.le_add_right, QC, implies_true, forall_const, ne_eq, not_false_eq_true, not_true_eq_false, Nat.reduceLT, reduceIte, Nat.reduceEqDiff, Nat.reduceAdd, Nat.reduceLeDiff, Nat.reduceMul, Nat.reduceBEq, setE_eq, bits_len, bits_cell, bits_take, bits_drop, bits_zero, Nat.mul_one, Int.toNat_natCast, encRoom_eq, roomCells_eq, encSetting_eq, encLook_eq, encSpan_eq, S_bits, Nat.add_lt_add_iff_left, Nat.lt_add_right_iff_pos, T_sapp, pts_take, pts_drop, pts_len, pts_cell, e2, e6, e7, e12]
    try simp
  · obtain ⟨j, was, ps, olds⟩ := s
    simp only at hP
    have c1 : 7 + 14 ≤ 22 := by omega
    (repeat (first | simp only [↓QP, ↓QD, QR, QV, QS, QC, implies_true, forall_const, ne_eq, not_false_eq_true, not_true_eq_false, Nat.reduceLT, reduceIte, Nat.reduceEqDiff, Nat.reduceAdd, Nat.reduceLeDiff, Nat.reduceMul, Nat.reduceBEq, setE_eq, bits_len, bits_cell, bits_take, bits_drop, bits_zero, Nat.mul_one, Int.toNat_natCast, encRoom_eq, roomCells_eq, encSetting_eq, encLook_eq, encSpan_eq, S_bits, Nat.add_lt_add_iff_left, Nat.lt_add_right_iff_pos, T_sapp, pts_take, pts_drop, pts_len, pts_cell, L91_4, rb_pts, rb_len, V_neA, pts_ne, List.take_append_of_le_length] | refine rK_dreg0 rfl ?_))
    cases hc : samePts was ps
    · obtain ⟨hj, hnext⟩ := pinv_next hv hs hP hc
      have hpass := look_pass σ (olds ++ [.cells (ptsCells ps)]) r ps (olds.length + 3)
      rw [roomCells_eq] at hpass
      (repeat (first | simp only [↓QP, ↓QD, QR, QV, QS, QC, implies_true, forall_const, ne_eq, not_false_eq_true, not_true_eq_false, Nat.reduceLT, reduceIte, Nat.reduceEqDiff, Nat.reduceAdd, Nat.reduceLeDiff, Nat.reduceMul, Nat.reduceBEq, setE_eq, bits_len, bits_cell, bits_take, bits_drop, bits_zero, Nat.mul_one, Int.toNat_natCast, encRoom_eq, roomCells_eq, encSetting_eq, encLook_eq, encSpan_eq, S_bits, Nat.add_lt_add_iff_left, Nat.lt_add_right_iff_pos, T_sapp, pts_take, pts_drop, pts_len, pts_cell, rb_pts, rb_len] | refine rK_dreg0 rfl ?_))
      refine hpass _ _ hv (inv_bd hv hs hP.now) (by simp) ?_ ?_ ?_ ?_ ?_ ?_ ?_
      any_goals try simp only [TrimX, QT, QS, q_get, List.length_append, Nat.le_add_right, QC, implies_true, forall_const, ne_eq, not_false_eq_true, not_true_eq_false, Nat.reduceLT, reduceIte, Nat.reduceEqDiff, Nat.reduceAdd, Nat.reduceLeDiff, Nat.reduceMul, Nat.reduceBEq, setE_eq, bits_len, bits_cell, bits_take, bits_drop, bits_zero, Nat.mul_one, Int.toNat_natCast, encRoom_eq, roomCells_eq, encSetting_eq, encLook_eq, encSpan_eq, S_bits, Nat.add_lt_add_iff_left, Nat.lt_add_right_iff_pos, T_sapp, pts_take, pts_drop, pts_len, pts_cell]
      intro e' q2 q6 q7 q12
      (repeat (first | simp only [↓QP, ↓QD, QR, QV, QS, QC, implies_true, forall_const, ne_eq, not_false_eq_true, not_true_eq_false, Nat.reduceLT, reduceIte, Nat.reduceEqDiff, Nat.reduceAdd, Nat.reduceLeDiff, Nat.reduceMul, Nat.reduceBEq, setE_eq, bits_len, bits_cell, bits_take, bits_drop, bits_zero, Nat.mul_one, Int.toNat_natCast, encRoom_eq, roomCells_eq, encSetting_eq, encLook_eq, encSpan_eq, S_bits, Nat.add_lt_add_iff_left, Nat.lt_add_right_iff_pos, T_sapp, pts_take, pts_drop, pts_len, pts_cell, q2, q6, q7, q12, List.length_append] | refine rK_dreg0 rfl ?_))
      refine ⟨(j + 1, ps, passK r ps r.ran.length, olds ++ [.cells (ptsCells ps)]), hnext, by simp only; omega, ?_⟩
      have hrb := rb_ok r (passK r ps r.ran.length) (show σ.length + 1 < σ.length + (olds.length + 5) by omega)
      try simp only [TrimX, QT, QS, q_get, List.length_append, Nat.le_add_right, QC, implies_true, forall_const, ne_eq, not_false_eq_true, not_true_eq_false, Nat.reduceLT, reduceIte, Nat.reduceEqDiff, Nat.reduceAdd, Nat.reduceLeDiff, Nat.reduceMul, Nat.reduceBEq, setE_eq, bits_len, bits_cell, bits_take, bits_drop, bits_zero, Nat.mul_one, Int.toNat_natCast, encRoom_eq, roomCells_eq, encSetting_eq, encLook_eq, encSpan_eq, S_bits, Nat.add_lt_add_iff_left, Nat.lt_add_right_iff_pos, T_sapp, pts_take, pts_drop, pts_len, pts_cell, q2, q6, q7, q12, List.length_append, st_app]
      try simp [okBlk, hrb, pts_ok, Nat.add_assoc]
    · have hps : rb r ps (σ.length + 1) = rb r (psB r bl) (σ.length + 1) := rb_congr fun i hi => pinv_exit hv hs hP hc i hi
      rw [hps]
      (repeat (first | simp only [↓QP, ↓QD, QR, QV, QS, QC, implies_true, forall_const, ne_eq, not_false_eq_true, not_true_eq_false, Nat.reduceLT, reduceIte, Nat.reduceEqDiff, Nat.reduceAdd, Nat.reduceLeDiff, Nat.reduceMul, Nat.reduceBEq, setE_eq, bits_len, bits_cell, bits_take, bits_drop, bits_zero, Nat.mul_one, Int.toNat_natCast, encRoom_eq, roomCells_eq, encSetting_eq, encLook_eq, encSpan_eq, S_bits, Nat.add_lt_add_iff_left, Nat.lt_add_right_iff_pos, T_sapp, pts_take, pts_drop, pts_len, pts_cell] | refine rK_dreg0 rfl ?_))
      have hk := hK
      rw [roomCells_eq] at hk
      refine hk _ _ ?_
      all_goals try simp only [TrimX, QT, QS, q_get, List.length_append, Nat.le_add_right, QC, implies_true, forall_const, ne_eq, not_false_eq_true, not_true_eq_false, Nat.reduceLT, reduceIte, Nat.reduceEqDiff, Nat.reduceAdd, Nat.reduceLeDiff, Nat.reduceMul, Nat.reduceBEq, setE_eq, bits_len, bits_cell, bits_take, bits_drop, bits_zero, Nat.mul_one, Int.toNat_natCast, encRoom_eq, roomCells_eq, encSetting_eq, encLook_eq, encSpan_eq, S_bits, Nat.add_lt_add_iff_left, Nat.lt_add_right_iff_pos, T_sapp, pts_take, pts_drop, pts_len, pts_cell]
theorem T_sapp0 (m : Nat) (σ b c : St) : EqS m σ (σ ++ b) (σ ++ c) = EqS m [] b c := by have := T_sapp m σ [] b c; rwa [List.append_nil] at this
def lookSt (σ : St) (r : Rm) (ps : Nat → Span) : St := σ ++ [.cells (roomCells r), .map [], .cells (rb r ps (σ.length + 1))]
theorem rb_zero (r : Rm) (bl : List Int) (m : Nat) : rb r (psF r bl 0) m = roomCells r ++ [.int .i64 0, .int .i64 0, .int .i64 0, .int .i64 0, .int .i64 0, .int .i64 0, .int .i64 0, .int .i64 0, .int .i64 0, .int .i64 0, .int .i64 0, .int .i64 0, .int .i64 0, .int .i64 0, .map m] := by
  simp [rb, ptsCells, psF]
theorem pts_zero : ptsCells (fun _ => ⟨0, 0⟩) = [.int .i64 0, .int .i64 0, .int .i64 0, .int .i64 0, .int .i64 0, .int .i64 0, .int .i64 0, .int .i64 0, .int .i64 0, .int .i64 0, .int .i64 0, .int .i64 0, .int .i64 0, .int .i64 0] := rfl
theorem look_runC (σ : St) (r : Rm) (but : Nat) (bl : List Int) (hv : Vd r) (hb : ButIs but bl) (ra : AV) (hra : ra = encRoom r ∨ clr ra = encRoom r) :
    Run T (.callv (.func 91 [] []) [ra, .int .i64 but] σ) fun o => ∃ ps, o.v = .tuple [.ptr (σ.length + 2) 0, .bool (someB r bl)] ∧ o.σ = lookSt σ r ps ∧ (someB r bl = true → ps = psB r bl) := by
  refine .callf (.call (af := a91) rfl (by simp [a91]) (R := fun o => (o.j = none ∨ o.j = some .ret) ∧ ∃ ps, o.env = [(4, .ptr (σ.length + 2) 0), (5, .bool (someB r bl))] ∧ o.σ = lookSt σ r ps ∧ (someB r bl = true → ps = psB r bl)) ?_ fun o ho => ?_)
  · refine .weak (env' := argsEnv 0 [encRoom r, .int .i64 but]) (fun t => ?_) ?_
    · simp only [List.nil_append, List.append_nil, argsEnv, Env.get]
      by_cases h0 : 0 = t
      · subst h0
        simp only [if_true]
        rcases hra with h | h
        · exact .inr (.inl h.symm)
        · exact .inr (.inr h.symm)
      · simp [h0]
    refine .trim2 (R := fun o => (o.j = none ∨ o.j = some .ret) ∧ ∃ ps τ, Env.get o.env 4 = .ptr (σ.length + 2) 0 ∧ Env.get o.env 5 = .bool (someB r bl) ∧ o.σ = σ ++ (.cells (roomCells r) :: .map [] :: .cells (rb r ps (σ.length + 1)) :: τ) ∧ (someB r bl = true → ps = psB r bl)) ?_ fun o ho => ?_
    · refine run_wp (K := fun j e σ1 => (j = none ∨ j = some .ret) ∧ ∃ ps τ, Env.get e 4 = .ptr (σ.length + 2) 0 ∧ Env.get e 5 = .bool (someB r bl) ∧ σ1 = σ ++ (.cells (roomCells r) :: .map [] :: .cells (rb r ps (σ.length + 1)) :: τ) ∧ (someB r bl = true → ps = psB r bl)) ?_ fun o ho => ho
      have hdd := hv.days
      have hdr := hv.ranLen
      have hw : IntKind.i64.wrap ((r.ran.length : Int) + 1) = ((r.ran.length + 1 : Nat) : Int) := by rw [wrap64 ⟨by omega, by omega⟩]; omega
      have hfw := look_fwd σ r but bl
      rw [rb_zero] at hfw
      rw [roomCells_eq] at hfw
      (repeat (first | simp only [↓QP, ↓QD, QR, QV, QS, QC, implies_true, forall_const, ne_eq, not_false_eq_true, not_true_eq_false, Nat.reduceLT, reduceIte, Nat.reduceEqDiff, Nat.reduceAdd, Nat.reduceLeDiff, Nat.reduceMul, Nat.reduceBEq, setE_eq, bits_len, bits_cell, bits_take, bits_drop, bits_zero, Nat.mul_one, Int.toNat_natCast, encRoom_eq, roomCells_eq, encSetting_eq, encLook_eq, encSpan_eq, S_bits, Nat.add_lt_add_iff_left, Nat.lt_add_right_iff_pos, T_sapp, pts_take, pts_drop, pts_len, pts_cell, a91, List.length_append, hw] | refine rK_dreg0 rfl ?_))
      refine hfw _ _ hv hb ?_ ?_ ?_ ?_ ?_ ?_ ?_ ?_
      · try simp only [TrimX, QT, QS, q_get, List.length_append, Nat.le_add_right, QC, implies_true, forall_const, ne_eq, not_false_eq_true, not_true_eq_false, Nat.reduceLT, reduceIte, Nat.reduceEqDiff, Nat.reduceAdd, Nat.reduceLeDiff, Nat.reduceMul, Nat.reduceBEq, setE_eq, bits_len, bits_cell, bits_take, bits_drop, bits_zero, Nat.mul_one, Int.toNat_natCast, encRoom_eq, roomCells_eq, encSetting_eq, encLook_eq, encSpan_eq, S_bits, Nat.add_lt_add_iff_left, Nat.lt_add_right_iff_pos, T_sapp, pts_take, pts_drop, pts_len, pts_cell]
      · try simp only [TrimX, QT, QS, q_get, List.length_append, Nat.le_add_right, QC, implies_true, forall_const, ne_eq, not_false_eq_true, not_true_eq_false, Nat.reduceLT, reduceIte, Nat.reduceEqDiff, Nat.reduceAdd, Nat.reduceLeDiff, Nat.reduceMul, Nat.reduceBEq, setE_eq, bits_len, bits_cell, bits_take, bits_drop, bits_zero, Nat.mul_one, Int.toNat_natCast, encRoom_eq, roomCells_eq, encSetting_eq, encLook_eq, encSpan_eq, S_bits, Nat.add_lt_add_iff_left, Nat.lt_add_right_iff_pos, T_sapp, pts_take, pts_drop, pts_len, pts_cell]
      · try simp only [TrimX, QT, QS, q_get, List.length_append, Nat.le_add_right, QC, implies_true, forall_const, ne_eq, not_false_eq_true, not_true_eq_false, Nat.reduceLT, reduceIte, Nat.reduceEqDiff, Nat.reduceAdd, Nat.reduceLeDiff, Nat.reduceMul, Nat.reduceBEq, setE_eq, bits_len, bits_cell, bits_take, bits_drop, bits_zero, Nat.mul_one, Int.toNat_natCast, encRoom_eq, roomCells_eq, encSetting_eq, encLook_eq, encSpan_eq, S_bits, Nat.add_lt_add_iff_left, Nat.lt_add_right_iff_pos, T_sapp, pts_take, pts_drop, pts_len, pts_cell]
      · try simp only [TrimX, QT, QS, q_get, List.length_append, Nat.le_add_right, QC, implies_true, forall_const, ne_eq, not_false_eq_true, not_true_eq_false, Nat.reduceLT, reduceIte, Nat.reduceEqDiff, Nat.reduceAdd, Nat.reduceLeDiff, Nat.reduceMul, Nat.reduceBEq, setE_eq, bits_len, bits_cell, bits_take, bits_drop, bits_zero, Nat.mul_one, Int.toNat_natCast, encRoom_eq, roomCells_eq, encSetting_eq, encLook_eq, encSpan_eq, S_bits, Nat.add_lt_add_iff_left, Nat.lt_add_right_iff_pos, T_sapp, pts_take, pts_drop, pts_len, pts_cell]
      · try simp only [TrimX, QT, QS, q_get, List.length_append, Nat.le_add_right, QC, implies_true, forall_const, ne_eq, not_false_eq_true, not_true_eq_false, Nat.reduceLT, reduceIte, Nat.reduceEqDiff, Nat.reduceAdd, Nat.reduceLeDiff, Nat.reduceMul, Nat.reduceBEq, setE_eq, bits_len, bits_cell, bits_take, bits_drop, bits_zero, Nat.mul_one, Int.toNat_natCast, encRoom_eq, roomCells_eq, encSetting_eq, encLook_eq, encSpan_eq, S_bits, Nat.add_lt_add_iff_left, Nat.lt_add_right_iff_pos, T_sapp, pts_take, pts_drop, pts_len, pts_cell]
      · try simp only [TrimX, QT, QS, q_get, List.length_append, Nat.le_add_right, QC, implies_true, forall_const, ne_eq, not_false_eq_true, not_true_eq_false, Nat.reduceLT, reduceIte, Nat.reduceEqDiff, Nat.reduceAdd, Nat.reduceLeDiff, Nat.reduceMul, Nat.reduceBEq, setE_eq, bits_len, bits_cell, bits_take, bits_drop, bits_zero, Nat.mul_one, Int.toNat_natCast, encRoom_eq, roomCells_eq, encSetting_eq, encLook_eq, encSpan_eq, S_bits, Nat.add_lt_add_iff_left, Nat.lt_add_right_iff_pos, T_sapp, pts_take, pts_drop, pts_len, pts_cell]
      · intro hall e' q2 q6 q7
        have hs := hall _ (Nat.le_refl _)
        have hsb : someB r bl = true := by rw [someB_eq hv]; exact hs
        have hfx := look_fix σ r bl
        rw [pts_zero, roomCells_eq] at hfx
        (repeat (first | simp only [↓QP, ↓QD, QR, QV, QS, QC, implies_true, forall_const, ne_eq, not_false_eq_true, not_true_eq_false, Nat.reduceLT, reduceIte, Nat.reduceEqDiff, Nat.reduceAdd, Nat.reduceLeDiff, Nat.reduceMul, Nat.reduceBEq, setE_eq, bits_len, bits_cell, bits_take, bits_drop, bits_zero, Nat.mul_one, Int.toNat_natCast, encRoom_eq, roomCells_eq, encSetting_eq, encLook_eq, encSpan_eq, S_bits, Nat.add_lt_add_iff_left, Nat.lt_add_right_iff_pos, T_sapp, pts_take, pts_drop, pts_len, pts_cell, q2, q6, q7, List.length_append] | refine rK_dreg0 rfl ?_))
        refine hfx _ _ hv hs ?_ ?_ ?_ ?_ ?_
        · try simp only [TrimX, QT, QS, q_get, List.length_append, Nat.le_add_right, QC, implies_true, forall_const, ne_eq, not_false_eq_true, not_true_eq_false, Nat.reduceLT, reduceIte, Nat.reduceEqDiff, Nat.reduceAdd, Nat.reduceLeDiff, Nat.reduceMul, Nat.reduceBEq, setE_eq, bits_len, bits_cell, bits_take, bits_drop, bits_zero, Nat.mul_one, Int.toNat_natCast, encRoom_eq, roomCells_eq, encSetting_eq, encLook_eq, encSpan_eq, S_bits, Nat.add_lt_add_iff_left, Nat.lt_add_right_iff_pos, T_sapp, pts_take, pts_drop, pts_len, pts_cell, q2, q6, q7]
        · try simp only [TrimX, QT, QS, q_get, List.length_append, Nat.le_add_right, QC, implies_true, forall_const, ne_eq, not_false_eq_true, not_true_eq_false, Nat.reduceLT, reduceIte, Nat.reduceEqDiff, Nat.reduceAdd, Nat.reduceLeDiff, Nat.reduceMul, Nat.reduceBEq, setE_eq, bits_len, bits_cell, bits_take, bits_drop, bits_zero, Nat.mul_one, Int.toNat_natCast, encRoom_eq, roomCells_eq, encSetting_eq, encLook_eq, encSpan_eq, S_bits, Nat.add_lt_add_iff_left, Nat.lt_add_right_iff_pos, T_sapp, pts_take, pts_drop, pts_len, pts_cell, q2, q6, q7]
        · try simp only [TrimX, QT, QS, q_get, List.length_append, Nat.le_add_right, QC, implies_true, forall_const, ne_eq, not_false_eq_true, not_true_eq_false, Nat.reduceLT, reduceIte, Nat.reduceEqDiff, Nat.reduceAdd, Nat.reduceLeDiff, Nat.reduceMul, Nat.reduceBEq, setE_eq, bits_len, bits_cell, bits_take, bits_drop, bits_zero, Nat.mul_one, Int.toNat_natCast, encRoom_eq, roomCells_eq, encSetting_eq, encLook_eq, encSpan_eq, S_bits, Nat.add_lt_add_iff_left, Nat.lt_add_right_iff_pos, T_sapp, pts_take, pts_drop, pts_len, pts_cell, q2, q6, q7]
        · try simp only [TrimX, QT, QS, q_get, List.length_append, Nat.le_add_right, QC, implies_true, forall_const, ne_eq, not_false_eq_true, not_true_eq_false, Nat.reduceLT, reduceIte, Nat.reduceEqDiff, Nat.reduceAdd, Nat.reduceLeDiff, Nat.reduceMul, Nat.reduceBEq, setE_eq, bits_len, bits_cell, bits_take, bits_drop, bits_zero, Nat.mul_one, Int.toNat_natCast, encRoom_eq, roomCells_eq, encSetting_eq, encLook_eq, encSpan_eq, S_bits, Nat.add_lt_add_iff_left, Nat.lt_add_right_iff_pos, T_sapp, pts_take, pts_drop, pts_len, pts_cell, q2, q6, q7]
        · intro e' τ q6
          (repeat (first | simp only [↓QP, ↓QD, QR, QV, QS, QC, implies_true, forall_const, ne_eq, not_false_eq_true, not_true_eq_false, Nat.reduceLT, reduceIte, Nat.reduceEqDiff, Nat.reduceAdd, Nat.reduceLeDiff, Nat.reduceMul, Nat.reduceBEq, setE_eq, bits_len, bits_cell, bits_take, bits_drop, bits_zero, Nat.mul_one, Int.toNat_natCast, encRoom_eq, roomCells_eq, encSetting_eq, encLook_eq, encSpan_eq, S_bits, Nat.add_lt_add_iff_left, Nat.lt_add_right_iff_pos, T_sapp, pts_take, pts_drop, pts_len, pts_cell, q6] | refine rK_dreg0 rfl ?_))
          refine ⟨psB r bl, τ, ?_⟩
          simp [q6, hsb]
      · intro hnone e' ps b q4 q5
        have hsb : someB r bl = false := by rw [someB_eq hv, hnone]; rfl
        (repeat (first | simp only [↓QP, ↓QD, QR, QV, QS, QC, implies_true, forall_const, ne_eq, not_false_eq_true, not_true_eq_false, Nat.reduceLT, reduceIte, Nat.reduceEqDiff, Nat.reduceAdd, Nat.reduceLeDiff, Nat.reduceMul, Nat.reduceBEq, setE_eq, bits_len, bits_cell, bits_take, bits_drop, bits_zero, Nat.mul_one, Int.toNat_natCast, encRoom_eq, roomCells_eq, encSetting_eq, encLook_eq, encSpan_eq, S_bits, Nat.add_lt_add_iff_left, Nat.lt_add_right_iff_pos, T_sapp, pts_take, pts_drop, pts_len, pts_cell, q4, q5] | refine rK_dreg0 rfl ?_))
        refine ⟨ps, [b], ?_⟩
        simp [q4, q5, hsb]
    · obtain ⟨hj, ps, τ, q4, q5, hσ, hps⟩ := ho
      refine .inr ⟨[(4, .ptr (σ.length + 2) 0), (5, .bool (someB r bl))], lookSt σ r ps, trims_of ?_, hj, ps, rfl, rfl, hps⟩
      have hrb := rb_ok r ps (show σ.length + 1 < σ.length + 3 by omega)
      have hrc : okVs (σ.length + 3) (roomCells r) := okVs_up _ (show okVs 0 (roomCells r) from (data_room r).1)
      rw [roomCells_eq] at hrc
      rw [hσ, lookSt]
      try simp only [TrimX, QT, QS, q_get, List.length_append, Nat.le_add_right, QC, implies_true, forall_const, ne_eq, not_false_eq_true, not_true_eq_false, Nat.reduceLT, reduceIte, Nat.reduceEqDiff, Nat.reduceAdd, Nat.reduceLeDiff, Nat.reduceMul, Nat.reduceBEq, setE_eq, bits_len, bits_cell, bits_take, bits_drop, bits_zero, Nat.mul_one, Int.toNat_natCast, encRoom_eq, roomCells_eq, encSetting_eq, encLook_eq, encSpan_eq, S_bits, Nat.add_lt_add_iff_left, Nat.lt_add_right_iff_pos, T_sapp, pts_take, pts_drop, pts_len, pts_cell, q4, q5, T_sapp0]
      try simp [okBlk, hrb, hrc]
  · obtain ⟨hj, ps, he, hσ, hps⟩ := ho
    refine ⟨hj, .tuple [.ptr (σ.length + 2) 0, .bool (someB r bl)], ?_, .inl ⟨ps, rfl, hσ, hps⟩⟩
    rw [he]
    rfl
theorem look_run (σ : St) (r : Rm) (but : Nat) (bl : List Int) (hv : Vd r) (hb : ButIs but bl) :
    Run T (.callv (.func 91 [] []) [encRoom r, .int .i64 but] σ) fun o => ∃ ps, o.v = .tuple [.ptr (σ.length + 2) 0, .bool (someB r bl)] ∧ o.σ = lookSt σ r ps ∧ (someB r bl = true → ps = psB r bl) := look_runC σ r but bl hv hb _ (.inl rfl)
end Go.Am.Room
set_option linter.unusedVariables false
set_option linter.unusedSimpArgs false
namespace Go.Am.Room
/-- The number of the first element that is so; below 0: none is. -/
def idxOf {α : Type} (p : α → Bool) : List α → Nat → Int
  | [], _ => -1
  | x :: xs, k => if p x then k else idxOf p xs (k + 1)
theorem idxOf_any {α : Type} (p : α → Bool) : ∀ (l : List α) (k : Nat), decide (0 ≤ idxOf p l k) = l.any p
  | [], k => by simp [idxOf]
  | x :: xs, k => by
    cases h : p x
    · simp [idxOf, h, idxOf_any p xs (k + 1)]
    · simp [idxOf, h]
theorem index_int (σ : St) (f : AV) (l : List Int) (p : Int → Bool) (hl : l.length < 9223372036854775808) (hk : Keeps σ f) (h : ∀ x ∈ l, Same T f [.int .i64 x] σ (.bool (p x))) : Same T (.func 120 [] []) [ints l, f] σ (.int .i64 (idxOf p l 0)) := by
  refine same_fn (af := a120) rfl (by simp [a120]) ?_
  have hk0 := hk.nil
  (repeat (first | simp only [↓QP, ↓QD, QR, QV, QS, QC, implies_true, forall_const, ne_eq, not_false_eq_true, not_true_eq_false, Nat.reduceLT, reduceIte, Nat.reduceEqDiff, Nat.reduceAdd, Nat.reduceLeDiff, Nat.reduceMul, Nat.reduceBEq, encRoom_eq, roomCells_eq, encSetting_eq, encLook_eq, encSpan_eq, a120] | refine rK_dreg0 rfl ?_))
  refine loopE (S := Nat) 0 (fun k => k ≤ l.length ∧ idxOf p (l.drop k) k = idxOf p l 0) (fun k => l.length - k) (fun k => [(0, ints l), (1, f), (7, .int .i64 l.length), (8, .int .i64 k)]) (fun _ => σ) ⟨Nat.zero_le _, by simp⟩ rfl ?_ fun k hk1 => ?_
  · try simp only [TrimX, QT, QS, q_get, List.length_append, Nat.le_add_right, QC, implies_true, forall_const, ne_eq, not_false_eq_true, not_true_eq_false, Nat.reduceLT, reduceIte, Nat.reduceEqDiff, Nat.reduceAdd, Nat.reduceLeDiff, Nat.reduceMul, Nat.reduceBEq, encRoom_eq, roomCells_eq, encSetting_eq, encLook_eq, encSpan_eq]
    try simp
  · obtain ⟨hkl, hi⟩ := hk1
    (repeat (first | simp only [↓QP, ↓QD, QR, QV, QS, QC, implies_true, forall_const, ne_eq, not_false_eq_true, not_true_eq_false, Nat.reduceLT, reduceIte, Nat.reduceEqDiff, Nat.reduceAdd, Nat.reduceLeDiff, Nat.reduceMul, Nat.reduceBEq, encRoom_eq, roomCells_eq, encSetting_eq, encLook_eq, encSpan_eq, L120_0] | refine rK_dreg0 rfl ?_))
    refine iteP_intro (fun hd => ?_) fun hd => ?_
    · have hlt : k < l.length := by simpa using hd
      rw [List.drop_eq_getElem_cons hlt] at hi
      simp only [idxOf] at hi
      have hw := wrapN hlt hl
      (repeat (first | simp only [↓QP, ↓QD, QR, QV, QS, QC, implies_true, forall_const, ne_eq, not_false_eq_true, not_true_eq_false, Nat.reduceLT, reduceIte, Nat.reduceEqDiff, Nat.reduceAdd, Nat.reduceLeDiff, Nat.reduceMul, Nat.reduceBEq, encRoom_eq, roomCells_eq, encSetting_eq, encLook_eq, encSpan_eq, hlt] | refine rK_dreg0 rfl ?_))
      refine callK_same (h l[k] (List.getElem_mem hlt)) ?_
      (repeat (first | simp only [↓QP, ↓QD, QR, QV, QS, QC, implies_true, forall_const, ne_eq, not_false_eq_true, not_true_eq_false, Nat.reduceLT, reduceIte, Nat.reduceEqDiff, Nat.reduceAdd, Nat.reduceLeDiff, Nat.reduceMul, Nat.reduceBEq, encRoom_eq, roomCells_eq, encSetting_eq, encLook_eq, encSpan_eq] | refine rK_dreg0 rfl ?_))
      cases hp : p l[k]
      · (repeat (first | simp only [↓QP, ↓QD, QR, QV, QS, QC, implies_true, forall_const, ne_eq, not_false_eq_true, not_true_eq_false, Nat.reduceLT, reduceIte, Nat.reduceEqDiff, Nat.reduceAdd, Nat.reduceLeDiff, Nat.reduceMul, Nat.reduceBEq, encRoom_eq, roomCells_eq, encSetting_eq, encLook_eq, encSpan_eq, hw] | refine rK_dreg0 rfl ?_))
        refine ⟨k + 1, ⟨by omega, by rw [← hi, hp]; rfl⟩, by omega, ?_⟩
        try simp only [TrimX, QT, QS, q_get, List.length_append, Nat.le_add_right, QC, implies_true, forall_const, ne_eq, not_false_eq_true, not_true_eq_false, Nat.reduceLT, reduceIte, Nat.reduceEqDiff, Nat.reduceAdd, Nat.reduceLeDiff, Nat.reduceMul, Nat.reduceBEq, encRoom_eq, roomCells_eq, encSetting_eq, encLook_eq, encSpan_eq, hw, hk0, Nat.le_refl]
      · (repeat (first | simp only [↓QP, ↓QD, QR, QV, QS, QC, implies_true, forall_const, ne_eq, not_false_eq_true, not_true_eq_false, Nat.reduceLT, reduceIte, Nat.reduceEqDiff, Nat.reduceAdd, Nat.reduceLeDiff, Nat.reduceMul, Nat.reduceBEq, encRoom_eq, roomCells_eq, encSetting_eq, encLook_eq, encSpan_eq] | refine rK_dreg0 rfl ?_))
        refine baseR [] (by first | rfl | simp) ?_
        rw [← hi, hp]
        try simp only [QS, QC, implies_true, forall_const, ne_eq, not_false_eq_true, not_true_eq_false, Nat.reduceLT, reduceIte, Nat.reduceEqDiff, Nat.reduceAdd, Nat.reduceLeDiff, Nat.reduceMul, Nat.reduceBEq, encRoom_eq, roomCells_eq, encSetting_eq, encLook_eq, encSpan_eq]
    · have hlt : k = l.length := by simp at hd; omega
      (repeat (first | simp only [↓QP, ↓QD, QR, QV, QS, QC, implies_true, forall_const, ne_eq, not_false_eq_true, not_true_eq_false, Nat.reduceLT, reduceIte, Nat.reduceEqDiff, Nat.reduceAdd, Nat.reduceLeDiff, Nat.reduceMul, Nat.reduceBEq, encRoom_eq, roomCells_eq, encSetting_eq, encLook_eq, encSpan_eq] | refine rK_dreg0 rfl ?_))
      refine baseR [] (by first | rfl | simp) ?_
      rw [← hi, hlt, List.drop_length]
      try simp only [QS, QC, implies_true, forall_const, ne_eq, not_false_eq_true, not_true_eq_false, Nat.reduceLT, reduceIte, Nat.reduceEqDiff, Nat.reduceAdd, Nat.reduceLeDiff, Nat.reduceMul, Nat.reduceBEq, encRoom_eq, roomCells_eq, encSetting_eq, encLook_eq, encSpan_eq, idxOf]
theorem contains_int (σ : St) (f : AV) (l : List Int) (p : Int → Bool) (hl : l.length < 9223372036854775808) (hk : Keeps σ f) (h : ∀ x ∈ l, Same T f [.int .i64 x] σ (.bool (p x))) : Same T (.func 101 [] []) [ints l, f] σ (.bool (l.any p)) := by
  refine same_fn (af := a101) rfl (by simp [a101]) ?_
  (repeat (first | simp only [↓QP, ↓QD, QR, QV, QS, QC, implies_true, forall_const, ne_eq, not_false_eq_true, not_true_eq_false, Nat.reduceLT, reduceIte, Nat.reduceEqDiff, Nat.reduceAdd, Nat.reduceLeDiff, Nat.reduceMul, Nat.reduceBEq, encRoom_eq, roomCells_eq, encSetting_eq, encLook_eq, encSpan_eq, a101] | refine rK_dreg0 rfl ?_))
  refine callK_same (index_int σ f l p hl hk h) ?_
  (repeat (first | simp only [↓QP, ↓QD, QR, QV, QS, QC, implies_true, forall_const, ne_eq, not_false_eq_true, not_true_eq_false, Nat.reduceLT, reduceIte, Nat.reduceEqDiff, Nat.reduceAdd, Nat.reduceLeDiff, Nat.reduceMul, Nat.reduceBEq, encRoom_eq, roomCells_eq, encSetting_eq, encLook_eq, encSpan_eq] | refine rK_dreg0 rfl ?_))
  refine baseR [] (by first | rfl | simp) ?_
  rw [← idxOf_any p l 0]
  try simp only [QS, QC, implies_true, forall_const, ne_eq, not_false_eq_true, not_true_eq_false, Nat.reduceLT, reduceIte, Nat.reduceEqDiff, Nat.reduceAdd, Nat.reduceLeDiff, Nat.reduceMul, Nat.reduceBEq, encRoom_eq, roomCells_eq, encSetting_eq, encLook_eq, encSpan_eq]
def outside (lo hi n : Int) : Bool := decide (n < lo) || decide (hi < n)
theorem beyond1_ok (lo hi n : Int) : Same T (.func 102 [] [.ptr 0 0, .ptr 1 0]) [.int .i64 n] [.cells [.int .i64 lo], .cells [.int .i64 hi]] (.bool (outside lo hi n)) := by
  refine same_fn (af := a102) rfl (by simp [a102]) ?_
  (repeat (first | simp only [↓QP, ↓QD, QR, QV, QS, QC, implies_true, forall_const, ne_eq, not_false_eq_true, not_true_eq_false, Nat.reduceLT, reduceIte, Nat.reduceEqDiff, Nat.reduceAdd, Nat.reduceLeDiff, Nat.reduceMul, Nat.reduceBEq, encRoom_eq, roomCells_eq, encSetting_eq, encLook_eq, encSpan_eq, a102] | refine rK_dreg0 rfl ?_))
  refine iteP_intro (fun h => ?_) fun h => ?_
  all_goals
    (repeat (first | simp only [↓QP, ↓QD, QR, QV, QS, QC, implies_true, forall_const, ne_eq, not_false_eq_true, not_true_eq_false, Nat.reduceLT, reduceIte, Nat.reduceEqDiff, Nat.reduceAdd, Nat.reduceLeDiff, Nat.reduceMul, Nat.reduceBEq, encRoom_eq, roomCells_eq, encSetting_eq, encLook_eq, encSpan_eq, h] | refine rK_dreg0 rfl ?_))
    refine baseR [] (by first | rfl | simp) ?_
    try simp only [QS, QC, implies_true, forall_const, ne_eq, not_false_eq_true, not_true_eq_false, Nat.reduceLT, reduceIte, Nat.reduceEqDiff, Nat.reduceAdd, Nat.reduceLeDiff, Nat.reduceMul, Nat.reduceBEq, encRoom_eq, roomCells_eq, encSetting_eq, encLook_eq, encSpan_eq, outside, h]
    try simp
def beyond (lo hi : Int) (ns : List Int) : Bool := ns.any (outside lo hi)
theorem beyond_ok (lo hi : Int) (ns : List Int) (hl : ns.length < 9223372036854775808) : Pure T 67 [.int .i64 lo, .int .i64 hi, ints ns] (.bool (beyond lo hi ns)) := by
  refine pure_fn (af := a67) rfl (by simp [a67]) (by repeat (first | exact datas_nil | refine datas_cons ?_ ?_ | exact data_int _ _ | exact data_ints _ | exact data_span _ | exact data_bool _ | exact data_str _ | exact data_strs _ | exact data_room _ | exact data_setting _ | exact data_look _ | exact data_intss _)) ?_
  (repeat (first | simp only [↓QP, ↓QD, QR, QV, QS, QC, implies_true, forall_const, ne_eq, not_false_eq_true, not_true_eq_false, Nat.reduceLT, reduceIte, Nat.reduceEqDiff, Nat.reduceAdd, Nat.reduceLeDiff, Nat.reduceMul, Nat.reduceBEq, encRoom_eq, roomCells_eq, encSetting_eq, encLook_eq, encSpan_eq, a67] | refine rK_dreg0 rfl ?_))
  refine callK_same (contains_int _ _ ns (outside lo hi) hl (fun τ => ?_) fun x _ => beyond1_ok lo hi x) ?_
  · try simp only [QS, QC, implies_true, forall_const, ne_eq, not_false_eq_true, not_true_eq_false, Nat.reduceLT, reduceIte, Nat.reduceEqDiff, Nat.reduceAdd, Nat.reduceLeDiff, Nat.reduceMul, Nat.reduceBEq, encRoom_eq, roomCells_eq, encSetting_eq, encLook_eq, encSpan_eq]
  · (repeat (first | simp only [↓QP, ↓QD, QR, QV, QS, QC, implies_true, forall_const, ne_eq, not_false_eq_true, not_true_eq_false, Nat.reduceLT, reduceIte, Nat.reduceEqDiff, Nat.reduceAdd, Nat.reduceLeDiff, Nat.reduceMul, Nat.reduceBEq, encRoom_eq, roomCells_eq, encSetting_eq, encLook_eq, encSpan_eq, beyond] | refine rK_dreg0 rfl ?_))
theorem off1_ok (lo hi n : Int) : Same T (.func 119 [] [.ptr 0 0, .ptr 1 0]) [.int .i64 n] [.cells [.int .i64 lo], .cells [.int .i64 hi]] (.bool (outside lo hi n)) := by
  refine same_fn (af := a119) rfl (by simp [a119]) ?_
  (repeat (first | simp only [↓QP, ↓QD, QR, QV, QS, QC, implies_true, forall_const, ne_eq, not_false_eq_true, not_true_eq_false, Nat.reduceLT, reduceIte, Nat.reduceEqDiff, Nat.reduceAdd, Nat.reduceLeDiff, Nat.reduceMul, Nat.reduceBEq, encRoom_eq, roomCells_eq, encSetting_eq, encLook_eq, encSpan_eq, a119] | refine rK_dreg0 rfl ?_))
  refine iteP_intro (fun h => ?_) fun h => ?_
  all_goals
    (repeat (first | simp only [↓QP, ↓QD, QR, QV, QS, QC, implies_true, forall_const, ne_eq, not_false_eq_true, not_true_eq_false, Nat.reduceLT, reduceIte, Nat.reduceEqDiff, Nat.reduceAdd, Nat.reduceLeDiff, Nat.reduceMul, Nat.reduceBEq, encRoom_eq, roomCells_eq, encSetting_eq, encLook_eq, encSpan_eq, h] | refine rK_dreg0 rfl ?_))
    refine baseR [] (by first | rfl | simp) ?_
    try simp only [QS, QC, implies_true, forall_const, ne_eq, not_false_eq_true, not_true_eq_false, Nat.reduceLT, reduceIte, Nat.reduceEqDiff, Nat.reduceAdd, Nat.reduceLeDiff, Nat.reduceMul, Nat.reduceBEq, encRoom_eq, roomCells_eq, encSetting_eq, encLook_eq, encSpan_eq, outside, h]
    try simp
theorem off_ok (lo hi : Int) (ns : List Int) (hl : ns.length < 9223372036854775808) : Pure T 99 [.int .i64 lo, .int .i64 hi, ints ns] (.bool (beyond lo hi ns)) := by
  refine pure_fn (af := a99) rfl (by simp [a99]) (by repeat (first | exact datas_nil | refine datas_cons ?_ ?_ | exact data_int _ _ | exact data_ints _ | exact data_span _ | exact data_bool _ | exact data_str _ | exact data_strs _ | exact data_room _ | exact data_setting _ | exact data_look _ | exact data_intss _)) ?_
  (repeat (first | simp only [↓QP, ↓QD, QR, QV, QS, QC, implies_true, forall_const, ne_eq, not_false_eq_true, not_true_eq_false, Nat.reduceLT, reduceIte, Nat.reduceEqDiff, Nat.reduceAdd, Nat.reduceLeDiff, Nat.reduceMul, Nat.reduceBEq, encRoom_eq, roomCells_eq, encSetting_eq, encLook_eq, encSpan_eq, a99] | refine rK_dreg0 rfl ?_))
  refine callK_same (contains_int _ _ ns (outside lo hi) hl (fun τ => ?_) fun x _ => off1_ok lo hi x) ?_
  · try simp only [QS, QC, implies_true, forall_const, ne_eq, not_false_eq_true, not_true_eq_false, Nat.reduceLT, reduceIte, Nat.reduceEqDiff, Nat.reduceAdd, Nat.reduceLeDiff, Nat.reduceMul, Nat.reduceBEq, encRoom_eq, roomCells_eq, encSetting_eq, encLook_eq, encSpan_eq]
  · (repeat (first | simp only [↓QP, ↓QD, QR, QV, QS, QC, implies_true, forall_const, ne_eq, not_false_eq_true, not_true_eq_false, Nat.reduceLT, reduceIte, Nat.reduceEqDiff, Nat.reduceAdd, Nat.reduceLeDiff, Nat.reduceMul, Nat.reduceBEq, encRoom_eq, roomCells_eq, encSetting_eq, encLook_eq, encSpan_eq, beyond] | refine rK_dreg0 rfl ?_))
theorem okUpTo_mono (s : ByteArray) : ∀ n k, k ≤ n → okUpTo s k = false → okUpTo s n = false
  | 0, k, h, h1 => by have : k = 0 := by omega
                      subst this; exact h1
  | n + 1, k, h, h1 => by
    by_cases hk : k = n + 1
    · subst hk; exact h1
    · simp [okUpTo, okUpTo_mono s n k (by omega) h1]
theorem beyond1 (lo hi n : Int) : beyond lo hi [n] = !inR n lo hi := by
  rw [Bool.eq_iff_iff]; simp [beyond, outside, inR]
theorem beyond2 (lo hi n m : Int) : beyond lo hi [n, m] = (!inR n lo hi || !inR m lo hi) := by
  rw [Bool.eq_iff_iff]; simp [beyond, outside, inR]
theorem handname_ok (s : ByteArray) (hs : s.size < 9223372036854775808) : Pure T 64 [.str s] (.bool (nameOk s)) := by
  refine pure_fn (af := a64) rfl (by simp [a64]) (by repeat (first | exact datas_nil | refine datas_cons ?_ ?_ | exact data_int _ _ | exact data_ints _ | exact data_span _ | exact data_bool _ | exact data_str _ | exact data_strs _ | exact data_room _ | exact data_setting _ | exact data_look _ | exact data_intss _)) ?_
  (repeat (first | simp only [↓QP, ↓QD, QR, QV, QS, QC, implies_true, forall_const, ne_eq, not_false_eq_true, not_true_eq_false, Nat.reduceLT, reduceIte, Nat.reduceEqDiff, Nat.reduceAdd, Nat.reduceLeDiff, Nat.reduceMul, Nat.reduceBEq, encRoom_eq, roomCells_eq, encSetting_eq, encLook_eq, encSpan_eq, a64] | refine rK_dreg0 rfl ?_))
  refine loopE (S := Nat) 0 (fun k => k ≤ s.size ∧ okUpTo s k = true) (fun k => s.size - k) (fun k => [(0, .str s), (7, .ptr 0 0)]) (fun k => [.siter s k]) ⟨Nat.zero_le _, rfl⟩ rfl ?_ fun k hk => ?_
  · try simp only [TrimX, QT, QS, q_get, List.length_append, Nat.le_add_right, QC, implies_true, forall_const, ne_eq, not_false_eq_true, not_true_eq_false, Nat.reduceLT, reduceIte, Nat.reduceEqDiff, Nat.reduceAdd, Nat.reduceLeDiff, Nat.reduceMul, Nat.reduceBEq, encRoom_eq, roomCells_eq, encSetting_eq, encLook_eq, encSpan_eq]
    try simp
  · obtain ⟨hkl, hok⟩ := hk
    by_cases hk1 : k < s.size
    · obtain ⟨R, hR⟩ : ∃ R : Int, ((Utf8.decode s k).1 : Int) = R := ⟨_, rfl⟩
      obtain ⟨W, hW⟩ : ∃ W, (Utf8.decode s k).2 = W := ⟨_, rfl⟩
      have hstep : okUpTo s (k + 1) = okByte k (byteAt s k) := by simp [okUpTo, hok]
      have hbl := byteAt_lt s k
      have key : (97 ≤ R ∧ R ≤ 122 ∨ 0 < k ∧ (R = 46 ∨ 48 ≤ R ∧ R ≤ 57)) → W = 1 ∧ okUpTo s (k + 1) = true := by
        intro h
        by_cases hb : byteAt s k < 128
        · have := byteAt_ascii hk1 hb
          rw [this] at hR hW
          have hR' : R = byteAt s k := by simp at hR; omega
          refine ⟨hW.symm, ?_⟩
          rw [hstep, okByte, ← hR']
          simp [inR]
          omega
        · have := byteAt_high hk1 (by omega)
          omega
      have key2 : ¬ (97 ≤ R ∧ R ≤ 122 ∨ 0 < k ∧ (R = 46 ∨ 48 ≤ R ∧ R ≤ 57)) → nameOk s = false := by
        intro h
        have : okUpTo s (k + 1) = false := by
          rw [hstep, okByte]
          by_cases hb : byteAt s k < 128
          · have := byteAt_ascii hk1 hb
            rw [this] at hR hW
            have hR' : R = byteAt s k := by simp at hR; omega
            rw [← hR']
            simp [inR]
            omega
          · simp [inR]; omega
        simp [nameOk, okUpTo_mono s s.size (k + 1) (by omega) this]
      have go : ∀ (e : Env), W = 1 ∧ okUpTo s (k + 1) = true → Env.get e 0 = .str s → Env.get e 7 = .ptr 0 0 → ∃ s', (s' ≤ s.size ∧ okUpTo s s' = true) ∧ s.size - s' < s.size - k ∧ TrimX [.siter s k] e [.siter s (k + W)] [(0, .str s), (7, .ptr 0 0)] [.siter s s'] := by
        intro e h e0 e7
        refine ⟨k + 1, ⟨by omega, h.2⟩, by omega, ?_⟩
        try simp only [TrimX, QT, QS, q_get, List.length_append, Nat.le_add_right, QC, implies_true, forall_const, ne_eq, not_false_eq_true, not_true_eq_false, Nat.reduceLT, reduceIte, Nat.reduceEqDiff, Nat.reduceAdd, Nat.reduceLeDiff, Nat.reduceMul, Nat.reduceBEq, encRoom_eq, roomCells_eq, encSetting_eq, encLook_eq, encSpan_eq, e0, e7, h.1]
        try simp [okBlk]
      (repeat (first | simp only [↓QP, ↓QD, QR, QV, QS, QC, implies_true, forall_const, ne_eq, not_false_eq_true, not_true_eq_false, Nat.reduceLT, reduceIte, Nat.reduceEqDiff, Nat.reduceAdd, Nat.reduceLeDiff, Nat.reduceMul, Nat.reduceBEq, encRoom_eq, roomCells_eq, encSetting_eq, encLook_eq, encSpan_eq, L64_0, V_snextT hk1, hR, hW] | refine rK_dreg0 rfl ?_))
      cases h1 : decide (97 ≤ R)
      · have h1' : ¬ 97 ≤ R := by simpa using h1
        (repeat (first | simp only [↓QP, ↓QD, QR, QV, QS, QC, implies_true, forall_const, ne_eq, not_false_eq_true, not_true_eq_false, Nat.reduceLT, reduceIte, Nat.reduceEqDiff, Nat.reduceAdd, Nat.reduceLeDiff, Nat.reduceMul, Nat.reduceBEq, encRoom_eq, roomCells_eq, encSetting_eq, encLook_eq, encSpan_eq, h1] | refine rK_dreg0 rfl ?_))
        cases h3 : ((k : Int) == 0)
        · have h3' : 0 < k := by simp at h3; omega
          (repeat (first | simp only [↓QP, ↓QD, QR, QV, QS, QC, implies_true, forall_const, ne_eq, not_false_eq_true, not_true_eq_false, Nat.reduceLT, reduceIte, Nat.reduceEqDiff, Nat.reduceAdd, Nat.reduceLeDiff, Nat.reduceMul, Nat.reduceBEq, encRoom_eq, roomCells_eq, encSetting_eq, encLook_eq, encSpan_eq, h3] | refine rK_dreg0 rfl ?_))
          cases h4 : (R == 46)
          · have h4' : R ≠ 46 := by simpa using h4
            (repeat (first | simp only [↓QP, ↓QD, QR, QV, QS, QC, implies_true, forall_const, ne_eq, not_false_eq_true, not_true_eq_false, Nat.reduceLT, reduceIte, Nat.reduceEqDiff, Nat.reduceAdd, Nat.reduceLeDiff, Nat.reduceMul, Nat.reduceBEq, encRoom_eq, roomCells_eq, encSetting_eq, encLook_eq, encSpan_eq, h4] | refine rK_dreg0 rfl ?_))
            cases h5 : decide (R < 48)
            · have h5' : ¬ R < 48 := by simpa using h5
              (repeat (first | simp only [↓QP, ↓QD, QR, QV, QS, QC, implies_true, forall_const, ne_eq, not_false_eq_true, not_true_eq_false, Nat.reduceLT, reduceIte, Nat.reduceEqDiff, Nat.reduceAdd, Nat.reduceLeDiff, Nat.reduceMul, Nat.reduceBEq, encRoom_eq, roomCells_eq, encSetting_eq, encLook_eq, encSpan_eq, h5] | refine rK_dreg0 rfl ?_))
              cases h6 : decide (57 < R)
              · have h6' : ¬ 57 < R := by simpa using h6
                (repeat (first | simp only [↓QP, ↓QD, QR, QV, QS, QC, implies_true, forall_const, ne_eq, not_false_eq_true, not_true_eq_false, Nat.reduceLT, reduceIte, Nat.reduceEqDiff, Nat.reduceAdd, Nat.reduceLeDiff, Nat.reduceMul, Nat.reduceBEq, encRoom_eq, roomCells_eq, encSetting_eq, encLook_eq, encSpan_eq, h6] | refine rK_dreg0 rfl ?_))
                exact go _ (key (by omega)) (by try simp only [TrimX, QT, QS, q_get, List.length_append, Nat.le_add_right, QC, implies_true, forall_const, ne_eq, not_false_eq_true, not_true_eq_false, Nat.reduceLT, reduceIte, Nat.reduceEqDiff, Nat.reduceAdd, Nat.reduceLeDiff, Nat.reduceMul, Nat.reduceBEq, encRoom_eq, roomCells_eq, encSetting_eq, encLook_eq, encSpan_eq]) (by try simp only [TrimX, QT, QS, q_get, List.length_append, Nat.le_add_right, QC, implies_true, forall_const, ne_eq, not_false_eq_true, not_true_eq_false, Nat.reduceLT, reduceIte, Nat.reduceEqDiff, Nat.reduceAdd, Nat.reduceLeDiff, Nat.reduceMul, Nat.reduceBEq, encRoom_eq, roomCells_eq, encSetting_eq, encLook_eq, encSpan_eq])
              · have h6' : 57 < R := by simpa using h6
                rw [key2 (by omega)]
                (repeat (first | simp only [↓QP, ↓QD, QR, QV, QS, QC, implies_true, forall_const, ne_eq, not_false_eq_true, not_true_eq_false, Nat.reduceLT, reduceIte, Nat.reduceEqDiff, Nat.reduceAdd, Nat.reduceLeDiff, Nat.reduceMul, Nat.reduceBEq, encRoom_eq, roomCells_eq, encSetting_eq, encLook_eq, encSpan_eq, h6] | refine rK_dreg0 rfl ?_))
            · have h5' : R < 48 := by simpa using h5
              rw [key2 (by omega)]
              (repeat (first | simp only [↓QP, ↓QD, QR, QV, QS, QC, implies_true, forall_const, ne_eq, not_false_eq_true, not_true_eq_false, Nat.reduceLT, reduceIte, Nat.reduceEqDiff, Nat.reduceAdd, Nat.reduceLeDiff, Nat.reduceMul, Nat.reduceBEq, encRoom_eq, roomCells_eq, encSetting_eq, encLook_eq, encSpan_eq, h5] | refine rK_dreg0 rfl ?_))
          · have h4' : R = 46 := by simpa using h4
            (repeat (first | simp only [↓QP, ↓QD, QR, QV, QS, QC, implies_true, forall_const, ne_eq, not_false_eq_true, not_true_eq_false, Nat.reduceLT, reduceIte, Nat.reduceEqDiff, Nat.reduceAdd, Nat.reduceLeDiff, Nat.reduceMul, Nat.reduceBEq, encRoom_eq, roomCells_eq, encSetting_eq, encLook_eq, encSpan_eq, h4] | refine rK_dreg0 rfl ?_))
            exact go _ (key (by omega)) (by try simp only [TrimX, QT, QS, q_get, List.length_append, Nat.le_add_right, QC, implies_true, forall_const, ne_eq, not_false_eq_true, not_true_eq_false, Nat.reduceLT, reduceIte, Nat.reduceEqDiff, Nat.reduceAdd, Nat.reduceLeDiff, Nat.reduceMul, Nat.reduceBEq, encRoom_eq, roomCells_eq, encSetting_eq, encLook_eq, encSpan_eq]) (by try simp only [TrimX, QT, QS, q_get, List.length_append, Nat.le_add_right, QC, implies_true, forall_const, ne_eq, not_false_eq_true, not_true_eq_false, Nat.reduceLT, reduceIte, Nat.reduceEqDiff, Nat.reduceAdd, Nat.reduceLeDiff, Nat.reduceMul, Nat.reduceBEq, encRoom_eq, roomCells_eq, encSetting_eq, encLook_eq, encSpan_eq])
        · have h3' : k = 0 := by simp at h3; omega
          rw [key2 (by omega)]
          (repeat (first | simp only [↓QP, ↓QD, QR, QV, QS, QC, implies_true, forall_const, ne_eq, not_false_eq_true, not_true_eq_false, Nat.reduceLT, reduceIte, Nat.reduceEqDiff, Nat.reduceAdd, Nat.reduceLeDiff, Nat.reduceMul, Nat.reduceBEq, encRoom_eq, roomCells_eq, encSetting_eq, encLook_eq, encSpan_eq, h3] | refine rK_dreg0 rfl ?_))
      · have h1' : 97 ≤ R := by simpa using h1
        (repeat (first | simp only [↓QP, ↓QD, QR, QV, QS, QC, implies_true, forall_const, ne_eq, not_false_eq_true, not_true_eq_false, Nat.reduceLT, reduceIte, Nat.reduceEqDiff, Nat.reduceAdd, Nat.reduceLeDiff, Nat.reduceMul, Nat.reduceBEq, encRoom_eq, roomCells_eq, encSetting_eq, encLook_eq, encSpan_eq, h1] | refine rK_dreg0 rfl ?_))
        cases h2 : decide (R ≤ 122)
        · have h2' : ¬ R ≤ 122 := by simpa using h2
          (repeat (first | simp only [↓QP, ↓QD, QR, QV, QS, QC, implies_true, forall_const, ne_eq, not_false_eq_true, not_true_eq_false, Nat.reduceLT, reduceIte, Nat.reduceEqDiff, Nat.reduceAdd, Nat.reduceLeDiff, Nat.reduceMul, Nat.reduceBEq, encRoom_eq, roomCells_eq, encSetting_eq, encLook_eq, encSpan_eq, h2] | refine rK_dreg0 rfl ?_))
          cases h3 : ((k : Int) == 0)
          · have h3' : 0 < k := by simp at h3; omega
            (repeat (first | simp only [↓QP, ↓QD, QR, QV, QS, QC, implies_true, forall_const, ne_eq, not_false_eq_true, not_true_eq_false, Nat.reduceLT, reduceIte, Nat.reduceEqDiff, Nat.reduceAdd, Nat.reduceLeDiff, Nat.reduceMul, Nat.reduceBEq, encRoom_eq, roomCells_eq, encSetting_eq, encLook_eq, encSpan_eq, h3] | refine rK_dreg0 rfl ?_))
            cases h4 : (R == 46)
            · have h4' : R ≠ 46 := by simpa using h4
              (repeat (first | simp only [↓QP, ↓QD, QR, QV, QS, QC, implies_true, forall_const, ne_eq, not_false_eq_true, not_true_eq_false, Nat.reduceLT, reduceIte, Nat.reduceEqDiff, Nat.reduceAdd, Nat.reduceLeDiff, Nat.reduceMul, Nat.reduceBEq, encRoom_eq, roomCells_eq, encSetting_eq, encLook_eq, encSpan_eq, h4] | refine rK_dreg0 rfl ?_))
              cases h5 : decide (R < 48)
              · have h5' : ¬ R < 48 := by simpa using h5
                (repeat (first | simp only [↓QP, ↓QD, QR, QV, QS, QC, implies_true, forall_const, ne_eq, not_false_eq_true, not_true_eq_false, Nat.reduceLT, reduceIte, Nat.reduceEqDiff, Nat.reduceAdd, Nat.reduceLeDiff, Nat.reduceMul, Nat.reduceBEq, encRoom_eq, roomCells_eq, encSetting_eq, encLook_eq, encSpan_eq, h5] | refine rK_dreg0 rfl ?_))
                cases h6 : decide (57 < R)
                · have h6' : ¬ 57 < R := by simpa using h6
                  (repeat (first | simp only [↓QP, ↓QD, QR, QV, QS, QC, implies_true, forall_const, ne_eq, not_false_eq_true, not_true_eq_false, Nat.reduceLT, reduceIte, Nat.reduceEqDiff, Nat.reduceAdd, Nat.reduceLeDiff, Nat.reduceMul, Nat.reduceBEq, encRoom_eq, roomCells_eq, encSetting_eq, encLook_eq, encSpan_eq, h6] | refine rK_dreg0 rfl ?_))
                  exact go _ (key (by omega)) (by try simp only [TrimX, QT, QS, q_get, List.length_append, Nat.le_add_right, QC, implies_true, forall_const, ne_eq, not_false_eq_true, not_true_eq_false, Nat.reduceLT, reduceIte, Nat.reduceEqDiff, Nat.reduceAdd, Nat.reduceLeDiff, Nat.reduceMul, Nat.reduceBEq, encRoom_eq, roomCells_eq, encSetting_eq, encLook_eq, encSpan_eq]) (by try simp only [TrimX, QT, QS, q_get, List.length_append, Nat.le_add_right, QC, implies_true, forall_const, ne_eq, not_false_eq_true, not_true_eq_false, Nat.reduceLT, reduceIte, Nat.reduceEqDiff, Nat.reduceAdd, Nat.reduceLeDiff, Nat.reduceMul, Nat.reduceBEq, encRoom_eq, roomCells_eq, encSetting_eq, encLook_eq, encSpan_eq])
                · have h6' : 57 < R := by simpa using h6
                  rw [key2 (by omega)]
                  (repeat (first | simp only [↓QP, ↓QD, QR, QV, QS, QC, implies_true, forall_const, ne_eq, not_false_eq_true, not_true_eq_false, Nat.reduceLT, reduceIte, Nat.reduceEqDiff, Nat.reduceAdd, Nat.reduceLeDiff, Nat.reduceMul, Nat.reduceBEq, encRoom_eq, roomCells_eq, encSetting_eq, encLook_eq, encSpan_eq, h6] | refine rK_dreg0 rfl ?_))
              · have h5' : R < 48 := by simpa using h5
                rw [key2 (by omega)]
                (repeat (first | simp only [↓QP, ↓QD, QR, QV, QS, QC, implies_true, forall_const, ne_eq, not_false_eq_true, not_true_eq_false, Nat.reduceLT, reduceIte, Nat.reduceEqDiff, Nat.reduceAdd, Nat.reduceLeDiff, Nat.reduceMul, Nat.reduceBEq, encRoom_eq, roomCells_eq, encSetting_eq, encLook_eq, encSpan_eq, h5] | refine rK_dreg0 rfl ?_))
            · have h4' : R = 46 := by simpa using h4
              (repeat (first | simp only [↓QP, ↓QD, QR, QV, QS, QC, implies_true, forall_const, ne_eq, not_false_eq_true, not_true_eq_false, Nat.reduceLT, reduceIte, Nat.reduceEqDiff, Nat.reduceAdd, Nat.reduceLeDiff, Nat.reduceMul, Nat.reduceBEq, encRoom_eq, roomCells_eq, encSetting_eq, encLook_eq, encSpan_eq, h4] | refine rK_dreg0 rfl ?_))
              exact go _ (key (by omega)) (by try simp only [TrimX, QT, QS, q_get, List.length_append, Nat.le_add_right, QC, implies_true, forall_const, ne_eq, not_false_eq_true, not_true_eq_false, Nat.reduceLT, reduceIte, Nat.reduceEqDiff, Nat.reduceAdd, Nat.reduceLeDiff, Nat.reduceMul, Nat.reduceBEq, encRoom_eq, roomCells_eq, encSetting_eq, encLook_eq, encSpan_eq]) (by try simp only [TrimX, QT, QS, q_get, List.length_append, Nat.le_add_right, QC, implies_true, forall_const, ne_eq, not_false_eq_true, not_true_eq_false, Nat.reduceLT, reduceIte, Nat.reduceEqDiff, Nat.reduceAdd, Nat.reduceLeDiff, Nat.reduceMul, Nat.reduceBEq, encRoom_eq, roomCells_eq, encSetting_eq, encLook_eq, encSpan_eq])
          · have h3' : k = 0 := by simp at h3; omega
            rw [key2 (by omega)]
            (repeat (first | simp only [↓QP, ↓QD, QR, QV, QS, QC, implies_true, forall_const, ne_eq, not_false_eq_true, not_true_eq_false, Nat.reduceLT, reduceIte, Nat.reduceEqDiff, Nat.reduceAdd, Nat.reduceLeDiff, Nat.reduceMul, Nat.reduceBEq, encRoom_eq, roomCells_eq, encSetting_eq, encLook_eq, encSpan_eq, h3] | refine rK_dreg0 rfl ?_))
        · have h2' : R ≤ 122 := by simpa using h2
          (repeat (first | simp only [↓QP, ↓QD, QR, QV, QS, QC, implies_true, forall_const, ne_eq, not_false_eq_true, not_true_eq_false, Nat.reduceLT, reduceIte, Nat.reduceEqDiff, Nat.reduceAdd, Nat.reduceLeDiff, Nat.reduceMul, Nat.reduceBEq, encRoom_eq, roomCells_eq, encSetting_eq, encLook_eq, encSpan_eq, h2] | refine rK_dreg0 rfl ?_))
          exact go _ (key (by omega)) (by try simp only [TrimX, QT, QS, q_get, List.length_append, Nat.le_add_right, QC, implies_true, forall_const, ne_eq, not_false_eq_true, not_true_eq_false, Nat.reduceLT, reduceIte, Nat.reduceEqDiff, Nat.reduceAdd, Nat.reduceLeDiff, Nat.reduceMul, Nat.reduceBEq, encRoom_eq, roomCells_eq, encSetting_eq, encLook_eq, encSpan_eq]) (by try simp only [TrimX, QT, QS, q_get, List.length_append, Nat.le_add_right, QC, implies_true, forall_const, ne_eq, not_false_eq_true, not_true_eq_false, Nat.reduceLT, reduceIte, Nat.reduceEqDiff, Nat.reduceAdd, Nat.reduceLeDiff, Nat.reduceMul, Nat.reduceBEq, encRoom_eq, roomCells_eq, encSetting_eq, encLook_eq, encSpan_eq])
    · have hk2 : k = s.size := by omega
      (repeat (first | simp only [↓QP, ↓QD, QR, QV, QS, QC, implies_true, forall_const, ne_eq, not_false_eq_true, not_true_eq_false, Nat.reduceLT, reduceIte, Nat.reduceEqDiff, Nat.reduceAdd, Nat.reduceLeDiff, Nat.reduceMul, Nat.reduceBEq, encRoom_eq, roomCells_eq, encSetting_eq, encLook_eq, encSpan_eq, L64_0, V_snextF hk1] | refine rK_dreg0 rfl ?_))
      ((first | refine callK_v (off_ok 1 16 [(s.size : Int)] (by simp)) (by simp [clr, clrs, ints]) (by simp [okV, okVs]) ?_ | refine callD_v (off_ok 1 16 [(s.size : Int)] (by simp)) (by simp [clr, clrs, ints]) (by simp [okV, okVs]) ?_); (repeat (first | simp only [↓QP, ↓QD, QR, QV, QS, QC, implies_true, forall_const, ne_eq, not_false_eq_true, not_true_eq_false, Nat.reduceLT, reduceIte, Nat.reduceEqDiff, Nat.reduceAdd, Nat.reduceLeDiff, Nat.reduceMul, Nat.reduceBEq, encRoom_eq, roomCells_eq, encSetting_eq, encLook_eq, encSpan_eq] | refine rK_dreg0 rfl ?_)))
      rw [beyond1]
      (repeat (first | simp only [↓QP, ↓QD, QR, QV, QS, QC, implies_true, forall_const, ne_eq, not_false_eq_true, not_true_eq_false, Nat.reduceLT, reduceIte, Nat.reduceEqDiff, Nat.reduceAdd, Nat.reduceLeDiff, Nat.reduceMul, Nat.reduceBEq, encRoom_eq, roomCells_eq, encSetting_eq, encLook_eq, encSpan_eq] | refine rK_dreg0 rfl ?_))
      simp [nameOk, ← hk2, hok]
theorem rule1_ok (r : Rm) : Pure T 97 [encRoom r] (.bool (inR r.days 1 6 && (inR r.start.lo 0 69 && inR r.start.hi 0 69) && inR r.opens 0 6)) := by
  refine pure_fn (af := a97) rfl (by simp [a97]) (by repeat (first | exact datas_nil | refine datas_cons ?_ ?_ | exact data_int _ _ | exact data_ints _ | exact data_span _ | exact data_bool _ | exact data_str _ | exact data_strs _ | exact data_room _ | exact data_setting _ | exact data_look _ | exact data_intss _)) ?_
  (repeat (first | simp only [↓QP, ↓QD, QR, QV, QS, QC, implies_true, forall_const, ne_eq, not_false_eq_true, not_true_eq_false, Nat.reduceLT, reduceIte, Nat.reduceEqDiff, Nat.reduceAdd, Nat.reduceLeDiff, Nat.reduceMul, Nat.reduceBEq, encRoom_eq, roomCells_eq, encSetting_eq, encLook_eq, encSpan_eq, a97] | refine rK_dreg0 rfl ?_))
  ((first | refine callK_v (beyond_ok 1 6 [r.days] (by simp)) (by simp [clr, clrs, ints]) (by simp [okV, okVs]) ?_ | refine callD_v (beyond_ok 1 6 [r.days] (by simp)) (by simp [clr, clrs, ints]) (by simp [okV, okVs]) ?_); (repeat (first | simp only [↓QP, ↓QD, QR, QV, QS, QC, implies_true, forall_const, ne_eq, not_false_eq_true, not_true_eq_false, Nat.reduceLT, reduceIte, Nat.reduceEqDiff, Nat.reduceAdd, Nat.reduceLeDiff, Nat.reduceMul, Nat.reduceBEq, encRoom_eq, roomCells_eq, encSetting_eq, encLook_eq, encSpan_eq, beyond1] | refine rK_dreg0 rfl ?_)))
  cases h1 : inR r.days 1 6
  · (repeat (first | simp only [↓QP, ↓QD, QR, QV, QS, QC, implies_true, forall_const, ne_eq, not_false_eq_true, not_true_eq_false, Nat.reduceLT, reduceIte, Nat.reduceEqDiff, Nat.reduceAdd, Nat.reduceLeDiff, Nat.reduceMul, Nat.reduceBEq, encRoom_eq, roomCells_eq, encSetting_eq, encLook_eq, encSpan_eq] | refine rK_dreg0 rfl ?_))
    simp
  · (repeat (first | simp only [↓QP, ↓QD, QR, QV, QS, QC, implies_true, forall_const, ne_eq, not_false_eq_true, not_true_eq_false, Nat.reduceLT, reduceIte, Nat.reduceEqDiff, Nat.reduceAdd, Nat.reduceLeDiff, Nat.reduceMul, Nat.reduceBEq, encRoom_eq, roomCells_eq, encSetting_eq, encLook_eq, encSpan_eq] | refine rK_dreg0 rfl ?_))
    ((first | refine callK_v (beyond_ok 0 69 [r.start.lo, r.start.hi] (by simp)) (by simp [clr, clrs, ints]) (by simp [okV, okVs]) ?_ | refine callD_v (beyond_ok 0 69 [r.start.lo, r.start.hi] (by simp)) (by simp [clr, clrs, ints]) (by simp [okV, okVs]) ?_); (repeat (first | simp only [↓QP, ↓QD, QR, QV, QS, QC, implies_true, forall_const, ne_eq, not_false_eq_true, not_true_eq_false, Nat.reduceLT, reduceIte, Nat.reduceEqDiff, Nat.reduceAdd, Nat.reduceLeDiff, Nat.reduceMul, Nat.reduceBEq, encRoom_eq, roomCells_eq, encSetting_eq, encLook_eq, encSpan_eq, beyond2] | refine rK_dreg0 rfl ?_)))
    cases h2 : (!inR r.start.lo 0 69 || !inR r.start.hi 0 69)
    · have h2' : (inR r.start.lo 0 69 && inR r.start.hi 0 69) = true := by simpa using h2
      (repeat (first | simp only [↓QP, ↓QD, QR, QV, QS, QC, implies_true, forall_const, ne_eq, not_false_eq_true, not_true_eq_false, Nat.reduceLT, reduceIte, Nat.reduceEqDiff, Nat.reduceAdd, Nat.reduceLeDiff, Nat.reduceMul, Nat.reduceBEq, encRoom_eq, roomCells_eq, encSetting_eq, encLook_eq, encSpan_eq] | refine rK_dreg0 rfl ?_))
      ((first | refine callK_v (beyond_ok 0 6 [r.opens] (by simp)) (by simp [clr, clrs, ints]) (by simp [okV, okVs]) ?_ | refine callD_v (beyond_ok 0 6 [r.opens] (by simp)) (by simp [clr, clrs, ints]) (by simp [okV, okVs]) ?_); (repeat (first | simp only [↓QP, ↓QD, QR, QV, QS, QC, implies_true, forall_const, ne_eq, not_false_eq_true, not_true_eq_false, Nat.reduceLT, reduceIte, Nat.reduceEqDiff, Nat.reduceAdd, Nat.reduceLeDiff, Nat.reduceMul, Nat.reduceBEq, encRoom_eq, roomCells_eq, encSetting_eq, encLook_eq, encSpan_eq, beyond1, h2'] | refine rK_dreg0 rfl ?_)))
      simp
    · have h2' : (inR r.start.lo 0 69 && inR r.start.hi 0 69) = false := by cases ha : inR r.start.lo 0 69 <;> simp_all
      (repeat (first | simp only [↓QP, ↓QD, QR, QV, QS, QC, implies_true, forall_const, ne_eq, not_false_eq_true, not_true_eq_false, Nat.reduceLT, reduceIte, Nat.reduceEqDiff, Nat.reduceAdd, Nat.reduceLeDiff, Nat.reduceMul, Nat.reduceBEq, encRoom_eq, roomCells_eq, encSetting_eq, encLook_eq, encSpan_eq, h2'] | refine rK_dreg0 rfl ?_))
      try simp
theorem rule2_ok (r : Rm) : Pure T 98 [encRoom r] (.bool (decide (r.start.lo ≤ r.start.hi))) := by
  refine pure_fn (af := a98) rfl (by simp [a98]) (by repeat (first | exact datas_nil | refine datas_cons ?_ ?_ | exact data_int _ _ | exact data_ints _ | exact data_span _ | exact data_bool _ | exact data_str _ | exact data_strs _ | exact data_room _ | exact data_setting _ | exact data_look _ | exact data_intss _)) ?_
  (repeat (first | simp only [↓QP, ↓QD, QR, QV, QS, QC, implies_true, forall_const, ne_eq, not_false_eq_true, not_true_eq_false, Nat.reduceLT, reduceIte, Nat.reduceEqDiff, Nat.reduceAdd, Nat.reduceLeDiff, Nat.reduceMul, Nat.reduceBEq, encRoom_eq, roomCells_eq, encSetting_eq, encLook_eq, encSpan_eq, a98] | refine rK_dreg0 rfl ?_))
def theRules : List AV := [.agg [.int .i64 7, .func 97 [] []], .agg [.int .i64 2, .func 98 [] []]]
theorem rules_ok : Pure T 61 [] (.lit theRules false none) := by
  refine pure_fn (af := a61) rfl (by simp [a61]) datas_nil ?_
  (repeat (first | simp only [↓QP, ↓QD, QR, QV, QS, QC, implies_true, forall_const, ne_eq, not_false_eq_true, not_true_eq_false, Nat.reduceLT, reduceIte, Nat.reduceEqDiff, Nat.reduceAdd, Nat.reduceLeDiff, Nat.reduceMul, Nat.reduceBEq, encRoom_eq, roomCells_eq, encSetting_eq, encLook_eq, encSpan_eq, a61, theRules] | refine rK_dreg0 rfl ?_))
theorem index_set (σ : St) (f : AV) (l : List Setting) (p : Setting → Bool) (hl : l.length < 9223372036854775808) (hk : Keeps σ f) (h : ∀ x ∈ l, Same T f [encSetting x] σ (.bool (p x))) : Same T (.func 100 [] []) [.lit (l.map encSetting) false none, f] σ (.int .i64 (idxOf p l 0)) := by
  refine same_fn (af := a100) rfl (by simp [a100]) ?_
  have hk0 := hk.nil
  (repeat (first | simp only [↓QP, ↓QD, QR, QV, QS, QC, implies_true, forall_const, ne_eq, not_false_eq_true, not_true_eq_false, Nat.reduceLT, reduceIte, Nat.reduceEqDiff, Nat.reduceAdd, Nat.reduceLeDiff, Nat.reduceMul, Nat.reduceBEq, encRoom_eq, roomCells_eq, encSetting_eq, encLook_eq, encSpan_eq, a100] | refine rK_dreg0 rfl ?_))
  refine loopE (S := Nat) 0 (fun k => k ≤ l.length ∧ idxOf p (l.drop k) k = idxOf p l 0) (fun k => l.length - k) (fun k => [(0, .lit (l.map encSetting) false none), (1, f), (7, .int .i64 l.length), (8, .int .i64 k)]) (fun _ => σ) ⟨Nat.zero_le _, by simp⟩ rfl ?_ fun k hk1 => ?_
  · try simp only [TrimX, QT, QS, q_get, List.length_append, Nat.le_add_right, QC, implies_true, forall_const, ne_eq, not_false_eq_true, not_true_eq_false, Nat.reduceLT, reduceIte, Nat.reduceEqDiff, Nat.reduceAdd, Nat.reduceLeDiff, Nat.reduceMul, Nat.reduceBEq, encRoom_eq, roomCells_eq, encSetting_eq, encLook_eq, encSpan_eq]
    try simp
  · obtain ⟨hkl, hi⟩ := hk1
    (repeat (first | simp only [↓QP, ↓QD, QR, QV, QS, QC, implies_true, forall_const, ne_eq, not_false_eq_true, not_true_eq_false, Nat.reduceLT, reduceIte, Nat.reduceEqDiff, Nat.reduceAdd, Nat.reduceLeDiff, Nat.reduceMul, Nat.reduceBEq, encRoom_eq, roomCells_eq, encSetting_eq, encLook_eq, encSpan_eq, L100_0] | refine rK_dreg0 rfl ?_))
    refine iteP_intro (fun hd => ?_) fun hd => ?_
    · have hlt : k < l.length := by simpa using hd
      rw [List.drop_eq_getElem_cons hlt] at hi
      simp only [idxOf] at hi
      have hw := wrapN hlt hl
      (repeat (first | simp only [↓QP, ↓QD, QR, QV, QS, QC, implies_true, forall_const, ne_eq, not_false_eq_true, not_true_eq_false, Nat.reduceLT, reduceIte, Nat.reduceEqDiff, Nat.reduceAdd, Nat.reduceLeDiff, Nat.reduceMul, Nat.reduceBEq, encRoom_eq, roomCells_eq, encSetting_eq, encLook_eq, encSpan_eq, hlt] | refine rK_dreg0 rfl ?_))
      refine callK_same (h l[k] (List.getElem_mem hlt)) ?_
      (repeat (first | simp only [↓QP, ↓QD, QR, QV, QS, QC, implies_true, forall_const, ne_eq, not_false_eq_true, not_true_eq_false, Nat.reduceLT, reduceIte, Nat.reduceEqDiff, Nat.reduceAdd, Nat.reduceLeDiff, Nat.reduceMul, Nat.reduceBEq, encRoom_eq, roomCells_eq, encSetting_eq, encLook_eq, encSpan_eq] | refine rK_dreg0 rfl ?_))
      cases hp : p l[k]
      · (repeat (first | simp only [↓QP, ↓QD, QR, QV, QS, QC, implies_true, forall_const, ne_eq, not_false_eq_true, not_true_eq_false, Nat.reduceLT, reduceIte, Nat.reduceEqDiff, Nat.reduceAdd, Nat.reduceLeDiff, Nat.reduceMul, Nat.reduceBEq, encRoom_eq, roomCells_eq, encSetting_eq, encLook_eq, encSpan_eq, hw] | refine rK_dreg0 rfl ?_))
        refine ⟨k + 1, ⟨by omega, by rw [← hi, hp]; rfl⟩, by omega, ?_⟩
        try simp only [TrimX, QT, QS, q_get, List.length_append, Nat.le_add_right, QC, implies_true, forall_const, ne_eq, not_false_eq_true, not_true_eq_false, Nat.reduceLT, reduceIte, Nat.reduceEqDiff, Nat.reduceAdd, Nat.reduceLeDiff, Nat.reduceMul, Nat.reduceBEq, encRoom_eq, roomCells_eq, encSetting_eq, encLook_eq, encSpan_eq, hw, hk0, Nat.le_refl, S_mapSet]
      · (repeat (first | simp only [↓QP, ↓QD, QR, QV, QS, QC, implies_true, forall_const, ne_eq, not_false_eq_true, not_true_eq_false, Nat.reduceLT, reduceIte, Nat.reduceEqDiff, Nat.reduceAdd, Nat.reduceLeDiff, Nat.reduceMul, Nat.reduceBEq, encRoom_eq, roomCells_eq, encSetting_eq, encLook_eq, encSpan_eq] | refine rK_dreg0 rfl ?_))
        refine baseR [] (by first | rfl | simp) ?_
        rw [← hi, hp]
        try simp only [QS, QC, implies_true, forall_const, ne_eq, not_false_eq_true, not_true_eq_false, Nat.reduceLT, reduceIte, Nat.reduceEqDiff, Nat.reduceAdd, Nat.reduceLeDiff, Nat.reduceMul, Nat.reduceBEq, encRoom_eq, roomCells_eq, encSetting_eq, encLook_eq, encSpan_eq]
    · have hlt : k = l.length := by simp at hd; omega
      (repeat (first | simp only [↓QP, ↓QD, QR, QV, QS, QC, implies_true, forall_const, ne_eq, not_false_eq_true, not_true_eq_false, Nat.reduceLT, reduceIte, Nat.reduceEqDiff, Nat.reduceAdd, Nat.reduceLeDiff, Nat.reduceMul, Nat.reduceBEq, encRoom_eq, roomCells_eq, encSetting_eq, encLook_eq, encSpan_eq] | refine rK_dreg0 rfl ?_))
      refine baseR [] (by first | rfl | simp) ?_
      rw [← hi, hlt, List.drop_length]
      try simp only [QS, QC, implies_true, forall_const, ne_eq, not_false_eq_true, not_true_eq_false, Nat.reduceLT, reduceIte, Nat.reduceEqDiff, Nat.reduceAdd, Nat.reduceLeDiff, Nat.reduceMul, Nat.reduceBEq, encRoom_eq, roomCells_eq, encSetting_eq, encLook_eq, encSpan_eq, idxOf]
theorem contains_set (σ : St) (f : AV) (l : List Setting) (p : Setting → Bool) (hl : l.length < 9223372036854775808) (hk : Keeps σ f) (h : ∀ x ∈ l, Same T f [encSetting x] σ (.bool (p x))) : Same T (.func 65 [] []) [.lit (l.map encSetting) false none, f] σ (.bool (l.any p)) := by
  refine same_fn (af := a65) rfl (by simp [a65]) ?_
  (repeat (first | simp only [↓QP, ↓QD, QR, QV, QS, QC, implies_true, forall_const, ne_eq, not_false_eq_true, not_true_eq_false, Nat.reduceLT, reduceIte, Nat.reduceEqDiff, Nat.reduceAdd, Nat.reduceLeDiff, Nat.reduceMul, Nat.reduceBEq, encRoom_eq, roomCells_eq, encSetting_eq, encLook_eq, encSpan_eq, a65] | refine rK_dreg0 rfl ?_))
  refine callK_same (index_set σ f l p hl hk h) ?_
  (repeat (first | simp only [↓QP, ↓QD, QR, QV, QS, QC, implies_true, forall_const, ne_eq, not_false_eq_true, not_true_eq_false, Nat.reduceLT, reduceIte, Nat.reduceEqDiff, Nat.reduceAdd, Nat.reduceLeDiff, Nat.reduceMul, Nat.reduceBEq, encRoom_eq, roomCells_eq, encSetting_eq, encLook_eq, encSpan_eq] | refine rK_dreg0 rfl ?_))
  refine baseR [] (by first | rfl | simp) ?_
  rw [← idxOf_any p l 0]
  try simp only [QS, QC, implies_true, forall_const, ne_eq, not_false_eq_true, not_true_eq_false, Nat.reduceLT, reduceIte, Nat.reduceEqDiff, Nat.reduceAdd, Nat.reduceLeDiff, Nat.reduceMul, Nat.reduceBEq, encRoom_eq, roomCells_eq, encSetting_eq, encLook_eq, encSpan_eq]
def failing {α : Type} (least most : Int) (of : Nat → α → Int) (l : List α) : Int × Int := if inR l.length least most = false then (0, 3) else match firstBad of l 0 with | some (i, e) => (i, e) | none => (0, 0)
def enc2 (x : Int × Int) : AV := .tuple [.int .i64 x.1, .int .i64 x.2]
theorem failing_set (σ : St) (f : AV) (l : List Setting) (least most : Int) (of : Nat → Setting → Int) (hl : l.length < 9223372036854775808) (hk : Keeps σ f)
    (h : ∀ i (hi : i < l.length), Same T f [.int .i64 i, encSetting l[i]] (σ ++ [.cells (encSetting l[i]).cells]) (.int .i64 (of i l[i]))) : Same T (.func 62 [] []) [.lit (l.map encSetting) false none, .int .i64 least, .int .i64 most, f] σ (enc2 (failing least most of l)) := by
  refine same_fn (af := a62) rfl (by simp [a62]) ?_
  have hk0 := hk.nil
  have hk2 : ∀ τ, snapM (σ ++ τ) σ.length 20 f = some f := hk
  (repeat (first | simp only [↓QP, ↓QD, QR, QV, QS, QC, implies_true, forall_const, ne_eq, not_false_eq_true, not_true_eq_false, Nat.reduceLT, reduceIte, Nat.reduceEqDiff, Nat.reduceAdd, Nat.reduceLeDiff, Nat.reduceMul, Nat.reduceBEq, encRoom_eq, roomCells_eq, encSetting_eq, encLook_eq, encSpan_eq, a62] | refine rK_dreg0 rfl ?_))
  ((first | refine callK_v (beyond_ok least most [(l.length : Int)] (by simp)) (by simp [clr, clrs, ints]) (by simp [okV, okVs]) ?_ | refine callD_v (beyond_ok least most [(l.length : Int)] (by simp)) (by simp [clr, clrs, ints]) (by simp [okV, okVs]) ?_); (repeat (first | simp only [↓QP, ↓QD, QR, QV, QS, QC, implies_true, forall_const, ne_eq, not_false_eq_true, not_true_eq_false, Nat.reduceLT, reduceIte, Nat.reduceEqDiff, Nat.reduceAdd, Nat.reduceLeDiff, Nat.reduceMul, Nat.reduceBEq, encRoom_eq, roomCells_eq, encSetting_eq, encLook_eq, encSpan_eq, beyond1] | refine rK_dreg0 rfl ?_)))
  cases h1 : inR l.length least most
  · (repeat (first | simp only [↓QP, ↓QD, QR, QV, QS, QC, implies_true, forall_const, ne_eq, not_false_eq_true, not_true_eq_false, Nat.reduceLT, reduceIte, Nat.reduceEqDiff, Nat.reduceAdd, Nat.reduceLeDiff, Nat.reduceMul, Nat.reduceBEq, encRoom_eq, roomCells_eq, encSetting_eq, encLook_eq, encSpan_eq] | refine rK_dreg0 rfl ?_))
    refine baseR [] (by first | rfl | simp) ?_
    try simp only [QS, QC, implies_true, forall_const, ne_eq, not_false_eq_true, not_true_eq_false, Nat.reduceLT, reduceIte, Nat.reduceEqDiff, Nat.reduceAdd, Nat.reduceLeDiff, Nat.reduceMul, Nat.reduceBEq, encRoom_eq, roomCells_eq, encSetting_eq, encLook_eq, encSpan_eq, enc2, failing, h1]
  · (repeat (first | simp only [↓QP, ↓QD, QR, QV, QS, QC, implies_true, forall_const, ne_eq, not_false_eq_true, not_true_eq_false, Nat.reduceLT, reduceIte, Nat.reduceEqDiff, Nat.reduceAdd, Nat.reduceLeDiff, Nat.reduceMul, Nat.reduceBEq, encRoom_eq, roomCells_eq, encSetting_eq, encLook_eq, encSpan_eq] | refine rK_dreg0 rfl ?_))
    refine loopE (S := Nat) 0 (fun k => k ≤ l.length ∧ firstBad of (l.drop k) k = firstBad of l 0) (fun k => l.length - k) (fun k => [(3, f), (19, .lit (l.map encSetting) false none), (20, .int .i64 l.length), (21, .int .i64 k)]) (fun _ => σ) ⟨Nat.zero_le _, by simp⟩ rfl ?_ fun k hk1 => ?_
    · try simp only [TrimX, QT, QS, q_get, List.length_append, Nat.le_add_right, QC, implies_true, forall_const, ne_eq, not_false_eq_true, not_true_eq_false, Nat.reduceLT, reduceIte, Nat.reduceEqDiff, Nat.reduceAdd, Nat.reduceLeDiff, Nat.reduceMul, Nat.reduceBEq, encRoom_eq, roomCells_eq, encSetting_eq, encLook_eq, encSpan_eq]
      try simp
    · obtain ⟨hkl, hi⟩ := hk1
      (repeat (first | simp only [↓QP, ↓QD, QR, QV, QS, QC, implies_true, forall_const, ne_eq, not_false_eq_true, not_true_eq_false, Nat.reduceLT, reduceIte, Nat.reduceEqDiff, Nat.reduceAdd, Nat.reduceLeDiff, Nat.reduceMul, Nat.reduceBEq, encRoom_eq, roomCells_eq, encSetting_eq, encLook_eq, encSpan_eq, L62_0] | refine rK_dreg0 rfl ?_))
      refine iteP_intro (fun hd => ?_) fun hd => ?_
      · have hlt : k < l.length := by simpa using hd
        have hs := h k hlt
        rw [firstBad_step hlt] at hi
        have hw := wrapN hlt hl
        try simp only [↓QP, QV, QS, QC, implies_true, forall_const, ne_eq, not_false_eq_true, not_true_eq_false, Nat.reduceLT, reduceIte, Nat.reduceEqDiff, Nat.reduceAdd, Nat.reduceLeDiff, Nat.reduceMul, Nat.reduceBEq, encRoom_eq, roomCells_eq, encSetting_eq, encLook_eq, encSpan_eq, hlt] at hs
        (repeat (first | simp only [↓QP, ↓QD, QR, QV, QS, QC, implies_true, forall_const, ne_eq, not_false_eq_true, not_true_eq_false, Nat.reduceLT, reduceIte, Nat.reduceEqDiff, Nat.reduceAdd, Nat.reduceLeDiff, Nat.reduceMul, Nat.reduceBEq, encRoom_eq, roomCells_eq, encSetting_eq, encLook_eq, encSpan_eq, hlt] | refine rK_dreg0 rfl ?_))
        refine callK_same hs ?_
        (repeat (first | simp only [↓QP, ↓QD, QR, QV, QS, QC, implies_true, forall_const, ne_eq, not_false_eq_true, not_true_eq_false, Nat.reduceLT, reduceIte, Nat.reduceEqDiff, Nat.reduceAdd, Nat.reduceLeDiff, Nat.reduceMul, Nat.reduceBEq, encRoom_eq, roomCells_eq, encSetting_eq, encLook_eq, encSpan_eq] | refine rK_dreg0 rfl ?_))
        cases hp : (of k l[k] == 0)
        · have hp' : of k l[k] ≠ 0 := by simpa using hp
          rw [if_neg hp'] at hi
          (repeat (first | simp only [↓QP, ↓QD, QR, QV, QS, QC, implies_true, forall_const, ne_eq, not_false_eq_true, not_true_eq_false, Nat.reduceLT, reduceIte, Nat.reduceEqDiff, Nat.reduceAdd, Nat.reduceLeDiff, Nat.reduceMul, Nat.reduceBEq, encRoom_eq, roomCells_eq, encSetting_eq, encLook_eq, encSpan_eq, hp] | refine rK_dreg0 rfl ?_))
          refine baseR _ rfl ?_
          try simp only [QS, QC, implies_true, forall_const, ne_eq, not_false_eq_true, not_true_eq_false, Nat.reduceLT, reduceIte, Nat.reduceEqDiff, Nat.reduceAdd, Nat.reduceLeDiff, Nat.reduceMul, Nat.reduceBEq, encRoom_eq, roomCells_eq, encSetting_eq, encLook_eq, encSpan_eq, enc2, failing, h1, ← hi, reduceCtorEq]
        · have hp' : of k l[k] = 0 := by simpa using hp
          rw [if_pos hp'] at hi
          (repeat (first | simp only [↓QP, ↓QD, QR, QV, QS, QC, implies_true, forall_const, ne_eq, not_false_eq_true, not_true_eq_false, Nat.reduceLT, reduceIte, Nat.reduceEqDiff, Nat.reduceAdd, Nat.reduceLeDiff, Nat.reduceMul, Nat.reduceBEq, encRoom_eq, roomCells_eq, encSetting_eq, encLook_eq, encSpan_eq, hp, hw] | refine rK_dreg0 rfl ?_))
          refine ⟨k + 1, ⟨by omega, hi⟩, by omega, ?_⟩
          try simp only [TrimX, QT, QS, q_get, List.length_append, Nat.le_add_right, QC, implies_true, forall_const, ne_eq, not_false_eq_true, not_true_eq_false, Nat.reduceLT, reduceIte, Nat.reduceEqDiff, Nat.reduceAdd, Nat.reduceLeDiff, Nat.reduceMul, Nat.reduceBEq, encRoom_eq, roomCells_eq, encSetting_eq, encLook_eq, encSpan_eq, hw, hk0, hk2, Nat.le_refl, S_mapSet]
      · have hlt : k = l.length := by simp at hd; omega
        rw [firstBad_end hlt] at hi
        (repeat (first | simp only [↓QP, ↓QD, QR, QV, QS, QC, implies_true, forall_const, ne_eq, not_false_eq_true, not_true_eq_false, Nat.reduceLT, reduceIte, Nat.reduceEqDiff, Nat.reduceAdd, Nat.reduceLeDiff, Nat.reduceMul, Nat.reduceBEq, encRoom_eq, roomCells_eq, encSetting_eq, encLook_eq, encSpan_eq] | refine rK_dreg0 rfl ?_))
        refine baseR [] (by first | rfl | simp) ?_
        try simp only [QS, QC, implies_true, forall_const, ne_eq, not_false_eq_true, not_true_eq_false, Nat.reduceLT, reduceIte, Nat.reduceEqDiff, Nat.reduceAdd, Nat.reduceLeDiff, Nat.reduceMul, Nat.reduceBEq, encRoom_eq, roomCells_eq, encSetting_eq, encLook_eq, encSpan_eq, enc2, failing, h1, ← hi, reduceCtorEq]
theorem failing_look (σ : St) (f : AV) (l : List Look) (least most : Int) (of : Nat → Look → Int) (hl : l.length < 9223372036854775808) (hk : Keeps σ f)
    (h : ∀ i (hi : i < l.length), Same T f [.int .i64 i, encLook l[i]] (σ ++ [.cells (encLook l[i]).cells]) (.int .i64 (of i l[i]))) : Same T (.func 70 [] []) [.lit (l.map encLook) false none, .int .i64 least, .int .i64 most, f] σ (enc2 (failing least most of l)) := by
  refine same_fn (af := a70) rfl (by simp [a70]) ?_
  have hk0 := hk.nil
  have hk2 : ∀ τ, snapM (σ ++ τ) σ.length 20 f = some f := hk
  (repeat (first | simp only [↓QP, ↓QD, QR, QV, QS, QC, implies_true, forall_const, ne_eq, not_false_eq_true, not_true_eq_false, Nat.reduceLT, reduceIte, Nat.reduceEqDiff, Nat.reduceAdd, Nat.reduceLeDiff, Nat.reduceMul, Nat.reduceBEq, encRoom_eq, roomCells_eq, encSetting_eq, encLook_eq, encSpan_eq, a70] | refine rK_dreg0 rfl ?_))
  ((first | refine callK_v (beyond_ok least most [(l.length : Int)] (by simp)) (by simp [clr, clrs, ints]) (by simp [okV, okVs]) ?_ | refine callD_v (beyond_ok least most [(l.length : Int)] (by simp)) (by simp [clr, clrs, ints]) (by simp [okV, okVs]) ?_); (repeat (first | simp only [↓QP, ↓QD, QR, QV, QS, QC, implies_true, forall_const, ne_eq, not_false_eq_true, not_true_eq_false, Nat.reduceLT, reduceIte, Nat.reduceEqDiff, Nat.reduceAdd, Nat.reduceLeDiff, Nat.reduceMul, Nat.reduceBEq, encRoom_eq, roomCells_eq, encSetting_eq, encLook_eq, encSpan_eq, beyond1] | refine rK_dreg0 rfl ?_)))
  cases h1 : inR l.length least most
  · (repeat (first | simp only [↓QP, ↓QD, QR, QV, QS, QC, implies_true, forall_const, ne_eq, not_false_eq_true, not_true_eq_false, Nat.reduceLT, reduceIte, Nat.reduceEqDiff, Nat.reduceAdd, Nat.reduceLeDiff, Nat.reduceMul, Nat.reduceBEq, encRoom_eq, roomCells_eq, encSetting_eq, encLook_eq, encSpan_eq] | refine rK_dreg0 rfl ?_))
    refine baseR [] (by first | rfl | simp) ?_
    try simp only [QS, QC, implies_true, forall_const, ne_eq, not_false_eq_true, not_true_eq_false, Nat.reduceLT, reduceIte, Nat.reduceEqDiff, Nat.reduceAdd, Nat.reduceLeDiff, Nat.reduceMul, Nat.reduceBEq, encRoom_eq, roomCells_eq, encSetting_eq, encLook_eq, encSpan_eq, enc2, failing, h1]
  · (repeat (first | simp only [↓QP, ↓QD, QR, QV, QS, QC, implies_true, forall_const, ne_eq, not_false_eq_true, not_true_eq_false, Nat.reduceLT, reduceIte, Nat.reduceEqDiff, Nat.reduceAdd, Nat.reduceLeDiff, Nat.reduceMul, Nat.reduceBEq, encRoom_eq, roomCells_eq, encSetting_eq, encLook_eq, encSpan_eq] | refine rK_dreg0 rfl ?_))
    refine loopE (S := Nat) 0 (fun k => k ≤ l.length ∧ firstBad of (l.drop k) k = firstBad of l 0) (fun k => l.length - k) (fun k => [(3, f), (19, .lit (l.map encLook) false none), (20, .int .i64 l.length), (21, .int .i64 k)]) (fun _ => σ) ⟨Nat.zero_le _, by simp⟩ rfl ?_ fun k hk1 => ?_
    · try simp only [TrimX, QT, QS, q_get, List.length_append, Nat.le_add_right, QC, implies_true, forall_const, ne_eq, not_false_eq_true, not_true_eq_false, Nat.reduceLT, reduceIte, Nat.reduceEqDiff, Nat.reduceAdd, Nat.reduceLeDiff, Nat.reduceMul, Nat.reduceBEq, encRoom_eq, roomCells_eq, encSetting_eq, encLook_eq, encSpan_eq]
      try simp
    · obtain ⟨hkl, hi⟩ := hk1
      (repeat (first | simp only [↓QP, ↓QD, QR, QV, QS, QC, implies_true, forall_const, ne_eq, not_false_eq_true, not_true_eq_false, Nat.reduceLT, reduceIte, Nat.reduceEqDiff, Nat.reduceAdd, Nat.reduceLeDiff, Nat.reduceMul, Nat.reduceBEq, encRoom_eq, roomCells_eq, encSetting_eq, encLook_eq, encSpan_eq, L70_0] | refine rK_dreg0 rfl ?_))
      refine iteP_intro (fun hd => ?_) fun hd => ?_
      · have hlt : k < l.length := by simpa using hd
        have hs := h k hlt
        rw [firstBad_step hlt] at hi
        have hw := wrapN hlt hl
        try simp only [↓QP, QV, QS, QC, implies_true, forall_const, ne_eq, not_false_eq_true, not_true_eq_false, Nat.reduceLT, reduceIte, Nat.reduceEqDiff, Nat.reduceAdd, Nat.reduceLeDiff, Nat.reduceMul, Nat.reduceBEq, encRoom_eq, roomCells_eq, encSetting_eq, encLook_eq, encSpan_eq, hlt] at hs
        (repeat (first | simp only [↓QP, ↓QD, QR, QV, QS, QC, implies_true, forall_const, ne_eq, not_false_eq_true, not_true_eq_false, Nat.reduceLT, reduceIte, Nat.reduceEqDiff, Nat.reduceAdd, Nat.reduceLeDiff, Nat.reduceMul, Nat.reduceBEq, encRoom_eq, roomCells_eq, encSetting_eq, encLook_eq, encSpan_eq, hlt] | refine rK_dreg0 rfl ?_))
        refine callK_same hs ?_
        (repeat (first | simp only [↓QP, ↓QD, QR, QV, QS, QC, implies_true, forall_const, ne_eq, not_false_eq_true, not_true_eq_false, Nat.reduceLT, reduceIte, Nat.reduceEqDiff, Nat.reduceAdd, Nat.reduceLeDiff, Nat.reduceMul, Nat.reduceBEq, encRoom_eq, roomCells_eq, encSetting_eq, encLook_eq, encSpan_eq] | refine rK_dreg0 rfl ?_))
        cases hp : (of k l[k] == 0)
        · have hp' : of k l[k] ≠ 0 := by simpa using hp
          rw [if_neg hp'] at hi
          (repeat (first | simp only [↓QP, ↓QD, QR, QV, QS, QC, implies_true, forall_const, ne_eq, not_false_eq_true, not_true_eq_false, Nat.reduceLT, reduceIte, Nat.reduceEqDiff, Nat.reduceAdd, Nat.reduceLeDiff, Nat.reduceMul, Nat.reduceBEq, encRoom_eq, roomCells_eq, encSetting_eq, encLook_eq, encSpan_eq, hp] | refine rK_dreg0 rfl ?_))
          refine baseR _ rfl ?_
          try simp only [QS, QC, implies_true, forall_const, ne_eq, not_false_eq_true, not_true_eq_false, Nat.reduceLT, reduceIte, Nat.reduceEqDiff, Nat.reduceAdd, Nat.reduceLeDiff, Nat.reduceMul, Nat.reduceBEq, encRoom_eq, roomCells_eq, encSetting_eq, encLook_eq, encSpan_eq, enc2, failing, h1, ← hi, reduceCtorEq]
        · have hp' : of k l[k] = 0 := by simpa using hp
          rw [if_pos hp'] at hi
          (repeat (first | simp only [↓QP, ↓QD, QR, QV, QS, QC, implies_true, forall_const, ne_eq, not_false_eq_true, not_true_eq_false, Nat.reduceLT, reduceIte, Nat.reduceEqDiff, Nat.reduceAdd, Nat.reduceLeDiff, Nat.reduceMul, Nat.reduceBEq, encRoom_eq, roomCells_eq, encSetting_eq, encLook_eq, encSpan_eq, hp, hw] | refine rK_dreg0 rfl ?_))
          refine ⟨k + 1, ⟨by omega, hi⟩, by omega, ?_⟩
          try simp only [TrimX, QT, QS, q_get, List.length_append, Nat.le_add_right, QC, implies_true, forall_const, ne_eq, not_false_eq_true, not_true_eq_false, Nat.reduceLT, reduceIte, Nat.reduceEqDiff, Nat.reduceAdd, Nat.reduceLeDiff, Nat.reduceMul, Nat.reduceBEq, encRoom_eq, roomCells_eq, encSetting_eq, encLook_eq, encSpan_eq, hw, hk0, hk2, Nat.le_refl, S_mapLook]
      · have hlt : k = l.length := by simp at hd; omega
        rw [firstBad_end hlt] at hi
        (repeat (first | simp only [↓QP, ↓QD, QR, QV, QS, QC, implies_true, forall_const, ne_eq, not_false_eq_true, not_true_eq_false, Nat.reduceLT, reduceIte, Nat.reduceEqDiff, Nat.reduceAdd, Nat.reduceLeDiff, Nat.reduceMul, Nat.reduceBEq, encRoom_eq, roomCells_eq, encSetting_eq, encLook_eq, encSpan_eq] | refine rK_dreg0 rfl ?_))
        refine baseR [] (by first | rfl | simp) ?_
        try simp only [QS, QC, implies_true, forall_const, ne_eq, not_false_eq_true, not_true_eq_false, Nat.reduceLT, reduceIte, Nat.reduceEqDiff, Nat.reduceAdd, Nat.reduceLeDiff, Nat.reduceMul, Nat.reduceBEq, encRoom_eq, roomCells_eq, encSetting_eq, encLook_eq, encSpan_eq, enc2, failing, h1, ← hi, reduceCtorEq]
theorem failing_int (σ : St) (f : AV) (l : List Int) (least most : Int) (of : Nat → Int → Int) (hl : l.length < 9223372036854775808) (hk : Keeps σ f)
    (h : ∀ i (hi : i < l.length), Same T f [.int .i64 i, .int .i64 l[i]] σ (.int .i64 (of i l[i]))) : Same T (.func 68 [] []) [ints l, .int .i64 least, .int .i64 most, f] σ (enc2 (failing least most of l)) := by
  refine same_fn (af := a68) rfl (by simp [a68]) ?_
  have hk0 := hk.nil
  have hk2 : ∀ τ, snapM (σ ++ τ) σ.length 20 f = some f := hk
  (repeat (first | simp only [↓QP, ↓QD, QR, QV, QS, QC, implies_true, forall_const, ne_eq, not_false_eq_true, not_true_eq_false, Nat.reduceLT, reduceIte, Nat.reduceEqDiff, Nat.reduceAdd, Nat.reduceLeDiff, Nat.reduceMul, Nat.reduceBEq, encRoom_eq, roomCells_eq, encSetting_eq, encLook_eq, encSpan_eq, a68] | refine rK_dreg0 rfl ?_))
  ((first | refine callK_v (beyond_ok least most [(l.length : Int)] (by simp)) (by simp [clr, clrs, ints]) (by simp [okV, okVs]) ?_ | refine callD_v (beyond_ok least most [(l.length : Int)] (by simp)) (by simp [clr, clrs, ints]) (by simp [okV, okVs]) ?_); (repeat (first | simp only [↓QP, ↓QD, QR, QV, QS, QC, implies_true, forall_const, ne_eq, not_false_eq_true, not_true_eq_false, Nat.reduceLT, reduceIte, Nat.reduceEqDiff, Nat.reduceAdd, Nat.reduceLeDiff, Nat.reduceMul, Nat.reduceBEq, encRoom_eq, roomCells_eq, encSetting_eq, encLook_eq, encSpan_eq, beyond1] | refine rK_dreg0 rfl ?_)))
  cases h1 : inR l.length least most
  · (repeat (first | simp only [↓QP, ↓QD, QR, QV, QS, QC, implies_true, forall_const, ne_eq, not_false_eq_true, not_true_eq_false, Nat.reduceLT, reduceIte, Nat.reduceEqDiff, Nat.reduceAdd, Nat.reduceLeDiff, Nat.reduceMul, Nat.reduceBEq, encRoom_eq, roomCells_eq, encSetting_eq, encLook_eq, encSpan_eq] | refine rK_dreg0 rfl ?_))
    refine baseR [] (by first | rfl | simp) ?_
    try simp only [QS, QC, implies_true, forall_const, ne_eq, not_false_eq_true, not_true_eq_false, Nat.reduceLT, reduceIte, Nat.reduceEqDiff, Nat.reduceAdd, Nat.reduceLeDiff, Nat.reduceMul, Nat.reduceBEq, encRoom_eq, roomCells_eq, encSetting_eq, encLook_eq, encSpan_eq, enc2, failing, h1]
  · (repeat (first | simp only [↓QP, ↓QD, QR, QV, QS, QC, implies_true, forall_const, ne_eq, not_false_eq_true, not_true_eq_false, Nat.reduceLT, reduceIte, Nat.reduceEqDiff, Nat.reduceAdd, Nat.reduceLeDiff, Nat.reduceMul, Nat.reduceBEq, encRoom_eq, roomCells_eq, encSetting_eq, encLook_eq, encSpan_eq] | refine rK_dreg0 rfl ?_))
    refine loopE (S := Nat) 0 (fun k => k ≤ l.length ∧ firstBad of (l.drop k) k = firstBad of l 0) (fun k => l.length - k) (fun k => [(3, f), (19, ints l), (20, .int .i64 l.length), (21, .int .i64 k)]) (fun _ => σ) ⟨Nat.zero_le _, by simp⟩ rfl ?_ fun k hk1 => ?_
    · try simp only [TrimX, QT, QS, q_get, List.length_append, Nat.le_add_right, QC, implies_true, forall_const, ne_eq, not_false_eq_true, not_true_eq_false, Nat.reduceLT, reduceIte, Nat.reduceEqDiff, Nat.reduceAdd, Nat.reduceLeDiff, Nat.reduceMul, Nat.reduceBEq, encRoom_eq, roomCells_eq, encSetting_eq, encLook_eq, encSpan_eq]
      try simp
    · obtain ⟨hkl, hi⟩ := hk1
      (repeat (first | simp only [↓QP, ↓QD, QR, QV, QS, QC, implies_true, forall_const, ne_eq, not_false_eq_true, not_true_eq_false, Nat.reduceLT, reduceIte, Nat.reduceEqDiff, Nat.reduceAdd, Nat.reduceLeDiff, Nat.reduceMul, Nat.reduceBEq, encRoom_eq, roomCells_eq, encSetting_eq, encLook_eq, encSpan_eq, L68_0] | refine rK_dreg0 rfl ?_))
      refine iteP_intro (fun hd => ?_) fun hd => ?_
      · have hlt : k < l.length := by simpa using hd
        have hs := h k hlt
        rw [firstBad_step hlt] at hi
        have hw := wrapN hlt hl
        try simp only [↓QP, QV, QS, QC, implies_true, forall_const, ne_eq, not_false_eq_true, not_true_eq_false, Nat.reduceLT, reduceIte, Nat.reduceEqDiff, Nat.reduceAdd, Nat.reduceLeDiff, Nat.reduceMul, Nat.reduceBEq, encRoom_eq, roomCells_eq, encSetting_eq, encLook_eq, encSpan_eq, hlt] at hs
        (repeat (first | simp only [↓QP, ↓QD, QR, QV, QS, QC, implies_true, forall_const, ne_eq, not_false_eq_true, not_true_eq_false, Nat.reduceLT, reduceIte, Nat.reduceEqDiff, Nat.reduceAdd, Nat.reduceLeDiff, Nat.reduceMul, Nat.reduceBEq, encRoom_eq, roomCells_eq, encSetting_eq, encLook_eq, encSpan_eq, hlt] | refine rK_dreg0 rfl ?_))
        refine callK_same hs ?_
        (repeat (first | simp only [↓QP, ↓QD, QR, QV, QS, QC, implies_true, forall_const, ne_eq, not_false_eq_true, not_true_eq_false, Nat.reduceLT, reduceIte, Nat.reduceEqDiff, Nat.reduceAdd, Nat.reduceLeDiff, Nat.reduceMul, Nat.reduceBEq, encRoom_eq, roomCells_eq, encSetting_eq, encLook_eq, encSpan_eq] | refine rK_dreg0 rfl ?_))
        cases hp : (of k l[k] == 0)
        · have hp' : of k l[k] ≠ 0 := by simpa using hp
          rw [if_neg hp'] at hi
          (repeat (first | simp only [↓QP, ↓QD, QR, QV, QS, QC, implies_true, forall_const, ne_eq, not_false_eq_true, not_true_eq_false, Nat.reduceLT, reduceIte, Nat.reduceEqDiff, Nat.reduceAdd, Nat.reduceLeDiff, Nat.reduceMul, Nat.reduceBEq, encRoom_eq, roomCells_eq, encSetting_eq, encLook_eq, encSpan_eq, hp] | refine rK_dreg0 rfl ?_))
          refine baseR [] (by first | rfl | simp) ?_
          try simp only [QS, QC, implies_true, forall_const, ne_eq, not_false_eq_true, not_true_eq_false, Nat.reduceLT, reduceIte, Nat.reduceEqDiff, Nat.reduceAdd, Nat.reduceLeDiff, Nat.reduceMul, Nat.reduceBEq, encRoom_eq, roomCells_eq, encSetting_eq, encLook_eq, encSpan_eq, enc2, failing, h1, ← hi, reduceCtorEq]
        · have hp' : of k l[k] = 0 := by simpa using hp
          rw [if_pos hp'] at hi
          (repeat (first | simp only [↓QP, ↓QD, QR, QV, QS, QC, implies_true, forall_const, ne_eq, not_false_eq_true, not_true_eq_false, Nat.reduceLT, reduceIte, Nat.reduceEqDiff, Nat.reduceAdd, Nat.reduceLeDiff, Nat.reduceMul, Nat.reduceBEq, encRoom_eq, roomCells_eq, encSetting_eq, encLook_eq, encSpan_eq, hp, hw] | refine rK_dreg0 rfl ?_))
          refine ⟨k + 1, ⟨by omega, hi⟩, by omega, ?_⟩
          try simp only [TrimX, QT, QS, q_get, List.length_append, Nat.le_add_right, QC, implies_true, forall_const, ne_eq, not_false_eq_true, not_true_eq_false, Nat.reduceLT, reduceIte, Nat.reduceEqDiff, Nat.reduceAdd, Nat.reduceLeDiff, Nat.reduceMul, Nat.reduceBEq, encRoom_eq, roomCells_eq, encSetting_eq, encLook_eq, encSpan_eq, hw, hk0, hk2, Nat.le_refl, S_mapI]
      · have hlt : k = l.length := by simp at hd; omega
        rw [firstBad_end hlt] at hi
        (repeat (first | simp only [↓QP, ↓QD, QR, QV, QS, QC, implies_true, forall_const, ne_eq, not_false_eq_true, not_true_eq_false, Nat.reduceLT, reduceIte, Nat.reduceEqDiff, Nat.reduceAdd, Nat.reduceLeDiff, Nat.reduceMul, Nat.reduceBEq, encRoom_eq, roomCells_eq, encSetting_eq, encLook_eq, encSpan_eq] | refine rK_dreg0 rfl ?_))
        refine baseR [] (by first | rfl | simp) ?_
        try simp only [QS, QC, implies_true, forall_const, ne_eq, not_false_eq_true, not_true_eq_false, Nat.reduceLT, reduceIte, Nat.reduceEqDiff, Nat.reduceAdd, Nat.reduceLeDiff, Nat.reduceMul, Nat.reduceBEq, encRoom_eq, roomCells_eq, encSetting_eq, encLook_eq, encSpan_eq, enc2, failing, h1, ← hi, reduceCtorEq]
theorem any_name (s : ByteArray) : ∀ l : List Setting, l.any (fun x => decide (x.name = s)) = decide (ahead s (l.map Setting.name) ≠ (l.map Setting.name).length)
  | [] => by simp [ahead]
  | x :: xs => by
    simp only [List.any_cons, any_name s xs, List.map_cons, ahead, List.length_cons]
    by_cases h : x.name = s
    · simp [h]
    · simp [h]
/-- The closure that compares names. -/
theorem chk11_ok (s x : Setting) (b : ABlk) (τ : St) : Same T (.func 66 [] [.ptr (τ.length + 1) 0]) [encSetting x] (b :: (τ ++ [.cells (encSetting s).cells])) (.bool (decide (x.name = s.name))) := by
  refine same_fn (af := a66) rfl (by simp [a66]) ?_
  (repeat (first | simp only [↓QP, ↓QD, QR, QV, QS, QC, implies_true, forall_const, ne_eq, not_false_eq_true, not_true_eq_false, Nat.reduceLT, reduceIte, Nat.reduceEqDiff, Nat.reduceAdd, Nat.reduceLeDiff, Nat.reduceMul, Nat.reduceBEq, encRoom_eq, roomCells_eq, encSetting_eq, encLook_eq, encSpan_eq, a66, str_beq, List.length_append] | refine rK_dreg0 rfl ?_))
  refine baseR [.cells [.str x.name, .int .i64 x.gain.lo, .int .i64 x.gain.hi]] (by first | rfl | simp) ?_
  try simp only [QS, QC, implies_true, forall_const, ne_eq, not_false_eq_true, not_true_eq_false, Nat.reduceLT, reduceIte, Nat.reduceEqDiff, Nat.reduceAdd, Nat.reduceLeDiff, Nat.reduceMul, Nat.reduceBEq, encRoom_eq, roomCells_eq, encSetting_eq, encLook_eq, encSpan_eq]
set_option maxRecDepth 2000 in
theorem chk1_ok (r : Rm) (h : Fits r) (i : Nat) (hi : i < r.settings.length) (τ : St) : Same T (.func 63 [] [.ptr 0 0]) [.int .i64 i, encSetting r.settings[i]] (.cells (roomCells r) :: τ) (.int .i64 (setErr r i r.settings[i])) := by
  refine same_fn (af := a63) rfl (by simp [a63]) ?_
  have hsz := h.names _ (List.getElem_mem hi)
  have hts : (r.settings.take i).length < 9223372036854775808 := by have := h.settings; simp; omega
  obtain ⟨s, hs⟩ : ∃ s, r.settings[i] = s := ⟨_, rfl⟩
  rw [hs] at hsz ⊢
  have fin : ∀ (v : Int) (e : Env) (b : List AV), v = setErr r i s → BaseR (some (.int .i64 v)) (.cells (roomCells r) :: τ) (.cells (roomCells r) :: (τ ++ [.cells b])) (.int .i64 (setErr r i s)) := fun v e b hv => by
    refine baseR [.cells b] (by first | rfl | simp) ?_
    rw [hv]
    try simp only [QS, QC, implies_true, forall_const, ne_eq, not_false_eq_true, not_true_eq_false, Nat.reduceLT, reduceIte, Nat.reduceEqDiff, Nat.reduceAdd, Nat.reduceLeDiff, Nat.reduceMul, Nat.reduceBEq, encRoom_eq, roomCells_eq, encSetting_eq, encLook_eq, encSpan_eq]
  simp only [roomCells_eq] at fin
  (repeat (first | simp only [↓QP, ↓QD, QR, QV, QS, QC, implies_true, forall_const, ne_eq, not_false_eq_true, not_true_eq_false, Nat.reduceLT, reduceIte, Nat.reduceEqDiff, Nat.reduceAdd, Nat.reduceLeDiff, Nat.reduceMul, Nat.reduceBEq, encRoom_eq, roomCells_eq, encSetting_eq, encLook_eq, encSpan_eq, a63] | refine rK_dreg0 rfl ?_))
  ((first | refine callK_d (handname_ok s.name hsz) rfl (by repeat (first | exact datas_nil | refine datas_cons ?_ ?_ | exact data_int _ _ | exact data_ints _ | exact data_span _ | exact data_bool _ | exact data_str _ | exact data_strs _ | exact data_room _ | exact data_setting _ | exact data_look _ | exact data_intss _)) ?_ | refine callD_d (handname_ok s.name hsz) rfl (by repeat (first | exact datas_nil | refine datas_cons ?_ ?_ | exact data_int _ _ | exact data_ints _ | exact data_span _ | exact data_bool _ | exact data_str _ | exact data_strs _ | exact data_room _ | exact data_setting _ | exact data_look _ | exact data_intss _)) ?_); (repeat (first | simp only [↓QP, ↓QD, QR, QV, QS, QC, implies_true, forall_const, ne_eq, not_false_eq_true, not_true_eq_false, Nat.reduceLT, reduceIte, Nat.reduceEqDiff, Nat.reduceAdd, Nat.reduceLeDiff, Nat.reduceMul, Nat.reduceBEq, encRoom_eq, roomCells_eq, encSetting_eq, encLook_eq, encSpan_eq] | refine rK_dreg0 rfl ?_)))
  cases h1 : nameOk s.name
  · (repeat (first | simp only [↓QP, ↓QD, QR, QV, QS, QC, implies_true, forall_const, ne_eq, not_false_eq_true, not_true_eq_false, Nat.reduceLT, reduceIte, Nat.reduceEqDiff, Nat.reduceAdd, Nat.reduceLeDiff, Nat.reduceMul, Nat.reduceBEq, encRoom_eq, roomCells_eq, encSetting_eq, encLook_eq, encSpan_eq] | refine rK_dreg0 rfl ?_))
    exact fin _ [] _ (by simp [setErr, fresh, h1])
  · have hc := contains_set (.cells (roomCells r) :: (τ ++ [.cells (encSetting s).cells])) (.func 66 [] [.ptr (τ.length + 1) 0]) (r.settings.take i) (fun x => decide (x.name = s.name)) hts (fun υ => by try simp only [QS, QC, implies_true, forall_const, ne_eq, not_false_eq_true, not_true_eq_false, Nat.reduceLT, reduceIte, Nat.reduceEqDiff, Nat.reduceAdd, Nat.reduceLeDiff, Nat.reduceMul, Nat.reduceBEq, encRoom_eq, roomCells_eq, encSetting_eq, encLook_eq, encSpan_eq, List.length_append]; simp) fun x _ => chk11_ok s x _ τ
    try simp only [↓QP, QV, QS, QC, implies_true, forall_const, ne_eq, not_false_eq_true, not_true_eq_false, Nat.reduceLT, reduceIte, Nat.reduceEqDiff, Nat.reduceAdd, Nat.reduceLeDiff, Nat.reduceMul, Nat.reduceBEq, encRoom_eq, roomCells_eq, encSetting_eq, encLook_eq, encSpan_eq] at hc
    (repeat (first | simp only [↓QP, ↓QD, QR, QV, QS, QC, implies_true, forall_const, ne_eq, not_false_eq_true, not_true_eq_false, Nat.reduceLT, reduceIte, Nat.reduceEqDiff, Nat.reduceAdd, Nat.reduceLeDiff, Nat.reduceMul, Nat.reduceBEq, encRoom_eq, roomCells_eq, encSetting_eq, encLook_eq, encSpan_eq, V_take (enc := encSetting) (l := r.settings) (Nat.le_of_lt hi)] | refine rK_dreg0 rfl ?_))
    refine callK_same hc ?_
    rw [any_name]
    cases h2 : decide (ahead s.name ((r.settings.take i).map Setting.name) ≠ ((r.settings.take i).map Setting.name).length)
    · have h2' : ahead s.name ((r.settings.take i).map Setting.name) = ((r.settings.take i).map Setting.name).length := by simpa using h2
      have hf : fresh s.name ((r.settings.take i).map Setting.name) = 0 := by simp only [fresh, h1, h2']; simp
      have hse : setErr r i s = ends s.gain 0 15 := by simp only [setErr, hf, if_true]
      (repeat (first | simp only [↓QP, ↓QD, QR, QV, QS, QC, implies_true, forall_const, ne_eq, not_false_eq_true, not_true_eq_false, Nat.reduceLT, reduceIte, Nat.reduceEqDiff, Nat.reduceAdd, Nat.reduceLeDiff, Nat.reduceMul, Nat.reduceBEq, encRoom_eq, roomCells_eq, encSetting_eq, encLook_eq, encSpan_eq] | refine rK_dreg0 rfl ?_))
      ((first | refine callK_v (beyond_ok 0 15 [s.gain.lo, s.gain.hi] (by simp)) (by simp [clr, clrs, ints]) (by simp [okV, okVs]) ?_ | refine callD_v (beyond_ok 0 15 [s.gain.lo, s.gain.hi] (by simp)) (by simp [clr, clrs, ints]) (by simp [okV, okVs]) ?_); (repeat (first | simp only [↓QP, ↓QD, QR, QV, QS, QC, implies_true, forall_const, ne_eq, not_false_eq_true, not_true_eq_false, Nat.reduceLT, reduceIte, Nat.reduceEqDiff, Nat.reduceAdd, Nat.reduceLeDiff, Nat.reduceMul, Nat.reduceBEq, encRoom_eq, roomCells_eq, encSetting_eq, encLook_eq, encSpan_eq, beyond2] | refine rK_dreg0 rfl ?_)))
      cases h3 : (!inR s.gain.lo 0 15 || !inR s.gain.hi 0 15)
      · (repeat (first | simp only [↓QP, ↓QD, QR, QV, QS, QC, implies_true, forall_const, ne_eq, not_false_eq_true, not_true_eq_false, Nat.reduceLT, reduceIte, Nat.reduceEqDiff, Nat.reduceAdd, Nat.reduceLeDiff, Nat.reduceMul, Nat.reduceBEq, encRoom_eq, roomCells_eq, encSetting_eq, encLook_eq, encSpan_eq] | refine rK_dreg0 rfl ?_))
        refine iteP_intro (fun h4 => ?_) fun h4 => ?_
        · have h4' : s.gain.hi < s.gain.lo := by simpa using h4
          (repeat (first | simp only [↓QP, ↓QD, QR, QV, QS, QC, implies_true, forall_const, ne_eq, not_false_eq_true, not_true_eq_false, Nat.reduceLT, reduceIte, Nat.reduceEqDiff, Nat.reduceAdd, Nat.reduceLeDiff, Nat.reduceMul, Nat.reduceBEq, encRoom_eq, roomCells_eq, encSetting_eq, encLook_eq, encSpan_eq] | refine rK_dreg0 rfl ?_))
          exact fin _ [] _ (by rw [hse, ends, h3]; simp [h4'])
        · have h4' : ¬ s.gain.hi < s.gain.lo := by simpa using h4
          (repeat (first | simp only [↓QP, ↓QD, QR, QV, QS, QC, implies_true, forall_const, ne_eq, not_false_eq_true, not_true_eq_false, Nat.reduceLT, reduceIte, Nat.reduceEqDiff, Nat.reduceAdd, Nat.reduceLeDiff, Nat.reduceMul, Nat.reduceBEq, encRoom_eq, roomCells_eq, encSetting_eq, encLook_eq, encSpan_eq] | refine rK_dreg0 rfl ?_))
          exact fin _ [] _ (by rw [hse, ends, h3]; simp [h4'])
      · (repeat (first | simp only [↓QP, ↓QD, QR, QV, QS, QC, implies_true, forall_const, ne_eq, not_false_eq_true, not_true_eq_false, Nat.reduceLT, reduceIte, Nat.reduceEqDiff, Nat.reduceAdd, Nat.reduceLeDiff, Nat.reduceMul, Nat.reduceBEq, encRoom_eq, roomCells_eq, encSetting_eq, encLook_eq, encSpan_eq] | refine rK_dreg0 rfl ?_))
        exact fin _ [] _ (by rw [hse, ends, h3]; simp)
    · have h2' : ahead s.name ((r.settings.take i).map Setting.name) ≠ ((r.settings.take i).map Setting.name).length := by simpa using h2
      have hf : fresh s.name ((r.settings.take i).map Setting.name) = 5 := by simp only [fresh, h1, h2', if_false]; simp
      (repeat (first | simp only [↓QP, ↓QD, QR, QV, QS, QC, implies_true, forall_const, ne_eq, not_false_eq_true, not_true_eq_false, Nat.reduceLT, reduceIte, Nat.reduceEqDiff, Nat.reduceAdd, Nat.reduceLeDiff, Nat.reduceMul, Nat.reduceBEq, encRoom_eq, roomCells_eq, encSetting_eq, encLook_eq, encSpan_eq] | refine rK_dreg0 rfl ?_))
      exact fin _ [] _ (by simp only [setErr, hf]; simp)
theorem chk2_ok (r : Rm) (h : Fits r) (i : Int) (n : Int) : Same T (.func 69 [] [.ptr 0 0]) [.int .i64 i, .int .i64 n] [.cells (roomCells r)] (.int .i64 (ranErr r 0 n)) := by
  refine same_fn (af := a69) rfl (by simp [a69]) ?_
  have hsz := h.settings
  (repeat (first | simp only [↓QP, ↓QD, QR, QV, QS, QC, implies_true, forall_const, ne_eq, not_false_eq_true, not_true_eq_false, Nat.reduceLT, reduceIte, Nat.reduceEqDiff, Nat.reduceAdd, Nat.reduceLeDiff, Nat.reduceMul, Nat.reduceBEq, encRoom_eq, roomCells_eq, encSetting_eq, encLook_eq, encSpan_eq, a69, wrap64 (show -9223372036854775808 ≤ (r.settings.length : Int) - 1 ∧ (r.settings.length : Int) - 1 ≤ 9223372036854775807 by omega)] | refine rK_dreg0 rfl ?_))
  ((first | refine callK_v (beyond_ok 0 ((r.settings.length : Int) - 1) [n] (by simp)) (by simp [clr, clrs, ints]) (by simp [okV, okVs]) ?_ | refine callD_v (beyond_ok 0 ((r.settings.length : Int) - 1) [n] (by simp)) (by simp [clr, clrs, ints]) (by simp [okV, okVs]) ?_); (repeat (first | simp only [↓QP, ↓QD, QR, QV, QS, QC, implies_true, forall_const, ne_eq, not_false_eq_true, not_true_eq_false, Nat.reduceLT, reduceIte, Nat.reduceEqDiff, Nat.reduceAdd, Nat.reduceLeDiff, Nat.reduceMul, Nat.reduceBEq, encRoom_eq, roomCells_eq, encSetting_eq, encLook_eq, encSpan_eq, beyond1] | refine rK_dreg0 rfl ?_)))
  cases h1 : inR n 0 ((r.settings.length : Int) - 1)
  all_goals
    (repeat (first | simp only [↓QP, ↓QD, QR, QV, QS, QC, implies_true, forall_const, ne_eq, not_false_eq_true, not_true_eq_false, Nat.reduceLT, reduceIte, Nat.reduceEqDiff, Nat.reduceAdd, Nat.reduceLeDiff, Nat.reduceMul, Nat.reduceBEq, encRoom_eq, roomCells_eq, encSetting_eq, encLook_eq, encSpan_eq] | refine rK_dreg0 rfl ?_))
    refine baseR [] (by first | rfl | simp) ?_
    try simp only [QS, QC, implies_true, forall_const, ne_eq, not_false_eq_true, not_true_eq_false, Nat.reduceLT, reduceIte, Nat.reduceEqDiff, Nat.reduceAdd, Nat.reduceLeDiff, Nat.reduceMul, Nat.reduceBEq, encRoom_eq, roomCells_eq, encSetting_eq, encLook_eq, encSpan_eq, ranErr, isSetting, h1, reduceCtorEq]
theorem chk3_ok (r : Rm) (i : Int) (x : Look) : Same T (.func 71 [] [.ptr 0 0]) [.int .i64 i, encLook x] [.cells (roomCells r), .cells (encLook x).cells] (.int .i64 (lookErr r 0 x)) := by
  refine same_fn (af := a71) rfl (by simp [a71]) ?_
  (repeat (first | simp only [↓QP, ↓QD, QR, QV, QS, QC, implies_true, forall_const, ne_eq, not_false_eq_true, not_true_eq_false, Nat.reduceLT, reduceIte, Nat.reduceEqDiff, Nat.reduceAdd, Nat.reduceLeDiff, Nat.reduceMul, Nat.reduceBEq, encRoom_eq, roomCells_eq, encSetting_eq, encLook_eq, encSpan_eq, a71] | refine rK_dreg0 rfl ?_))
  ((first | refine callK_v (beyond_ok 0 (r.ran.length : Int) [x.day] (by simp)) (by simp [clr, clrs, ints]) (by simp [okV, okVs]) ?_ | refine callD_v (beyond_ok 0 (r.ran.length : Int) [x.day] (by simp)) (by simp [clr, clrs, ints]) (by simp [okV, okVs]) ?_); (repeat (first | simp only [↓QP, ↓QD, QR, QV, QS, QC, implies_true, forall_const, ne_eq, not_false_eq_true, not_true_eq_false, Nat.reduceLT, reduceIte, Nat.reduceEqDiff, Nat.reduceAdd, Nat.reduceLeDiff, Nat.reduceMul, Nat.reduceBEq, encRoom_eq, roomCells_eq, encSetting_eq, encLook_eq, encSpan_eq, beyond1] | refine rK_dreg0 rfl ?_)))
  cases h1 : inR x.day 0 r.ran.length
  · (repeat (first | simp only [↓QP, ↓QD, QR, QV, QS, QC, implies_true, forall_const, ne_eq, not_false_eq_true, not_true_eq_false, Nat.reduceLT, reduceIte, Nat.reduceEqDiff, Nat.reduceAdd, Nat.reduceLeDiff, Nat.reduceMul, Nat.reduceBEq, encRoom_eq, roomCells_eq, encSetting_eq, encLook_eq, encSpan_eq] | refine rK_dreg0 rfl ?_))
    refine baseR _ rfl ?_
    try simp only [QS, QC, implies_true, forall_const, ne_eq, not_false_eq_true, not_true_eq_false, Nat.reduceLT, reduceIte, Nat.reduceEqDiff, Nat.reduceAdd, Nat.reduceLeDiff, Nat.reduceMul, Nat.reduceBEq, encRoom_eq, roomCells_eq, encSetting_eq, encLook_eq, encSpan_eq, lookErr, isColour, h1, reduceCtorEq, Bool.false_and, Bool.false_eq_true]
  · (repeat (first | simp only [↓QP, ↓QD, QR, QV, QS, QC, implies_true, forall_const, ne_eq, not_false_eq_true, not_true_eq_false, Nat.reduceLT, reduceIte, Nat.reduceEqDiff, Nat.reduceAdd, Nat.reduceLeDiff, Nat.reduceMul, Nat.reduceBEq, encRoom_eq, roomCells_eq, encSetting_eq, encLook_eq, encSpan_eq] | refine rK_dreg0 rfl ?_))
    ((first | refine callK_v (beyond_ok 1 7 [x.colour] (by simp)) (by simp [clr, clrs, ints]) (by simp [okV, okVs]) ?_ | refine callD_v (beyond_ok 1 7 [x.colour] (by simp)) (by simp [clr, clrs, ints]) (by simp [okV, okVs]) ?_); (repeat (first | simp only [↓QP, ↓QD, QR, QV, QS, QC, implies_true, forall_const, ne_eq, not_false_eq_true, not_true_eq_false, Nat.reduceLT, reduceIte, Nat.reduceEqDiff, Nat.reduceAdd, Nat.reduceLeDiff, Nat.reduceMul, Nat.reduceBEq, encRoom_eq, roomCells_eq, encSetting_eq, encLook_eq, encSpan_eq, beyond1] | refine rK_dreg0 rfl ?_)))
    cases h2 : inR x.colour 1 7
    all_goals
      (repeat (first | simp only [↓QP, ↓QD, QR, QV, QS, QC, implies_true, forall_const, ne_eq, not_false_eq_true, not_true_eq_false, Nat.reduceLT, reduceIte, Nat.reduceEqDiff, Nat.reduceAdd, Nat.reduceLeDiff, Nat.reduceMul, Nat.reduceBEq, encRoom_eq, roomCells_eq, encSetting_eq, encLook_eq, encSpan_eq] | refine rK_dreg0 rfl ?_))
      refine baseR _ rfl ?_
      try simp only [QS, QC, implies_true, forall_const, ne_eq, not_false_eq_true, not_true_eq_false, Nat.reduceLT, reduceIte, Nat.reduceEqDiff, Nat.reduceAdd, Nat.reduceLeDiff, Nat.reduceMul, Nat.reduceBEq, encRoom_eq, roomCells_eq, encSetting_eq, encLook_eq, encSpan_eq, lookErr, isColour, h1, h2, reduceCtorEq, Bool.false_and, Bool.false_eq_true]
end Go.Am.Room
set_option linter.unusedVariables false
set_option linter.unusedSimpArgs false
namespace Go.Am.Room
theorem firstBad_ran (r : Rm) : ∀ (l : List Int) (i : Nat), firstBad (fun i n => ranErr r 0 n) l i = firstBad (ranErr r) l i
  | [], _ => rfl
  | x :: xs, i => by simp only [firstBad, firstBad_ran r xs (i + 1)]; rfl
theorem firstBad_look (r : Rm) : ∀ (l : List Look) (i : Nat), firstBad (fun i n => lookErr r 0 n) l i = firstBad (lookErr r) l i
  | [], _ => rfl
  | x :: xs, i => by simp only [firstBad, firstBad_look r xs (i + 1)]; rfl
theorem firstBad_ne {α : Type} {f : Nat → α → Int} : ∀ {l : List α} {i j : Nat} {e : Int}, firstBad f l i = some (j, e) → e ≠ 0
  | [], _, _, _, h => by cases h
  | x :: xs, i, j, e, h => by
    simp only [firstBad] at h
    split at h
    · exact firstBad_ne h
    · rename_i hn
      simp at h
      rw [← h.2]
      exact hn
theorem rule_idx0 : vIdx 2 theRules ((0 : Nat) : Int) none = some (.lptr theRules 0 0 none) := by simp [vIdx, theRules, AV.cells]
theorem rule_idx1 : vIdx 2 theRules ((1 : Nat) : Int) none = some (.lptr theRules 1 0 none) := by simp [vIdx, theRules, AV.cells]
theorem rule_get0 : theRules[0]? = some (.agg [.int .i64 7, .func 97 [] []]) := rfl
theorem rule_get1 : theRules[1]? = some (.agg [.int .i64 2, .func 98 [] []]) := rfl
theorem rule_len : theRules.length = 2 := rfl
theorem rule_data : Data (.lit theRules false none) := ⟨by simp [okV, okVs, theRules], by simp [clr, clrs, theRules]⟩
theorem rule_snap (σ : St) (m d : Nat) : snapMs σ m d theRules = some theRules := by
  have := S_data rule_data σ m d
  rw [S_lit0] at this
  cases h : snapMs σ m d theRules with
  | none => rw [h] at this; cases this
  | some x => rw [h] at this; simpa using this
theorem check_ok (r : Rm) (h : Fits r) : Pure T 15 [encRoom r] (enc3 (check r)) := by
  refine pure_fn (af := a15) rfl (by simp [a15]) (by repeat (first | exact datas_nil | refine datas_cons ?_ ?_ | exact data_int _ _ | exact data_ints _ | exact data_span _ | exact data_bool _ | exact data_str _ | exact data_strs _ | exact data_room _ | exact data_setting _ | exact data_look _ | exact data_intss _)) ?_
  have hfs := h.settings
  have hfr := h.ran
  have hfl := h.looks
  (repeat (first | simp only [↓QP, ↓QD, QR, QV, QS, QC, implies_true, forall_const, ne_eq, not_false_eq_true, not_true_eq_false, Nat.reduceLT, reduceIte, Nat.reduceEqDiff, Nat.reduceAdd, Nat.reduceLeDiff, Nat.reduceMul, Nat.reduceBEq, encRoom_eq, roomCells_eq, encSetting_eq, encLook_eq, encSpan_eq, a15] | refine rK_dreg0 rfl ?_))
  refine callK_d rules_ok rfl datas_nil ?_
  (repeat (first | simp only [↓QP, ↓QD, QR, QV, QS, QC, implies_true, forall_const, ne_eq, not_false_eq_true, not_true_eq_false, Nat.reduceLT, reduceIte, Nat.reduceEqDiff, Nat.reduceAdd, Nat.reduceLeDiff, Nat.reduceMul, Nat.reduceBEq, encRoom_eq, roomCells_eq, encSetting_eq, encLook_eq, encSpan_eq, rule_len] | refine rK_dreg0 rfl ?_))
  refine loopE (S := Nat) 0 (fun j => j ≤ 2 ∧ (1 ≤ j → (inR r.days 1 6 && (inR r.start.lo 0 69 && inR r.start.hi 0 69) && inR r.opens 0 6) = true) ∧ (2 ≤ j → r.start.lo ≤ r.start.hi)) (fun j => 2 - j)
    (fun j => [(1, .ptr 0 0), (7, .lit theRules false none), (8, .int .i64 2), (9, .int .i64 j)]) (fun _ => [.cells (roomCells r)]) ⟨by omega, by omega, by omega⟩ (by simp [roomCells, ints]) ?_ fun j hj => ?_
  · try simp only [TrimX, QT, QS, q_get, List.length_append, Nat.le_add_right, QC, implies_true, forall_const, ne_eq, not_false_eq_true, not_true_eq_false, Nat.reduceLT, reduceIte, Nat.reduceEqDiff, Nat.reduceAdd, Nat.reduceLeDiff, Nat.reduceMul, Nat.reduceBEq, encRoom_eq, roomCells_eq, encSetting_eq, encLook_eq, encSpan_eq]
    try simp
  · obtain ⟨hj2, hj0, hj1⟩ := hj
    have hcases : j = 0 ∨ j = 1 ∨ j = 2 := by omega
    rcases hcases with rfl | rfl | rfl
    · (repeat (first | simp only [↓QP, ↓QD, QR, QV, QS, QC, implies_true, forall_const, ne_eq, not_false_eq_true, not_true_eq_false, Nat.reduceLT, reduceIte, Nat.reduceEqDiff, Nat.reduceAdd, Nat.reduceLeDiff, Nat.reduceMul, Nat.reduceBEq, encRoom_eq, roomCells_eq, encSetting_eq, encLook_eq, encSpan_eq, L15_0, rule_idx0, rule_get0, show decide (((0 : Nat) : Int) < 2) = true from rfl] | refine rK_dreg0 rfl ?_))
      ((first | refine callK_d (rule1_ok r) rfl (by repeat (first | exact datas_nil | refine datas_cons ?_ ?_ | exact data_int _ _ | exact data_ints _ | exact data_span _ | exact data_bool _ | exact data_str _ | exact data_strs _ | exact data_room _ | exact data_setting _ | exact data_look _ | exact data_intss _)) ?_ | refine callD_d (rule1_ok r) rfl (by repeat (first | exact datas_nil | refine datas_cons ?_ ?_ | exact data_int _ _ | exact data_ints _ | exact data_span _ | exact data_bool _ | exact data_str _ | exact data_strs _ | exact data_room _ | exact data_setting _ | exact data_look _ | exact data_intss _)) ?_); (repeat (first | simp only [↓QP, ↓QD, QR, QV, QS, QC, implies_true, forall_const, ne_eq, not_false_eq_true, not_true_eq_false, Nat.reduceLT, reduceIte, Nat.reduceEqDiff, Nat.reduceAdd, Nat.reduceLeDiff, Nat.reduceMul, Nat.reduceBEq, encRoom_eq, roomCells_eq, encSetting_eq, encLook_eq, encSpan_eq] | refine rK_dreg0 rfl ?_)))
      cases h1 : (inR r.days 1 6 && (inR r.start.lo 0 69 && inR r.start.hi 0 69) && inR r.opens 0 6)
      · have hc : check r = (1, 0, 7) := by
          simp only [check]
          rw [if_pos]
          simp only [ends]
          cases g1 : inR r.days 1 6 <;> cases g2 : inR r.start.lo 0 69 <;> cases g3 : inR r.start.hi 0 69 <;> cases g4 : inR r.opens 0 6 <;> simp_all
        rw [hc]
        (repeat (first | simp only [↓QP, ↓QD, QR, QV, QS, QC, implies_true, forall_const, ne_eq, not_false_eq_true, not_true_eq_false, Nat.reduceLT, reduceIte, Nat.reduceEqDiff, Nat.reduceAdd, Nat.reduceLeDiff, Nat.reduceMul, Nat.reduceBEq, encRoom_eq, roomCells_eq, encSetting_eq, encLook_eq, encSpan_eq, enc3] | refine rK_dreg0 rfl ?_))
      · (repeat (first | simp only [↓QP, ↓QD, QR, QV, QS, QC, implies_true, forall_const, ne_eq, not_false_eq_true, not_true_eq_false, Nat.reduceLT, reduceIte, Nat.reduceEqDiff, Nat.reduceAdd, Nat.reduceLeDiff, Nat.reduceMul, Nat.reduceBEq, encRoom_eq, roomCells_eq, encSetting_eq, encLook_eq, encSpan_eq] | refine rK_dreg0 rfl ?_))
        refine ⟨1, (by first | exact ⟨by omega, fun _ => h1, by omega⟩ | exact ⟨by omega, by omega⟩), by omega, ?_⟩
        try simp only [TrimX, QT, QS, q_get, List.length_append, Nat.le_add_right, QC, implies_true, forall_const, ne_eq, not_false_eq_true, not_true_eq_false, Nat.reduceLT, reduceIte, Nat.reduceEqDiff, Nat.reduceAdd, Nat.reduceLeDiff, Nat.reduceMul, Nat.reduceBEq, encRoom_eq, roomCells_eq, encSetting_eq, encLook_eq, encSpan_eq, rule_snap]
        simp [wrap64]
    · have h1 := hj0 (by omega)
      (repeat (first | simp only [↓QP, ↓QD, QR, QV, QS, QC, implies_true, forall_const, ne_eq, not_false_eq_true, not_true_eq_false, Nat.reduceLT, reduceIte, Nat.reduceEqDiff, Nat.reduceAdd, Nat.reduceLeDiff, Nat.reduceMul, Nat.reduceBEq, encRoom_eq, roomCells_eq, encSetting_eq, encLook_eq, encSpan_eq, L15_0, rule_idx1, rule_get1, show decide (((1 : Nat) : Int) < 2) = true from rfl] | refine rK_dreg0 rfl ?_))
      ((first | refine callK_d (rule2_ok r) rfl (by repeat (first | exact datas_nil | refine datas_cons ?_ ?_ | exact data_int _ _ | exact data_ints _ | exact data_span _ | exact data_bool _ | exact data_str _ | exact data_strs _ | exact data_room _ | exact data_setting _ | exact data_look _ | exact data_intss _)) ?_ | refine callD_d (rule2_ok r) rfl (by repeat (first | exact datas_nil | refine datas_cons ?_ ?_ | exact data_int _ _ | exact data_ints _ | exact data_span _ | exact data_bool _ | exact data_str _ | exact data_strs _ | exact data_room _ | exact data_setting _ | exact data_look _ | exact data_intss _)) ?_); (repeat (first | simp only [↓QP, ↓QD, QR, QV, QS, QC, implies_true, forall_const, ne_eq, not_false_eq_true, not_true_eq_false, Nat.reduceLT, reduceIte, Nat.reduceEqDiff, Nat.reduceAdd, Nat.reduceLeDiff, Nat.reduceMul, Nat.reduceBEq, encRoom_eq, roomCells_eq, encSetting_eq, encLook_eq, encSpan_eq] | refine rK_dreg0 rfl ?_)))
      have hends : inR r.days 1 6 = true ∧ inR r.opens 0 6 = true ∧ inR r.start.lo 0 69 = true ∧ inR r.start.hi 0 69 = true := by
        cases g1 : inR r.days 1 6 <;> cases g2 : inR r.start.lo 0 69 <;> cases g3 : inR r.start.hi 0 69 <;> cases g4 : inR r.opens 0 6 <;> simp_all
      cases h2 : decide (r.start.lo ≤ r.start.hi)
      · have h2' : r.start.hi < r.start.lo := by simpa using h2
        have hc : check r = (1, 0, 2) := by simp [check, ends, hends.1, hends.2.1, hends.2.2.1, hends.2.2.2, h2']
        rw [hc]
        (repeat (first | simp only [↓QP, ↓QD, QR, QV, QS, QC, implies_true, forall_const, ne_eq, not_false_eq_true, not_true_eq_false, Nat.reduceLT, reduceIte, Nat.reduceEqDiff, Nat.reduceAdd, Nat.reduceLeDiff, Nat.reduceMul, Nat.reduceBEq, encRoom_eq, roomCells_eq, encSetting_eq, encLook_eq, encSpan_eq, enc3] | refine rK_dreg0 rfl ?_))
      · have h2' : r.start.lo ≤ r.start.hi := by simpa using h2
        (repeat (first | simp only [↓QP, ↓QD, QR, QV, QS, QC, implies_true, forall_const, ne_eq, not_false_eq_true, not_true_eq_false, Nat.reduceLT, reduceIte, Nat.reduceEqDiff, Nat.reduceAdd, Nat.reduceLeDiff, Nat.reduceMul, Nat.reduceBEq, encRoom_eq, roomCells_eq, encSetting_eq, encLook_eq, encSpan_eq] | refine rK_dreg0 rfl ?_))
        refine ⟨2, (by first | exact ⟨by omega, fun _ => h1, fun _ => h2'⟩ | exact ⟨by omega, fun _ => h1⟩ | simp), by omega, ?_⟩
        try simp only [TrimX, QT, QS, q_get, List.length_append, Nat.le_add_right, QC, implies_true, forall_const, ne_eq, not_false_eq_true, not_true_eq_false, Nat.reduceLT, reduceIte, Nat.reduceEqDiff, Nat.reduceAdd, Nat.reduceLeDiff, Nat.reduceMul, Nat.reduceBEq, encRoom_eq, roomCells_eq, encSetting_eq, encLook_eq, encSpan_eq, rule_snap]
        simp [wrap64]
    · have h1 := hj0 (by omega)
      have h2 := hj1 (by omega)
      have hends : inR r.days 1 6 = true ∧ inR r.opens 0 6 = true ∧ inR r.start.lo 0 69 = true ∧ inR r.start.hi 0 69 = true := by
        cases g1 : inR r.days 1 6 <;> cases g2 : inR r.start.lo 0 69 <;> cases g3 : inR r.start.hi 0 69 <;> cases g4 : inR r.opens 0 6 <;> simp_all
      have hc : check r = check2 r := by
        have : ¬ r.start.hi < r.start.lo := by omega
        simp [check, ends, hends.1, hends.2.1, hends.2.2.1, hends.2.2.2, this]
      rw [hc]
      (repeat (first | simp only [↓QP, ↓QD, QR, QV, QS, QC, implies_true, forall_const, ne_eq, not_false_eq_true, not_true_eq_false, Nat.reduceLT, reduceIte, Nat.reduceEqDiff, Nat.reduceAdd, Nat.reduceLeDiff, Nat.reduceMul, Nat.reduceBEq, encRoom_eq, roomCells_eq, encSetting_eq, encLook_eq, encSpan_eq, L15_0, show decide (((2 : Nat) : Int) < 2) = false from rfl] | refine rK_dreg0 rfl ?_))
      have f1 := failing_set [.cells (roomCells r)] (.func 63 [] [.ptr 0 0]) r.settings 1 4 (setErr r) hfs (fun τ => by try simp only [QS, QC, implies_true, forall_const, ne_eq, not_false_eq_true, not_true_eq_false, Nat.reduceLT, reduceIte, Nat.reduceEqDiff, Nat.reduceAdd, Nat.reduceLeDiff, Nat.reduceMul, Nat.reduceBEq, encRoom_eq, roomCells_eq, encSetting_eq, encLook_eq, encSpan_eq, List.length_append]) fun i hi => by
        have := chk1_ok r h i hi [.cells (encSetting r.settings[i]).cells]
        simpa using this
      try simp only [↓QP, QV, QS, QC, implies_true, forall_const, ne_eq, not_false_eq_true, not_true_eq_false, Nat.reduceLT, reduceIte, Nat.reduceEqDiff, Nat.reduceAdd, Nat.reduceLeDiff, Nat.reduceMul, Nat.reduceBEq, encRoom_eq, roomCells_eq, encSetting_eq, encLook_eq, encSpan_eq] at f1
      refine callK_same f1 ?_
      (repeat (first | simp only [↓QP, ↓QD, QR, QV, QS, QC, implies_true, forall_const, ne_eq, not_false_eq_true, not_true_eq_false, Nat.reduceLT, reduceIte, Nat.reduceEqDiff, Nat.reduceAdd, Nat.reduceLeDiff, Nat.reduceMul, Nat.reduceBEq, encRoom_eq, roomCells_eq, encSetting_eq, encLook_eq, encSpan_eq, enc2] | refine rK_dreg0 rfl ?_))
      have f2 := failing_int [.cells (roomCells r)] (.func 69 [] [.ptr 0 0]) r.ran 0 r.days (fun i n => ranErr r 0 n) hfr (fun τ => by try simp only [QS, QC, implies_true, forall_const, ne_eq, not_false_eq_true, not_true_eq_false, Nat.reduceLT, reduceIte, Nat.reduceEqDiff, Nat.reduceAdd, Nat.reduceLeDiff, Nat.reduceMul, Nat.reduceBEq, encRoom_eq, roomCells_eq, encSetting_eq, encLook_eq, encSpan_eq, List.length_append]) fun i hi => chk2_ok r h i r.ran[i]
      have f3 := failing_look [.cells (roomCells r)] (.func 71 [] [.ptr 0 0]) r.looks 0 4 (fun i n => lookErr r 0 n) hfl (fun τ => by try simp only [QS, QC, implies_true, forall_const, ne_eq, not_false_eq_true, not_true_eq_false, Nat.reduceLT, reduceIte, Nat.reduceEqDiff, Nat.reduceAdd, Nat.reduceLeDiff, Nat.reduceMul, Nat.reduceBEq, encRoom_eq, roomCells_eq, encSetting_eq, encLook_eq, encSpan_eq, List.length_append]) fun i hi => by
        have := chk3_ok r i r.looks[i]
        simpa using this
      try simp only [↓QP, QV, QS, QC, implies_true, forall_const, ne_eq, not_false_eq_true, not_true_eq_false, Nat.reduceLT, reduceIte, Nat.reduceEqDiff, Nat.reduceAdd, Nat.reduceLeDiff, Nat.reduceMul, Nat.reduceBEq, encRoom_eq, roomCells_eq, encSetting_eq, encLook_eq, encSpan_eq] at f2 f3
      cases h3 : inR r.settings.length 1 4
      · have e1 : failing 1 4 (setErr r) r.settings = (0, 3) := by simp only [failing, h3, if_true]
        have e2 : check2 r = (2, 0, 3) := by simp only [check2, h3, if_true]
        rw [e1, e2]
        (repeat (first | simp only [↓QP, ↓QD, QR, QV, QS, QC, implies_true, forall_const, ne_eq, not_false_eq_true, not_true_eq_false, Nat.reduceLT, reduceIte, Nat.reduceEqDiff, Nat.reduceAdd, Nat.reduceLeDiff, Nat.reduceMul, Nat.reduceBEq, encRoom_eq, roomCells_eq, encSetting_eq, encLook_eq, encSpan_eq, show ((3 : Int) == 0) = false from rfl, enc3] | refine rK_dreg0 rfl ?_))
      · cases h4 : firstBad (setErr r) r.settings 0 with
        | some p =>
          obtain ⟨i, e⟩ := p
          have hne : (e == 0) = false := by simpa using firstBad_ne h4
          have e1 : failing 1 4 (setErr r) r.settings = ((i : Int), e) := by simp only [failing, h3, h4]; rfl
          have e2 : check2 r = (2, (i : Int), e) := by simp only [check2, h3, h4]; rfl
          rw [e1, e2]
          (repeat (first | simp only [↓QP, ↓QD, QR, QV, QS, QC, implies_true, forall_const, ne_eq, not_false_eq_true, not_true_eq_false, Nat.reduceLT, reduceIte, Nat.reduceEqDiff, Nat.reduceAdd, Nat.reduceLeDiff, Nat.reduceMul, Nat.reduceBEq, encRoom_eq, roomCells_eq, encSetting_eq, encLook_eq, encSpan_eq, hne, enc3] | refine rK_dreg0 rfl ?_))
        | none =>
          have e1 : failing 1 4 (setErr r) r.settings = (0, 0) := by simp only [failing, h3, h4]; rfl
          have e2 : check2 r = check3 r := by simp only [check2, h3, h4]; rfl
          rw [e1, e2]
          (repeat (first | simp only [↓QP, ↓QD, QR, QV, QS, QC, implies_true, forall_const, ne_eq, not_false_eq_true, not_true_eq_false, Nat.reduceLT, reduceIte, Nat.reduceEqDiff, Nat.reduceAdd, Nat.reduceLeDiff, Nat.reduceMul, Nat.reduceBEq, encRoom_eq, roomCells_eq, encSetting_eq, encLook_eq, encSpan_eq, show ((0 : Int) == 0) = true from rfl] | refine rK_dreg0 rfl ?_))
          refine callK_same f2 ?_
          (repeat (first | simp only [↓QP, ↓QD, QR, QV, QS, QC, implies_true, forall_const, ne_eq, not_false_eq_true, not_true_eq_false, Nat.reduceLT, reduceIte, Nat.reduceEqDiff, Nat.reduceAdd, Nat.reduceLeDiff, Nat.reduceMul, Nat.reduceBEq, encRoom_eq, roomCells_eq, encSetting_eq, encLook_eq, encSpan_eq, enc2] | refine rK_dreg0 rfl ?_))
          by_cases h5 : r.days < r.ran.length
          · have hi : inR r.ran.length 0 r.days = false := by simp [inR]; omega
            have e1 : failing 0 r.days (fun i n => ranErr r 0 n) r.ran = (0, 3) := by simp only [failing, hi, if_true]
            have e2 : check3 r = (3, 0, 3) := by simp only [check3, h5, if_true]
            rw [e1, e2]
            (repeat (first | simp only [↓QP, ↓QD, QR, QV, QS, QC, implies_true, forall_const, ne_eq, not_false_eq_true, not_true_eq_false, Nat.reduceLT, reduceIte, Nat.reduceEqDiff, Nat.reduceAdd, Nat.reduceLeDiff, Nat.reduceMul, Nat.reduceBEq, encRoom_eq, roomCells_eq, encSetting_eq, encLook_eq, encSpan_eq, show ((3 : Int) == 0) = false from rfl, enc3] | refine rK_dreg0 rfl ?_))
          · have hi : inR r.ran.length 0 r.days = true := by simp [inR]; omega
            cases h6 : firstBad (ranErr r) r.ran 0 with
            | some p =>
              obtain ⟨i, e⟩ := p
              have hne : (e == 0) = false := by simpa using firstBad_ne h6
              have e1 : failing 0 r.days (fun i n => ranErr r 0 n) r.ran = ((i : Int), e) := by simp only [failing, hi, firstBad_ran, h6]; rfl
              have e2 : check3 r = (3, (i : Int), e) := by simp only [check3, h5, if_false, h6]
              rw [e1, e2]
              (repeat (first | simp only [↓QP, ↓QD, QR, QV, QS, QC, implies_true, forall_const, ne_eq, not_false_eq_true, not_true_eq_false, Nat.reduceLT, reduceIte, Nat.reduceEqDiff, Nat.reduceAdd, Nat.reduceLeDiff, Nat.reduceMul, Nat.reduceBEq, encRoom_eq, roomCells_eq, encSetting_eq, encLook_eq, encSpan_eq, hne, enc3] | refine rK_dreg0 rfl ?_))
            | none =>
              have e1 : failing 0 r.days (fun i n => ranErr r 0 n) r.ran = (0, 0) := by simp only [failing, hi, firstBad_ran, h6]; rfl
              have e2 : check3 r = check4 r := by simp only [check3, h5, if_false, h6]
              rw [e1, e2]
              (repeat (first | simp only [↓QP, ↓QD, QR, QV, QS, QC, implies_true, forall_const, ne_eq, not_false_eq_true, not_true_eq_false, Nat.reduceLT, reduceIte, Nat.reduceEqDiff, Nat.reduceAdd, Nat.reduceLeDiff, Nat.reduceMul, Nat.reduceBEq, encRoom_eq, roomCells_eq, encSetting_eq, encLook_eq, encSpan_eq, show ((0 : Int) == 0) = true from rfl] | refine rK_dreg0 rfl ?_))
              refine callK_same f3 ?_
              (repeat (first | simp only [↓QP, ↓QD, QR, QV, QS, QC, implies_true, forall_const, ne_eq, not_false_eq_true, not_true_eq_false, Nat.reduceLT, reduceIte, Nat.reduceEqDiff, Nat.reduceAdd, Nat.reduceLeDiff, Nat.reduceMul, Nat.reduceBEq, encRoom_eq, roomCells_eq, encSetting_eq, encLook_eq, encSpan_eq, enc2] | refine rK_dreg0 rfl ?_))
              by_cases h7 : 4 < r.looks.length
              · have hi : inR r.looks.length 0 4 = false := by simp [inR]; omega
                have e1 : failing 0 4 (fun i n => lookErr r 0 n) r.looks = (0, 3) := by simp only [failing, hi, if_true]
                have e2 : check4 r = (4, 0, 3) := by simp only [check4, h7, if_true]
                rw [e1, e2]
                (repeat (first | simp only [↓QP, ↓QD, QR, QV, QS, QC, implies_true, forall_const, ne_eq, not_false_eq_true, not_true_eq_false, Nat.reduceLT, reduceIte, Nat.reduceEqDiff, Nat.reduceAdd, Nat.reduceLeDiff, Nat.reduceMul, Nat.reduceBEq, encRoom_eq, roomCells_eq, encSetting_eq, encLook_eq, encSpan_eq, show ((3 : Int) == 0) = false from rfl, enc3] | refine rK_dreg0 rfl ?_))
              · have hi : inR r.looks.length 0 4 = true := by simp [inR]; omega
                cases h8 : firstBad (lookErr r) r.looks 0 with
                | some p =>
                  obtain ⟨i, e⟩ := p
                  have hne : (e == 0) = false := by simpa using firstBad_ne h8
                  have e1 : failing 0 4 (fun i n => lookErr r 0 n) r.looks = ((i : Int), e) := by simp only [failing, hi, firstBad_look, h8]; rfl
                  have e2 : check4 r = (4, (i : Int), e) := by simp only [check4, h7, if_false, h8]
                  rw [e1, e2]
                  (repeat (first | simp only [↓QP, ↓QD, QR, QV, QS, QC, implies_true, forall_const, ne_eq, not_false_eq_true, not_true_eq_false, Nat.reduceLT, reduceIte, Nat.reduceEqDiff, Nat.reduceAdd, Nat.reduceLeDiff, Nat.reduceMul, Nat.reduceBEq, encRoom_eq, roomCells_eq, encSetting_eq, encLook_eq, encSpan_eq, hne, enc3] | refine rK_dreg0 rfl ?_))
                | none =>
                  have e1 : failing 0 4 (fun i n => lookErr r 0 n) r.looks = (0, 0) := by simp only [failing, hi, firstBad_look, h8]; rfl
                  have e2 : check4 r = (0, 0, 0) := by simp only [check4, h7, if_false, h8]
                  rw [e1, e2]
                  (repeat (first | simp only [↓QP, ↓QD, QR, QV, QS, QC, implies_true, forall_const, ne_eq, not_false_eq_true, not_true_eq_false, Nat.reduceLT, reduceIte, Nat.reduceEqDiff, Nat.reduceAdd, Nat.reduceLeDiff, Nat.reduceMul, Nat.reduceBEq, encRoom_eq, roomCells_eq, encSetting_eq, encLook_eq, encSpan_eq, show ((0 : Int) == 0) = true from rfl, enc3] | refine rK_dreg0 rfl ?_))
end Go.Am.Room
set_option linter.unusedVariables false
set_option linter.unusedSimpArgs false
set_option maxRecDepth 4000
namespace Go.Am.Room
/-- A call that returns a value and leaves a state. -/
def Does (T : FuncId → Option AFunc) (f : AV) (args : List AV) (σ : St) (v : AV) (σ' : St) : Prop := Run T (.callv f args σ) fun o => o.v = v ∧ o.σ = σ'
theorem callK_do {f : AV} {args : List AV} {v : AV} {σ σ' : St} {K : AV → St → Prop} (h : Does T f args σ v σ') (k : K v σ') : cK (K := ⟨K⟩) T f args σ := .mono h fun o ho => by rw [ho.1, ho.2]; exact k
theorem callD_do {f : AV} {args : List AV} {v : AV} {σ σ' : St} {K : AV → St → Prop} (h : Does T f args σ v σ') (k : K v σ') : cD (K := ⟨K⟩) T f args σ := ⟨v, σ', h, k⟩
/-- Numbers, three by three: one, from another one to a third one. -/
def withinE : List Int → Int
  | n :: lo :: hi :: rest => if inR n lo hi = true then withinE rest else 7
  | _ => 0
theorem within_step {ns : List Int} {i : Nat} (h : i + 2 < ns.length) : withinE (ns.drop i) = if inR ns[i] ns[i + 1] ns[i + 2] = true then withinE (ns.drop (i + 3)) else 7 := by
  rw [List.drop_eq_getElem_cons (show i < ns.length by omega), List.drop_eq_getElem_cons (show i + 1 < ns.length by omega), List.drop_eq_getElem_cons h]
  rfl
theorem within_end {ns : List Int} {i : Nat} (h : ¬ i + 2 < ns.length) : withinE (ns.drop i) = 0 := by
  have hl : (ns.drop i).length ≤ 2 := by simp; omega
  match hd : ns.drop i with
  | [] => rfl
  | [_] => rfl
  | [_, _] => rfl
  | _ :: _ :: _ :: _ => rw [hd] at hl; simp at hl
theorem within1_ok (σ : St) (p : Nat) (ns : List Int) (f : Bool) (tk : Option Nat) (hl : ns.length ≤ 100) (hp : cellsAt σ p = some [.lit (ns.map (.int .i64)) f tk]) (hpl : p < σ.length) : Same T (.func 105 [] [.ptr p 0]) [] σ (.int .i64 (withinE ns)) := by
  refine same_fn (af := a105) rfl (by simp [a105]) ?_
  (repeat (first | simp only [↓QP, ↓QD, QR, QV, QS, QC, implies_true, forall_const, ne_eq, not_false_eq_true, not_true_eq_false, Nat.reduceLT, reduceIte, Nat.reduceEqDiff, Nat.reduceAdd, Nat.reduceLeDiff, Nat.reduceMul, Nat.reduceBEq, setE_eq, bits_len, bits_cell, bits_take, bits_drop, bits_zero, Nat.mul_one, Int.toNat_natCast, encRoom_eq, roomCells_eq, encSetting_eq, encLook_eq, encSpan_eq, S_bits, Nat.add_lt_add_iff_left, Nat.lt_add_right_iff_pos, T_sapp, a105] | refine rK_dreg0 rfl ?_))
  refine loopE (S := Nat) 0 (fun i => i ≤ ns.length + 2 ∧ withinE (ns.drop i) = withinE ns) (fun i => ns.length + 2 - i) (fun i => [(0, .ptr p 0), (2, .int .i64 i)]) (fun _ => σ) ⟨by omega, by simp⟩ rfl ?_ fun i hi => ?_
  · try simp only [TrimX, QT, QS, q_get, List.length_append, Nat.le_add_right, QC, implies_true, forall_const, ne_eq, not_false_eq_true, not_true_eq_false, Nat.reduceLT, reduceIte, Nat.reduceEqDiff, Nat.reduceAdd, Nat.reduceLeDiff, Nat.reduceMul, Nat.reduceBEq, setE_eq, bits_len, bits_cell, bits_take, bits_drop, bits_zero, Nat.mul_one, Int.toNat_natCast, encRoom_eq, roomCells_eq, encSetting_eq, encLook_eq, encSpan_eq, S_bits, Nat.add_lt_add_iff_left, Nat.lt_add_right_iff_pos, T_sapp]
    try simp
  · obtain ⟨hi, hq⟩ := hi
    have w2 : IntKind.i64.wrap ((i : Int) + 2) = ((i + 2 : Nat) : Int) := by rw [wrap64 ⟨by omega, by omega⟩]; omega
    have w1 : IntKind.i64.wrap ((i : Int) + 1) = ((i + 1 : Nat) : Int) := by rw [wrap64 ⟨by omega, by omega⟩]; omega
    have w3 : IntKind.i64.wrap ((i : Int) + 3) = ((i + 3 : Nat) : Int) := by rw [wrap64 ⟨by omega, by omega⟩]; omega
    (repeat (first | simp only [↓QP, ↓QD, QR, QV, QS, QC, implies_true, forall_const, ne_eq, not_false_eq_true, not_true_eq_false, Nat.reduceLT, reduceIte, Nat.reduceEqDiff, Nat.reduceAdd, Nat.reduceLeDiff, Nat.reduceMul, Nat.reduceBEq, setE_eq, bits_len, bits_cell, bits_take, bits_drop, bits_zero, Nat.mul_one, Int.toNat_natCast, encRoom_eq, roomCells_eq, encSetting_eq, encLook_eq, encSpan_eq, S_bits, Nat.add_lt_add_iff_left, Nat.lt_add_right_iff_pos, T_sapp, L105_0, hp, w2] | refine rK_dreg0 rfl ?_))
    refine iteP_intro (fun h => ?_) fun h => ?_
    · have h3 : i + 2 < ns.length := by simp at h; omega
      have h1 : i < ns.length := by omega
      have h2 : i + 1 < ns.length := by omega
      rw [within_step h3] at hq
      (repeat (first | simp only [↓QP, ↓QD, QR, QV, QS, QC, implies_true, forall_const, ne_eq, not_false_eq_true, not_true_eq_false, Nat.reduceLT, reduceIte, Nat.reduceEqDiff, Nat.reduceAdd, Nat.reduceLeDiff, Nat.reduceMul, Nat.reduceBEq, setE_eq, bits_len, bits_cell, bits_take, bits_drop, bits_zero, Nat.mul_one, Int.toNat_natCast, encRoom_eq, roomCells_eq, encSetting_eq, encLook_eq, encSpan_eq, S_bits, Nat.add_lt_add_iff_left, Nat.lt_add_right_iff_pos, T_sapp, hp, w1, w2, w3, h1, h2, h3] | refine rK_dreg0 rfl ?_))
      ((first | refine callK_v (beyond_ok ns[i + 1] ns[i + 2] [ns[i]] (by simp)) (by simp [clr, clrs, ints]) (by simp [okV, okVs]) ?_ | refine callD_v (beyond_ok ns[i + 1] ns[i + 2] [ns[i]] (by simp)) (by simp [clr, clrs, ints]) (by simp [okV, okVs]) ?_); (repeat (first | simp only [↓QP, ↓QD, QR, QV, QS, QC, implies_true, forall_const, ne_eq, not_false_eq_true, not_true_eq_false, Nat.reduceLT, reduceIte, Nat.reduceEqDiff, Nat.reduceAdd, Nat.reduceLeDiff, Nat.reduceMul, Nat.reduceBEq, setE_eq, bits_len, bits_cell, bits_take, bits_drop, bits_zero, Nat.mul_one, Int.toNat_natCast, encRoom_eq, roomCells_eq, encSetting_eq, encLook_eq, encSpan_eq, S_bits, Nat.add_lt_add_iff_left, Nat.lt_add_right_iff_pos, T_sapp, beyond1, hp, w1, w2, w3, h1, h2, h3] | refine rK_dreg0 rfl ?_)))
      cases hin : inR ns[i] ns[i + 1] ns[i + 2]
      · (repeat (first | simp only [↓QP, ↓QD, QR, QV, QS, QC, implies_true, forall_const, ne_eq, not_false_eq_true, not_true_eq_false, Nat.reduceLT, reduceIte, Nat.reduceEqDiff, Nat.reduceAdd, Nat.reduceLeDiff, Nat.reduceMul, Nat.reduceBEq, setE_eq, bits_len, bits_cell, bits_take, bits_drop, bits_zero, Nat.mul_one, Int.toNat_natCast, encRoom_eq, roomCells_eq, encSetting_eq, encLook_eq, encSpan_eq, S_bits, Nat.add_lt_add_iff_left, Nat.lt_add_right_iff_pos, T_sapp, hp, w1, w2, w3, h1, h2, h3] | refine rK_dreg0 rfl ?_))
        refine baseR [] (by first | rfl | simp) ?_
        rw [← hq, hin]
        try simp only [QS, QC, implies_true, forall_const, ne_eq, not_false_eq_true, not_true_eq_false, Nat.reduceLT, reduceIte, Nat.reduceEqDiff, Nat.reduceAdd, Nat.reduceLeDiff, Nat.reduceMul, Nat.reduceBEq, setE_eq, bits_len, bits_cell, bits_take, bits_drop, bits_zero, Nat.mul_one, Int.toNat_natCast, encRoom_eq, roomCells_eq, encSetting_eq, encLook_eq, encSpan_eq, S_bits, Nat.add_lt_add_iff_left, Nat.lt_add_right_iff_pos, T_sapp]
        rfl
      · (repeat (first | simp only [↓QP, ↓QD, QR, QV, QS, QC, implies_true, forall_const, ne_eq, not_false_eq_true, not_true_eq_false, Nat.reduceLT, reduceIte, Nat.reduceEqDiff, Nat.reduceAdd, Nat.reduceLeDiff, Nat.reduceMul, Nat.reduceBEq, setE_eq, bits_len, bits_cell, bits_take, bits_drop, bits_zero, Nat.mul_one, Int.toNat_natCast, encRoom_eq, roomCells_eq, encSetting_eq, encLook_eq, encSpan_eq, S_bits, Nat.add_lt_add_iff_left, Nat.lt_add_right_iff_pos, T_sapp, hp, w1, w2, w3, h1, h2, h3] | refine rK_dreg0 rfl ?_))
        refine ⟨i + 3, ⟨by omega, ?_⟩, by omega, ?_⟩
        · rw [← hq, hin]; rfl
        · try simp only [TrimX, QT, QS, q_get, List.length_append, Nat.le_add_right, QC, implies_true, forall_const, ne_eq, not_false_eq_true, not_true_eq_false, Nat.reduceLT, reduceIte, Nat.reduceEqDiff, Nat.reduceAdd, Nat.reduceLeDiff, Nat.reduceMul, Nat.reduceBEq, setE_eq, bits_len, bits_cell, bits_take, bits_drop, bits_zero, Nat.mul_one, Int.toNat_natCast, encRoom_eq, roomCells_eq, encSetting_eq, encLook_eq, encSpan_eq, S_bits, Nat.add_lt_add_iff_left, Nat.lt_add_right_iff_pos, T_sapp, w3, hpl, Nat.le_refl]
    · have h3 : ¬ i + 2 < ns.length := by simp at h; omega
      rw [within_end h3] at hq
      (repeat (first | simp only [↓QP, ↓QD, QR, QV, QS, QC, implies_true, forall_const, ne_eq, not_false_eq_true, not_true_eq_false, Nat.reduceLT, reduceIte, Nat.reduceEqDiff, Nat.reduceAdd, Nat.reduceLeDiff, Nat.reduceMul, Nat.reduceBEq, setE_eq, bits_len, bits_cell, bits_take, bits_drop, bits_zero, Nat.mul_one, Int.toNat_natCast, encRoom_eq, roomCells_eq, encSetting_eq, encLook_eq, encSpan_eq, S_bits, Nat.add_lt_add_iff_left, Nat.lt_add_right_iff_pos, T_sapp] | refine rK_dreg0 rfl ?_))
      refine baseR [] (by first | rfl | simp) ?_
      rw [← hq]
      try simp only [QS, QC, implies_true, forall_const, ne_eq, not_false_eq_true, not_true_eq_false, Nat.reduceLT, reduceIte, Nat.reduceEqDiff, Nat.reduceAdd, Nat.reduceLeDiff, Nat.reduceMul, Nat.reduceBEq, setE_eq, bits_len, bits_cell, bits_take, bits_drop, bits_zero, Nat.mul_one, Int.toNat_natCast, encRoom_eq, roomCells_eq, encSetting_eq, encLook_eq, encSpan_eq, S_bits, Nat.add_lt_add_iff_left, Nat.lt_add_right_iff_pos, T_sapp]
theorem within_run (σ : St) (xs : List AV) (f : Bool) : Does T (.func 79 [] []) [.lit xs f none] σ (.func 105 [] [.ptr σ.length 0]) (σ ++ [.cells [.lit xs f none]]) := by
  refine .callf (.call (af := a79) rfl (by simp [a79]) (run_wp (K := fun j e σ1 => (j = none ∨ j = some .ret) ∧ Env.get e 2 = .func 105 [] [.ptr σ.length 0] ∧ σ1 = σ ++ [.cells [.lit xs f none]]) ?_ fun o ho => ho) fun o ho => ?_)
  · (repeat (first | simp only [↓QP, ↓QD, QR, QV, QS, QC, implies_true, forall_const, ne_eq, not_false_eq_true, not_true_eq_false, Nat.reduceLT, reduceIte, Nat.reduceEqDiff, Nat.reduceAdd, Nat.reduceLeDiff, Nat.reduceMul, Nat.reduceBEq, setE_eq, bits_len, bits_cell, bits_take, bits_drop, bits_zero, Nat.mul_one, Int.toNat_natCast, encRoom_eq, roomCells_eq, encSetting_eq, encLook_eq, encSpan_eq, S_bits, Nat.add_lt_add_iff_left, Nat.lt_add_right_iff_pos, T_sapp, a79, List.length_append] | refine rK_dreg0 rfl ?_))
    try simp
  · refine ⟨ho.1, _, ?_, .inl ⟨ho.2.1, ho.2.2⟩⟩
    rfl
theorem today_m (σ : St) (p : Nat) (r : Rm) (ps : Nat → Span) (m : Nat) (hp : cellsAt σ p = some (rb r ps m)) : Same T (.func 85 [] []) [.ptr p 0] σ (.int .i64 r.ran.length) := by
  refine same_fn (af := a85) rfl (by simp [a85]) ?_
  (repeat (first | simp only [↓QP, ↓QD, QR, QV, QS, QC, implies_true, forall_const, ne_eq, not_false_eq_true, not_true_eq_false, Nat.reduceLT, reduceIte, Nat.reduceEqDiff, Nat.reduceAdd, Nat.reduceLeDiff, Nat.reduceMul, Nat.reduceBEq, setE_eq, bits_len, bits_cell, bits_take, bits_drop, bits_zero, Nat.mul_one, Int.toNat_natCast, encRoom_eq, roomCells_eq, encSetting_eq, encLook_eq, encSpan_eq, S_bits, Nat.add_lt_add_iff_left, Nat.lt_add_right_iff_pos, T_sapp, a85, hp, rb_5] | refine rK_dreg0 rfl ?_))
  refine baseR [] (by first | rfl | simp) ?_
  try simp only [QS, QC, implies_true, forall_const, ne_eq, not_false_eq_true, not_true_eq_false, Nat.reduceLT, reduceIte, Nat.reduceEqDiff, Nat.reduceAdd, Nat.reduceLeDiff, Nat.reduceMul, Nat.reduceBEq, setE_eq, bits_len, bits_cell, bits_take, bits_drop, bits_zero, Nat.mul_one, Int.toNat_natCast, encRoom_eq, roomCells_eq, encSetting_eq, encLook_eq, encSpan_eq, S_bits, Nat.add_lt_add_iff_left, Nat.lt_add_right_iff_pos, T_sapp]
theorem before_m (σ : St) (p : Nat) (r : Rm) (ps : Nat → Span) (m : Nat) (hf : Fits r) (hp : cellsAt σ p = some (rb r ps m)) : Same T (.func 89 [] []) [.ptr p 0] σ (.int .i64 (beforeOf r)) := by
  refine same_fn (af := a89) rfl (by simp [a89]) ?_
  have hfr := hf.ran
  (repeat (first | simp only [↓QP, ↓QD, QR, QV, QS, QC, implies_true, forall_const, ne_eq, not_false_eq_true, not_true_eq_false, Nat.reduceLT, reduceIte, Nat.reduceEqDiff, Nat.reduceAdd, Nat.reduceLeDiff, Nat.reduceMul, Nat.reduceBEq, setE_eq, bits_len, bits_cell, bits_take, bits_drop, bits_zero, Nat.mul_one, Int.toNat_natCast, encRoom_eq, roomCells_eq, encSetting_eq, encLook_eq, encSpan_eq, S_bits, Nat.add_lt_add_iff_left, Nat.lt_add_right_iff_pos, T_sapp, a89] | refine rK_dreg0 rfl ?_))
  refine callK_same (today_m σ p r ps m hp) ?_
  by_cases h0 : r.ran.length = 0
  · have g : ((r.ran.length : Int) == 0) = true := by rw [beq_iff_eq]; omega
    (repeat (first | simp only [↓QP, ↓QD, QR, QV, QS, QC, implies_true, forall_const, ne_eq, not_false_eq_true, not_true_eq_false, Nat.reduceLT, reduceIte, Nat.reduceEqDiff, Nat.reduceAdd, Nat.reduceLeDiff, Nat.reduceMul, Nat.reduceBEq, setE_eq, bits_len, bits_cell, bits_take, bits_drop, bits_zero, Nat.mul_one, Int.toNat_natCast, encRoom_eq, roomCells_eq, encSetting_eq, encLook_eq, encSpan_eq, S_bits, Nat.add_lt_add_iff_left, Nat.lt_add_right_iff_pos, T_sapp, g] | refine rK_dreg0 rfl ?_))
    refine baseR [] (by first | rfl | simp) ?_
    simp only [beforeOf, h0, if_true]
    try simp only [QS, QC, implies_true, forall_const, ne_eq, not_false_eq_true, not_true_eq_false, Nat.reduceLT, reduceIte, Nat.reduceEqDiff, Nat.reduceAdd, Nat.reduceLeDiff, Nat.reduceMul, Nat.reduceBEq, setE_eq, bits_len, bits_cell, bits_take, bits_drop, bits_zero, Nat.mul_one, Int.toNat_natCast, encRoom_eq, roomCells_eq, encSetting_eq, encLook_eq, encSpan_eq, S_bits, Nat.add_lt_add_iff_left, Nat.lt_add_right_iff_pos, T_sapp]
  · have g : ((r.ran.length : Int) == 0) = false := by rw [beq_eq_false_iff_ne]; omega
    have hw : IntKind.i64.wrap ((r.ran.length : Int) - 1) = ((r.ran.length - 1 : Nat) : Int) := by rw [wrap64 ⟨by omega, by omega⟩]; omega
    have hlt : r.ran.length - 1 < r.ran.length := by omega
    (repeat (first | simp only [↓QP, ↓QD, QR, QV, QS, QC, implies_true, forall_const, ne_eq, not_false_eq_true, not_true_eq_false, Nat.reduceLT, reduceIte, Nat.reduceEqDiff, Nat.reduceAdd, Nat.reduceLeDiff, Nat.reduceMul, Nat.reduceBEq, setE_eq, bits_len, bits_cell, bits_take, bits_drop, bits_zero, Nat.mul_one, Int.toNat_natCast, encRoom_eq, roomCells_eq, encSetting_eq, encLook_eq, encSpan_eq, S_bits, Nat.add_lt_add_iff_left, Nat.lt_add_right_iff_pos, T_sapp, g, hp, rb_5] | refine rK_dreg0 rfl ?_))
    refine callD_same (today_m σ p r ps m hp) ?_
    (repeat (first | simp only [↓QP, ↓QD, QR, QV, QS, QC, implies_true, forall_const, ne_eq, not_false_eq_true, not_true_eq_false, Nat.reduceLT, reduceIte, Nat.reduceEqDiff, Nat.reduceAdd, Nat.reduceLeDiff, Nat.reduceMul, Nat.reduceBEq, setE_eq, bits_len, bits_cell, bits_take, bits_drop, bits_zero, Nat.mul_one, Int.toNat_natCast, encRoom_eq, roomCells_eq, encSetting_eq, encLook_eq, encSpan_eq, S_bits, Nat.add_lt_add_iff_left, Nat.lt_add_right_iff_pos, T_sapp, hw, hlt, hp, rb_5, ints] | refine rK_dreg0 rfl ?_))
    refine baseR [] (by first | rfl | simp) ?_
    simp only [beforeOf, h0, if_false, List.getElem?_eq_getElem hlt, Option.getD_some]
    try simp only [QS, QC, implies_true, forall_const, ne_eq, not_false_eq_true, not_true_eq_false, Nat.reduceLT, reduceIte, Nat.reduceEqDiff, Nat.reduceAdd, Nat.reduceLeDiff, Nat.reduceMul, Nat.reduceBEq, setE_eq, bits_len, bits_cell, bits_take, bits_drop, bits_zero, Nat.mul_one, Int.toNat_natCast, encRoom_eq, roomCells_eq, encSetting_eq, encLook_eq, encSpan_eq, S_bits, Nat.add_lt_add_iff_left, Nat.lt_add_right_iff_pos, T_sapp]
end Go.Am.Room
set_option linter.unusedVariables false
set_option linter.unusedSimpArgs false
set_option maxRecDepth 4000
namespace Go.Am.Room
theorem but0 : ButIs 0 [] := ⟨by omega, fun i hi => by simp⟩
def enterE (r : Rm) (eo : Int) : Int := errKnown r (if (check r).2.2 = 0 then eo else (check r).2.2)
def enterV (r : Rm) (eo : Int) (n : Nat) : AV := if enterE r eo = 0 then .tuple [.ptr (n + 3) 0, .int .i64 0] else .tuple [.nilPtr, .int .i64 (enterE r eo)]
def enterSt (σ : St) (r : Rm) (eo : Int) : St := if enterE r eo = 0 then σ ++ [.cells (roomCells r), .cells (roomCells r), .map [], .cells (rb r (psB r []) (σ.length + 2))] else σ
theorem enter_run (σ : St) (r : Rm) (f : AV) (eo : Int) (hf : Fits r) (h : (check r).2.2 = 0 → Same T f [] (σ ++ [.cells (roomCells r)]) (.int .i64 eo)) : Does T (.func 78 [] []) [encRoom r, f] σ (enterV r eo σ.length) (enterSt σ r eo) := by
  refine .callf (.call (af := a78) rfl (by simp [a78]) (run_wp (K := fun j e σ1 => (j = none ∨ j = some .ret) ∧ (if enterE r eo = 0 then Env.get e 4 = .ptr (σ.length + 3) 0 ∧ Env.get e 5 = .int .i64 0 ∧ σ1 = enterSt σ r eo else Env.get e 4 = .nilPtr ∧ Env.get e 5 = .int .i64 (enterE r eo) ∧ ∃ τ, σ1 = σ ++ τ)) ?_ fun o ho => ho) fun o ho => ?_)
  · (repeat (first | simp only [↓QP, ↓QD, QR, QV, QS, QC, implies_true, forall_const, ne_eq, not_false_eq_true, not_true_eq_false, Nat.reduceLT, reduceIte, Nat.reduceEqDiff, Nat.reduceAdd, Nat.reduceLeDiff, Nat.reduceMul, Nat.reduceBEq, setE_eq, bits_len, bits_cell, bits_take, bits_drop, bits_zero, Nat.mul_one, Int.toNat_natCast, encRoom_eq, roomCells_eq, encSetting_eq, encLook_eq, encSpan_eq, S_bits, Nat.add_lt_add_iff_left, Nat.lt_add_right_iff_pos, T_sapp, a78] | refine rK_dreg0 rfl ?_))
    ((first | refine callK_d (check_ok r hf) rfl (by repeat (first | exact datas_nil | refine datas_cons ?_ ?_ | exact data_int _ _ | exact data_ints _ | exact data_span _ | exact data_bool _ | exact data_str _ | exact data_strs _ | exact data_room _ | exact data_set _ | exact data_intss _ | exact data_days _)) ?_ | refine callD_d (check_ok r hf) rfl (by repeat (first | exact datas_nil | refine datas_cons ?_ ?_ | exact data_int _ _ | exact data_ints _ | exact data_span _ | exact data_bool _ | exact data_str _ | exact data_strs _ | exact data_room _ | exact data_set _ | exact data_intss _ | exact data_days _)) ?_); (repeat (first | simp only [↓QP, ↓QD, QR, QV, QS, QC, implies_true, forall_const, ne_eq, not_false_eq_true, not_true_eq_false, Nat.reduceLT, reduceIte, Nat.reduceEqDiff, Nat.reduceAdd, Nat.reduceLeDiff, Nat.reduceMul, Nat.reduceBEq, setE_eq, bits_len, bits_cell, bits_take, bits_drop, bits_zero, Nat.mul_one, Int.toNat_natCast, encRoom_eq, roomCells_eq, encSetting_eq, encLook_eq, encSpan_eq, S_bits, Nat.add_lt_add_iff_left, Nat.lt_add_right_iff_pos, T_sapp, enc3] | refine rK_dreg0 rfl ?_)))
    cases h0 : ((check r).2.2 == 0)
    · have h0' : (check r).2.2 ≠ 0 := by simpa using h0
      have he : enterE r eo = (check r).2.2 := by simp [enterE, h0', errKnown]
      (repeat (first | simp only [↓QP, ↓QD, QR, QV, QS, QC, implies_true, forall_const, ne_eq, not_false_eq_true, not_true_eq_false, Nat.reduceLT, reduceIte, Nat.reduceEqDiff, Nat.reduceAdd, Nat.reduceLeDiff, Nat.reduceMul, Nat.reduceBEq, setE_eq, bits_len, bits_cell, bits_take, bits_drop, bits_zero, Nat.mul_one, Int.toNat_natCast, encRoom_eq, roomCells_eq, encSetting_eq, encLook_eq, encSpan_eq, S_bits, Nat.add_lt_add_iff_left, Nat.lt_add_right_iff_pos, T_sapp, h0] | refine rK_dreg0 rfl ?_))
      rw [he, if_neg h0']
      simp
    · have h0' : (check r).2.2 = 0 := by simpa using h0
      have hv := vd_of_check h0'
      have h := h h0'
      try simp only [↓QP, QV, QS, QC, implies_true, forall_const, ne_eq, not_false_eq_true, not_true_eq_false, Nat.reduceLT, reduceIte, Nat.reduceEqDiff, Nat.reduceAdd, Nat.reduceLeDiff, Nat.reduceMul, Nat.reduceBEq, setE_eq, bits_len, bits_cell, bits_take, bits_drop, bits_zero, Nat.mul_one, Int.toNat_natCast, encRoom_eq, roomCells_eq, encSetting_eq, encLook_eq, encSpan_eq, S_bits, Nat.add_lt_add_iff_left, Nat.lt_add_right_iff_pos, T_sapp] at h
      have he : enterE r eo = errKnown r eo := by simp [enterE, h0']
      rw [he]
      (repeat (first | simp only [↓QP, ↓QD, QR, QV, QS, QC, implies_true, forall_const, ne_eq, not_false_eq_true, not_true_eq_false, Nat.reduceLT, reduceIte, Nat.reduceEqDiff, Nat.reduceAdd, Nat.reduceLeDiff, Nat.reduceMul, Nat.reduceBEq, setE_eq, bits_len, bits_cell, bits_take, bits_drop, bits_zero, Nat.mul_one, Int.toNat_natCast, encRoom_eq, roomCells_eq, encSetting_eq, encLook_eq, encSpan_eq, S_bits, Nat.add_lt_add_iff_left, Nat.lt_add_right_iff_pos, T_sapp, h0] | refine rK_dreg0 rfl ?_))
      refine callK_same h ?_
      cases h1 : (eo == 0)
      · have h1' : eo ≠ 0 := by simpa using h1
        have he2 : errKnown r eo = eo := by simp [errKnown, h1']
        (repeat (first | simp only [↓QP, ↓QD, QR, QV, QS, QC, implies_true, forall_const, ne_eq, not_false_eq_true, not_true_eq_false, Nat.reduceLT, reduceIte, Nat.reduceEqDiff, Nat.reduceAdd, Nat.reduceLeDiff, Nat.reduceMul, Nat.reduceBEq, setE_eq, bits_len, bits_cell, bits_take, bits_drop, bits_zero, Nat.mul_one, Int.toNat_natCast, encRoom_eq, roomCells_eq, encSetting_eq, encLook_eq, encSpan_eq, S_bits, Nat.add_lt_add_iff_left, Nat.lt_add_right_iff_pos, T_sapp, h1] | refine rK_dreg0 rfl ?_))
        rw [he2, if_neg h1']
        simp
      · have h1' : eo = 0 := by simpa using h1
        have hlk := look_run (σ ++ [.cells (roomCells r)]) r 0 [] hv but0
        cases hs : someB r []
        · have he2 : errKnown r eo = 8 := by simp [errKnown, h1', hs]
          rw [hs, roomCells_eq] at hlk
          (repeat (first | simp only [↓QP, ↓QD, QR, QV, QS, QC, implies_true, forall_const, ne_eq, not_false_eq_true, not_true_eq_false, Nat.reduceLT, reduceIte, Nat.reduceEqDiff, Nat.reduceAdd, Nat.reduceLeDiff, Nat.reduceMul, Nat.reduceBEq, setE_eq, bits_len, bits_cell, bits_take, bits_drop, bits_zero, Nat.mul_one, Int.toNat_natCast, encRoom_eq, roomCells_eq, encSetting_eq, encLook_eq, encSpan_eq, S_bits, Nat.add_lt_add_iff_left, Nat.lt_add_right_iff_pos, T_sapp, h1] | refine rK_dreg0 rfl ?_))
          refine .mono hlk fun o ho => ?_
          obtain ⟨ps, hov, hoσ, hps⟩ := ho
          rw [hov, hoσ]
          (repeat (first | simp only [↓QP, ↓QD, QR, QV, QS, QC, implies_true, forall_const, ne_eq, not_false_eq_true, not_true_eq_false, Nat.reduceLT, reduceIte, Nat.reduceEqDiff, Nat.reduceAdd, Nat.reduceLeDiff, Nat.reduceMul, Nat.reduceBEq, setE_eq, bits_len, bits_cell, bits_take, bits_drop, bits_zero, Nat.mul_one, Int.toNat_natCast, encRoom_eq, roomCells_eq, encSetting_eq, encLook_eq, encSpan_eq, S_bits, Nat.add_lt_add_iff_left, Nat.lt_add_right_iff_pos, T_sapp, List.length_append, lookSt] | refine rK_dreg0 rfl ?_))
          rw [he2]
          simp
        · have he2 : errKnown r eo = 0 := by simp [errKnown, h1', hs]
          rw [hs, roomCells_eq] at hlk
          (repeat (first | simp only [↓QP, ↓QD, QR, QV, QS, QC, implies_true, forall_const, ne_eq, not_false_eq_true, not_true_eq_false, Nat.reduceLT, reduceIte, Nat.reduceEqDiff, Nat.reduceAdd, Nat.reduceLeDiff, Nat.reduceMul, Nat.reduceBEq, setE_eq, bits_len, bits_cell, bits_take, bits_drop, bits_zero, Nat.mul_one, Int.toNat_natCast, encRoom_eq, roomCells_eq, encSetting_eq, encLook_eq, encSpan_eq, S_bits, Nat.add_lt_add_iff_left, Nat.lt_add_right_iff_pos, T_sapp, h1] | refine rK_dreg0 rfl ?_))
          refine .mono hlk fun o ho => ?_
          obtain ⟨ps, hov, hoσ, hps⟩ := ho
          obtain rfl := hps rfl
          rw [hov, hoσ]
          (repeat (first | simp only [↓QP, ↓QD, QR, QV, QS, QC, implies_true, forall_const, ne_eq, not_false_eq_true, not_true_eq_false, Nat.reduceLT, reduceIte, Nat.reduceEqDiff, Nat.reduceAdd, Nat.reduceLeDiff, Nat.reduceMul, Nat.reduceBEq, setE_eq, bits_len, bits_cell, bits_take, bits_drop, bits_zero, Nat.mul_one, Int.toNat_natCast, encRoom_eq, roomCells_eq, encSetting_eq, encLook_eq, encSpan_eq, S_bits, Nat.add_lt_add_iff_left, Nat.lt_add_right_iff_pos, T_sapp, List.length_append, lookSt] | refine rK_dreg0 rfl ?_))
          rw [he2]
          simp [enterSt, he, he2, roomCells_eq]
  · obtain ⟨hj, ho⟩ := ho
    by_cases he : enterE r eo = 0
    · rw [if_pos he] at ho
      refine ⟨hj, enterV r eo σ.length, ?_, .inl ⟨rfl, ho.2.2⟩⟩
      simp [resOf, resAV, a78, ho.1, ho.2.1, enterV, he]
    · rw [if_neg he] at ho
      obtain ⟨h4, h5, τ, hσ⟩ := ho
      refine ⟨hj, enterV r eo σ.length, ?_, .inr ⟨20, enterV r eo σ.length, enterV r eo σ.length, ?_, .inl rfl, fun i hi => .inl (by rw [hσ]; exact List.getElem?_append_left hi), by rw [hσ]; simp, rfl, by rw [hσ]; simp [enterSt, he]⟩⟩
      · simp [resOf, resAV, a78, h4, h5, enterV, he]
      · simp [enterV, he, snap, snaps]
end Go.Am.Room
set_option linter.unusedVariables false
set_option linter.unusedSimpArgs false
set_option maxRecDepth 4000
namespace Go.Am.Room
theorem psB_pts {r : Rm} (hv : Vd r) (hs : someB r [] = true) {d : Nat} (hd : d ≤ r.ran.length) : psB r [] d = ptsS r d := by
  rw [someB_eq hv] at hs
  obtain ⟨b, f, h1, _⟩ := bwd_some hv hs (r.ran.length - d) (by omega)
  simp [psB, hd, bS, ptsS, h1]
theorem psB_ends {r : Rm} (hv : Vd r) (hs : someB r [] = true) {d : Nat} (hd : d ≤ r.ran.length) : psB r [] d = endsOf (dayB r [] d) := by rw [psB_pts hv hs hd, ptsS_eq hv]
theorem points_ok (r : Rm) (day : Int) (hf : Fits r) : Pure T 17 [encRoom r, .int .i64 day] (encSE (pointsOf r day)) := by
  refine pure_fn (af := a17) rfl (by simp [a17]) (by repeat (first | exact datas_nil | refine datas_cons ?_ ?_ | exact data_int _ _ | exact data_ints _ | exact data_span _ | exact data_bool _ | exact data_str _ | exact data_strs _ | exact data_room _ | exact data_set _ | exact data_intss _ | exact data_days _)) ?_
  (repeat (first | simp only [↓QP, ↓QD, QR, QV, QS, QC, implies_true, forall_const, ne_eq, not_false_eq_true, not_true_eq_false, Nat.reduceLT, reduceIte, Nat.reduceEqDiff, Nat.reduceAdd, Nat.reduceLeDiff, Nat.reduceMul, Nat.reduceBEq, setE_eq, bits_len, bits_cell, bits_take, bits_drop, bits_zero, Nat.mul_one, Int.toNat_natCast, encRoom_eq, roomCells_eq, encSetting_eq, encLook_eq, encSpan_eq, S_bits, Nat.add_lt_add_iff_left, Nat.lt_add_right_iff_pos, T_sapp, a17] | refine rK_dreg0 rfl ?_))
  refine callD_do (within_run _ _ _) ?_
  (repeat (first | simp only [↓QP, ↓QD, QR, QV, QS, QC, implies_true, forall_const, ne_eq, not_false_eq_true, not_true_eq_false, Nat.reduceLT, reduceIte, Nat.reduceEqDiff, Nat.reduceAdd, Nat.reduceLeDiff, Nat.reduceMul, Nat.reduceBEq, setE_eq, bits_len, bits_cell, bits_take, bits_drop, bits_zero, Nat.mul_one, Int.toNat_natCast, encRoom_eq, roomCells_eq, encSetting_eq, encLook_eq, encSpan_eq, S_bits, Nat.add_lt_add_iff_left, Nat.lt_add_right_iff_pos, T_sapp] | refine rK_dreg0 rfl ?_))
  refine callD_do (enter_run _ r _ (if inR day 0 r.ran.length = true then 0 else 7) hf ?_) ?_
  · intro _
    have := within1_ok [.cells (roomCells r), .cells [.int .i64 0, .int .i64 0], .cells [.lit [.int .i64 day, .int .i64 0, .int .i64 r.ran.length] true none], .cells (roomCells r)] 2 [day, 0, r.ran.length] true none (by simp) (by simp [cellsAt]) (by simp)
    rw [roomCells_eq] at this
    have e : withinE [day, 0, (r.ran.length : Int)] = if inR day 0 r.ran.length = true then 0 else 7 := rfl
    rw [e] at this
    try simp only [↓QP, QV, QS, QC, implies_true, forall_const, ne_eq, not_false_eq_true, not_true_eq_false, Nat.reduceLT, reduceIte, Nat.reduceEqDiff, Nat.reduceAdd, Nat.reduceLeDiff, Nat.reduceMul, Nat.reduceBEq, setE_eq, bits_len, bits_cell, bits_take, bits_drop, bits_zero, Nat.mul_one, Int.toNat_natCast, encRoom_eq, roomCells_eq, encSetting_eq, encLook_eq, encSpan_eq, S_bits, Nat.add_lt_add_iff_left, Nat.lt_add_right_iff_pos, T_sapp]
    exact this
  have he : enterE r (if inR day 0 r.ran.length = true then 0 else 7) = errKnown r (errAsk r day 0 r.ran.length) := rfl
  simp only [enterV, enterSt, he]
  by_cases h0 : errKnown r (errAsk r day 0 r.ran.length) = 0
  · obtain ⟨h1, hs⟩ := errKnown_ok h0
    obtain ⟨hv, hd0, hd1⟩ := errAsk_ok h1
    have hdd := hv.days
    have hdr := hv.ranLen
    have hp : pointsOf r day = (psB r [] day.toNat, 0) := by rw [pointsOf, if_pos h0, psB_ends hv hs (by omega)]
    have i1 : (0 : Int) ≤ day ∧ day < ((7 : Nat) : Int) := ⟨hd0, by omega⟩
    have c1 : 7 + day.toNat * 2 + 2 ≤ 22 := by omega
    have t1 := fun m => rb_at r (psB r []) m day.toNat (by omega)
    rw [if_pos h0, if_pos h0, hp]
    (repeat (first | simp only [↓QP, ↓QD, QR, QV, QS, QC, implies_true, forall_const, ne_eq, not_false_eq_true, not_true_eq_false, Nat.reduceLT, reduceIte, Nat.reduceEqDiff, Nat.reduceAdd, Nat.reduceLeDiff, Nat.reduceMul, Nat.reduceBEq, setE_eq, bits_len, bits_cell, bits_take, bits_drop, bits_zero, Nat.mul_one, Int.toNat_natCast, encRoom_eq, roomCells_eq, encSetting_eq, encLook_eq, encSpan_eq, S_bits, Nat.add_lt_add_iff_left, Nat.lt_add_right_iff_pos, T_sapp, show ((0 : Int) == 0) = true from rfl, i1, c1, t1, rb_len, encSE] | refine rK_dreg0 rfl ?_))
  · have h0' : (errKnown r (errAsk r day 0 r.ran.length) == 0) = false := by simpa using h0
    have hp : pointsOf r day = (⟨0, 0⟩, errKnown r (errAsk r day 0 r.ran.length)) := by rw [pointsOf, if_neg h0]
    rw [if_neg h0, if_neg h0, hp]
    (repeat (first | simp only [↓QP, ↓QD, QR, QV, QS, QC, implies_true, forall_const, ne_eq, not_false_eq_true, not_true_eq_false, Nat.reduceLT, reduceIte, Nat.reduceEqDiff, Nat.reduceAdd, Nat.reduceLeDiff, Nat.reduceMul, Nat.reduceBEq, setE_eq, bits_len, bits_cell, bits_take, bits_drop, bits_zero, Nat.mul_one, Int.toNat_natCast, encRoom_eq, roomCells_eq, encSetting_eq, encLook_eq, encSpan_eq, S_bits, Nat.add_lt_add_iff_left, Nat.lt_add_right_iff_pos, T_sapp, h0', encSE] | refine rK_dreg0 rfl ?_))
theorem colours_ok (r : Rm) (day : Int) (hf : Fits r) : Pure T 19 [encRoom r, .int .i64 day] (encSE (coloursOf r day)) := by
  refine pure_fn (af := a19) rfl (by simp [a19]) (by repeat (first | exact datas_nil | refine datas_cons ?_ ?_ | exact data_int _ _ | exact data_ints _ | exact data_span _ | exact data_bool _ | exact data_str _ | exact data_strs _ | exact data_room _ | exact data_set _ | exact data_intss _ | exact data_days _)) ?_
  (repeat (first | simp only [↓QP, ↓QD, QR, QV, QS, QC, implies_true, forall_const, ne_eq, not_false_eq_true, not_true_eq_false, Nat.reduceLT, reduceIte, Nat.reduceEqDiff, Nat.reduceAdd, Nat.reduceLeDiff, Nat.reduceMul, Nat.reduceBEq, setE_eq, bits_len, bits_cell, bits_take, bits_drop, bits_zero, Nat.mul_one, Int.toNat_natCast, encRoom_eq, roomCells_eq, encSetting_eq, encLook_eq, encSpan_eq, S_bits, Nat.add_lt_add_iff_left, Nat.lt_add_right_iff_pos, T_sapp, a19] | refine rK_dreg0 rfl ?_))
  ((first | refine callK_d (points_ok r day hf) rfl (by repeat (first | exact datas_nil | refine datas_cons ?_ ?_ | exact data_int _ _ | exact data_ints _ | exact data_span _ | exact data_bool _ | exact data_str _ | exact data_strs _ | exact data_room _ | exact data_set _ | exact data_intss _ | exact data_days _)) ?_ | refine callD_d (points_ok r day hf) rfl (by repeat (first | exact datas_nil | refine datas_cons ?_ ?_ | exact data_int _ _ | exact data_ints _ | exact data_span _ | exact data_bool _ | exact data_str _ | exact data_strs _ | exact data_room _ | exact data_set _ | exact data_intss _ | exact data_days _)) ?_); (repeat (first | simp only [↓QP, ↓QD, QR, QV, QS, QC, implies_true, forall_const, ne_eq, not_false_eq_true, not_true_eq_false, Nat.reduceLT, reduceIte, Nat.reduceEqDiff, Nat.reduceAdd, Nat.reduceLeDiff, Nat.reduceMul, Nat.reduceBEq, setE_eq, bits_len, bits_cell, bits_take, bits_drop, bits_zero, Nat.mul_one, Int.toNat_natCast, encRoom_eq, roomCells_eq, encSetting_eq, encLook_eq, encSpan_eq, S_bits, Nat.add_lt_add_iff_left, Nat.lt_add_right_iff_pos, T_sapp, encSE] | refine rK_dreg0 rfl ?_)))
  cases h0 : ((pointsOf r day).2 == 0)
  · have h0' : (pointsOf r day).2 ≠ 0 := by simpa using h0
    (repeat (first | simp only [↓QP, ↓QD, QR, QV, QS, QC, implies_true, forall_const, ne_eq, not_false_eq_true, not_true_eq_false, Nat.reduceLT, reduceIte, Nat.reduceEqDiff, Nat.reduceAdd, Nat.reduceLeDiff, Nat.reduceMul, Nat.reduceBEq, setE_eq, bits_len, bits_cell, bits_take, bits_drop, bits_zero, Nat.mul_one, Int.toNat_natCast, encRoom_eq, roomCells_eq, encSetting_eq, encLook_eq, encSpan_eq, S_bits, Nat.add_lt_add_iff_left, Nat.lt_add_right_iff_pos, T_sapp, h0, coloursOf, h0', encSE] | refine rK_dreg0 rfl ?_))
  · have h0' : (pointsOf r day).2 = 0 := by simpa using h0
    obtain ⟨hv, hs, _, _, hp⟩ := pointsOf_ok h0'
    have hb := pts_bd hv hs day.toNat
    rw [← hp] at hb
    (repeat (first | simp only [↓QP, ↓QD, QR, QV, QS, QC, implies_true, forall_const, ne_eq, not_false_eq_true, not_true_eq_false, Nat.reduceLT, reduceIte, Nat.reduceEqDiff, Nat.reduceAdd, Nat.reduceLeDiff, Nat.reduceMul, Nat.reduceBEq, setE_eq, bits_len, bits_cell, bits_take, bits_drop, bits_zero, Nat.mul_one, Int.toNat_natCast, encRoom_eq, roomCells_eq, encSetting_eq, encLook_eq, encSpan_eq, S_bits, Nat.add_lt_add_iff_left, Nat.lt_add_right_iff_pos, T_sapp, h0] | refine rK_dreg0 rfl ?_))
    ((first | refine callK_d (pcolours_ok (pointsOf r day).1 hb.1 (by omega) (by omega) (by omega)) rfl (by repeat (first | exact datas_nil | refine datas_cons ?_ ?_ | exact data_int _ _ | exact data_ints _ | exact data_span _ | exact data_bool _ | exact data_str _ | exact data_strs _ | exact data_room _ | exact data_set _ | exact data_intss _ | exact data_days _)) ?_ | refine callD_d (pcolours_ok (pointsOf r day).1 hb.1 (by omega) (by omega) (by omega)) rfl (by repeat (first | exact datas_nil | refine datas_cons ?_ ?_ | exact data_int _ _ | exact data_ints _ | exact data_span _ | exact data_bool _ | exact data_str _ | exact data_strs _ | exact data_room _ | exact data_set _ | exact data_intss _ | exact data_days _)) ?_); (repeat (first | simp only [↓QP, ↓QD, QR, QV, QS, QC, implies_true, forall_const, ne_eq, not_false_eq_true, not_true_eq_false, Nat.reduceLT, reduceIte, Nat.reduceEqDiff, Nat.reduceAdd, Nat.reduceLeDiff, Nat.reduceMul, Nat.reduceBEq, setE_eq, bits_len, bits_cell, bits_take, bits_drop, bits_zero, Nat.mul_one, Int.toNat_natCast, encRoom_eq, roomCells_eq, encSetting_eq, encLook_eq, encSpan_eq, S_bits, Nat.add_lt_add_iff_left, Nat.lt_add_right_iff_pos, T_sapp, coloursOf, h0', encSE] | refine rK_dreg0 rfl ?_)))
theorem began_ok (r : Rm) (hf : Fits r) : Pure T 21 [encRoom r] (encSE (pointsOf r 0)) := by
  refine pure_fn (af := a21) rfl (by simp [a21]) (by repeat (first | exact datas_nil | refine datas_cons ?_ ?_ | exact data_int _ _ | exact data_ints _ | exact data_span _ | exact data_bool _ | exact data_str _ | exact data_strs _ | exact data_room _ | exact data_set _ | exact data_intss _ | exact data_days _)) ?_
  (repeat (first | simp only [↓QP, ↓QD, QR, QV, QS, QC, implies_true, forall_const, ne_eq, not_false_eq_true, not_true_eq_false, Nat.reduceLT, reduceIte, Nat.reduceEqDiff, Nat.reduceAdd, Nat.reduceLeDiff, Nat.reduceMul, Nat.reduceBEq, setE_eq, bits_len, bits_cell, bits_take, bits_drop, bits_zero, Nat.mul_one, Int.toNat_natCast, encRoom_eq, roomCells_eq, encSetting_eq, encLook_eq, encSpan_eq, S_bits, Nat.add_lt_add_iff_left, Nat.lt_add_right_iff_pos, T_sapp, a21] | refine rK_dreg0 rfl ?_))
  ((first | refine callK_d (points_ok r 0 hf) rfl (by repeat (first | exact datas_nil | refine datas_cons ?_ ?_ | exact data_int _ _ | exact data_ints _ | exact data_span _ | exact data_bool _ | exact data_str _ | exact data_strs _ | exact data_room _ | exact data_set _ | exact data_intss _ | exact data_days _)) ?_ | refine callD_d (points_ok r 0 hf) rfl (by repeat (first | exact datas_nil | refine datas_cons ?_ ?_ | exact data_int _ _ | exact data_ints _ | exact data_span _ | exact data_bool _ | exact data_str _ | exact data_strs _ | exact data_room _ | exact data_set _ | exact data_intss _ | exact data_days _)) ?_); (repeat (first | simp only [↓QP, ↓QD, QR, QV, QS, QC, implies_true, forall_const, ne_eq, not_false_eq_true, not_true_eq_false, Nat.reduceLT, reduceIte, Nat.reduceEqDiff, Nat.reduceAdd, Nat.reduceLeDiff, Nat.reduceMul, Nat.reduceBEq, setE_eq, bits_len, bits_cell, bits_take, bits_drop, bits_zero, Nat.mul_one, Int.toNat_natCast, encRoom_eq, roomCells_eq, encSetting_eq, encLook_eq, encSpan_eq, S_bits, Nat.add_lt_add_iff_left, Nat.lt_add_right_iff_pos, T_sapp, encSE] | refine rK_dreg0 rfl ?_)))
theorem become1_ok (σ : St) (p q : Nat) (r : Rm) (l : List Int) (hv : Vd r) (hl : l.length < 9223372036854775808) (hp : cellsAt σ p = some [.lit (l.map (.int .i64)) false none]) (hq : cellsAt σ q = some (roomCells r)) :
    Same T (.func 84 [] [.ptr p 0, .ptr q 0]) [] σ (.int .i64 (if r.days - r.ran.length < l.length then 3 else if l.all (isSetting r) = true then 0 else 4)) := by
  refine same_fn (af := a84) rfl (by simp [a84]) ?_
  rw [roomCells_eq] at hq
  have hd1 := hv.days
  have hd2 := hv.ranLen
  have hns := hv.nset
  have hwd : IntKind.i64.wrap (r.days - (r.ran.length : Int)) = r.days - r.ran.length := wrap64 ⟨by omega, by omega⟩
  have hws : IntKind.i64.wrap ((r.settings.length : Int) - 1) = (r.settings.length : Int) - 1 := wrap64 ⟨by omega, by omega⟩
  have hall : beyond 0 ((r.settings.length : Int) - 1) l = !l.all (isSetting r) := by
    rw [Bool.eq_iff_iff]
    simp [beyond, outside, isSetting, inR, List.any_eq_true, List.all_eq_true]
    constructor
    · rintro ⟨x, hx, h⟩; exact ⟨x, hx, by omega⟩
    · rintro ⟨x, hx, h⟩; exact ⟨x, hx, by omega⟩
  (repeat (first | simp only [↓QP, ↓QD, QR, QV, QS, QC, implies_true, forall_const, ne_eq, not_false_eq_true, not_true_eq_false, Nat.reduceLT, reduceIte, Nat.reduceEqDiff, Nat.reduceAdd, Nat.reduceLeDiff, Nat.reduceMul, Nat.reduceBEq, setE_eq, bits_len, bits_cell, bits_take, bits_drop, bits_zero, Nat.mul_one, Int.toNat_natCast, encRoom_eq, roomCells_eq, encSetting_eq, encLook_eq, encSpan_eq, S_bits, Nat.add_lt_add_iff_left, Nat.lt_add_right_iff_pos, T_sapp, a84, hp, hq, hwd] | refine rK_dreg0 rfl ?_))
  cases h1 : decide (r.days - (r.ran.length : Int) < (l.length : Int))
  · have h1' : ¬ r.days - (r.ran.length : Int) < (l.length : Int) := by simpa using h1
    (repeat (first | simp only [↓QP, ↓QD, QR, QV, QS, QC, implies_true, forall_const, ne_eq, not_false_eq_true, not_true_eq_false, Nat.reduceLT, reduceIte, Nat.reduceEqDiff, Nat.reduceAdd, Nat.reduceLeDiff, Nat.reduceMul, Nat.reduceBEq, setE_eq, bits_len, bits_cell, bits_take, bits_drop, bits_zero, Nat.mul_one, Int.toNat_natCast, encRoom_eq, roomCells_eq, encSetting_eq, encLook_eq, encSpan_eq, S_bits, Nat.add_lt_add_iff_left, Nat.lt_add_right_iff_pos, T_sapp, h1, hp, hq, hws] | refine rK_dreg0 rfl ?_))
    ((first | refine callK_d (beyond_ok 0 ((r.settings.length : Int) - 1) l hl) rfl (by repeat (first | exact datas_nil | refine datas_cons ?_ ?_ | exact data_int _ _ | exact data_ints _ | exact data_span _ | exact data_bool _ | exact data_str _ | exact data_strs _ | exact data_room _ | exact data_set _ | exact data_intss _ | exact data_days _)) ?_ | refine callD_d (beyond_ok 0 ((r.settings.length : Int) - 1) l hl) rfl (by repeat (first | exact datas_nil | refine datas_cons ?_ ?_ | exact data_int _ _ | exact data_ints _ | exact data_span _ | exact data_bool _ | exact data_str _ | exact data_strs _ | exact data_room _ | exact data_set _ | exact data_intss _ | exact data_days _)) ?_); (repeat (first | simp only [↓QP, ↓QD, QR, QV, QS, QC, implies_true, forall_const, ne_eq, not_false_eq_true, not_true_eq_false, Nat.reduceLT, reduceIte, Nat.reduceEqDiff, Nat.reduceAdd, Nat.reduceLeDiff, Nat.reduceMul, Nat.reduceBEq, setE_eq, bits_len, bits_cell, bits_take, bits_drop, bits_zero, Nat.mul_one, Int.toNat_natCast, encRoom_eq, roomCells_eq, encSetting_eq, encLook_eq, encSpan_eq, S_bits, Nat.add_lt_add_iff_left, Nat.lt_add_right_iff_pos, T_sapp, hall] | refine rK_dreg0 rfl ?_)))
    cases h2 : l.all (isSetting r)
    · (repeat (first | simp only [↓QP, ↓QD, QR, QV, QS, QC, implies_true, forall_const, ne_eq, not_false_eq_true, not_true_eq_false, Nat.reduceLT, reduceIte, Nat.reduceEqDiff, Nat.reduceAdd, Nat.reduceLeDiff, Nat.reduceMul, Nat.reduceBEq, setE_eq, bits_len, bits_cell, bits_take, bits_drop, bits_zero, Nat.mul_one, Int.toNat_natCast, encRoom_eq, roomCells_eq, encSetting_eq, encLook_eq, encSpan_eq, S_bits, Nat.add_lt_add_iff_left, Nat.lt_add_right_iff_pos, T_sapp] | refine rK_dreg0 rfl ?_))
      refine baseR [] (by first | rfl | simp) ?_
      simp only [h1', if_false]
      try simp only [QS, QC, implies_true, forall_const, ne_eq, not_false_eq_true, not_true_eq_false, Nat.reduceLT, reduceIte, Nat.reduceEqDiff, Nat.reduceAdd, Nat.reduceLeDiff, Nat.reduceMul, Nat.reduceBEq, setE_eq, bits_len, bits_cell, bits_take, bits_drop, bits_zero, Nat.mul_one, Int.toNat_natCast, encRoom_eq, roomCells_eq, encSetting_eq, encLook_eq, encSpan_eq, S_bits, Nat.add_lt_add_iff_left, Nat.lt_add_right_iff_pos, T_sapp]
      rfl
    · (repeat (first | simp only [↓QP, ↓QD, QR, QV, QS, QC, implies_true, forall_const, ne_eq, not_false_eq_true, not_true_eq_false, Nat.reduceLT, reduceIte, Nat.reduceEqDiff, Nat.reduceAdd, Nat.reduceLeDiff, Nat.reduceMul, Nat.reduceBEq, setE_eq, bits_len, bits_cell, bits_take, bits_drop, bits_zero, Nat.mul_one, Int.toNat_natCast, encRoom_eq, roomCells_eq, encSetting_eq, encLook_eq, encSpan_eq, S_bits, Nat.add_lt_add_iff_left, Nat.lt_add_right_iff_pos, T_sapp] | refine rK_dreg0 rfl ?_))
      refine baseR [] (by first | rfl | simp) ?_
      simp only [h1', if_false]
      try simp only [QS, QC, implies_true, forall_const, ne_eq, not_false_eq_true, not_true_eq_false, Nat.reduceLT, reduceIte, Nat.reduceEqDiff, Nat.reduceAdd, Nat.reduceLeDiff, Nat.reduceMul, Nat.reduceBEq, setE_eq, bits_len, bits_cell, bits_take, bits_drop, bits_zero, Nat.mul_one, Int.toNat_natCast, encRoom_eq, roomCells_eq, encSetting_eq, encLook_eq, encSpan_eq, S_bits, Nat.add_lt_add_iff_left, Nat.lt_add_right_iff_pos, T_sapp]
  · have h1' : r.days - (r.ran.length : Int) < (l.length : Int) := by simpa using h1
    (repeat (first | simp only [↓QP, ↓QD, QR, QV, QS, QC, implies_true, forall_const, ne_eq, not_false_eq_true, not_true_eq_false, Nat.reduceLT, reduceIte, Nat.reduceEqDiff, Nat.reduceAdd, Nat.reduceLeDiff, Nat.reduceMul, Nat.reduceBEq, setE_eq, bits_len, bits_cell, bits_take, bits_drop, bits_zero, Nat.mul_one, Int.toNat_natCast, encRoom_eq, roomCells_eq, encSetting_eq, encLook_eq, encSpan_eq, S_bits, Nat.add_lt_add_iff_left, Nat.lt_add_right_iff_pos, T_sapp, h1] | refine rK_dreg0 rfl ?_))
    refine baseR [] (by first | rfl | simp) ?_
    simp only [h1', if_true]
    try simp only [QS, QC, implies_true, forall_const, ne_eq, not_false_eq_true, not_true_eq_false, Nat.reduceLT, reduceIte, Nat.reduceEqDiff, Nat.reduceAdd, Nat.reduceLeDiff, Nat.reduceMul, Nat.reduceBEq, setE_eq, bits_len, bits_cell, bits_take, bits_drop, bits_zero, Nat.mul_one, Int.toNat_natCast, encRoom_eq, roomCells_eq, encSetting_eq, encLook_eq, encSpan_eq, S_bits, Nat.add_lt_add_iff_left, Nat.lt_add_right_iff_pos, T_sapp]
end Go.Am.Room
set_option linter.unusedVariables false
set_option linter.unusedSimpArgs false
set_option maxRecDepth 4000
namespace Go.Am.Room
theorem flat_zeros (n : Nat) : (List.replicate n [AV.int .i64 0]).flatten = List.replicate n (.int .i64 0) := by
  induction n with
  | zero => rfl
  | succ n ih => simp [List.replicate_succ, ih]
theorem ints_cells (l : List Int) : (l.map (AV.int .i64)).flatMap AV.cells = l.map (.int .i64) := by
  induction l with
  | nil => rfl
  | cons x l ih => simp only [List.map_cons, List.flatMap_cons, ih, AV.cells]; rfl
theorem copy_ints (b0 b1 b2 b3 b4 b5 b6 : ABlk) (l : List Int) : copyAV 1 [b0, b1, b2, b3, b4, b5, b6, .cells (List.replicate l.length (.int .i64 0))] (.ref 7 0 l.length 1) (.lit (l.map (.int .i64)) false none) = some (.int .i64 l.length, [b0, b1, b2, b3, b4, b5, b6, .cells (l.map (.int .i64))]) := by
  have h1 : allCells 1 (l.map (AV.int .i64)) = true := L_allM 1 _ l (fun x => C_int _ _)
  have h2 : (l.map (AV.int .i64)).take l.length = l.map (.int .i64) := List.take_of_length_le (by simp)
  simp [copyAV, view, sized, h1, cellsAt, setCells, h2, ints_cells]
theorem becomeE (r : Rm) (l : List Int) : enterE r (if r.days - r.ran.length < l.length then 3 else if l.all (isSetting r) = true then 0 else 4) = errKnown r (errSets r l) := by
  simp only [enterE, errSets, errEach_eq, errLong]
  congr 1
  by_cases h0 : (check r).2.2 = 0
  · by_cases h1 : r.days - (r.ran.length : Int) < (l.length : Int)
    · simp [h0, h1]
    · simp [h0, h1]
  · simp [h0]
theorem become_ok (r : Rm) (l : List Int) (hf : Fits r) (hl : l.length < 9223372036854775808) : Pure T 24 [encRoom r, ints l] (encSE (becomeOf r l)) := by
  refine pure_fn (af := a24) rfl (by simp [a24]) (by repeat (first | exact datas_nil | refine datas_cons ?_ ?_ | exact data_int _ _ | exact data_ints _ | exact data_span _ | exact data_bool _ | exact data_str _ | exact data_strs _ | exact data_room _ | exact data_set _ | exact data_intss _ | exact data_days _)) ?_
  (repeat (first | simp only [↓QP, ↓QD, QR, QV, QS, QC, implies_true, forall_const, ne_eq, not_false_eq_true, not_true_eq_false, Nat.reduceLT, reduceIte, Nat.reduceEqDiff, Nat.reduceAdd, Nat.reduceLeDiff, Nat.reduceMul, Nat.reduceBEq, setE_eq, bits_len, bits_cell, bits_take, bits_drop, bits_zero, Nat.mul_one, Int.toNat_natCast, encRoom_eq, roomCells_eq, encSetting_eq, encLook_eq, encSpan_eq, S_bits, Nat.add_lt_add_iff_left, Nat.lt_add_right_iff_pos, T_sapp, a24] | refine rK_dreg0 rfl ?_))
  refine callK_do (enter_run _ r _ (if r.days - r.ran.length < l.length then 3 else if l.all (isSetting r) = true then 0 else 4) hf ?_) ?_
  · intro h0
    have := become1_ok [.cells (roomCells r), .cells [.lit (l.map (.int .i64)) false none], .cells [.int .i64 0, .int .i64 0], .cells (roomCells r)] 1 0 r l (vd_of_check h0) hl (by simp [cellsAt]) (by simp [cellsAt])
    rw [roomCells_eq] at this
    try simp only [↓QP, QV, QS, QC, implies_true, forall_const, ne_eq, not_false_eq_true, not_true_eq_false, Nat.reduceLT, reduceIte, Nat.reduceEqDiff, Nat.reduceAdd, Nat.reduceLeDiff, Nat.reduceMul, Nat.reduceBEq, setE_eq, bits_len, bits_cell, bits_take, bits_drop, bits_zero, Nat.mul_one, Int.toNat_natCast, encRoom_eq, roomCells_eq, encSetting_eq, encLook_eq, encSpan_eq, S_bits, Nat.add_lt_add_iff_left, Nat.lt_add_right_iff_pos, T_sapp]
    exact this
  simp only [enterV, enterSt, becomeE]
  by_cases h0 : errKnown r (errSets r l) = 0
  · obtain ⟨h1, hs⟩ := errKnown_ok h0
    obtain ⟨hv, hlen, hn⟩ := errSets_ok h1
    have hdd := hv.days
    have hdr := hv.ranLen
    obtain ⟨b0, b1, b2, b3⟩ := now_is hv hs
    have hsb := sumS_bd hv l hn
    have hb : becomeOf r l = (colours (plus (ptsS r r.ran.length) (sumS r l)), 0) := if_pos h0
    have i1 : (0 : Int) ≤ (r.ran.length : Int) ∧ (r.ran.length : Int) < ((7 : Nat) : Int) := ⟨by omega, by omega⟩
    have c1 : 7 + r.ran.length * 2 + 2 ≤ 22 := by omega
    have t1 := fun m => rb_at r (psB r []) m r.ran.length (by omega)
    rw [psB_pts hv hs (Nat.le_refl _)] at t1
    have hmk : vMkslice 8 (.int .i64 l.length) (.int .i64 l.length) = some l.length := by simp [vMkslice, room]; omega
    rw [if_pos h0, if_pos h0, hb]
    (repeat (first | simp only [↓QP, ↓QD, QR, QV, QS, QC, implies_true, forall_const, ne_eq, not_false_eq_true, not_true_eq_false, Nat.reduceLT, reduceIte, Nat.reduceEqDiff, Nat.reduceAdd, Nat.reduceLeDiff, Nat.reduceMul, Nat.reduceBEq, setE_eq, bits_len, bits_cell, bits_take, bits_drop, bits_zero, Nat.mul_one, Int.toNat_natCast, encRoom_eq, roomCells_eq, encSetting_eq, encLook_eq, encSpan_eq, S_bits, Nat.add_lt_add_iff_left, Nat.lt_add_right_iff_pos, T_sapp, show ((0 : Int) == 0) = true from rfl, hmk, flat_zeros, copy_ints] | refine rK_dreg0 rfl ?_))
    refine rK_dreg1 [.cells [.int .i64 0, .int .i64 0]] rfl ?_
    (repeat (first | simp only [↓QP, ↓QD, QR, QV, QS, QC, implies_true, forall_const, ne_eq, not_false_eq_true, not_true_eq_false, Nat.reduceLT, reduceIte, Nat.reduceEqDiff, Nat.reduceAdd, Nat.reduceLeDiff, Nat.reduceMul, Nat.reduceBEq, setE_eq, bits_len, bits_cell, bits_take, bits_drop, bits_zero, Nat.mul_one, Int.toNat_natCast, encRoom_eq, roomCells_eq, encSetting_eq, encLook_eq, encSpan_eq, S_bits, Nat.add_lt_add_iff_left, Nat.lt_add_right_iff_pos, T_sapp] | refine rK_dreg0 rfl ?_))
    refine callD_same (today_m _ 6 r (psB r []) 5 (by simp [cellsAt])) ?_
    (repeat (first | simp only [↓QP, ↓QD, QR, QV, QS, QC, implies_true, forall_const, ne_eq, not_false_eq_true, not_true_eq_false, Nat.reduceLT, reduceIte, Nat.reduceEqDiff, Nat.reduceAdd, Nat.reduceLeDiff, Nat.reduceMul, Nat.reduceBEq, setE_eq, bits_len, bits_cell, bits_take, bits_drop, bits_zero, Nat.mul_one, Int.toNat_natCast, encRoom_eq, roomCells_eq, encSetting_eq, encLook_eq, encSpan_eq, S_bits, Nat.add_lt_add_iff_left, Nat.lt_add_right_iff_pos, T_sapp, i1, c1, t1, rb_len] | refine rK_dreg0 rfl ?_))
    refine loopE (S := Nat × Span) (0, ptsS r r.ran.length) (fun s => s.1 ≤ l.length ∧ plus s.2 (sumS r (l.drop s.1)) = plus (ptsS r r.ran.length) (sumS r l) ∧ 0 ≤ s.2.lo ∧ 0 ≤ s.2.hi) (fun s => l.length - s.1)
      (fun s => [(2, .ptr 0 0), (4, .ptr 2 0), (5, .int .i64 0), (9, .ptr 8 0), (35, .ref 7 0 l.length 1), (36, .int .i64 l.length), (37, .int .i64 s.1)])
      (fun s => [.cells (roomCells r), .cells [.lit (l.map (.int .i64)) false none], .cells [.int .i64 0, .int .i64 0], .cells (roomCells r), .cells (roomCells r), .map [], .cells (rb r (psB r []) 5), .cells (l.map (.int .i64)), .cells [.int .i64 s.2.lo, .int .i64 s.2.hi]])
      ⟨by simp, by simp, b0, by simp only; omega⟩ (by simp [roomCells, ints]) ?_ fun s hs => ?_
    · try simp only [TrimX, QT, QS, q_get, List.length_append, Nat.le_add_right, QC, implies_true, forall_const, ne_eq, not_false_eq_true, not_true_eq_false, Nat.reduceLT, reduceIte, Nat.reduceEqDiff, Nat.reduceAdd, Nat.reduceLeDiff, Nat.reduceMul, Nat.reduceBEq, setE_eq, bits_len, bits_cell, bits_take, bits_drop, bits_zero, Nat.mul_one, Int.toNat_natCast, encRoom_eq, roomCells_eq, encSetting_eq, encLook_eq, encSpan_eq, S_bits, Nat.add_lt_add_iff_left, Nat.lt_add_right_iff_pos, T_sapp]
      try simp
    · obtain ⟨k, q⟩ := s
      obtain ⟨hk, hq, hq0, hq1⟩ := hs
      simp only at hk hq hq0 hq1
      (repeat (first | simp only [↓QP, ↓QD, QR, QV, QS, QC, implies_true, forall_const, ne_eq, not_false_eq_true, not_true_eq_false, Nat.reduceLT, reduceIte, Nat.reduceEqDiff, Nat.reduceAdd, Nat.reduceLeDiff, Nat.reduceMul, Nat.reduceBEq, setE_eq, bits_len, bits_cell, bits_take, bits_drop, bits_zero, Nat.mul_one, Int.toNat_natCast, encRoom_eq, roomCells_eq, encSetting_eq, encLook_eq, encSpan_eq, S_bits, Nat.add_lt_add_iff_left, Nat.lt_add_right_iff_pos, T_sapp, L24_0] | refine rK_dreg0 rfl ?_))
      refine iteP_intro (fun h => ?_) fun h => ?_
      · have hk1 : k < l.length := by simpa using h
        have hw := wrapN hk1 (by omega)
        have hx := hn _ (List.getElem_mem hk1)
        have hx0 : 0 ≤ l[k] := hx.1
        have hx1 : l[k].toNat < r.settings.length := by omega
        have hg := hv.gains _ (List.getElem_mem hx1)
        have hrest := sumS_bd hv (l.drop (k + 1)) fun n hm => hn n (List.mem_of_mem_drop hm)
        rw [List.drop_eq_getElem_cons hk1] at hq
        simp only [sumS, gainN_eq hx1] at hq
        rw [← plus_assoc] at hq
        have hq2 := congrArg Span.hi hq
        have hq3 := congrArg Span.lo hq
        simp only [plus] at hq2 hq3
        have i2 : (0 : Int) ≤ (k : Int) ∧ (k : Int) < ((l.length : Nat) : Int) ∧ 1 = 1 := ⟨by omega, by omega, rfl⟩
        (repeat (first | simp only [↓QP, ↓QD, QR, QV, QS, QC, implies_true, forall_const, ne_eq, not_false_eq_true, not_true_eq_false, Nat.reduceLT, reduceIte, Nat.reduceEqDiff, Nat.reduceAdd, Nat.reduceLeDiff, Nat.reduceMul, Nat.reduceBEq, setE_eq, bits_len, bits_cell, bits_take, bits_drop, bits_zero, Nat.mul_one, Int.toNat_natCast, encRoom_eq, roomCells_eq, encSetting_eq, encLook_eq, encSpan_eq, S_bits, Nat.add_lt_add_iff_left, Nat.lt_add_right_iff_pos, T_sapp, i2, hk1, V_idxI, hx0, hx1, Nat.zero_add] | refine rK_dreg0 rfl ?_))
        ((first | refine callK_d (pplus_ok q r.settings[l[k].toNat].gain (by omega) (by omega) (by omega) (by omega)) rfl (by repeat (first | exact datas_nil | refine datas_cons ?_ ?_ | exact data_int _ _ | exact data_ints _ | exact data_span _ | exact data_bool _ | exact data_str _ | exact data_strs _ | exact data_room _ | exact data_set _ | exact data_intss _ | exact data_days _)) ?_ | refine callD_d (pplus_ok q r.settings[l[k].toNat].gain (by omega) (by omega) (by omega) (by omega)) rfl (by repeat (first | exact datas_nil | refine datas_cons ?_ ?_ | exact data_int _ _ | exact data_ints _ | exact data_span _ | exact data_bool _ | exact data_str _ | exact data_strs _ | exact data_room _ | exact data_set _ | exact data_intss _ | exact data_days _)) ?_); (repeat (first | simp only [↓QP, ↓QD, QR, QV, QS, QC, implies_true, forall_const, ne_eq, not_false_eq_true, not_true_eq_false, Nat.reduceLT, reduceIte, Nat.reduceEqDiff, Nat.reduceAdd, Nat.reduceLeDiff, Nat.reduceMul, Nat.reduceBEq, setE_eq, bits_len, bits_cell, bits_take, bits_drop, bits_zero, Nat.mul_one, Int.toNat_natCast, encRoom_eq, roomCells_eq, encSetting_eq, encLook_eq, encSpan_eq, S_bits, Nat.add_lt_add_iff_left, Nat.lt_add_right_iff_pos, T_sapp, i2, hk1, V_idxI, hx0, hx1, hw] | refine rK_dreg0 rfl ?_)))
        refine ⟨(k + 1, plus q r.settings[l[k].toNat].gain), ⟨by simp only; omega, hq, by simp only [plus]; omega, by simp only [plus]; omega⟩, by simp only; omega, ?_⟩
        try simp only [TrimX, QT, QS, q_get, List.length_append, Nat.le_add_right, QC, implies_true, forall_const, ne_eq, not_false_eq_true, not_true_eq_false, Nat.reduceLT, reduceIte, Nat.reduceEqDiff, Nat.reduceAdd, Nat.reduceLeDiff, Nat.reduceMul, Nat.reduceBEq, setE_eq, bits_len, bits_cell, bits_take, bits_drop, bits_zero, Nat.mul_one, Int.toNat_natCast, encRoom_eq, roomCells_eq, encSetting_eq, encLook_eq, encSpan_eq, S_bits, Nat.add_lt_add_iff_left, Nat.lt_add_right_iff_pos, T_sapp, hw, plus]
        try simp [okBlk, okVs, okV]
        exact S_refK (by omega)
      · have hk1 : k = l.length := by simp at h; omega
        rw [hk1, List.drop_length] at hq
        have hq' : q = plus (ptsS r r.ran.length) (sumS r l) := by rw [← hq]; simp [sumS, plus]
        have hqh : q.hi < 1000 := by rw [hq']; simp only [plus]; omega
        have hql : q.lo < 1000 := by rw [hq']; simp only [plus]; omega
        rw [← hq']
        (repeat (first | simp only [↓QP, ↓QD, QR, QV, QS, QC, implies_true, forall_const, ne_eq, not_false_eq_true, not_true_eq_false, Nat.reduceLT, reduceIte, Nat.reduceEqDiff, Nat.reduceAdd, Nat.reduceLeDiff, Nat.reduceMul, Nat.reduceBEq, setE_eq, bits_len, bits_cell, bits_take, bits_drop, bits_zero, Nat.mul_one, Int.toNat_natCast, encRoom_eq, roomCells_eq, encSetting_eq, encLook_eq, encSpan_eq, S_bits, Nat.add_lt_add_iff_left, Nat.lt_add_right_iff_pos, T_sapp] | refine rK_dreg0 rfl ?_))
        ((first | refine callK_d (pcolours_ok q hq0 (by omega) hq1 (by omega)) rfl (by repeat (first | exact datas_nil | refine datas_cons ?_ ?_ | exact data_int _ _ | exact data_ints _ | exact data_span _ | exact data_bool _ | exact data_str _ | exact data_strs _ | exact data_room _ | exact data_set _ | exact data_intss _ | exact data_days _)) ?_ | refine callD_d (pcolours_ok q hq0 (by omega) hq1 (by omega)) rfl (by repeat (first | exact datas_nil | refine datas_cons ?_ ?_ | exact data_int _ _ | exact data_ints _ | exact data_span _ | exact data_bool _ | exact data_str _ | exact data_strs _ | exact data_room _ | exact data_set _ | exact data_intss _ | exact data_days _)) ?_); (repeat (first | simp only [↓QP, ↓QD, QR, QV, QS, QC, implies_true, forall_const, ne_eq, not_false_eq_true, not_true_eq_false, Nat.reduceLT, reduceIte, Nat.reduceEqDiff, Nat.reduceAdd, Nat.reduceLeDiff, Nat.reduceMul, Nat.reduceBEq, setE_eq, bits_len, bits_cell, bits_take, bits_drop, bits_zero, Nat.mul_one, Int.toNat_natCast, encRoom_eq, roomCells_eq, encSetting_eq, encLook_eq, encSpan_eq, S_bits, Nat.add_lt_add_iff_left, Nat.lt_add_right_iff_pos, T_sapp, encSE] | refine rK_dreg0 rfl ?_)))
  · have h0' : (errKnown r (errSets r l) == 0) = false := by simpa using h0
    have hb : becomeOf r l = (⟨0, 0⟩, errKnown r (errSets r l)) := if_neg h0
    rw [if_neg h0, if_neg h0, hb]
    (repeat (first | simp only [↓QP, ↓QD, QR, QV, QS, QC, implies_true, forall_const, ne_eq, not_false_eq_true, not_true_eq_false, Nat.reduceLT, reduceIte, Nat.reduceEqDiff, Nat.reduceAdd, Nat.reduceLeDiff, Nat.reduceMul, Nat.reduceBEq, setE_eq, bits_len, bits_cell, bits_take, bits_drop, bits_zero, Nat.mul_one, Int.toNat_natCast, encRoom_eq, roomCells_eq, encSetting_eq, encLook_eq, encSpan_eq, S_bits, Nat.add_lt_add_iff_left, Nat.lt_add_right_iff_pos, T_sapp, h0', encSE] | refine rK_dreg0 rfl ?_))
end Go.Am.Room
set_option linter.unusedVariables false
set_option linter.unusedSimpArgs false
set_option maxRecDepth 4000
namespace Go.Am.Room
/-- How many days each setting is on. -/
structure W4 where
  a : Int
  b : Int
  c : Int
  d : Int
  deriving DecidableEq
def W4.at (w : W4) : Nat → Int
  | 0 => w.a
  | 1 => w.b
  | 2 => w.c
  | 3 => w.d
  | _ => 0
def encW (w : W4) : AV := .agg [.int .i64 w.a, .int .i64 w.b, .int .i64 w.c, .int .i64 w.d]
theorem encW_eq (w : W4) : encW w = .agg [.int .i64 w.a, .int .i64 w.b, .int .i64 w.c, .int .i64 w.d] := by simp only [encW]
/-- What the first so many settings give, by their days. -/
def waysTo (r : Rm) (w : W4) : Nat → Span
  | 0 => ⟨0, 0⟩
  | k + 1 => plus (waysTo r w k) (match r.settings[k]? with | some s => ⟨w.at k * s.gain.lo, w.at k * s.gain.hi⟩ | none => ⟨0, 0⟩)
def waySum (r : Rm) (w : W4) : Span := waysTo r w r.settings.length
abbrev Memo := List W4
def memoEs (r : Rm) (M : Memo) : List (AV × AV) := M.map fun w => (encW w, encSpan (waySum r w))
def memoStep (M : Memo) (w : W4) : Memo := if w ∈ M then M else M ++ [w]
theorem eqW (w x : W4) : eqSh (.agg [.i, .i, .i, .i]) (encW w) (encW x) = some (decide (w = x)) := by
  obtain ⟨a, b, c, d⟩ := w
  obtain ⟨a', b', c', d'⟩ := x
  have key : ∀ p q : Bool, p = q → some p = some q := fun p q h => by rw [h]
  simp only [eqSh, encW, V_eqC1, V_eqC0, V_eqI, V_oand]
  refine key _ _ ?_
  rw [Bool.eq_iff_iff]
  simp [W4.mk.injEq, and_assoc]
theorem findW (r : Rm) (w : W4) : ∀ M : Memo, findKey (.agg [.i, .i, .i, .i]) (encW w) (memoEs r M) = some (if w ∈ M then some (encSpan (waySum r w)) else none)
  | [] => by simp [memoEs, findKey]
  | x :: M => by
    have ih := findW r w M
    simp only [memoEs, List.map_cons, findKey, eqW] at ih ⊢
    by_cases h : w = x
    · subst h; simp
    · simp only [h, decide_false, ih, List.mem_cons, false_or]
theorem setW (r : Rm) (w : W4) : ∀ M : Memo, w ∉ M → setKey (.agg [.i, .i, .i, .i]) (encW w) (encSpan (waySum r w)) (memoEs r M) = some (memoEs r (M ++ [w]))
  | [], _ => by simp [memoEs, setKey]
  | x :: M, h => by
    have ih := setW r w M (fun q => h (List.mem_cons_of_mem _ q))
    have hx : w ≠ x := fun e => h (by rw [e]; simp)
    simp only [memoEs, List.map_cons, setKey, eqW, List.cons_append] at ih ⊢
    simp only [hx, decide_false, ih, Option.map_some]
/-- States with a room that is looked at, by what it remembers. -/
structure RoomAt (S : Memo → St) (r : Rm) (ps : Nat → Span) (p m N : Nat) : Prop where
  len : ∀ M, (S M).length = N
  at0 : ∀ M, cellsAt (S M) p = some (rb r ps m)
  map0 : ∀ M, (S M)[m]? = some (.map (memoEs r M))
  mset : ∀ M M', (S M).set m (.map (memoEs r M')) = S M'
  pl : p < N
  ml : m < N
namespace RoomAt
variable {S : Memo → St} {r : Rm} {ps : Nat → Span} {p m N : Nat}
theorem base (h : RoomAt S r ps p m N) (M : Memo) (τ : St) (k : Nat) : cellsAt (S M ++ τ) (N + k) = cellsAt τ k := by rw [← h.len M]; exact M_base _ _ _
theorem base0 (h : RoomAt S r ps p m N) (M : Memo) (τ : St) : cellsAt (S M ++ τ) N = cellsAt τ 0 := h.base M τ 0
theorem bset (h : RoomAt S r ps p m N) (M : Memo) (τ : St) (k : Nat) (x : ABlk) : (S M ++ τ).set (N + k) x = S M ++ τ.set k x := by rw [← h.len M]; exact st_set _ _ _ _
theorem bset0 (h : RoomAt S r ps p m N) (M : Memo) (τ : St) (x : ABlk) : (S M ++ τ).set N x = S M ++ τ.set 0 x := h.bset M τ 0 x
theorem at1 (h : RoomAt S r ps p m N) (M : Memo) (τ : St) : cellsAt (S M ++ τ) p = some (rb r ps m) := by
  have := h.at0 M
  have hl := h.pl
  rw [← h.len M] at hl
  simp only [cellsAt] at this ⊢
  rw [List.getElem?_append_left hl]
  exact this
theorem map1 (h : RoomAt S r ps p m N) (M : Memo) (τ : St) : (S M ++ τ)[m]? = some (.map (memoEs r M)) := by
  have hl := h.ml
  rw [← h.len M] at hl
  rw [List.getElem?_append_left hl]
  exact h.map0 M
theorem mset1 (h : RoomAt S r ps p m N) (M M' : Memo) (τ : St) : (S M ++ τ).set m (.map (memoEs r M')) = S M' ++ τ := by
  have hl := h.ml
  rw [← h.len M] at hl
  rw [List.set_append_left _ _ hl, h.mset]
theorem look1 (h : RoomAt S r ps p m N) (M : Memo) (τ : St) (w : W4) : lookAV (.agg [.i, .i, .i, .i]) (S M ++ τ) (.map m) (encW w) = some (if w ∈ M then some (encSpan (waySum r w)) else none) := by
  simp only [lookAV, h.map1, findW, eqW]
  simp
theorem put1 (h : RoomAt S r ps p m N) (M : Memo) (τ : St) (w : W4) (hw : w ∉ M) : vMapset (.agg [.i, .i, .i, .i]) (S M ++ τ) (.map m) (encW w) (encSpan (waySum r w)) = some (S (M ++ [w]) ++ τ) := by
  simp only [vMapset, eqW, h.map1, setW r w M hw, Option.map_some, h.mset1]
  simp
theorem keep (h : RoomAt S r ps p m N) (M M' : Memo) (i : Nat) (hi : i ≠ m) : (S M')[i]? = (S M)[i]? := by
  rw [← h.mset M M', List.getElem?_set_ne (fun e => hi e.symm)]
theorem memo_ok (r : Rm) (M : Memo) (k : Nat) : okBlk k (.map (memoEs r M)) := by
  simp only [okBlk, memoEs]
  intro q hq
  obtain ⟨w, hw, rfl⟩ := List.mem_map.1 hq
  simp [encW, encSpan, okV, okVs]
theorem kept (h : RoomAt S r ps p m N) {M M' : Memo} {σ τ : St} (hσ : σ = S M' ++ τ) : ∀ i, i < (S M).length → blkKept (S M) σ (S M).length i := by
  intro i hi
  rw [hσ]
  have hl : i < (S M').length := by rw [h.len] at hi ⊢; exact hi
  by_cases him : i = m
  · subst him
    refine .inr (.inl ⟨.map (memoEs r M'), ?_, memo_ok r M' _⟩)
    rw [List.getElem?_append_left hl, h.map0]
  · refine .inl ?_
    rw [List.getElem?_append_left hl, h.keep M M' i him]
end RoomAt
theorem W4.get (w : W4) {k : Nat} (h : k < 4) : [AV.int .i64 w.a, .int .i64 w.b, .int .i64 w.c, .int .i64 w.d][k]? = some (.int .i64 (w.at k)) := by
  match k, h with
  | 0, _ => rfl
  | 1, _ => rfl
  | 2, _ => rfl
  | 3, _ => rfl
theorem mul_bd {a b : Int} (h0 : 0 ≤ a) (h1 : a ≤ 10) (h2 : 0 ≤ b) (h3 : b ≤ 15) : 0 ≤ a * b ∧ a * b ≤ 150 := by
  constructor
  · exact Int.mul_nonneg h0 h2
  · calc a * b ≤ 10 * b := Int.mul_le_mul_of_nonneg_right h1 h2
      _ ≤ 150 := by omega
theorem waysTo_succ {r : Rm} {w : W4} {k : Nat} (h : k < r.settings.length) : waysTo r w (k + 1) = plus (waysTo r w k) ⟨w.at k * r.settings[k].gain.lo, w.at k * r.settings[k].gain.hi⟩ := by
  simp only [waysTo, List.getElem?_eq_getElem h]
theorem waysTo_bd {r : Rm} (hv : Vd r) {w : W4} (hw : ∀ k, 0 ≤ w.at k ∧ w.at k ≤ 10) : ∀ k, k ≤ r.settings.length → 0 ≤ (waysTo r w k).lo ∧ (waysTo r w k).lo ≤ 150 * k ∧ 0 ≤ (waysTo r w k).hi ∧ (waysTo r w k).hi ≤ 150 * k
  | 0, _ => by simp [waysTo]
  | k + 1, h => by
    have ih := waysTo_bd hv hw k (by omega)
    have hk : k < r.settings.length := h
    have hg := hv.gains _ (List.getElem_mem hk)
    have m1 := mul_bd (hw k).1 (hw k).2 hg.1 (show r.settings[k].gain.lo ≤ 15 by omega)
    have m2 := mul_bd (hw k).1 (hw k).2 (show 0 ≤ r.settings[k].gain.hi by omega) hg.2.2
    rw [waysTo_succ hk]
    simp only [plus]
    omega
theorem V_lookS (z v : AV) : vLook true z (some (some v)) = some (.tuple [v, .bool true]) := rfl
theorem V_lookN (z : AV) : vLook true z (some none) = some (.tuple [z, .bool false]) := rfl
theorem sum_does {S : Memo → St} {r : Rm} {ps : Nat → Span} {p m N : Nat} (hR : RoomAt S r ps p m N) (hv : Vd r) (M : Memo) (w : W4) (hw : ∀ k, 0 ≤ w.at k ∧ w.at k ≤ 10) :
    Does T (.func 113 [] []) [.ptr p 0, encW w] (S M) (encSpan (waySum r w)) (S (memoStep M w)) := by
  have hns := hv.nset
  refine .callf (.call (af := a113) rfl (by simp [a113]) (run_wp (K := fun j e σ1 => (j = none ∨ j = some .ret) ∧ ∃ τ, resOf a113.results e σ1 = some (encSpan (waySum r w)) ∧ σ1 = S (memoStep M w) ++ τ) ?_ fun o ho => ho) fun o ho => ?_)
  · have hl1 := fun τ => hR.look1 M τ w
    simp only [encW_eq, encSpan_eq] at hl1
    (repeat (first | simp only [↓QP, ↓QD, QR, QV, QS, QC, implies_true, forall_const, ne_eq, not_false_eq_true, not_true_eq_false, Nat.reduceLT, reduceIte, Nat.reduceEqDiff, Nat.reduceAdd, Nat.reduceLeDiff, Nat.reduceMul, Nat.reduceBEq, setE_eq, bits_len, bits_cell, bits_take, bits_drop, bits_zero, Nat.mul_one, Int.toNat_natCast, encRoom_eq, roomCells_eq, encSetting_eq, encLook_eq, encSpan_eq, S_bits, Nat.add_lt_add_iff_left, Nat.lt_add_right_iff_pos, T_sapp, encW_eq, List.length_append, hR.len, hR.base, hR.base0, hR.bset, hR.bset0, hR.at1, hR.at0, hR.map1, hR.map0, rb_0, rb_3, rb_4, rb_5, rb_21, a113] | refine rK_dreg0 rfl ?_))
    refine rK_dreg1 [.cells [.int .i64 0, .int .i64 0]] rfl ?_
    by_cases hm : w ∈ M
    · have hst : memoStep M w = M := by simp [memoStep, hm]
      rw [hst]
      simp only [hm, if_true] at hl1
      (repeat (first | simp only [↓QP, ↓QD, QR, QV, QS, QC, implies_true, forall_const, ne_eq, not_false_eq_true, not_true_eq_false, Nat.reduceLT, reduceIte, Nat.reduceEqDiff, Nat.reduceAdd, Nat.reduceLeDiff, Nat.reduceMul, Nat.reduceBEq, setE_eq, bits_len, bits_cell, bits_take, bits_drop, bits_zero, Nat.mul_one, Int.toNat_natCast, encRoom_eq, roomCells_eq, encSetting_eq, encLook_eq, encSpan_eq, S_bits, Nat.add_lt_add_iff_left, Nat.lt_add_right_iff_pos, T_sapp, encW_eq, List.length_append, hR.len, hR.base, hR.base0, hR.bset, hR.bset0, hR.at1, hR.at0, hR.map1, hR.map0, rb_0, rb_3, rb_4, rb_5, rb_21, hl1, V_lookS, V_lookN] | refine rK_dreg0 rfl ?_))
      exact ⟨_, rfl⟩
    · have hst : memoStep M w = M ++ [w] := by simp [memoStep, hm]
      have hput := fun τ => hR.put1 M τ w hm
      simp only [encW_eq, encSpan_eq] at hput
      rw [hst]
      simp only [hm, if_false] at hl1
      (repeat (first | simp only [↓QP, ↓QD, QR, QV, QS, QC, implies_true, forall_const, ne_eq, not_false_eq_true, not_true_eq_false, Nat.reduceLT, reduceIte, Nat.reduceEqDiff, Nat.reduceAdd, Nat.reduceLeDiff, Nat.reduceMul, Nat.reduceBEq, setE_eq, bits_len, bits_cell, bits_take, bits_drop, bits_zero, Nat.mul_one, Int.toNat_natCast, encRoom_eq, roomCells_eq, encSetting_eq, encLook_eq, encSpan_eq, S_bits, Nat.add_lt_add_iff_left, Nat.lt_add_right_iff_pos, T_sapp, encW_eq, List.length_append, hR.len, hR.base, hR.base0, hR.bset, hR.bset0, hR.at1, hR.at0, hR.map1, hR.map0, rb_0, rb_3, rb_4, rb_5, rb_21, hl1, V_lookS, V_lookN] | refine rK_dreg0 rfl ?_))
      refine loopE (S := Nat × Span) (0, ⟨0, 0⟩) (fun s => s.1 ≤ r.settings.length ∧ s.2 = waysTo r w s.1) (fun s => r.settings.length - s.1)
        (fun s => [(0, .ptr p 0), (3, .ptr N 0), (4, .ptr (N + 1) 0), (7, .ptr (N + 3) 0), (25, .lit (r.settings.map encSetting) false none), (26, .int .i64 r.settings.length), (27, .int .i64 s.1)])
        (fun s => S M ++ [.cells [.int .i64 w.a, .int .i64 w.b, .int .i64 w.c, .int .i64 w.d], .cells [.int .i64 0, .int .i64 0], .cells [.int .i64 0, .int .i64 0], .cells [.int .i64 s.2.lo, .int .i64 s.2.hi]]) ⟨by simp, rfl⟩ rfl ?_ fun s hs => ?_
      · try simp only [TrimX, QT, QS, q_get, List.length_append, Nat.le_add_right, QC, implies_true, forall_const, ne_eq, not_false_eq_true, not_true_eq_false, Nat.reduceLT, reduceIte, Nat.reduceEqDiff, Nat.reduceAdd, Nat.reduceLeDiff, Nat.reduceMul, Nat.reduceBEq, setE_eq, bits_len, bits_cell, bits_take, bits_drop, bits_zero, Nat.mul_one, Int.toNat_natCast, encRoom_eq, roomCells_eq, encSetting_eq, encLook_eq, encSpan_eq, S_bits, Nat.add_lt_add_iff_left, Nat.lt_add_right_iff_pos, T_sapp, encW_eq, List.length_append, hR.len, hR.base, hR.base0, hR.bset, hR.bset0, hR.at1, hR.at0, hR.map1, hR.map0, rb_0, rb_3, rb_4, rb_5, rb_21]
        try simp
      · obtain ⟨k, q⟩ := s
        obtain ⟨hk, hq⟩ := hs
        simp only at hk hq
        (repeat (first | simp only [↓QP, ↓QD, QR, QV, QS, QC, implies_true, forall_const, ne_eq, not_false_eq_true, not_true_eq_false, Nat.reduceLT, reduceIte, Nat.reduceEqDiff, Nat.reduceAdd, Nat.reduceLeDiff, Nat.reduceMul, Nat.reduceBEq, setE_eq, bits_len, bits_cell, bits_take, bits_drop, bits_zero, Nat.mul_one, Int.toNat_natCast, encRoom_eq, roomCells_eq, encSetting_eq, encLook_eq, encSpan_eq, S_bits, Nat.add_lt_add_iff_left, Nat.lt_add_right_iff_pos, T_sapp, encW_eq, List.length_append, hR.len, hR.base, hR.base0, hR.bset, hR.bset0, hR.at1, hR.at0, hR.map1, hR.map0, rb_0, rb_3, rb_4, rb_5, rb_21, L113_0] | refine rK_dreg0 rfl ?_))
        refine iteP_intro (fun h => ?_) fun h => ?_
        · have hk1 : k < r.settings.length := by simp at h; omega
          have hk4 : k < 4 := by omega
          have hw1 := wrapN hk1 (by omega)
          have hg := hv.gains _ (List.getElem_mem hk1)
          have m1 := mul_bd (hw k).1 (hw k).2 hg.1 (show r.settings[k].gain.lo ≤ 15 by omega)
          have m2 := mul_bd (hw k).1 (hw k).2 (show 0 ≤ r.settings[k].gain.hi by omega) hg.2.2
          have bd := waysTo_bd hv hw k (by omega)
          rw [← hq] at bd
          have hs := waysTo_succ (w := w) hk1
          rw [← hq] at hs
          have hg4 := w.get hk4
          have i1 : (0 : Int) ≤ (k : Int) ∧ (k : Int) < ((4 : Nat) : Int) := ⟨by omega, by omega⟩
          have e1 : IntKind.i64.wrap (w.at k * r.settings[k].gain.lo) = w.at k * r.settings[k].gain.lo := wrap64 ⟨by omega, by omega⟩
          have e2 : IntKind.i64.wrap (w.at k * r.settings[k].gain.hi) = w.at k * r.settings[k].gain.hi := wrap64 ⟨by omega, by omega⟩
          (repeat (first | simp only [↓QP, ↓QD, QR, QV, QS, QC, implies_true, forall_const, ne_eq, not_false_eq_true, not_true_eq_false, Nat.reduceLT, reduceIte, Nat.reduceEqDiff, Nat.reduceAdd, Nat.reduceLeDiff, Nat.reduceMul, Nat.reduceBEq, setE_eq, bits_len, bits_cell, bits_take, bits_drop, bits_zero, Nat.mul_one, Int.toNat_natCast, encRoom_eq, roomCells_eq, encSetting_eq, encLook_eq, encSpan_eq, S_bits, Nat.add_lt_add_iff_left, Nat.lt_add_right_iff_pos, T_sapp, encW_eq, List.length_append, hR.len, hR.base, hR.base0, hR.bset, hR.bset0, hR.at1, hR.at0, hR.map1, hR.map0, rb_0, rb_3, rb_4, rb_5, rb_21, hk1, hg4, i1, e1, e2, Nat.zero_add] | refine rK_dreg0 rfl ?_))
          ((first | refine callK_d (pplus_ok q ⟨w.at k * r.settings[k].gain.lo, w.at k * r.settings[k].gain.hi⟩ (by simp only; omega) (by simp only; omega) (by simp only; omega) (by simp only; omega)) rfl (by repeat (first | exact datas_nil | refine datas_cons ?_ ?_ | exact data_int _ _ | exact data_ints _ | exact data_span _ | exact data_bool _ | exact data_str _ | exact data_strs _ | exact data_room _ | exact data_set _ | exact data_intss _ | exact data_days _)) ?_ | refine callD_d (pplus_ok q ⟨w.at k * r.settings[k].gain.lo, w.at k * r.settings[k].gain.hi⟩ (by simp only; omega) (by simp only; omega) (by simp only; omega) (by simp only; omega)) rfl (by repeat (first | exact datas_nil | refine datas_cons ?_ ?_ | exact data_int _ _ | exact data_ints _ | exact data_span _ | exact data_bool _ | exact data_str _ | exact data_strs _ | exact data_room _ | exact data_set _ | exact data_intss _ | exact data_days _)) ?_); (repeat (first | simp only [↓QP, ↓QD, QR, QV, QS, QC, implies_true, forall_const, ne_eq, not_false_eq_true, not_true_eq_false, Nat.reduceLT, reduceIte, Nat.reduceEqDiff, Nat.reduceAdd, Nat.reduceLeDiff, Nat.reduceMul, Nat.reduceBEq, setE_eq, bits_len, bits_cell, bits_take, bits_drop, bits_zero, Nat.mul_one, Int.toNat_natCast, encRoom_eq, roomCells_eq, encSetting_eq, encLook_eq, encSpan_eq, S_bits, Nat.add_lt_add_iff_left, Nat.lt_add_right_iff_pos, T_sapp, encW_eq, List.length_append, hR.len, hR.base, hR.base0, hR.bset, hR.bset0, hR.at1, hR.at0, hR.map1, hR.map0, rb_0, rb_3, rb_4, rb_5, rb_21, hk1, hg4, i1, e1, e2, Nat.zero_add, hw1] | refine rK_dreg0 rfl ?_)))
          refine ⟨(k + 1, plus q ⟨w.at k * r.settings[k].gain.lo, w.at k * r.settings[k].gain.hi⟩), ⟨by simp only; omega, by simp only; rw [← hs]⟩, by simp only; omega, ?_⟩
          try simp only [TrimX, QT, QS, q_get, List.length_append, Nat.le_add_right, QC, implies_true, forall_const, ne_eq, not_false_eq_true, not_true_eq_false, Nat.reduceLT, reduceIte, Nat.reduceEqDiff, Nat.reduceAdd, Nat.reduceLeDiff, Nat.reduceMul, Nat.reduceBEq, setE_eq, bits_len, bits_cell, bits_take, bits_drop, bits_zero, Nat.mul_one, Int.toNat_natCast, encRoom_eq, roomCells_eq, encSetting_eq, encLook_eq, encSpan_eq, S_bits, Nat.add_lt_add_iff_left, Nat.lt_add_right_iff_pos, T_sapp, encW_eq, List.length_append, hR.len, hR.base, hR.base0, hR.bset, hR.bset0, hR.at1, hR.at0, hR.map1, hR.map0, rb_0, rb_3, rb_4, rb_5, rb_21, hw1, hR.pl, S_mapSet, plus]
          have := hR.pl
          simp [okBlk, okVs, okV]
          try omega
        · have hk1 : k = r.settings.length := by simp at h; omega
          have hq' : q = waySum r w := by rw [hq, hk1]; rfl
          rw [hq']
          (repeat (first | simp only [↓QP, ↓QD, QR, QV, QS, QC, implies_true, forall_const, ne_eq, not_false_eq_true, not_true_eq_false, Nat.reduceLT, reduceIte, Nat.reduceEqDiff, Nat.reduceAdd, Nat.reduceLeDiff, Nat.reduceMul, Nat.reduceBEq, setE_eq, bits_len, bits_cell, bits_take, bits_drop, bits_zero, Nat.mul_one, Int.toNat_natCast, encRoom_eq, roomCells_eq, encSetting_eq, encLook_eq, encSpan_eq, S_bits, Nat.add_lt_add_iff_left, Nat.lt_add_right_iff_pos, T_sapp, encW_eq, List.length_append, hR.len, hR.base, hR.base0, hR.bset, hR.bset0, hR.at1, hR.at0, hR.map1, hR.map0, rb_0, rb_3, rb_4, rb_5, rb_21, hput] | refine rK_dreg0 rfl ?_))
          exact ⟨_, rfl⟩
  · obtain ⟨hj, τ, hres, hσ⟩ := ho
    refine ⟨hj, encSpan (waySum r w), hres, .inr ⟨20, encSpan (waySum r w), encSpan (waySum r w), ?_, .inl rfl, ?_, ?_, rfl, ?_⟩⟩
    · simp [encSpan, snap, snaps]
    · exact hR.kept hσ
    · rw [hσ, List.length_append, hR.len, hR.len]; omega
    · rw [hσ, hR.len, ← hR.len (memoStep M w), List.take_left]
end Go.Am.Room
set_option linter.unusedVariables false
set_option linter.unusedSimpArgs false
set_option maxRecDepth 4000
namespace Go.Am.Room
theorem RoomAt.app {S : Memo → St} {r : Rm} {ps : Nat → Span} {p m N : Nat} (h : RoomAt S r ps p m N) (τ : St) : RoomAt (fun M => S M ++ τ) r ps p m (N + τ.length) :=
  ⟨fun M => by rw [List.length_append, h.len], fun M => h.at1 M τ, fun M => h.map1 M τ, fun M M' => h.mset1 M M' τ, by have := h.pl; omega, by have := h.ml; omega⟩
/-- A value that a state has, whatever is remembered, and whatever is behind it. -/
def HasAt (S : Memo → St) (i : Nat) (cs : List AV) : Prop := ∀ M τ, cellsAt (S M ++ τ) i = some cs
theorem HasAt.nil {S : Memo → St} {i : Nat} {cs : List AV} (h : HasAt S i cs) (M : Memo) : cellsAt (S M) i = some cs := by simpa using h M []
def givesW (r : Rm) (now : Span) (w : W4) (c : Int) : Bool := (colours (plus now (waySum r w))).lo == c && (colours (plus now (waySum r w))).hi == c
theorem first1_does {S : Memo → St} {r : Rm} {ps : Nat → Span} {p m N : Nat} (hR : RoomAt S r ps p m N) (hv : Vd r) (now : Span) (want : Int) (pn pr pw : Nat) (hn : HasAt S pn [.int .i64 now.lo, .int .i64 now.hi]) (hr : HasAt S pr [.ptr p 0]) (hw0 : HasAt S pw [.int .i64 want])
    (h0 : 0 ≤ now.lo) (h1 : now.lo < 1000) (h2 : 0 ≤ now.hi) (h3 : now.hi < 1000) (M : Memo) (sl : List AV) (fl : Bool) (tk : Option Nat) (w : W4) (hw : ∀ k, 0 ≤ w.at k ∧ w.at k ≤ 10) (c : Int) :
    Does T (.func 112 [] [.ptr pn 0, .ptr pr 0, .ptr pw 0]) [.agg [.lit sl fl tk, .int .i64 w.a, .int .i64 w.b, .int .i64 w.c, .int .i64 w.d, .int .i64 c]] (S M) (.bool (givesW r now w want)) (S (memoStep M w)) := by
  have hns := hv.nset
  have bd := waysTo_bd hv hw r.settings.length (Nat.le_refl _)
  have hb : waysTo r w r.settings.length = waySum r w := rfl
  rw [hb] at bd
  refine .callf (.call (af := a112) rfl (by simp [a112]) (run_wp (K := fun j e σ1 => (j = none ∨ j = some .ret) ∧ ∃ τ, resOf a112.results e σ1 = some (.bool (givesW r now w want)) ∧ σ1 = S (memoStep M w) ++ τ) ?_ fun o ho => ho) fun o ho => ?_)
  · have hs := sum_does (hR.app [.cells [.lit sl fl tk, .int .i64 w.a, .int .i64 w.b, .int .i64 w.c, .int .i64 w.d, .int .i64 c]]) hv M w hw
    try simp only [↓QP, QV, QS, QC, implies_true, forall_const, ne_eq, not_false_eq_true, not_true_eq_false, Nat.reduceLT, reduceIte, Nat.reduceEqDiff, Nat.reduceAdd, Nat.reduceLeDiff, Nat.reduceMul, Nat.reduceBEq, setE_eq, bits_len, bits_cell, bits_take, bits_drop, bits_zero, Nat.mul_one, Int.toNat_natCast, encRoom_eq, roomCells_eq, encSetting_eq, encLook_eq, encSpan_eq, S_bits, Nat.add_lt_add_iff_left, Nat.lt_add_right_iff_pos, T_sapp, encW_eq, List.length_append, hR.len, hR.base, hR.base0, hR.bset, hR.bset0, hR.at1, hR.at0, hR.map1, hR.map0, rb_0, rb_3, rb_4, rb_5, rb_21] at hs
    have hn' := fun M τ => hn M τ
    have hr' := fun M τ => hr M τ
    have hw' := fun M τ => hw0 M τ
    (repeat (first | simp only [↓QP, ↓QD, QR, QV, QS, QC, implies_true, forall_const, ne_eq, not_false_eq_true, not_true_eq_false, Nat.reduceLT, reduceIte, Nat.reduceEqDiff, Nat.reduceAdd, Nat.reduceLeDiff, Nat.reduceMul, Nat.reduceBEq, setE_eq, bits_len, bits_cell, bits_take, bits_drop, bits_zero, Nat.mul_one, Int.toNat_natCast, encRoom_eq, roomCells_eq, encSetting_eq, encLook_eq, encSpan_eq, S_bits, Nat.add_lt_add_iff_left, Nat.lt_add_right_iff_pos, T_sapp, encW_eq, List.length_append, hR.len, hR.base, hR.base0, hR.bset, hR.bset0, hR.at1, hR.at0, hR.map1, hR.map0, rb_0, rb_3, rb_4, rb_5, rb_21, a112, hn', hr', hw'] | refine rK_dreg0 rfl ?_))
    refine callD_do hs ?_
    (repeat (first | simp only [↓QP, ↓QD, QR, QV, QS, QC, implies_true, forall_const, ne_eq, not_false_eq_true, not_true_eq_false, Nat.reduceLT, reduceIte, Nat.reduceEqDiff, Nat.reduceAdd, Nat.reduceLeDiff, Nat.reduceMul, Nat.reduceBEq, setE_eq, bits_len, bits_cell, bits_take, bits_drop, bits_zero, Nat.mul_one, Int.toNat_natCast, encRoom_eq, roomCells_eq, encSetting_eq, encLook_eq, encSpan_eq, S_bits, Nat.add_lt_add_iff_left, Nat.lt_add_right_iff_pos, T_sapp, encW_eq, List.length_append, hR.len, hR.base, hR.base0, hR.bset, hR.bset0, hR.at1, hR.at0, hR.map1, hR.map0, rb_0, rb_3, rb_4, rb_5, rb_21, hn', hr', hw'] | refine rK_dreg0 rfl ?_))
    ((first | refine callK_d (pplus_ok now (waySum r w) (by omega) (by omega) (by omega) (by omega)) rfl (by repeat (first | exact datas_nil | refine datas_cons ?_ ?_ | exact data_int _ _ | exact data_ints _ | exact data_span _ | exact data_bool _ | exact data_str _ | exact data_strs _ | exact data_room _ | exact data_set _ | exact data_intss _ | exact data_days _)) ?_ | refine callD_d (pplus_ok now (waySum r w) (by omega) (by omega) (by omega) (by omega)) rfl (by repeat (first | exact datas_nil | refine datas_cons ?_ ?_ | exact data_int _ _ | exact data_ints _ | exact data_span _ | exact data_bool _ | exact data_str _ | exact data_strs _ | exact data_room _ | exact data_set _ | exact data_intss _ | exact data_days _)) ?_); (repeat (first | simp only [↓QP, ↓QD, QR, QV, QS, QC, implies_true, forall_const, ne_eq, not_false_eq_true, not_true_eq_false, Nat.reduceLT, reduceIte, Nat.reduceEqDiff, Nat.reduceAdd, Nat.reduceLeDiff, Nat.reduceMul, Nat.reduceBEq, setE_eq, bits_len, bits_cell, bits_take, bits_drop, bits_zero, Nat.mul_one, Int.toNat_natCast, encRoom_eq, roomCells_eq, encSetting_eq, encLook_eq, encSpan_eq, S_bits, Nat.add_lt_add_iff_left, Nat.lt_add_right_iff_pos, T_sapp, encW_eq, List.length_append, hR.len, hR.base, hR.base0, hR.bset, hR.bset0, hR.at1, hR.at0, hR.map1, hR.map0, rb_0, rb_3, rb_4, rb_5, rb_21, hn', hr', hw'] | refine rK_dreg0 rfl ?_)))
    ((first | refine callK_d (pcolours_ok (plus now (waySum r w)) (by simp only [plus]; omega) (by simp only [plus]; omega) (by simp only [plus]; omega) (by simp only [plus]; omega)) rfl (by repeat (first | exact datas_nil | refine datas_cons ?_ ?_ | exact data_int _ _ | exact data_ints _ | exact data_span _ | exact data_bool _ | exact data_str _ | exact data_strs _ | exact data_room _ | exact data_set _ | exact data_intss _ | exact data_days _)) ?_ | refine callD_d (pcolours_ok (plus now (waySum r w)) (by simp only [plus]; omega) (by simp only [plus]; omega) (by simp only [plus]; omega) (by simp only [plus]; omega)) rfl (by repeat (first | exact datas_nil | refine datas_cons ?_ ?_ | exact data_int _ _ | exact data_ints _ | exact data_span _ | exact data_bool _ | exact data_str _ | exact data_strs _ | exact data_room _ | exact data_set _ | exact data_intss _ | exact data_days _)) ?_); (repeat (first | simp only [↓QP, ↓QD, QR, QV, QS, QC, implies_true, forall_const, ne_eq, not_false_eq_true, not_true_eq_false, Nat.reduceLT, reduceIte, Nat.reduceEqDiff, Nat.reduceAdd, Nat.reduceLeDiff, Nat.reduceMul, Nat.reduceBEq, setE_eq, bits_len, bits_cell, bits_take, bits_drop, bits_zero, Nat.mul_one, Int.toNat_natCast, encRoom_eq, roomCells_eq, encSetting_eq, encLook_eq, encSpan_eq, S_bits, Nat.add_lt_add_iff_left, Nat.lt_add_right_iff_pos, T_sapp, encW_eq, List.length_append, hR.len, hR.base, hR.base0, hR.bset, hR.bset0, hR.at1, hR.at0, hR.map1, hR.map0, rb_0, rb_3, rb_4, rb_5, rb_21, hn', hr', hw'] | refine rK_dreg0 rfl ?_)))
    exact ⟨_, rfl, rfl⟩
  · obtain ⟨hj, τ, hres, hσ⟩ := ho
    refine ⟨hj, .bool (givesW r now w want), hres, .inr ⟨20, .bool (givesW r now w want), .bool (givesW r now w want), ?_, .inl rfl, ?_, ?_, rfl, ?_⟩⟩
    · simp [snap]
    · exact hR.kept hσ
    · rw [hσ, List.length_append, hR.len, hR.len]; omega
    · rw [hσ, hR.len, ← hR.len (memoStep M w), List.take_left]
end Go.Am.Room
set_option linter.unusedVariables false
set_option linter.unusedSimpArgs false
set_option maxRecDepth 4000
namespace Go.Am.Room
theorem V_clip (σ : St) (l : List Int) (f : Bool) (tk : Option Nat) : vSlicev 1 σ (.lit (l.map (.int .i64)) f tk) none (some (.int .i64 (l.length : Int))) (some (.int .i64 (l.length : Int))) = some (.lit (l.map (.int .i64)) true tk) := by
  have hc : cutFits 1 (l.map (AV.int .i64)) 0 (l.length : Int) = true := by
    unfold cutFits
    cases l with
    | nil => simp
    | cons x l => simp [AV.cells]
  simp only [vSlicev, lenAV, vBound, Option.map_some, intOf, sliceAV]
  rw [if_pos (by simp), if_pos ⟨by omega, by omega, by simp, hc⟩]
  simp [List.take_of_length_le]
theorem clip_does (σ : St) (l : List Int) (f : Bool) (tk : Option Nat) : Does T (.func 123 [] []) [.lit (l.map (.int .i64)) f tk] σ (.lit (l.map (.int .i64)) true tk) σ := by
  refine .callf (.call (af := a123) rfl (by simp [a123]) (run_wp (K := fun j e σ1 => (j = none ∨ j = some .ret) ∧ Env.get e 2 = .lit (l.map (.int .i64)) true tk ∧ σ1 = σ) ?_ fun o ho => ho) fun o ho => ?_)
  · (repeat (first | simp only [↓QP, ↓QD, QR, QV, QS, QC, implies_true, forall_const, ne_eq, not_false_eq_true, not_true_eq_false, Nat.reduceLT, reduceIte, Nat.reduceEqDiff, Nat.reduceAdd, Nat.reduceLeDiff, Nat.reduceMul, Nat.reduceBEq, Nat.mul_one, Int.toNat_natCast, encRoom_eq, roomCells_eq, encSpan_eq, Nat.add_lt_add_iff_left, Nat.lt_add_right_iff_pos, T_sapp, encW_eq, List.length_append, a123, V_clip] | refine rK_dreg0 rfl ?_))
    try simp
  · exact ⟨ho.1, _, rfl, .inl ⟨ho.2.1, ho.2.2⟩⟩
/-- What is remembered, at the ends of rounds. -/
theorem eqS_set (k : Nat) (x : ABlk) (hx : okBlk k x) : ∀ (A a b c : St) (i : Nat), EqS k (A ++ a) (A.set i x ++ b) (A.set i x ++ c) = EqS k a b c
  | [], a, b, c, i => by simp
  | y :: A, a, b, c, 0 => by
    simp only [List.set_cons_zero, List.cons_append, EqS, T_sapp, hx, or_true, true_and, and_self]
  | y :: A, a, b, c, i + 1 => by
    have := eqS_set k x hx A a b c i
    simp only [List.set_cons_succ, List.cons_append, EqS, this, true_or, true_and, and_self]
theorem RoomAt.eqS {S : Memo → St} {r : Rm} {ps : Nat → Span} {p m N : Nat} (h : RoomAt S r ps p m N) (k : Nat) (M M' : Memo) (a b c : St) : EqS k (S M ++ a) (S M' ++ b) (S M' ++ c) = EqS k a b c := by
  rw [← h.mset M M']
  exact eqS_set k _ (RoomAt.memo_ok r M' k) _ _ _ _ _
def W4.inc (w : W4) (n : Nat) : W4 := match n with | 0 => { w with a := w.a + 1 } | 1 => { w with b := w.b + 1 } | 2 => { w with c := w.c + 1 } | 3 => { w with d := w.d + 1 } | _ => w
structure Pl where
  l : List Int
  w : W4
  c : Int
def Pl.add (q : Pl) (b : Int) (n : Nat) : Pl := ⟨q.l ++ [(n : Int)], q.w.inc n, if 0 ≤ b ∧ (n : Int) ≠ b then q.c + 1 else q.c⟩
/-- From setting n on, so many of them. -/
def overN (f : Nat → Memo → Option Pl × Memo) : Nat → Nat → Memo → Option Pl × Memo
  | 0, _, M => (none, M)
  | j + 1, n, M => match f n M with
    | (some x, M') => (some x, M')
    | (none, M') => overN f j (n + 1) M'
def nextS (r : Rm) (now : Span) (want ch : Int) : Nat → Pl → Int → Memo → Option Pl × Memo
  | 0, q, _, M => if q.c ≠ ch then (none, M) else if givesW r now q.w want = true then (some q, memoStep M q.w) else (none, memoStep M q.w)
  | k + 1, q, b, M => overN (fun n M => if 0 ≤ b ∧ (n : Int) ≠ b ∧ q.c = ch then (none, M) else nextS r now want ch k (q.add b n) n M) r.settings.length 0 M
end Go.Am.Room
set_option linter.unusedVariables false
set_option linter.unusedSimpArgs false
set_option maxRecDepth 4000
namespace Go.Am.Room
def RA : ACode := .reg [⟨(some 14), .alloc [.lit [] true none, .int .i64 0, .int .i64 0, .int .i64 0, .int .i64 0, .int .i64 0], none⟩, ⟨none, .store 6 (.t 14) (.t 32), none⟩]
def lpB (st : LS) (pend : Option AJump) (e : Env) : ABlk := .loop st pend e [32] RA F88_0
def planC (sl : List AV) (f : Bool) (tk : Option Nat) (w : W4) (c : Int) : List AV := [.lit sl f tk, .int .i64 w.a, .int .i64 w.b, .int .i64 w.c, .int .i64 w.d, .int .i64 c]
def NEXT (N : Nat) : AV := .func 122 [] [.ptr (N + 12) 0, .ptr (N + 8) 0, .ptr (N + 9) 0, .ptr (N + 11) 0, .ptr (N + 6) 0, .ptr (N + 13) 0]
/-- The blocks of first and of plans. -/
def fst (now : Span) (want b many ch : Int) (p N : Nat) (res : List AV) (fnd : Bool) (lp : ABlk) (plan : List AV) : St :=
  [.cells [.ptr p 0], .cells [.int .i64 now.lo, .int .i64 now.hi], .cells [.int .i64 want], .cells res, .cells [.bool fnd], .cells [.func 112 [] [.ptr (N + 1) 0, .ptr N 0, .ptr (N + 2) 0]],
    .cells [.ptr p 0], .cells [.int .i64 b], .cells [.int .i64 many], .cells [.int .i64 ch], lp, .cells [.yield (N + 10)], .cells plan, .cells [NEXT N]]
def zeroP : List AV := [.lit [] true none, .int .i64 0, .int .i64 0, .int .i64 0, .int .i64 0, .int .i64 0]
theorem yield_run {S : Memo → St} {r : Rm} {ps : Nat → Span} {p m N : Nat} (hR : RoomAt S r ps p m N) (hv : Vd r) (now : Span) (want b many ch : Int) (h0 : 0 ≤ now.lo) (h1 : now.lo < 1000) (h2 : 0 ≤ now.hi) (h3 : now.hi < 1000)
    (e : Env) (e10 : Env.get e 10 = .ptr (N + 3) 0) (e11 : Env.get e 11 = .ptr (N + 4) 0) (e12 : Env.get e 12 = .ptr (N + 5) 0)
    (M : Memo) (sl : List AV) (f : Bool) (tk : Option Nat) (w : W4) (hw : ∀ k, 0 ≤ w.at k ∧ w.at k ≤ 10) (c : Int) (τ : St) :
    Run T (.callv (.yield (N + 10)) [.agg (planC sl f tk w c)] (S M ++ (fst now want b many ch p N zeroP false (lpB .ready none e) (planC sl f tk w c) ++ τ))) fun o =>
      if givesW r now w want = true then o.v = .bool false ∧ ∃ τ', o.σ = S (memoStep M w) ++ (fst now want b many ch p N (planC sl f tk w c) true (lpB .done (some .ret) e) (planC sl f tk w c) ++ τ')
      else o.v = .bool true ∧ ∃ τ', o.σ = S (memoStep M w) ++ (fst now want b many ch p N zeroP false (lpB .ready none e) (planC sl f tk w c) ++ (τ ++ τ')) := by
  have hid : ∀ (M : Memo) (υ : St), (S M ++ υ)[N + 10]? = υ[10]? := fun M υ => by rw [← hR.len M]; exact st_get _ _ _
  refine .round (R := fun o => o.j = none ∧ Env.get o.env 10 = .ptr (N + 3) 0 ∧ Env.get o.env 11 = .ptr (N + 4) 0 ∧ Env.get o.env 12 = .ptr (N + 5) 0 ∧ Env.get o.env 14 = .ptr (N + (τ.length + 14)) 0 ∧ o.σ = S M ++ (fst now want b many ch p N zeroP false (lpB .ready none e) (planC sl f tk w c) ++ (τ ++ [.cells (planC sl f tk w c)])))
    (S := fun o => if givesW r now w want = true then o.j = some .ret ∧ ∃ τ', o.σ = S (memoStep M w) ++ (fst now want b many ch p N (planC sl f tk w c) true (lpB .busy none e) (planC sl f tk w c) ++ τ') else o.j = none ∧ ∃ τ', o.σ = S (memoStep M w) ++ (fst now want b many ch p N zeroP false (lpB .busy none e) (planC sl f tk w c) ++ (τ ++ τ'))) (env := e) (ps := [32]) (a := RA) (b := F88_0) ?_ rfl ?_ ?_ ?_ ?_
  · rw [hid]; rfl
  · refine run_wp (K := fun j e' σ' => j = none ∧ Env.get e' 10 = .ptr (N + 3) 0 ∧ Env.get e' 11 = .ptr (N + 4) 0 ∧ Env.get e' 12 = .ptr (N + 5) 0 ∧ Env.get e' 14 = .ptr (N + (τ.length + 14)) 0 ∧ σ' = S M ++ (fst now want b many ch p N zeroP false (lpB .ready none e) (planC sl f tk w c) ++ (τ ++ [.cells (planC sl f tk w c)]))) ?_ fun o ho => ho
    (repeat (first | simp only [↓QP, ↓QD, QR, QV, QS, QC, implies_true, forall_const, ne_eq, not_false_eq_true, not_true_eq_false, Nat.reduceLT, reduceIte, Nat.reduceEqDiff, Nat.reduceAdd, Nat.reduceLeDiff, Nat.reduceMul, Nat.reduceBEq, Nat.mul_one, Int.toNat_natCast, encSpan_eq, Nat.add_lt_add_iff_left, Nat.lt_add_right_iff_pos, T_sapp, encW_eq, List.length_append, hR.len, hR.base, hR.base0, hR.bset, hR.bset0, hR.at1, hR.at0, hR.map1, hR.map0, RA, bindPs, fst, planC, zeroP, e10, e11, e12] | refine rK_dreg0 rfl ?_))
  · intro o ho
    refine ⟨ho.1, ?_⟩
    rw [ho.2.2.2.2.2, hid]; rfl
  · rintro o ⟨hj, q10, q11, q12, q14, hσ⟩
    rw [hσ, hR.bset]
    have hset : ∀ υ : St, (fst now want b many ch p N zeroP false (lpB .ready none e) (planC sl f tk w c) ++ υ).set 10 (.loop .busy none e [32] RA F88_0) = fst now want b many ch p N zeroP false (lpB .busy none e) (planC sl f tk w c) ++ υ := fun υ => rfl
    rw [hset]
    have hg := first1_does (hR.app (fst now want b many ch p N zeroP false (lpB .busy none e) (planC sl f tk w c) ++ (τ ++ [.cells (planC sl f tk w c)]))) hv now want (N + 1) N (N + 2) (fun M υ => by simp [fst, hR.base, st_app, M_atS, M_at0]) (fun M υ => by simp [fst, hR.base0, st_app, M_at0]) (fun M υ => by simp [fst, hR.base, st_app, M_atS, M_at0]) h0 h1 h2 h3 M sl f tk w hw c
    refine run_wp (K := fun j e' σ' => if givesW r now w want = true then j = some .ret ∧ ∃ τ', σ' = S (memoStep M w) ++ (fst now want b many ch p N (planC sl f tk w c) true (lpB .busy none e) (planC sl f tk w c) ++ τ') else j = none ∧ ∃ τ', σ' = S (memoStep M w) ++ (fst now want b many ch p N zeroP false (lpB .busy none e) (planC sl f tk w c) ++ (τ ++ τ'))) ?_ fun o ho => ho
    simp only [fst, planC, zeroP] at hg ⊢
    try simp only [↓QP, QV, QS, QC, implies_true, forall_const, ne_eq, not_false_eq_true, not_true_eq_false, Nat.reduceLT, reduceIte, Nat.reduceEqDiff, Nat.reduceAdd, Nat.reduceLeDiff, Nat.reduceMul, Nat.reduceBEq, Nat.mul_one, Int.toNat_natCast, encSpan_eq, Nat.add_lt_add_iff_left, Nat.lt_add_right_iff_pos, T_sapp, encW_eq, List.length_append, hR.len, hR.base, hR.base0, hR.bset, hR.bset0, hR.at1, hR.at0, hR.map1, hR.map0] at hg
    (repeat (first | simp only [↓QP, ↓QD, QR, QV, QS, QC, implies_true, forall_const, ne_eq, not_false_eq_true, not_true_eq_false, Nat.reduceLT, reduceIte, Nat.reduceEqDiff, Nat.reduceAdd, Nat.reduceLeDiff, Nat.reduceMul, Nat.reduceBEq, Nat.mul_one, Int.toNat_natCast, encSpan_eq, Nat.add_lt_add_iff_left, Nat.lt_add_right_iff_pos, T_sapp, encW_eq, List.length_append, hR.len, hR.base, hR.base0, hR.bset, hR.bset0, hR.at1, hR.at0, hR.map1, hR.map0, F88_0, q10, q11, q12, q14] | refine rK_dreg0 rfl ?_))
    refine callK_do hg ?_
    cases hG : givesW r now w want
    · (repeat (first | simp only [↓QP, ↓QD, QR, QV, QS, QC, implies_true, forall_const, ne_eq, not_false_eq_true, not_true_eq_false, Nat.reduceLT, reduceIte, Nat.reduceEqDiff, Nat.reduceAdd, Nat.reduceLeDiff, Nat.reduceMul, Nat.reduceBEq, Nat.mul_one, Int.toNat_natCast, encSpan_eq, Nat.add_lt_add_iff_left, Nat.lt_add_right_iff_pos, T_sapp, encW_eq, List.length_append, hR.len, hR.base, hR.base0, hR.bset, hR.bset0, hR.at1, hR.at0, hR.map1, hR.map0, q10, q11, q12, q14] | refine rK_dreg0 rfl ?_))
      refine ⟨[.cells [.lit sl f tk, .int .i64 w.a, .int .i64 w.b, .int .i64 w.c, .int .i64 w.d, .int .i64 c]], ?_⟩
      try simp
    · (repeat (first | simp only [↓QP, ↓QD, QR, QV, QS, QC, implies_true, forall_const, ne_eq, not_false_eq_true, not_true_eq_false, Nat.reduceLT, reduceIte, Nat.reduceEqDiff, Nat.reduceAdd, Nat.reduceLeDiff, Nat.reduceMul, Nat.reduceBEq, Nat.mul_one, Int.toNat_natCast, encSpan_eq, Nat.add_lt_add_iff_left, Nat.lt_add_right_iff_pos, T_sapp, encW_eq, List.length_append, hR.len, hR.base, hR.base0, hR.bset, hR.bset0, hR.at1, hR.at0, hR.map1, hR.map0, q10, q11, q12, q14] | refine rK_dreg0 rfl ?_))
      exact ⟨_, rfl⟩
  · intro o ho
    cases hG : givesW r now w want
    · rw [hG] at ho
      simp only [Bool.false_eq_true, if_false] at ho ⊢
      obtain ⟨hj, τ', hσ⟩ := ho
      rw [hσ, hid, hR.bset, hj]
      exact ⟨rfl, rfl, τ', rfl⟩
    · rw [hG] at ho
      simp only [if_true] at ho ⊢
      obtain ⟨hj, τ', hσ⟩ := ho
      rw [hσ, hid, hR.bset, hj]
      exact ⟨rfl, rfl, τ', rfl⟩
end Go.Am.Room
set_option linter.unusedVariables false
set_option linter.unusedSimpArgs false
set_option maxRecDepth 4000
namespace Go.Am.Room
def planOfP (q : Pl) (f : Bool) (tk : Option Nat) : List AV := planC (q.l.map (.int .i64)) f tk q.w q.c
theorem plan_get (sl : List AV) (f : Bool) (tk : Option Nat) (w : W4) (c : Int) : ∀ n, n < 4 → (planC sl f tk w c)[1 + n]? = some (.int .i64 (w.at n))
  | 0, _ => rfl
  | 1, _ => rfl
  | 2, _ => rfl
  | 3, _ => rfl
theorem plan_set (sl : List AV) (f : Bool) (tk : Option Nat) (w : W4) (c : Int) : ∀ n, n < 4 → (planC sl f tk w c).take (1 + n) ++ [.int .i64 (w.at n + 1)] ++ [AV.int .i64 w.a, .int .i64 w.b, .int .i64 w.c, .int .i64 w.d, .int .i64 c].drop (1 + n) = planC sl f tk (w.inc n) c
  | 0, _ => rfl
  | 1, _ => rfl
  | 2, _ => rfl
  | 3, _ => rfl
theorem inc_bd (w : W4) (n i : Nat) : w.at i ≤ (w.inc n).at i ∧ (w.inc n).at i ≤ w.at i + 1 := by
  match n with
  | 0 => match i with | 0 | 1 | 2 | 3 => (simp [W4.inc, W4.at] <;> omega) | i + 4 => simp [W4.inc, W4.at]
  | 1 => match i with | 0 | 1 | 2 | 3 => (simp [W4.inc, W4.at] <;> omega) | i + 4 => simp [W4.inc, W4.at]
  | 2 => match i with | 0 | 1 | 2 | 3 => (simp [W4.inc, W4.at] <;> omega) | i + 4 => simp [W4.inc, W4.at]
  | 3 => match i with | 0 | 1 | 2 | 3 => (simp [W4.inc, W4.at] <;> omega) | i + 4 => simp [W4.inc, W4.at]
  | n + 4 => match i with | 0 | 1 | 2 | 3 => (simp [W4.inc, W4.at] <;> omega) | i + 4 => simp [W4.inc, W4.at]
theorem next_leave {S : Memo → St} {r : Rm} {ps : Nat → Span} {p m N : Nat} (hR : RoomAt S r ps p m N) (now : Span) (want b ch : Int) (many : Int) (e : Env) (M : Memo) (q : Pl) (f : Bool) (tk : Option Nat) (τ : St) {M' : Memo} {τ' : St} {σ' : St} {Q : Out → Prop}
    (hσ : σ' = S M' ++ (fst now want b many ch p N zeroP false (lpB .ready none e) (planOfP q f tk) ++ (τ ++ τ'))) (hQ : Q ⟨none, [], S M' ++ (fst now want b many ch p N zeroP false (lpB .ready none e) (planOfP q f tk) ++ τ), .bool true⟩) :
    Leave (S M ++ (fst now want b many ch p N zeroP false (lpB .ready none e) (planOfP q f tk) ++ τ)) σ' (.bool true) Q := by
  obtain ⟨X, hX⟩ : ∃ X, fst now want b many ch p N zeroP false (lpB .ready none e) (planOfP q f tk) ++ τ = X := ⟨_, rfl⟩
  have hσ2 : σ' = (fun M => S M ++ X) M' ++ τ' := by rw [hσ, ← hX]; simp
  rw [hX] at hQ ⊢
  have hA := hR.app X
  refine .inr ⟨20, .bool true, .bool true, by simp [snap], .inl rfl, hA.kept hσ2, ?_, ?_⟩
  · rw [hσ2]
    simp only [List.length_append, hR.len]
    omega
  · have e1 : σ'.take (S M ++ X).length = S M' ++ X := by
      have q1 : (S M ++ X).length = (S M' ++ X).length := by simp only [List.length_append, hR.len]
      rw [hσ2, q1]
      exact List.take_left
    rw [e1]
    exact hQ
theorem next_ok {S : Memo → St} {r : Rm} {ps : Nat → Span} {p m N : Nat} (hR : RoomAt S r ps p m N) (hv : Vd r) (now : Span) (want b ch : Int) (many : Nat) (h0 : 0 ≤ now.lo) (h1 : now.lo < 1000) (h2 : 0 ≤ now.hi) (h3 : now.hi < 1000)
    (e : Env) (e10 : Env.get e 10 = .ptr (N + 3) 0) (e11 : Env.get e 11 = .ptr (N + 4) 0) (e12 : Env.get e 12 = .ptr (N + 5) 0) (hmany : many ≤ 8) :
    ∀ (k : Nat) (q : Pl) (b0 : Int) (M : Memo) (f : Bool) (tk : Option Nat) (τ : St), q.l.length + k = many → (∀ i, 0 ≤ q.w.at i ∧ q.w.at i ≤ q.l.length) → (0 ≤ q.c ∧ q.c ≤ q.l.length) → (∀ t, tk = some t → N ≤ t) →
    Run T (.callv (NEXT N) [.int .i64 b0] (S M ++ (fst now want b many ch p N zeroP false (lpB .ready none e) (planOfP q f tk) ++ τ))) fun o =>
      match nextS r now want ch k q b0 M with
      | (some x, M') => o.v = .bool false ∧ ∃ f' tk' plan τ', (∀ t, tk' = some t → N ≤ t) ∧ o.σ = S M' ++ (fst now want b many ch p N (planOfP x f' tk') true (lpB .done (some .ret) e) plan ++ τ')
      | (none, M') => o.v = .bool true ∧ o.σ = S M' ++ (fst now want b many ch p N zeroP false (lpB .ready none e) (planOfP q f tk) ++ τ)
  | 0, q, b0, M, f, tk, τ, hl, hw, hc, htk => by
    have hl' : (q.l.length : Int) = many := by omega
    have hy := yield_run hR hv now want b many ch h0 h1 h2 h3 e e10 e11 e12 M (q.l.map (.int .i64)) f tk q.w (fun i => ⟨(hw i).1, by have := (hw i).2; omega⟩) q.c τ
    refine .callf (.call (af := a122) rfl (by simp [a122]) (run_wp (K := fun j e' σ1 => (j = none ∨ j = some .ret) ∧
      (match nextS r now want ch 0 q b0 M with
      | (some x, M') => Env.get e' 8 = .bool false ∧ ∃ f' tk' plan τ', (∀ t, tk' = some t → N ≤ t) ∧ σ1 = S M' ++ (fst now want b many ch p N (planOfP x f' tk') true (lpB .done (some .ret) e) plan ++ τ')
      | (none, M') => Env.get e' 8 = .bool true ∧ ∃ τ', σ1 = S M' ++ (fst now want b many ch p N zeroP false (lpB .ready none e) (planOfP q f tk) ++ (τ ++ τ')))) ?_ fun o ho => ho) fun o ho => ?_)
    · simp only [nextS]
      by_cases hcc : q.c = ch
      · rw [if_neg (by simpa using hcc)]
        have g : (q.c == ch) = true := by simpa using hcc
        simp only [fst, planOfP, planC, NEXT] at hy ⊢
        (repeat (first | simp only [↓QP, ↓QD, QR, QV, QS, QC, implies_true, forall_const, ne_eq, not_false_eq_true, not_true_eq_false, Nat.reduceLT, reduceIte, Nat.reduceEqDiff, Nat.reduceAdd, Nat.reduceLeDiff, Nat.reduceMul, Nat.reduceBEq, Nat.mul_one, Int.toNat_natCast, encSpan_eq, Nat.add_lt_add_iff_left, Nat.lt_add_right_iff_pos, T_sapp, encW_eq, List.length_append, hR.len, hR.base, hR.base0, hR.bset, hR.bset0, hR.at1, hR.at0, hR.map1, hR.map0, a122, NEXT, hl', g] | refine rK_dreg0 rfl ?_))
        refine .mono hy fun o ho => ?_
        cases hG : givesW r now q.w want
        · rw [hG] at ho
          simp only [Bool.false_eq_true, if_false] at ho ⊢
          obtain ⟨hov, τ', hσ⟩ := ho
          rw [hov, hσ]
          (repeat (first | simp only [↓QP, ↓QD, QR, QV, QS, QC, implies_true, forall_const, ne_eq, not_false_eq_true, not_true_eq_false, Nat.reduceLT, reduceIte, Nat.reduceEqDiff, Nat.reduceAdd, Nat.reduceLeDiff, Nat.reduceMul, Nat.reduceBEq, Nat.mul_one, Int.toNat_natCast, encSpan_eq, Nat.add_lt_add_iff_left, Nat.lt_add_right_iff_pos, T_sapp, encW_eq, List.length_append, hR.len, hR.base, hR.base0, hR.bset, hR.bset0, hR.at1, hR.at0, hR.map1, hR.map0] | refine rK_dreg0 rfl ?_))
          exact ⟨τ', rfl⟩
        · rw [hG] at ho
          simp only [if_true] at ho ⊢
          obtain ⟨hov, τ', hσ⟩ := ho
          rw [hov, hσ]
          (repeat (first | simp only [↓QP, ↓QD, QR, QV, QS, QC, implies_true, forall_const, ne_eq, not_false_eq_true, not_true_eq_false, Nat.reduceLT, reduceIte, Nat.reduceEqDiff, Nat.reduceAdd, Nat.reduceLeDiff, Nat.reduceMul, Nat.reduceBEq, Nat.mul_one, Int.toNat_natCast, encSpan_eq, Nat.add_lt_add_iff_left, Nat.lt_add_right_iff_pos, T_sapp, encW_eq, List.length_append, hR.len, hR.base, hR.base0, hR.bset, hR.bset0, hR.at1, hR.at0, hR.map1, hR.map0] | refine rK_dreg0 rfl ?_))
          exact ⟨f, tk, _, τ', htk, rfl⟩
      · rw [if_pos hcc]
        have g : (q.c == ch) = false := by simpa using hcc
        (repeat (first | simp only [↓QP, ↓QD, QR, QV, QS, QC, implies_true, forall_const, ne_eq, not_false_eq_true, not_true_eq_false, Nat.reduceLT, reduceIte, Nat.reduceEqDiff, Nat.reduceAdd, Nat.reduceLeDiff, Nat.reduceMul, Nat.reduceBEq, Nat.mul_one, Int.toNat_natCast, encSpan_eq, Nat.add_lt_add_iff_left, Nat.lt_add_right_iff_pos, T_sapp, encW_eq, List.length_append, hR.len, hR.base, hR.base0, hR.bset, hR.bset0, hR.at1, hR.at0, hR.map1, hR.map0, a122, NEXT, fst, planOfP, planC, hl', g] | refine rK_dreg0 rfl ?_))
        exact ⟨[], by simp⟩
    · obtain ⟨hj, ho⟩ := ho
      refine ⟨hj, ?_⟩
      cases hn : nextS r now want ch 0 q b0 M with
      | mk x M' =>
        rw [hn] at ho
        cases x with
        | none => exact ⟨.bool true, by simp only [a122, resOf, resAV]; rw [ho.1]; rfl, by obtain ⟨_, τ', hσ⟩ := ho; exact next_leave hR now want b ch many e M q f tk τ hσ ⟨rfl, rfl⟩⟩
        | some x => exact ⟨.bool false, by simp only [a122, resOf, resAV]; rw [ho.1]; rfl, .inl ⟨rfl, ho.2⟩⟩
  | k + 1, q, b0, M, f, tk, τ, hl, hw, hc, htk => by
    have ih := next_ok hR hv now want b ch many h0 h1 h2 h3 e e10 e11 e12 hmany k
    have hne : ((q.l.length : Int) == (many : Int)) = false := by rw [beq_eq_false_iff_ne]; omega
    obtain ⟨F, hF⟩ : ∃ F : Nat → Memo → Option Pl × Memo, F = fun (n : Nat) M => if 0 ≤ b0 ∧ (n : Int) ≠ b0 ∧ q.c = ch then (none, M) else nextS r now want ch k (q.add b0 n) n M := ⟨_, rfl⟩
    have hspec : nextS r now want ch (k + 1) q b0 M = overN F r.settings.length 0 M := by rw [hF]; rfl
    refine .callf (.call (af := a122) rfl (by simp [a122]) (run_wp (K := fun j e' σ1 => (j = none ∨ j = some .ret) ∧
      (match nextS r now want ch (k + 1) q b0 M with
      | (some x, M') => Env.get e' 8 = .bool false ∧ ∃ f' tk' plan τ', (∀ t, tk' = some t → N ≤ t) ∧ σ1 = S M' ++ (fst now want b many ch p N (planOfP x f' tk') true (lpB .done (some .ret) e) plan ++ τ')
      | (none, M') => Env.get e' 8 = .bool true ∧ ∃ τ', σ1 = S M' ++ (fst now want b many ch p N zeroP false (lpB .ready none e) (planOfP q f tk) ++ (τ ++ τ')))) ?_ fun o ho => ho) fun o ho => ?_)
    · rw [hspec]
      obtain ⟨R, hR0⟩ : ∃ R, overN F r.settings.length 0 M = R := ⟨_, rfl⟩
      rw [hR0]
      simp only [fst, planOfP, planC, NEXT]
      (repeat (first | simp only [↓QP, ↓QD, QR, QV, QS, QC, implies_true, forall_const, ne_eq, not_false_eq_true, not_true_eq_false, Nat.reduceLT, reduceIte, Nat.reduceEqDiff, Nat.reduceAdd, Nat.reduceLeDiff, Nat.reduceMul, Nat.reduceBEq, Nat.mul_one, Int.toNat_natCast, encSpan_eq, Nat.add_lt_add_iff_left, Nat.lt_add_right_iff_pos, T_sapp, encW_eq, List.length_append, hR.len, hR.base, hR.base0, hR.bset, hR.bset0, hR.at1, hR.at0, hR.map1, hR.map0, a122, NEXT, hne, rb_3] | refine rK_dreg0 rfl ?_))
      refine loopE (S := Nat × Memo) (0, M) (fun s => s.1 ≤ r.settings.length ∧ overN F (r.settings.length - s.1) s.1 s.2 = R) (fun s => r.settings.length - s.1)
        (fun s => [(0, .int .i64 b0), (1, .ptr (N + 12) 0), (3, .ptr (N + 9) 0), (6, .ptr (N + 13) 0), (30, .int .i64 r.settings.length), (31, .int .i64 s.1)])
        (fun s => S s.2 ++ (fst now want b many ch p N zeroP false (lpB .ready none e) (planOfP q f tk) ++ τ)) ⟨by simp, hR0⟩ rfl ?_ fun s hs => ?_
      · try simp only [TrimX, QT, QS, q_get, List.length_append, Nat.le_add_right, QC, implies_true, forall_const, ne_eq, not_false_eq_true, not_true_eq_false, Nat.reduceLT, reduceIte, Nat.reduceEqDiff, Nat.reduceAdd, Nat.reduceLeDiff, Nat.reduceMul, Nat.reduceBEq, Nat.mul_one, Int.toNat_natCast, encSpan_eq, Nat.add_lt_add_iff_left, Nat.lt_add_right_iff_pos, T_sapp, encW_eq, List.length_append, hR.len, hR.base, hR.base0, hR.bset, hR.bset0, hR.at1, hR.at0, hR.map1, hR.map0]
        try simp
      · obtain ⟨n, M2⟩ := s
        obtain ⟨hn, hq⟩ := hs
        simp only at hn hq
        simp only [fst, planOfP, planC, NEXT]
        (repeat (first | simp only [↓QP, ↓QD, QR, QV, QS, QC, implies_true, forall_const, ne_eq, not_false_eq_true, not_true_eq_false, Nat.reduceLT, reduceIte, Nat.reduceEqDiff, Nat.reduceAdd, Nat.reduceLeDiff, Nat.reduceMul, Nat.reduceBEq, Nat.mul_one, Int.toNat_natCast, encSpan_eq, Nat.add_lt_add_iff_left, Nat.lt_add_right_iff_pos, T_sapp, encW_eq, List.length_append, hR.len, hR.base, hR.base0, hR.bset, hR.bset0, hR.at1, hR.at0, hR.map1, hR.map0, L122_0] | refine rK_dreg0 rfl ?_))
        refine iteP_intro (fun h => ?_) fun h => ?_
        · have hn1 : n < r.settings.length := by simpa using h
          have hns := hv.nset
          have hn4 : n < 4 := by omega
          have hw1 := wrapN hn1 (by omega)
          have hwn := hw n
          have hwi : IntKind.i64.wrap (q.w.at n + 1) = q.w.at n + 1 := wrap64 ⟨by omega, by omega⟩
          have hci : IntKind.i64.wrap (q.c + 1) = q.c + 1 := wrap64 ⟨by omega, by omega⟩
          have i1 : (0 : Int) ≤ (n : Int) ∧ (n : Int) < ((4 : Nat) : Int) := ⟨by omega, by omega⟩
          rw [show r.settings.length - n = (r.settings.length - (n + 1)) + 1 by omega] at hq
          simp only [overN] at hq
          have cg := fun (c : Int) => plan_get (q.l.map (.int .i64)) f tk q.w c n hn4
          have cs := fun (c : Int) => plan_set (q.l.map (.int .i64)) f tk q.w c n hn4
          simp only [planC] at cg cs
          have hap : ∀ (σ : St) (t : Option Nat), appendAV 1 8 σ (.lit (q.l.map (.int .i64)) true t) (.lit [.int .i64 n] true none) = some (.lit ((q.l ++ [(n : Int)]).map (.int .i64)) false (some σ.length), σ ++ [.tok 1 (q.l.length + 1) true]) := fun σ t => by
            rw [app_full ⟨L_allM 1 _ q.l (fun x => C_int _ _), by simp [allCells, AV.cells, AV.cell], by simp [room]; omega, by simp [room]; omega⟩ (by simp)]
            simp
          have step : ∀ (c' : Int) (e' : Env), True := fun _ _ => trivial
          (repeat (first | simp only [↓QP, ↓QD, QR, QV, QS, QC, implies_true, forall_const, ne_eq, not_false_eq_true, not_true_eq_false, Nat.reduceLT, reduceIte, Nat.reduceEqDiff, Nat.reduceAdd, Nat.reduceLeDiff, Nat.reduceMul, Nat.reduceBEq, Nat.mul_one, Int.toNat_natCast, encSpan_eq, Nat.add_lt_add_iff_left, Nat.lt_add_right_iff_pos, T_sapp, encW_eq, List.length_append, hR.len, hR.base, hR.base0, hR.bset, hR.bset0, hR.at1, hR.at0, hR.map1, hR.map0] | refine rK_dreg0 rfl ?_))
          cases g1 : decide (0 ≤ b0)
          case' false =>
            have g1' : ¬ 0 ≤ b0 := by simpa using g1
            obtain ⟨c', hc'⟩ : ∃ c', c' = q.c := ⟨_, rfl⟩
            have hadd : q.add b0 n = ⟨q.l ++ [(n : Int)], q.w.inc n, c'⟩ := by simp [Pl.add, g1', hc']
            have hFn : F n M2 = nextS r now want ch k ⟨q.l ++ [(n : Int)], q.w.inc n, c'⟩ n M2 := by rw [hF, ← hadd]; simp [g1']
            (repeat (first | simp only [↓QP, ↓QD, QR, QV, QS, QC, implies_true, forall_const, ne_eq, not_false_eq_true, not_true_eq_false, Nat.reduceLT, reduceIte, Nat.reduceEqDiff, Nat.reduceAdd, Nat.reduceLeDiff, Nat.reduceMul, Nat.reduceBEq, Nat.mul_one, Int.toNat_natCast, encSpan_eq, Nat.add_lt_add_iff_left, Nat.lt_add_right_iff_pos, T_sapp, encW_eq, List.length_append, hR.len, hR.base, hR.base0, hR.bset, hR.bset0, hR.at1, hR.at0, hR.map1, hR.map0, g1] | refine rK_dreg0 rfl ?_))
            rw [← hc']
          case' true =>
            have g1' : 0 ≤ b0 := by simpa using g1
            (repeat (first | simp only [↓QP, ↓QD, QR, QV, QS, QC, implies_true, forall_const, ne_eq, not_false_eq_true, not_true_eq_false, Nat.reduceLT, reduceIte, Nat.reduceEqDiff, Nat.reduceAdd, Nat.reduceLeDiff, Nat.reduceMul, Nat.reduceBEq, Nat.mul_one, Int.toNat_natCast, encSpan_eq, Nat.add_lt_add_iff_left, Nat.lt_add_right_iff_pos, T_sapp, encW_eq, List.length_append, hR.len, hR.base, hR.base0, hR.bset, hR.bset0, hR.at1, hR.at0, hR.map1, hR.map0, g1] | refine rK_dreg0 rfl ?_))
            cases g2 : ((n : Int) == b0)
            case' true =>
              have g2' : (n : Int) = b0 := by simpa using g2
              obtain ⟨c', hc'⟩ : ∃ c', c' = q.c := ⟨_, rfl⟩
              have hadd : q.add b0 n = ⟨q.l ++ [(n : Int)], q.w.inc n, c'⟩ := by simp [Pl.add, g2', hc']
              have hFn : F n M2 = nextS r now want ch k ⟨q.l ++ [(n : Int)], q.w.inc n, c'⟩ n M2 := by rw [hF, ← hadd]; simp [g2']
              (repeat (first | simp only [↓QP, ↓QD, QR, QV, QS, QC, implies_true, forall_const, ne_eq, not_false_eq_true, not_true_eq_false, Nat.reduceLT, reduceIte, Nat.reduceEqDiff, Nat.reduceAdd, Nat.reduceLeDiff, Nat.reduceMul, Nat.reduceBEq, Nat.mul_one, Int.toNat_natCast, encSpan_eq, Nat.add_lt_add_iff_left, Nat.lt_add_right_iff_pos, T_sapp, encW_eq, List.length_append, hR.len, hR.base, hR.base0, hR.bset, hR.bset0, hR.at1, hR.at0, hR.map1, hR.map0, g2] | refine rK_dreg0 rfl ?_))
              rw [← hc']
            case' false =>
              have g2' : (n : Int) ≠ b0 := by simpa using g2
              (repeat (first | simp only [↓QP, ↓QD, QR, QV, QS, QC, implies_true, forall_const, ne_eq, not_false_eq_true, not_true_eq_false, Nat.reduceLT, reduceIte, Nat.reduceEqDiff, Nat.reduceAdd, Nat.reduceLeDiff, Nat.reduceMul, Nat.reduceBEq, Nat.mul_one, Int.toNat_natCast, encSpan_eq, Nat.add_lt_add_iff_left, Nat.lt_add_right_iff_pos, T_sapp, encW_eq, List.length_append, hR.len, hR.base, hR.base0, hR.bset, hR.bset0, hR.at1, hR.at0, hR.map1, hR.map0, g2] | refine rK_dreg0 rfl ?_))
              cases g3 : (q.c == ch)
              case' false =>
                have g3' : q.c ≠ ch := by simpa using g3
                obtain ⟨c', hc'⟩ : ∃ c', c' = q.c + 1 := ⟨_, rfl⟩
                have hadd : q.add b0 n = ⟨q.l ++ [(n : Int)], q.w.inc n, c'⟩ := by simp [Pl.add, g1', g2', hc']
                have hFn : F n M2 = nextS r now want ch k ⟨q.l ++ [(n : Int)], q.w.inc n, c'⟩ n M2 := by rw [hF, ← hadd]; simp [g3']
                (repeat (first | simp only [↓QP, ↓QD, QR, QV, QS, QC, implies_true, forall_const, ne_eq, not_false_eq_true, not_true_eq_false, Nat.reduceLT, reduceIte, Nat.reduceEqDiff, Nat.reduceAdd, Nat.reduceLeDiff, Nat.reduceMul, Nat.reduceBEq, Nat.mul_one, Int.toNat_natCast, encSpan_eq, Nat.add_lt_add_iff_left, Nat.lt_add_right_iff_pos, T_sapp, encW_eq, List.length_append, hR.len, hR.base, hR.base0, hR.bset, hR.bset0, hR.at1, hR.at0, hR.map1, hR.map0, g3, hci] | refine rK_dreg0 rfl ?_))
                rw [← hc']
              case' true =>
                have g3' : q.c = ch := by simpa using g3
                have hFn : F n M2 = (none, M2) := by rw [hF]; simp [g1', g2', g3']
                rw [hFn] at hq
                (repeat (first | simp only [↓QP, ↓QD, QR, QV, QS, QC, implies_true, forall_const, ne_eq, not_false_eq_true, not_true_eq_false, Nat.reduceLT, reduceIte, Nat.reduceEqDiff, Nat.reduceAdd, Nat.reduceLeDiff, Nat.reduceMul, Nat.reduceBEq, Nat.mul_one, Int.toNat_natCast, encSpan_eq, Nat.add_lt_add_iff_left, Nat.lt_add_right_iff_pos, T_sapp, encW_eq, List.length_append, hR.len, hR.base, hR.base0, hR.bset, hR.bset0, hR.at1, hR.at0, hR.map1, hR.map0, g3] | refine rK_dreg0 rfl ?_))
          case true.false.true =>
            refine ⟨(n + 1, M2), ⟨by simp only; omega, hq⟩, by simp only; omega, ?_⟩
            try simp only [TrimX, QT, QS, q_get, List.length_append, Nat.le_add_right, QC, implies_true, forall_const, ne_eq, not_false_eq_true, not_true_eq_false, Nat.reduceLT, reduceIte, Nat.reduceEqDiff, Nat.reduceAdd, Nat.reduceLeDiff, Nat.reduceMul, Nat.reduceBEq, Nat.mul_one, Int.toNat_natCast, encSpan_eq, Nat.add_lt_add_iff_left, Nat.lt_add_right_iff_pos, T_sapp, encW_eq, List.length_append, hR.len, hR.base, hR.base0, hR.bset, hR.bset0, hR.at1, hR.at0, hR.map1, hR.map0, hw1, T_sr0]
            try simp [okBlk, okVs, okV]
          all_goals
            have c1 : 1 + n + 1 ≤ 6 := by omega
            (repeat (first | simp only [↓QP, ↓QD, QR, QV, QS, QC, implies_true, forall_const, ne_eq, not_false_eq_true, not_true_eq_false, Nat.reduceLT, reduceIte, Nat.reduceEqDiff, Nat.reduceAdd, Nat.reduceLeDiff, Nat.reduceMul, Nat.reduceBEq, Nat.mul_one, Int.toNat_natCast, encSpan_eq, Nat.add_lt_add_iff_left, Nat.lt_add_right_iff_pos, T_sapp, encW_eq, List.length_append, hR.len, hR.base, hR.base0, hR.bset, hR.bset0, hR.at1, hR.at0, hR.map1, hR.map0, cg, cs, i1, hwi, c1] | refine rK_dreg0 rfl ?_))
            refine callK_do (clip_does _ q.l f tk) ?_
            (repeat (first | simp only [↓QP, ↓QD, QR, QV, QS, QC, implies_true, forall_const, ne_eq, not_false_eq_true, not_true_eq_false, Nat.reduceLT, reduceIte, Nat.reduceEqDiff, Nat.reduceAdd, Nat.reduceLeDiff, Nat.reduceMul, Nat.reduceBEq, Nat.mul_one, Int.toNat_natCast, encSpan_eq, Nat.add_lt_add_iff_left, Nat.lt_add_right_iff_pos, T_sapp, encW_eq, List.length_append, hR.len, hR.base, hR.base0, hR.bset, hR.bset0, hR.at1, hR.at0, hR.map1, hR.map0, hap, cg, cs, i1, hwi] | refine rK_dreg0 rfl ?_))
            have hih := fun t (ht : N ≤ t) => ih ⟨q.l ++ [(n : Int)], q.w.inc n, c'⟩ n M2 false (some t) (τ ++ [.cells (planC (q.l.map (.int .i64)) f tk q.w q.c), .tok 1 (q.l.length + 1) true]) (by simp; omega)
              (fun i => by have := inc_bd q.w n i; have := hw i; simp only [List.length_append, List.length_cons, List.length_nil]; omega) (by simp only [List.length_append, List.length_cons, List.length_nil]; omega) (fun u hu => by cases hu; exact ht)
            rw [← hFn] at hih
            simp only [fst, planOfP, planC, NEXT] at hih
            first | refine .mono (hih _ (by omega)) fun o ho => ?_ | (rw [← hc'] at hih; refine .mono (hih _ (by omega)) fun o ho => ?_)
            cases hx : F n M2 with
            | mk x M3 =>
              rw [hx] at ho hq
              cases x with
              | none =>
                simp only at ho hq
                rw [ho.1, ho.2]
                (repeat (first | simp only [↓QP, ↓QD, QR, QV, QS, QC, implies_true, forall_const, ne_eq, not_false_eq_true, not_true_eq_false, Nat.reduceLT, reduceIte, Nat.reduceEqDiff, Nat.reduceAdd, Nat.reduceLeDiff, Nat.reduceMul, Nat.reduceBEq, Nat.mul_one, Int.toNat_natCast, encSpan_eq, Nat.add_lt_add_iff_left, Nat.lt_add_right_iff_pos, T_sapp, encW_eq, List.length_append, hR.len, hR.base, hR.base0, hR.bset, hR.bset0, hR.at1, hR.at0, hR.map1, hR.map0] | refine rK_dreg0 rfl ?_))
                refine ⟨(n + 1, M3), ⟨by simp only; omega, hq⟩, by simp only; omega, ?_⟩
                try simp only [TrimX, QT, QS, q_get, List.length_append, Nat.le_add_right, QC, implies_true, forall_const, ne_eq, not_false_eq_true, not_true_eq_false, Nat.reduceLT, reduceIte, Nat.reduceEqDiff, Nat.reduceAdd, Nat.reduceLeDiff, Nat.reduceMul, Nat.reduceBEq, Nat.mul_one, Int.toNat_natCast, encSpan_eq, Nat.add_lt_add_iff_left, Nat.lt_add_right_iff_pos, T_sapp, encW_eq, List.length_append, hR.len, hR.base, hR.base0, hR.bset, hR.bset0, hR.at1, hR.at0, hR.map1, hR.map0, hw1, hR.eqS, T_sr, T_sr0, lpB]
                try simp [okBlk, okVs, okV]
                try omega
              | some x =>
                simp only at ho hq
                obtain ⟨hov, f', tk', plan, τ', htk', hσ⟩ := ho
                subst hq
                rw [hov, hσ]
                (repeat (first | simp only [↓QP, ↓QD, QR, QV, QS, QC, implies_true, forall_const, ne_eq, not_false_eq_true, not_true_eq_false, Nat.reduceLT, reduceIte, Nat.reduceEqDiff, Nat.reduceAdd, Nat.reduceLeDiff, Nat.reduceMul, Nat.reduceBEq, Nat.mul_one, Int.toNat_natCast, encSpan_eq, Nat.add_lt_add_iff_left, Nat.lt_add_right_iff_pos, T_sapp, encW_eq, List.length_append, hR.len, hR.base, hR.base0, hR.bset, hR.bset0, hR.at1, hR.at0, hR.map1, hR.map0] | refine rK_dreg0 rfl ?_))
                exact ⟨f', tk', plan, τ', htk', rfl⟩
        · have hn1 : n = r.settings.length := by simp at h; omega
          rw [hn1, Nat.sub_self] at hq
          simp only [overN] at hq
          subst hq
          (repeat (first | simp only [↓QP, ↓QD, QR, QV, QS, QC, implies_true, forall_const, ne_eq, not_false_eq_true, not_true_eq_false, Nat.reduceLT, reduceIte, Nat.reduceEqDiff, Nat.reduceAdd, Nat.reduceLeDiff, Nat.reduceMul, Nat.reduceBEq, Nat.mul_one, Int.toNat_natCast, encSpan_eq, Nat.add_lt_add_iff_left, Nat.lt_add_right_iff_pos, T_sapp, encW_eq, List.length_append, hR.len, hR.base, hR.base0, hR.bset, hR.bset0, hR.at1, hR.at0, hR.map1, hR.map0] | refine rK_dreg0 rfl ?_))
          exact ⟨[], by simp⟩
    · obtain ⟨hj, ho⟩ := ho
      refine ⟨hj, ?_⟩
      cases hn : nextS r now want ch (k + 1) q b0 M with
      | mk x M' =>
        rw [hn] at ho
        cases x with
        | none => exact ⟨.bool true, by simp only [a122, resOf, resAV]; rw [ho.1]; rfl, by obtain ⟨_, τ', hσ⟩ := ho; exact next_leave hR now want b ch many e M q f tk τ hσ ⟨rfl, rfl⟩⟩
        | some x => exact ⟨.bool false, by simp only [a122, resOf, resAV]; rw [ho.1]; rfl, .inl ⟨rfl, ho.2⟩⟩
end Go.Am.Room
