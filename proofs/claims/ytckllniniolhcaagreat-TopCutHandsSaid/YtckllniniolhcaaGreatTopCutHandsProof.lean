/- What is proved: if each plot has as many hands as a bunch of a lot has at least, the plots of Early have enough hands in any way, for any farm and lot, day, hands and way, without any condition. -/
import Derived.Test.YtckllniniolhcaaGreatTopCutHandsQ6
namespace Go.Proofs.YtckllniniolhcaaGreat.topCutHands
open Go.ChangeShapes Go.WideShapes Go.ChangeAt Go.RowKit Go.Am Go.Am.Room
set_option linter.unusedVariables false
set_option maxRecDepth 100000 in
theorem lifted (os : Os) (started : os.Started) (H : Type) (enc : TypeId × Value → H) :
    ReturnsInHanded {} Tryz.checked os 4 .any (Rows.topCutHandsSpec.pre6 enc Tryz.prog Tryz.f4 Rows.topCutHandsRow.domain false) (Rows.topCutHandsSpec.post enc Tryz.prog Tryz.f4 false true false false) := by
  refine returnsInHanded_of_change_sized (C := Tryz.checked) own started (by kernel_rfl) Tryz.func4
    (ChangeSpec.witness6 (enc := enc) (C := Tryz.checked) false ⟨#[], #[.agg #[.slice none 0 0, .int .i64 0, .int .i64 0, .int .i64 0, .int .i64 0, .slice none 0 0, .slice none 0 0], .agg #[.slice none 0 0, .slice none 0 0, .slice none 0 0], .agg #[.int .u8 0, .int .u16 0, .int .u16 0]], []⟩ 8 (by kernel_rfl) (by kernel_rfl) (by kernel_rfl) (by kernel_rfl)) ?_
  intro W base args ds gs before hval0 hW hcnd hsz _
  have hval : ∀ (j : Nat) t v, Tryz.f4.params[j]? = some t → args[j]? = some v → Value.okWide Tryz.prog W .any base t v := hval0
  have hW' := hW
  obtain ⟨p, q, hA0, hV, rfl, hfz, hnd⟩ := hW
  have hA : DataW.TrodAll enc Tryz.prog W 0 (fun _ => true) true Tryz.f4.params.toList args.toList ds p := hA0
  rw [Tryz.params4] at hA hval hsz
  obtain ⟨v0, vs0, d0, ds0, p0, q0, hargs, rfl, rfl, h0, r0⟩ := trodAll_cons hA
  obtain ⟨v1, vs1, d1, ds1, p1, q1, rfl, rfl, rfl, h1, r1⟩ := trodAll_cons r0
  obtain ⟨v2, vs2, d2, ds2, p2, q2, rfl, rfl, rfl, h2, r2⟩ := trodAll_cons r1
  obtain ⟨rfl, rfl, rfl⟩ := trodAll_nil r2
  obtain rfl : args = #[v0, v1, v2] := by cases args; simp_all
  obtain ⟨rfl, rfl⟩ := trodVars_none hV
  have k0 := h0
  have lt0 : ∀ x ∈ p0, x.block < W.heap.size := by obtain ⟨m, hm⟩ := k0; exact DataW.trod_lt m _ _ _ hm
  obtain ⟨as0, t0, rel0⟩ := sA laidOut 6 (of_decide_eq_true (by kernel_rfl)) (by kernel_rfl) (hval 0 28 v0 rfl rfl) h0 (fun n hn => by have := List.all_eq_true.1 hsz n (DataW.weights_mem_each (j := 0) rfl rfl n hn); simpa using this)
  obtain ⟨x0, e0, f0⟩ := Fa.ty_farm tys t0
  rw [e0] at rel0
  have k1 := h1
  have lt1 : ∀ x ∈ p1, x.block < W.heap.size := by obtain ⟨m, hm⟩ := k1; exact DataW.trod_lt m _ _ _ hm
  obtain ⟨as1, t1, rel1⟩ := sA laidOut 6 (of_decide_eq_true (by kernel_rfl)) (by kernel_rfl) (hval 1 63 v1 rfl rfl) h1 (fun n hn => by have := List.all_eq_true.1 hsz n (DataW.weights_mem_each (j := 1) rfl rfl n hn); simpa using this)
  obtain ⟨x1, e1, f1⟩ := Fa.ty_lot tys t1
  rw [e1] at rel1
  have k2 := h2
  have lt2 : ∀ x ∈ p2, x.block < W.heap.size := by obtain ⟨m, hm⟩ := k2; exact DataW.trod_lt m _ _ _ hm
  obtain ⟨as2, t2, rel2⟩ := sA laidOut 6 (of_decide_eq_true (by kernel_rfl)) (by kernel_rfl) (hval 2 66 v2 rfl rfl) h2 (fun n hn => by have := List.all_eq_true.1 hsz n (DataW.weights_mem_each (j := 2) rfl rfl n hn); simpa using this)
  obtain ⟨x2, yx2, zx2, e2, f2⟩ := Fa.ty_cut tys t2
  rw [e2] at rel2
  clear hA0 hval0
  have run : Run T (.call 4 [Fa.encFarm x0, Ha.encHLot x1, .agg [.int .u8 x2, .int .u16 yx2, .int .u16 zx2]] []) fun o => o.v = .bool true := .mono (Fa.topcuthands_ok x0 x1 x2 yx2 zx2 f0 f1 f2.1 f2.2.1 f2.2.2 []) fun o ho => ho.1
  refine (DS hT (qY rel0 (qY rel1 (qY rel2 KH))) run).mono fun e W' ⟨he, bel⟩ => ?_
  subst he
  exact ⟨_, rfl, _, _, _, [], _, [], hW', trodAll_mk1 (shut_bool Tryz.underlying4 _), (trodAll_cons_mk (Below.trod laidOut (by kernel_rfl) (of_decide_eq_true (by kernel_rfl)) k0 bel lt0) (trodAll_cons_mk (Below.trod laidOut (by kernel_rfl) (of_decide_eq_true (by kernel_rfl)) k1 bel lt1) (trodAll_cons_mk (Below.trod laidOut (by kernel_rfl) (of_decide_eq_true (by kernel_rfl)) k2 bel lt2) trodAll_mk0))), rfl, bel.frame _, fun h => by cases h⟩
theorem join_and {a b : Bool} (ha : a = true) (hb : b = true) : (a && b) = true := by rw [ha, hb]; rfl
theorem join_0 : (Rows.topCutHandsRow.wf (OpenSpec.ofChange Rows.topCutHandsSpec)) = true := by kernel_rfl
theorem join_1 : (laidOutB Tryz.prog) = true := by kernel_rfl
theorem join_2 : (mapsRowed Tryz.prog) = true := by kernel_rfl
theorem join_3 : (Tryz.f4.params.all (Tryz.prog.readableRec ·)) = true := by kernel_rfl
theorem join_4 : (namedTie Tryz.prog Rows.topCutHandsRow.named Rows.topCutHandsSpec.vars) = true := by kernel_rfl
theorem join_5 : ((Rows.topCutHandsRow.stops == [])) = true := by kernel_rfl
theorem join_6 : ((Tryz.prog.stops == [])) = true := by kernel_rfl
theorem join_7 : ((Rows.topCutHandsRow.knobs == [])) = true := by kernel_rfl
theorem join_8 : ((Tryz.prog.stopKnobs == [])) = true := by kernel_rfl
theorem join_9 : ((Rows.topCutHandsRow.inPlace == Tryz.prog.inPlace 4)) = true := by kernel_rfl
theorem join_10 : ((Rows.topCutHandsRow.unfollowed == Tryz.prog.unfollowed 4)) = true := by kernel_rfl
theorem join_11 : ((Rows.topCutHandsRow.recurses == Tryz.prog.recurses 4)) = true := by kernel_rfl
theorem join_12 : ((Rows.topCutHandsRow.named == Tryz.prog.varsNamed 4)) = true := by kernel_rfl
theorem join_13 : ((Rows.topCutHandsRow.maps == (Tryz.f4.params.toList ++ Rows.topCutHandsSpec.plain.varTypes Tryz.prog).any (Tryz.prog.mapsRec ·))) = true := by kernel_rfl
theorem join_14 : ((Rows.topCutHandsRow.ifaces == (Tryz.f4.params.toList ++ Rows.topCutHandsSpec.plain.varTypes Tryz.prog).any (Tryz.prog.ifacesRec ·))) = true := by kernel_rfl
theorem join_15 : ((Rows.topCutHandsRow.mapsOut == Tryz.prog.mapsAmong Tryz.f4.resultTypes.toList)) = true := by kernel_rfl
theorem join_16 : ((Rows.topCutHandsRow.loops == (Tryz.f4.params.toList ++ Rows.topCutHandsSpec.plain.varTypes Tryz.prog).any (Tryz.prog.loopsFrom ·))) = true := by kernel_rfl
theorem join_17 : ((Rows.topCutHandsRow.wideKeys == (Tryz.f4.params.toList ++ Rows.topCutHandsSpec.plain.varTypes Tryz.prog ++ Tryz.f4.resultTypes.toList).any (Tryz.prog.wideKeysFrom ·))) = true := by kernel_rfl
theorem join_18 : (Rows.topCutHandsSpec.vars.all (Tryz.prog.varReadable ·)) = true := by kernel_rfl
theorem join_19 : (Tryz.f4.resultTypes.all (fun t => Tryz.prog.readableRec t && decide (t < Tryz.prog.types.size))) = true := by kernel_rfl
theorem join_20 : ((Rows.topCutHandsRow.ifacesOut == Tryz.f4.resultTypes.toList.any (Tryz.prog.ifacesRec ·))) = true := by kernel_rfl
theorem join_21 : ((Rows.topCutHandsRow.loopsOut == Tryz.f4.resultTypes.toList.any (Tryz.prog.loopsFrom ·))) = true := by kernel_rfl
theorem join_22 : ((Rows.topCutHandsRow.plainKeys == Tryz.prog.plainKeys)) = true := by kernel_rfl
theorem join_23 : (Rows.topCutHandsRow.shortTexts.isNone) = true := by kernel_rfl
theorem join_24 : (Tryz.prog.stopsHeard) = true := by kernel_rfl
theorem join_25 : (Tryz.prog.mayEnter) = true := by kernel_rfl
theorem join_26 : ((Rows.topCutHandsRow.lifted == Tryz.prog.liftsFinal)) = true := by kernel_rfl
theorem join_27 : ((Tryz.prog.make == some Rows.topCutHandsRow.make)) = true := by kernel_rfl
theorem join_28 : ((Rows.topCutHandsRow.kinds == (if Rows.topCutHandsRow.domain.isEmpty then [] else Tryz.f4.params.toList.map fun t => match Tryz.prog.underlying t with | some (.int k) => some k | _ => none))) = true := by kernel_rfl
theorem join_29 : ((Rows.topCutHandsRow.pinned == Rows.topCutHandsRow.pinnedBy)) = true := by kernel_rfl
theorem join_30 : ((Rows.topCutHandsRow.veiled == (Tryz.f4.params.toList ++ Rows.topCutHandsSpec.plain.varTypes Tryz.prog ++ Tryz.f4.resultTypes.toList).any (Tryz.prog.veiledRec ·))) = true := by kernel_rfl
theorem join_31 : (Rows.topCutHandsRow.veiledFits Tryz.prog Tryz.f4.params.toList (Tryz.f4.params.toList ++ Rows.topCutHandsSpec.plain.varTypes Tryz.prog ++ Tryz.f4.resultTypes.toList)) = true := by kernel_rfl
set_option maxRecDepth 100000 in
theorem joined : joinedFacts Tryz.prog 4 Tryz.f4 Rows.topCutHandsSpec Rows.topCutHandsRow = true := (join_and (join_and (join_and (join_and (join_and (join_and (join_and (join_and (join_and (join_and (join_and (join_and (join_and (join_and (join_and (join_and (join_and (join_and (join_and (join_and (join_and (join_and (join_and (join_and (join_and (join_and (join_and (join_and (join_and (join_and (join_and join_0 join_1) join_2) join_3) join_4) join_5) join_6) join_7) join_8) join_9) join_10) join_11) join_12) join_13) join_14) join_15) join_16) join_17) join_18) join_19) join_20) join_21) join_22) join_23) join_24) join_25) join_26) join_27) join_28) join_29) join_30) join_31)
theorem over : Rows.topCutHandsRow.holds Tryz.pinned (OpenSpec.ofChange Rows.topCutHandsSpec) :=
  OpenClaim.holds_of_wide 4 Tryz.f4 rfl rfl rfl rfl rfl rfl rfl ⟨rfl, rfl, rfl, rfl, rfl⟩ rfl rfl rfl rfl rfl (by kernel_rfl) Tryz.func4 joined
    (of_decide_eq_true (by kernel_rfl)) (by unfold Func.isWrapper; first | (rw [if_pos (by decide +kernel)]; kernel_rfl) | (rw [if_neg (by decide +kernel)]; exact ⟨rfl, rfl⟩))
    (fun os started H enc _ => lifted os started H enc)
/-- The statement. -/
theorem proved : Rows.TopCutHandsSaid := over
#print axioms proved
end Go.Proofs.YtckllniniolhcaaGreat.topCutHands
