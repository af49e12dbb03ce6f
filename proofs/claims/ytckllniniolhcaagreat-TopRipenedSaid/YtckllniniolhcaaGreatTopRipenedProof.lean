/- What is proved: a plot that surely can be cut on a day neither shrinks nor ripens on the way, with any of the days that its trams need, in any truth, for any farm and net, without any condition. -/
import Derived.Test.YtckllniniolhcaaGreatTopRipenedQ7
namespace Go.Proofs.YtckllniniolhcaaGreat.topRipened
open Go.ChangeShapes Go.WideShapes Go.ChangeAt Go.RowKit Go.Am Go.Am.Room
set_option linter.unusedVariables false
set_option maxRecDepth 100000 in
theorem lifted (os : Os) (started : os.Started) (H : Type) (enc : TypeId × Value → H) :
    ReturnsInHanded {} Tryz.checked os 8 .any (Rows.topRipenedSpec.pre6 enc Tryz.prog Tryz.f8 Rows.topRipenedRow.domain false) (Rows.topRipenedSpec.post enc Tryz.prog Tryz.f8 false true false false) := by
  refine returnsInHanded_of_change_sized (C := Tryz.checked) own started (by kernel_rfl) Tryz.func8
    (ChangeSpec.witness6 (enc := enc) (C := Tryz.checked) false ⟨#[], #[.agg #[.slice none 0 0, .int .i64 0, .int .i64 0, .int .i64 0, .int .i64 0, .slice none 0 0, .slice none 0 0], .agg #[.int .i64 0, .slice none 0 0, .slice none 0 0, .slice none 0 0], .slice none 0 0], []⟩ 8 (by kernel_rfl) (by kernel_rfl) (by kernel_rfl) (by kernel_rfl)) ?_
  intro W base args ds gs before hval0 hW hcnd hsz _
  have hval : ∀ (j : Nat) t v, Tryz.f8.params[j]? = some t → args[j]? = some v → Value.okWide Tryz.prog W .any base t v := hval0
  have hW' := hW
  obtain ⟨p, q, hA0, hV, rfl, hfz, hnd⟩ := hW
  have hA : DataW.TrodAll enc Tryz.prog W 0 (fun _ => true) true Tryz.f8.params.toList args.toList ds p := hA0
  rw [Tryz.params8] at hA hval hsz
  obtain ⟨v0, vs0, d0, ds0, p0, q0, hargs, rfl, rfl, h0, r0⟩ := trodAll_cons hA
  obtain ⟨v1, vs1, d1, ds1, p1, q1, rfl, rfl, rfl, h1, r1⟩ := trodAll_cons r0
  obtain ⟨v2, vs2, d2, ds2, p2, q2, rfl, rfl, rfl, h2, r2⟩ := trodAll_cons r1
  obtain ⟨rfl, rfl, rfl⟩ := trodAll_nil r2
  obtain rfl : args = #[v0, v1, v2] := by cases args; simp_all
  obtain ⟨rfl, rfl⟩ := trodVars_none hV
  have k0 := h0
  have lt0 : ∀ x ∈ p0, x.block < W.heap.size := by obtain ⟨m, hm⟩ := k0; exact DataW.trod_lt m _ _ _ hm
  obtain ⟨as0, t0, rel0⟩ := wO laidOut 6 (of_decide_eq_true (by kernel_rfl)) (by kernel_rfl) (hval 0 28 v0 rfl rfl) h0 (fun n hn => by have := List.all_eq_true.1 hsz n (DataW.weights_mem_each (j := 0) rfl rfl n hn); simpa using this)
  obtain ⟨x0, e0, f0⟩ := Fa.ty_farm tys t0
  rw [e0] at rel0
  have k1 := h1
  have lt1 : ∀ x ∈ p1, x.block < W.heap.size := by obtain ⟨m, hm⟩ := k1; exact DataW.trod_lt m _ _ _ hm
  obtain ⟨as1, t1, rel1⟩ := wO laidOut 6 (of_decide_eq_true (by kernel_rfl)) (by kernel_rfl) (hval 1 128 v1 rfl rfl) h1 (fun n hn => by have := List.all_eq_true.1 hsz n (DataW.weights_mem_each (j := 1) rfl rfl n hn); simpa using this)
  obtain ⟨x1, e1, f1⟩ := Fa.ty_net tys t1
  rw [e1] at rel1
  have k2 := h2
  have lt2 : ∀ x ∈ p2, x.block < W.heap.size := by obtain ⟨m, hm⟩ := k2; exact DataW.trod_lt m _ _ _ hm
  obtain ⟨as2, t2, rel2⟩ := wO laidOut 6 (of_decide_eq_true (by kernel_rfl)) (by kernel_rfl) (hval 2 34 v2 rfl rfl) h2 (fun n hn => by have := List.all_eq_true.1 hsz n (DataW.weights_mem_each (j := 2) rfl rfl n hn); simpa using this)
  obtain ⟨x2, e2, f2⟩ := Fa.ty_u8s tys t2
  rw [e2] at rel2
  clear hA0 hval0
  have run : Run T (.call 8 [Fa.encFarm x0, Tr.encNet x1, Fa.u8s x2] []) fun o => o.v = .bool true := .mono (Fa.topripened_ok x0 x1 x2 f0 f1 f2 []) fun o ho => ho.1
  refine (ID hT (tZ rel0 (tZ rel1 (tZ rel2 MY))) run).mono fun e W' ⟨he, bel⟩ => ?_
  subst he
  exact ⟨_, rfl, _, _, _, [], _, [], hW', trodAll_mk1 (shut_bool Tryz.underlying4 _), (trodAll_cons_mk (Below.trod laidOut (by kernel_rfl) (of_decide_eq_true (by kernel_rfl)) k0 bel lt0) (trodAll_cons_mk (Below.trod laidOut (by kernel_rfl) (of_decide_eq_true (by kernel_rfl)) k1 bel lt1) (trodAll_cons_mk (Below.trod laidOut (by kernel_rfl) (of_decide_eq_true (by kernel_rfl)) k2 bel lt2) trodAll_mk0))), rfl, bel.frame _, fun h => by cases h⟩
theorem join_and {a b : Bool} (ha : a = true) (hb : b = true) : (a && b) = true := by rw [ha, hb]; rfl
theorem join_0 : (Rows.topRipenedRow.wf (OpenSpec.ofChange Rows.topRipenedSpec)) = true := by kernel_rfl
theorem join_1 : (laidOutB Tryz.prog) = true := by kernel_rfl
theorem join_2 : (mapsRowed Tryz.prog) = true := by kernel_rfl
theorem join_3 : (Tryz.f8.params.all (Tryz.prog.readableRec ·)) = true := by kernel_rfl
theorem join_4 : (namedTie Tryz.prog Rows.topRipenedRow.named Rows.topRipenedSpec.vars) = true := by kernel_rfl
theorem join_5 : ((Rows.topRipenedRow.stops == [])) = true := by kernel_rfl
theorem join_6 : ((Tryz.prog.stops == [])) = true := by kernel_rfl
theorem join_7 : ((Rows.topRipenedRow.knobs == [])) = true := by kernel_rfl
theorem join_8 : ((Tryz.prog.stopKnobs == [])) = true := by kernel_rfl
theorem join_9 : ((Rows.topRipenedRow.inPlace == Tryz.prog.inPlace 8)) = true := by kernel_rfl
theorem join_10 : ((Rows.topRipenedRow.unfollowed == Tryz.prog.unfollowed 8)) = true := by kernel_rfl
theorem join_11 : ((Rows.topRipenedRow.recurses == Tryz.prog.recurses 8)) = true := by kernel_rfl
theorem join_12 : ((Rows.topRipenedRow.named == Tryz.prog.varsNamed 8)) = true := by kernel_rfl
theorem join_13 : ((Rows.topRipenedRow.maps == (Tryz.f8.params.toList ++ Rows.topRipenedSpec.plain.varTypes Tryz.prog).any (Tryz.prog.mapsRec ·))) = true := by kernel_rfl
theorem join_14 : ((Rows.topRipenedRow.ifaces == (Tryz.f8.params.toList ++ Rows.topRipenedSpec.plain.varTypes Tryz.prog).any (Tryz.prog.ifacesRec ·))) = true := by kernel_rfl
theorem join_15 : ((Rows.topRipenedRow.mapsOut == Tryz.prog.mapsAmong Tryz.f8.resultTypes.toList)) = true := by kernel_rfl
theorem join_16 : ((Rows.topRipenedRow.loops == (Tryz.f8.params.toList ++ Rows.topRipenedSpec.plain.varTypes Tryz.prog).any (Tryz.prog.loopsFrom ·))) = true := by kernel_rfl
theorem join_17 : ((Rows.topRipenedRow.wideKeys == (Tryz.f8.params.toList ++ Rows.topRipenedSpec.plain.varTypes Tryz.prog ++ Tryz.f8.resultTypes.toList).any (Tryz.prog.wideKeysFrom ·))) = true := by kernel_rfl
theorem join_18 : (Rows.topRipenedSpec.vars.all (Tryz.prog.varReadable ·)) = true := by kernel_rfl
theorem join_19 : (Tryz.f8.resultTypes.all (fun t => Tryz.prog.readableRec t && decide (t < Tryz.prog.types.size))) = true := by kernel_rfl
theorem join_20 : ((Rows.topRipenedRow.ifacesOut == Tryz.f8.resultTypes.toList.any (Tryz.prog.ifacesRec ·))) = true := by kernel_rfl
theorem join_21 : ((Rows.topRipenedRow.loopsOut == Tryz.f8.resultTypes.toList.any (Tryz.prog.loopsFrom ·))) = true := by kernel_rfl
theorem join_22 : ((Rows.topRipenedRow.plainKeys == Tryz.prog.plainKeys)) = true := by kernel_rfl
theorem join_23 : (Rows.topRipenedRow.shortTexts.isNone) = true := by kernel_rfl
theorem join_24 : (Tryz.prog.stopsHeard) = true := by kernel_rfl
theorem join_25 : (Tryz.prog.mayEnter) = true := by kernel_rfl
theorem join_26 : ((Rows.topRipenedRow.lifted == Tryz.prog.liftsFinal)) = true := by kernel_rfl
theorem join_27 : ((Tryz.prog.make == some Rows.topRipenedRow.make)) = true := by kernel_rfl
theorem join_28 : ((Rows.topRipenedRow.kinds == (if Rows.topRipenedRow.domain.isEmpty then [] else Tryz.f8.params.toList.map fun t => match Tryz.prog.underlying t with | some (.int k) => some k | _ => none))) = true := by kernel_rfl
theorem join_29 : ((Rows.topRipenedRow.pinned == Rows.topRipenedRow.pinnedBy)) = true := by kernel_rfl
theorem join_30 : ((Rows.topRipenedRow.veiled == (Tryz.f8.params.toList ++ Rows.topRipenedSpec.plain.varTypes Tryz.prog ++ Tryz.f8.resultTypes.toList).any (Tryz.prog.veiledRec ·))) = true := by kernel_rfl
theorem join_31 : (Rows.topRipenedRow.veiledFits Tryz.prog Tryz.f8.params.toList (Tryz.f8.params.toList ++ Rows.topRipenedSpec.plain.varTypes Tryz.prog ++ Tryz.f8.resultTypes.toList)) = true := by kernel_rfl
set_option maxRecDepth 100000 in
theorem joined : joinedFacts Tryz.prog 8 Tryz.f8 Rows.topRipenedSpec Rows.topRipenedRow = true := (join_and (join_and (join_and (join_and (join_and (join_and (join_and (join_and (join_and (join_and (join_and (join_and (join_and (join_and (join_and (join_and (join_and (join_and (join_and (join_and (join_and (join_and (join_and (join_and (join_and (join_and (join_and (join_and (join_and (join_and (join_and join_0 join_1) join_2) join_3) join_4) join_5) join_6) join_7) join_8) join_9) join_10) join_11) join_12) join_13) join_14) join_15) join_16) join_17) join_18) join_19) join_20) join_21) join_22) join_23) join_24) join_25) join_26) join_27) join_28) join_29) join_30) join_31)
theorem over : Rows.topRipenedRow.holds Tryz.pinned (OpenSpec.ofChange Rows.topRipenedSpec) :=
  OpenClaim.holds_of_wide 8 Tryz.f8 rfl rfl rfl rfl rfl rfl rfl ⟨rfl, rfl, rfl, rfl, rfl⟩ rfl rfl rfl rfl rfl (by kernel_rfl) Tryz.func8 joined
    (of_decide_eq_true (by kernel_rfl)) (by unfold Func.isWrapper; first | (rw [if_pos (by decide +kernel)]; kernel_rfl) | (rw [if_neg (by decide +kernel)]; exact ⟨rfl, rfl⟩))
    (fun os started H enc _ => lifted os started H enc)
/-- The statement. -/
theorem proved : Rows.TopRipenedSaid := over
#print axioms proved
end Go.Proofs.YtckllniniolhcaaGreat.topRipened
