/- What is proved: a lot turned at the same hours by the looks at it, if its door was surely opened at first, no look is wrong, and whoever had it at first is named alone, for any cargo, lot and hour, without any condition. -/
import Derived.Test.YtckllniniolhcaaGreatTopBlamedQ6
namespace Go.Proofs.YtckllniniolhcaaGreat.topBlamed
open Go.ChangeShapes Go.WideShapes Go.ChangeAt Go.RowKit Go.Am Go.Am.Room
set_option linter.unusedVariables false
set_option maxRecDepth 100000 in
theorem lifted (os : Os) (started : os.Started) (H : Type) (enc : TypeId × Value → H) :
    ReturnsInHanded {} Tryz.checked os 6 .any (Rows.topBlamedSpec.pre6 enc Tryz.prog Tryz.f6 Rows.topBlamedRow.domain false) (Rows.topBlamedSpec.post enc Tryz.prog Tryz.f6 false true false false) := by
  refine returnsInHanded_of_change_sized (C := Tryz.checked) own started (by kernel_rfl) Tryz.func6
    (ChangeSpec.witness6 (enc := enc) (C := Tryz.checked) false ⟨#[], #[.agg #[.slice none 0 0, .int .i64 0, .slice none 0 0, .slice none 0 0, .slice none 0 0], .agg #[.int .u8 0, .int .u8 0]], []⟩ 8 (by kernel_rfl) (by kernel_rfl) (by kernel_rfl) (by kernel_rfl)) ?_
  intro W base args ds gs before hval0 hW hcnd hsz _
  have hval : ∀ (j : Nat) t v, Tryz.f6.params[j]? = some t → args[j]? = some v → Value.okWide Tryz.prog W .any base t v := hval0
  have hW' := hW
  obtain ⟨p, q, hA0, hV, rfl, hfz, hnd⟩ := hW
  have hA : DataW.TrodAll enc Tryz.prog W 0 (fun _ => true) true Tryz.f6.params.toList args.toList ds p := hA0
  rw [Tryz.params6] at hA hval hsz
  obtain ⟨v0, vs0, d0, ds0, p0, q0, hargs, rfl, rfl, h0, r0⟩ := trodAll_cons hA
  obtain ⟨v1, vs1, d1, ds1, p1, q1, rfl, rfl, rfl, h1, r1⟩ := trodAll_cons r0
  obtain ⟨rfl, rfl, rfl⟩ := trodAll_nil r1
  obtain rfl : args = #[v0, v1] := by cases args; simp_all
  obtain ⟨rfl, rfl⟩ := trodVars_none hV
  have k0 := h0
  have lt0 : ∀ x ∈ p0, x.block < W.heap.size := by obtain ⟨m, hm⟩ := k0; exact DataW.trod_lt m _ _ _ hm
  obtain ⟨as0, t0, rel0⟩ := zN laidOut 6 (of_decide_eq_true (by kernel_rfl)) (by kernel_rfl) (hval 0 95 v0 rfl rfl) h0 (fun n hn => by have := List.all_eq_true.1 hsz n (DataW.weights_mem_each (j := 0) rfl rfl n hn); simpa using this)
  obtain ⟨x0, e0, f0⟩ := Tu.ty_car tys t0
  rw [e0] at rel0
  have k1 := h1
  have lt1 : ∀ x ∈ p1, x.block < W.heap.size := by obtain ⟨m, hm⟩ := k1; exact DataW.trod_lt m _ _ _ hm
  obtain ⟨as1, t1, rel1⟩ := zN laidOut 6 (of_decide_eq_true (by kernel_rfl)) (by kernel_rfl) (hval 1 102 v1 rfl rfl) h1 (fun n hn => by have := List.all_eq_true.1 hsz n (DataW.weights_mem_each (j := 1) rfl rfl n hn); simpa using this)
  obtain ⟨x1, yx1, e1, f1⟩ := Tu.ty_a2 tys t1
  rw [e1] at rel1
  clear hA0 hval0
  have run : Run T (.call 6 [Tu.encCar x0, .agg [.int .u8 x1, .int .u8 yx1]] []) fun o => o.v = .bool true := .mono (HL x0 f0 x1 yx1 f1.1 f1.2 []) fun o ho => ho.1
  refine (D4 hT (wM rel0 (wM rel1 ID)) run).mono fun e W' ⟨he, bel⟩ => ?_
  subst he
  exact ⟨_, rfl, _, _, _, [], _, [], hW', trodAll_mk1 (shut_bool Tryz.underlying4 _), (trodAll_cons_mk (Below.trod laidOut (by kernel_rfl) (of_decide_eq_true (by kernel_rfl)) k0 bel lt0) (trodAll_cons_mk (Below.trod laidOut (by kernel_rfl) (of_decide_eq_true (by kernel_rfl)) k1 bel lt1) trodAll_mk0)), rfl, bel.frame _, fun h => by cases h⟩
theorem join_and {a b : Bool} (ha : a = true) (hb : b = true) : (a && b) = true := by rw [ha, hb]; rfl
theorem join_0 : (Rows.topBlamedRow.wf (OpenSpec.ofChange Rows.topBlamedSpec)) = true := by kernel_rfl
theorem join_1 : (laidOutB Tryz.prog) = true := by kernel_rfl
theorem join_2 : (mapsRowed Tryz.prog) = true := by kernel_rfl
theorem join_3 : (Tryz.f6.params.all (Tryz.prog.readableRec ·)) = true := by kernel_rfl
theorem join_4 : (namedTie Tryz.prog Rows.topBlamedRow.named Rows.topBlamedSpec.vars) = true := by kernel_rfl
theorem join_5 : ((Rows.topBlamedRow.stops == [])) = true := by kernel_rfl
theorem join_6 : ((Tryz.prog.stops == [])) = true := by kernel_rfl
theorem join_7 : ((Rows.topBlamedRow.knobs == [])) = true := by kernel_rfl
theorem join_8 : ((Tryz.prog.stopKnobs == [])) = true := by kernel_rfl
theorem join_9 : ((Rows.topBlamedRow.inPlace == Tryz.prog.inPlace 6)) = true := by kernel_rfl
theorem join_10 : ((Rows.topBlamedRow.unfollowed == Tryz.prog.unfollowed 6)) = true := by kernel_rfl
theorem join_11 : ((Rows.topBlamedRow.recurses == Tryz.prog.recurses 6)) = true := by kernel_rfl
theorem join_12 : ((Rows.topBlamedRow.named == Tryz.prog.varsNamed 6)) = true := by kernel_rfl
theorem join_13 : ((Rows.topBlamedRow.maps == (Tryz.f6.params.toList ++ Rows.topBlamedSpec.plain.varTypes Tryz.prog).any (Tryz.prog.mapsRec ·))) = true := by kernel_rfl
theorem join_14 : ((Rows.topBlamedRow.ifaces == (Tryz.f6.params.toList ++ Rows.topBlamedSpec.plain.varTypes Tryz.prog).any (Tryz.prog.ifacesRec ·))) = true := by kernel_rfl
theorem join_15 : ((Rows.topBlamedRow.mapsOut == Tryz.prog.mapsAmong Tryz.f6.resultTypes.toList)) = true := by kernel_rfl
theorem join_16 : ((Rows.topBlamedRow.loops == (Tryz.f6.params.toList ++ Rows.topBlamedSpec.plain.varTypes Tryz.prog).any (Tryz.prog.loopsFrom ·))) = true := by kernel_rfl
theorem join_17 : ((Rows.topBlamedRow.wideKeys == (Tryz.f6.params.toList ++ Rows.topBlamedSpec.plain.varTypes Tryz.prog ++ Tryz.f6.resultTypes.toList).any (Tryz.prog.wideKeysFrom ·))) = true := by kernel_rfl
theorem join_18 : (Rows.topBlamedSpec.vars.all (Tryz.prog.varReadable ·)) = true := by kernel_rfl
theorem join_19 : (Tryz.f6.resultTypes.all (fun t => Tryz.prog.readableRec t && decide (t < Tryz.prog.types.size))) = true := by kernel_rfl
theorem join_20 : ((Rows.topBlamedRow.ifacesOut == Tryz.f6.resultTypes.toList.any (Tryz.prog.ifacesRec ·))) = true := by kernel_rfl
theorem join_21 : ((Rows.topBlamedRow.loopsOut == Tryz.f6.resultTypes.toList.any (Tryz.prog.loopsFrom ·))) = true := by kernel_rfl
theorem join_22 : ((Rows.topBlamedRow.plainKeys == Tryz.prog.plainKeys)) = true := by kernel_rfl
theorem join_23 : (Rows.topBlamedRow.shortTexts.isNone) = true := by kernel_rfl
theorem join_24 : (Tryz.prog.stopsHeard) = true := by kernel_rfl
theorem join_25 : (Tryz.prog.mayEnter) = true := by kernel_rfl
theorem join_26 : ((Rows.topBlamedRow.lifted == Tryz.prog.liftsFinal)) = true := by kernel_rfl
theorem join_27 : ((Tryz.prog.make == some Rows.topBlamedRow.make)) = true := by kernel_rfl
theorem join_28 : ((Rows.topBlamedRow.kinds == (if Rows.topBlamedRow.domain.isEmpty then [] else Tryz.f6.params.toList.map fun t => match Tryz.prog.underlying t with | some (.int k) => some k | _ => none))) = true := by kernel_rfl
theorem join_29 : ((Rows.topBlamedRow.pinned == Rows.topBlamedRow.pinnedBy)) = true := by kernel_rfl
theorem join_30 : ((Rows.topBlamedRow.veiled == (Tryz.f6.params.toList ++ Rows.topBlamedSpec.plain.varTypes Tryz.prog ++ Tryz.f6.resultTypes.toList).any (Tryz.prog.veiledRec ·))) = true := by kernel_rfl
theorem join_31 : (Rows.topBlamedRow.veiledFits Tryz.prog Tryz.f6.params.toList (Tryz.f6.params.toList ++ Rows.topBlamedSpec.plain.varTypes Tryz.prog ++ Tryz.f6.resultTypes.toList)) = true := by kernel_rfl
set_option maxRecDepth 100000 in
theorem joined : joinedFacts Tryz.prog 6 Tryz.f6 Rows.topBlamedSpec Rows.topBlamedRow = true := (join_and (join_and (join_and (join_and (join_and (join_and (join_and (join_and (join_and (join_and (join_and (join_and (join_and (join_and (join_and (join_and (join_and (join_and (join_and (join_and (join_and (join_and (join_and (join_and (join_and (join_and (join_and (join_and (join_and (join_and (join_and join_0 join_1) join_2) join_3) join_4) join_5) join_6) join_7) join_8) join_9) join_10) join_11) join_12) join_13) join_14) join_15) join_16) join_17) join_18) join_19) join_20) join_21) join_22) join_23) join_24) join_25) join_26) join_27) join_28) join_29) join_30) join_31)
theorem over : Rows.topBlamedRow.holds Tryz.pinned (OpenSpec.ofChange Rows.topBlamedSpec) :=
  OpenClaim.holds_of_wide 6 Tryz.f6 rfl rfl rfl rfl rfl rfl rfl ⟨rfl, rfl, rfl, rfl, rfl⟩ rfl rfl rfl rfl rfl (by kernel_rfl) Tryz.func6 joined
    (of_decide_eq_true (by kernel_rfl)) (by unfold Func.isWrapper; first | (rw [if_pos (by decide +kernel)]; kernel_rfl) | (rw [if_neg (by decide +kernel)]; exact ⟨rfl, rfl⟩))
    (fun os started H enc _ => lifted os started H enc)
/-- The statement. -/
theorem proved : Rows.TopBlamedSaid := over
#print axioms proved
end Go.Proofs.YtckllniniolhcaaGreat.topBlamed
