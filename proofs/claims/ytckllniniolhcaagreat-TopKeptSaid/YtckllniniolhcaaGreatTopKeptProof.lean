/- What is proved: if a hold surely keeps its marks, what lies in it turns no sooner than is told for a hold that is as warm, and no later if it surely turns, in any truth of ducts, for any ship, hold, green and heat, without any condition. -/
import Derived.Test.YtckllniniolhcaaGreatTopKeptQ6
namespace Go.Proofs.YtckllniniolhcaaGreat.topKept
open Go.ChangeShapes Go.WideShapes Go.ChangeAt Go.RowKit Go.Am Go.Am.Room
set_option linter.unusedVariables false
set_option maxRecDepth 100000 in
theorem lifted (os : Os) (started : os.Started) (H : Type) (enc : TypeId × Value → H) :
    ReturnsInHanded {} Tryz.checked os 5 .any (Rows.topKeptSpec.pre6 enc Tryz.prog Tryz.f5 Rows.topKeptRow.domain false) (Rows.topKeptSpec.post enc Tryz.prog Tryz.f5 false true false false) := by
  refine returnsInHanded_of_change_sized (C := Tryz.checked) own started (by kernel_rfl) Tryz.func5
    (ChangeSpec.witness6 (enc := enc) (C := Tryz.checked) false ⟨#[], #[.agg #[.int .i64 0, .int .i64 0, .int .i64 0, .slice none 0 0, .int .i64 0, .slice none 0 0, .slice none 0 0], .agg #[.int .u8 0, .int .i64 0, .int .i64 0, .slice none 0 0, .slice none 0 0]], []⟩ 8 (by kernel_rfl) (by kernel_rfl) (by kernel_rfl) (by kernel_rfl)) ?_
  intro W base args ds gs before hval0 hW hcnd hsz _
  have hval : ∀ (j : Nat) t v, Tryz.f5.params[j]? = some t → args[j]? = some v → Value.okWide Tryz.prog W .any base t v := hval0
  have hW' := hW
  obtain ⟨p, q, hA0, hV, rfl, hfz, hnd⟩ := hW
  have hA : DataW.TrodAll enc Tryz.prog W 0 (fun _ => true) true Tryz.f5.params.toList args.toList ds p := hA0
  rw [Tryz.params5] at hA hval hsz
  obtain ⟨v0, vs0, d0, ds0, p0, q0, hargs, rfl, rfl, h0, r0⟩ := trodAll_cons hA
  obtain ⟨v1, vs1, d1, ds1, p1, q1, rfl, rfl, rfl, h1, r1⟩ := trodAll_cons r0
  obtain ⟨rfl, rfl, rfl⟩ := trodAll_nil r1
  obtain rfl : args = #[v0, v1] := by cases args; simp_all
  obtain ⟨rfl, rfl⟩ := trodVars_none hV
  have k0 := h0
  have lt0 : ∀ x ∈ p0, x.block < W.heap.size := by obtain ⟨m, hm⟩ := k0; exact DataW.trod_lt m _ _ _ hm
  obtain ⟨as0, t0, rel0⟩ := AP laidOut 6 (of_decide_eq_true (by kernel_rfl)) (by kernel_rfl) (hval 0 79 v0 rfl rfl) h0 (fun n hn => by have := List.all_eq_true.1 hsz n (DataW.weights_mem_each (j := 0) rfl rfl n hn); simpa using this)
  obtain ⟨x0, e0, f0⟩ := Ho.ty_ship tys t0
  rw [e0] at rel0
  have k1 := h1
  have lt1 : ∀ x ∈ p1, x.block < W.heap.size := by obtain ⟨m, hm⟩ := k1; exact DataW.trod_lt m _ _ _ hm
  obtain ⟨as1, t1, rel1⟩ := AP laidOut 6 (of_decide_eq_true (by kernel_rfl)) (by kernel_rfl) (hval 1 81 v1 rfl rfl) h1 (fun n hn => by have := List.all_eq_true.1 hsz n (DataW.weights_mem_each (j := 1) rfl rfl n hn); simpa using this)
  obtain ⟨x1, yx1, zx1, ux1, e1, f1⟩ := Ho.ty_kept tys t1
  rw [e1] at rel1
  clear hA0 hval0
  have run : Run T (.call 5 [Ho.encShip x0, .agg [.int .u8 x1, .int .i64 yx1.lo, .int .i64 yx1.hi, Tu.u8s zx1, Tu.u8s ux1]] []) fun o => o.v = .bool true := .mono (MK x0 f0 x1 f1.1 yx1 zx1 ux1 f1.2.1 f1.2.2 []) fun o ho => ho.1
  refine (E4 hT (xM rel0 (xM rel1 LQ)) run).mono fun e W' ⟨he, bel⟩ => ?_
  subst he
  exact ⟨_, rfl, _, _, _, [], _, [], hW', trodAll_mk1 (shut_bool Tryz.underlying4 _), (trodAll_cons_mk (Below.trod laidOut (by kernel_rfl) (of_decide_eq_true (by kernel_rfl)) k0 bel lt0) (trodAll_cons_mk (Below.trod laidOut (by kernel_rfl) (of_decide_eq_true (by kernel_rfl)) k1 bel lt1) trodAll_mk0)), rfl, bel.frame _, fun h => by cases h⟩
theorem join_and {a b : Bool} (ha : a = true) (hb : b = true) : (a && b) = true := by rw [ha, hb]; rfl
theorem join_0 : (Rows.topKeptRow.wf (OpenSpec.ofChange Rows.topKeptSpec)) = true := by kernel_rfl
theorem join_1 : (laidOutB Tryz.prog) = true := by kernel_rfl
theorem join_2 : (mapsRowed Tryz.prog) = true := by kernel_rfl
theorem join_3 : (Tryz.f5.params.all (Tryz.prog.readableRec ·)) = true := by kernel_rfl
theorem join_4 : (namedTie Tryz.prog Rows.topKeptRow.named Rows.topKeptSpec.vars) = true := by kernel_rfl
theorem join_5 : ((Rows.topKeptRow.stops == [])) = true := by kernel_rfl
theorem join_6 : ((Tryz.prog.stops == [])) = true := by kernel_rfl
theorem join_7 : ((Rows.topKeptRow.knobs == [])) = true := by kernel_rfl
theorem join_8 : ((Tryz.prog.stopKnobs == [])) = true := by kernel_rfl
theorem join_9 : ((Rows.topKeptRow.inPlace == Tryz.prog.inPlace 5)) = true := by kernel_rfl
theorem join_10 : ((Rows.topKeptRow.unfollowed == Tryz.prog.unfollowed 5)) = true := by kernel_rfl
theorem join_11 : ((Rows.topKeptRow.recurses == Tryz.prog.recurses 5)) = true := by kernel_rfl
theorem join_12 : ((Rows.topKeptRow.named == Tryz.prog.varsNamed 5)) = true := by kernel_rfl
theorem join_13 : ((Rows.topKeptRow.maps == (Tryz.f5.params.toList ++ Rows.topKeptSpec.plain.varTypes Tryz.prog).any (Tryz.prog.mapsRec ·))) = true := by kernel_rfl
theorem join_14 : ((Rows.topKeptRow.ifaces == (Tryz.f5.params.toList ++ Rows.topKeptSpec.plain.varTypes Tryz.prog).any (Tryz.prog.ifacesRec ·))) = true := by kernel_rfl
theorem join_15 : ((Rows.topKeptRow.mapsOut == Tryz.prog.mapsAmong Tryz.f5.resultTypes.toList)) = true := by kernel_rfl
theorem join_16 : ((Rows.topKeptRow.loops == (Tryz.f5.params.toList ++ Rows.topKeptSpec.plain.varTypes Tryz.prog).any (Tryz.prog.loopsFrom ·))) = true := by kernel_rfl
theorem join_17 : ((Rows.topKeptRow.wideKeys == (Tryz.f5.params.toList ++ Rows.topKeptSpec.plain.varTypes Tryz.prog ++ Tryz.f5.resultTypes.toList).any (Tryz.prog.wideKeysFrom ·))) = true := by kernel_rfl
theorem join_18 : (Rows.topKeptSpec.vars.all (Tryz.prog.varReadable ·)) = true := by kernel_rfl
theorem join_19 : (Tryz.f5.resultTypes.all (fun t => Tryz.prog.readableRec t && decide (t < Tryz.prog.types.size))) = true := by kernel_rfl
theorem join_20 : ((Rows.topKeptRow.ifacesOut == Tryz.f5.resultTypes.toList.any (Tryz.prog.ifacesRec ·))) = true := by kernel_rfl
theorem join_21 : ((Rows.topKeptRow.loopsOut == Tryz.f5.resultTypes.toList.any (Tryz.prog.loopsFrom ·))) = true := by kernel_rfl
theorem join_22 : ((Rows.topKeptRow.plainKeys == Tryz.prog.plainKeys)) = true := by kernel_rfl
theorem join_23 : (Rows.topKeptRow.shortTexts.isNone) = true := by kernel_rfl
theorem join_24 : (Tryz.prog.stopsHeard) = true := by kernel_rfl
theorem join_25 : (Tryz.prog.mayEnter) = true := by kernel_rfl
theorem join_26 : ((Rows.topKeptRow.lifted == Tryz.prog.liftsFinal)) = true := by kernel_rfl
theorem join_27 : ((Tryz.prog.make == some Rows.topKeptRow.make)) = true := by kernel_rfl
theorem join_28 : ((Rows.topKeptRow.kinds == (if Rows.topKeptRow.domain.isEmpty then [] else Tryz.f5.params.toList.map fun t => match Tryz.prog.underlying t with | some (.int k) => some k | _ => none))) = true := by kernel_rfl
theorem join_29 : ((Rows.topKeptRow.pinned == Rows.topKeptRow.pinnedBy)) = true := by kernel_rfl
theorem join_30 : ((Rows.topKeptRow.veiled == (Tryz.f5.params.toList ++ Rows.topKeptSpec.plain.varTypes Tryz.prog ++ Tryz.f5.resultTypes.toList).any (Tryz.prog.veiledRec ·))) = true := by kernel_rfl
theorem join_31 : (Rows.topKeptRow.veiledFits Tryz.prog Tryz.f5.params.toList (Tryz.f5.params.toList ++ Rows.topKeptSpec.plain.varTypes Tryz.prog ++ Tryz.f5.resultTypes.toList)) = true := by kernel_rfl
set_option maxRecDepth 100000 in
theorem joined : joinedFacts Tryz.prog 5 Tryz.f5 Rows.topKeptSpec Rows.topKeptRow = true := (join_and (join_and (join_and (join_and (join_and (join_and (join_and (join_and (join_and (join_and (join_and (join_and (join_and (join_and (join_and (join_and (join_and (join_and (join_and (join_and (join_and (join_and (join_and (join_and (join_and (join_and (join_and (join_and (join_and (join_and (join_and join_0 join_1) join_2) join_3) join_4) join_5) join_6) join_7) join_8) join_9) join_10) join_11) join_12) join_13) join_14) join_15) join_16) join_17) join_18) join_19) join_20) join_21) join_22) join_23) join_24) join_25) join_26) join_27) join_28) join_29) join_30) join_31)
theorem over : Rows.topKeptRow.holds Tryz.pinned (OpenSpec.ofChange Rows.topKeptSpec) :=
  OpenClaim.holds_of_wide 5 Tryz.f5 rfl rfl rfl rfl rfl rfl rfl ⟨rfl, rfl, rfl, rfl, rfl⟩ rfl rfl rfl rfl rfl (by kernel_rfl) Tryz.func5 joined
    (of_decide_eq_true (by kernel_rfl)) (by unfold Func.isWrapper; first | (rw [if_pos (by decide +kernel)]; kernel_rfl) | (rw [if_neg (by decide +kernel)]; exact ⟨rfl, rfl⟩))
    (fun os started H enc _ => lifted os started H enc)
/-- The statement. -/
theorem proved : Rows.TopKeptSaid := over
#print axioms proved
end Go.Proofs.YtckllniniolhcaaGreat.topKept
