/- What is proved: if the bunches of each farm come by a tram, the cables of the plan for as many days as its tram needs at most do so, the ship is full and no more is cut in vain, in any truth of trams, for any net, port and truth, without any condition. -/
import Derived.Test.YtckllniniolhcaaGreatTopTramsQ6
namespace Go.Proofs.YtckllniniolhcaaGreat.topTrams
open Go.ChangeShapes Go.WideShapes Go.ChangeAt Go.RowKit Go.Am Go.Am.Room
set_option linter.unusedVariables false
set_option maxRecDepth 100000 in
theorem lifted (os : Os) (started : os.Started) (H : Type) (enc : TypeId × Value → H) :
    ReturnsInHanded {} Tryz.checked os 7 .any (Rows.topTramsSpec.pre6 enc Tryz.prog Tryz.f7 Rows.topTramsRow.domain false) (Rows.topTramsSpec.post enc Tryz.prog Tryz.f7 false true false false) := by
  refine returnsInHanded_of_change_sized (C := Tryz.checked) own started (by kernel_rfl) Tryz.func7
    (ChangeSpec.witness6 (enc := enc) (C := Tryz.checked) false ⟨#[], #[.agg #[.int .i64 0, .slice none 0 0, .slice none 0 0, .slice none 0 0], .agg #[.int .i64 0, .int .i64 0, .int .i64 0, .slice none 0 0], .int .u16 0], []⟩ 8 (by kernel_rfl) (by kernel_rfl) (by kernel_rfl) (by kernel_rfl)) ?_
  intro W base args ds gs before hval0 hW hcnd hsz _
  have hval : ∀ (j : Nat) t v, Tryz.f7.params[j]? = some t → args[j]? = some v → Value.okWide Tryz.prog W .any base t v := hval0
  have hW' := hW
  obtain ⟨p, q, hA0, hV, rfl, hfz, hnd⟩ := hW
  have hA : DataW.TrodAll enc Tryz.prog W 0 (fun _ => true) true Tryz.f7.params.toList args.toList ds p := hA0
  rw [Tryz.params7] at hA hval hsz
  obtain ⟨v0, vs0, d0, ds0, p0, q0, hargs, rfl, rfl, h0, r0⟩ := trodAll_cons hA
  obtain ⟨v1, vs1, d1, ds1, p1, q1, rfl, rfl, rfl, h1, r1⟩ := trodAll_cons r0
  obtain ⟨v2, vs2, d2, ds2, p2, q2, rfl, rfl, rfl, h2, r2⟩ := trodAll_cons r1
  obtain ⟨rfl, rfl, rfl⟩ := trodAll_nil r2
  obtain rfl : args = #[v0, v1, v2] := by cases args; simp_all
  obtain ⟨rfl, rfl⟩ := trodVars_none hV
  have k0 := h0
  have lt0 : ∀ x ∈ p0, x.block < W.heap.size := by obtain ⟨m, hm⟩ := k0; exact DataW.trod_lt m _ _ _ hm
  obtain ⟨as0, t0, rel0⟩ := t8 laidOut 6 (of_decide_eq_true (by kernel_rfl)) (by kernel_rfl) (hval 0 128 v0 rfl rfl) h0 (fun n hn => by have := List.all_eq_true.1 hsz n (DataW.weights_mem_each (j := 0) rfl rfl n hn); simpa using this)
  obtain ⟨x0, e0, f0⟩ := Ca.ty_net tys t0
  rw [e0] at rel0
  have k1 := h1
  have lt1 : ∀ x ∈ p1, x.block < W.heap.size := by obtain ⟨m, hm⟩ := k1; exact DataW.trod_lt m _ _ _ hm
  obtain ⟨as1, t1, rel1⟩ := t8 laidOut 6 (of_decide_eq_true (by kernel_rfl)) (by kernel_rfl) (hval 1 131 v1 rfl rfl) h1 (fun n hn => by have := List.all_eq_true.1 hsz n (DataW.weights_mem_each (j := 1) rfl rfl n hn); simpa using this)
  obtain ⟨x1, e1, f1⟩ := Ca.ty_port tys t1
  rw [e1] at rel1
  have k2 := h2
  have lt2 : ∀ x ∈ p2, x.block < W.heap.size := by obtain ⟨m, hm⟩ := k2; exact DataW.trod_lt m _ _ _ hm
  obtain ⟨as2, t2, rel2⟩ := t8 laidOut 6 (of_decide_eq_true (by kernel_rfl)) (by kernel_rfl) (hval 2 64 v2 rfl rfl) h2 (fun n hn => by have := List.all_eq_true.1 hsz n (DataW.weights_mem_each (j := 2) rfl rfl n hn); simpa using this)
  obtain ⟨x2, e2, f2⟩ := Ca.ty_u16 tys t2
  rw [e2] at rel2
  clear hA0 hval0
  have run : Run T (.call 7 [Tr.encNet x0, Ca.encPort x1, .int .u16 x2] []) fun o => o.v = .bool true := .mono ((show cP T 7 [Tr.encNet x0, Ca.encPort x1, .int .u16 x2] (.bool true) from by have := Ca.toptrams_ok x0 x1 (x2).toNat f0 f1 (by have := f2; omega); rwa [Int.toNat_of_nonneg (f2).1] at this) []) fun o ho => ho.1
  refine (E4 hT (sX rel0 (sX rel1 (sX rel2 MC))) run).mono fun e W' ⟨he, bel⟩ => ?_
  subst he
  exact ⟨_, rfl, _, _, _, [], _, [], hW', trodAll_mk1 (shut_bool Tryz.underlying4 _), (trodAll_cons_mk (Below.trod laidOut (by kernel_rfl) (of_decide_eq_true (by kernel_rfl)) k0 bel lt0) (trodAll_cons_mk (Below.trod laidOut (by kernel_rfl) (of_decide_eq_true (by kernel_rfl)) k1 bel lt1) (trodAll_cons_mk (Below.trod laidOut (by kernel_rfl) (of_decide_eq_true (by kernel_rfl)) k2 bel lt2) trodAll_mk0))), rfl, bel.frame _, fun h => by cases h⟩
theorem join_and {a b : Bool} (ha : a = true) (hb : b = true) : (a && b) = true := by rw [ha, hb]; rfl
theorem join_0 : (Rows.topTramsRow.wf (OpenSpec.ofChange Rows.topTramsSpec)) = true := by kernel_rfl
theorem join_1 : (laidOutB Tryz.prog) = true := by kernel_rfl
theorem join_2 : (mapsRowed Tryz.prog) = true := by kernel_rfl
theorem join_3 : (Tryz.f7.params.all (Tryz.prog.readableRec ·)) = true := by kernel_rfl
theorem join_4 : (namedTie Tryz.prog Rows.topTramsRow.named Rows.topTramsSpec.vars) = true := by kernel_rfl
theorem join_5 : ((Rows.topTramsRow.stops == [])) = true := by kernel_rfl
theorem join_6 : ((Tryz.prog.stops == [])) = true := by kernel_rfl
theorem join_7 : ((Rows.topTramsRow.knobs == [])) = true := by kernel_rfl
theorem join_8 : ((Tryz.prog.stopKnobs == [])) = true := by kernel_rfl
theorem join_9 : ((Rows.topTramsRow.inPlace == Tryz.prog.inPlace 7)) = true := by kernel_rfl
theorem join_10 : ((Rows.topTramsRow.unfollowed == Tryz.prog.unfollowed 7)) = true := by kernel_rfl
theorem join_11 : ((Rows.topTramsRow.recurses == Tryz.prog.recurses 7)) = true := by kernel_rfl
theorem join_12 : ((Rows.topTramsRow.named == Tryz.prog.varsNamed 7)) = true := by kernel_rfl
theorem join_13 : ((Rows.topTramsRow.maps == (Tryz.f7.params.toList ++ Rows.topTramsSpec.plain.varTypes Tryz.prog).any (Tryz.prog.mapsRec ·))) = true := by kernel_rfl
theorem join_14 : ((Rows.topTramsRow.ifaces == (Tryz.f7.params.toList ++ Rows.topTramsSpec.plain.varTypes Tryz.prog).any (Tryz.prog.ifacesRec ·))) = true := by kernel_rfl
theorem join_15 : ((Rows.topTramsRow.mapsOut == Tryz.prog.mapsAmong Tryz.f7.resultTypes.toList)) = true := by kernel_rfl
theorem join_16 : ((Rows.topTramsRow.loops == (Tryz.f7.params.toList ++ Rows.topTramsSpec.plain.varTypes Tryz.prog).any (Tryz.prog.loopsFrom ·))) = true := by kernel_rfl
theorem join_17 : ((Rows.topTramsRow.wideKeys == (Tryz.f7.params.toList ++ Rows.topTramsSpec.plain.varTypes Tryz.prog ++ Tryz.f7.resultTypes.toList).any (Tryz.prog.wideKeysFrom ·))) = true := by kernel_rfl
theorem join_18 : (Rows.topTramsSpec.vars.all (Tryz.prog.varReadable ·)) = true := by kernel_rfl
theorem join_19 : (Tryz.f7.resultTypes.all (fun t => Tryz.prog.readableRec t && decide (t < Tryz.prog.types.size))) = true := by kernel_rfl
theorem join_20 : ((Rows.topTramsRow.ifacesOut == Tryz.f7.resultTypes.toList.any (Tryz.prog.ifacesRec ·))) = true := by kernel_rfl
theorem join_21 : ((Rows.topTramsRow.loopsOut == Tryz.f7.resultTypes.toList.any (Tryz.prog.loopsFrom ·))) = true := by kernel_rfl
theorem join_22 : ((Rows.topTramsRow.plainKeys == Tryz.prog.plainKeys)) = true := by kernel_rfl
theorem join_23 : (Rows.topTramsRow.shortTexts.isNone) = true := by kernel_rfl
theorem join_24 : (Tryz.prog.stopsHeard) = true := by kernel_rfl
theorem join_25 : (Tryz.prog.mayEnter) = true := by kernel_rfl
theorem join_26 : ((Rows.topTramsRow.lifted == Tryz.prog.liftsFinal)) = true := by kernel_rfl
theorem join_27 : ((Tryz.prog.make == some Rows.topTramsRow.make)) = true := by kernel_rfl
theorem join_28 : ((Rows.topTramsRow.kinds == (if Rows.topTramsRow.domain.isEmpty then [] else Tryz.f7.params.toList.map fun t => match Tryz.prog.underlying t with | some (.int k) => some k | _ => none))) = true := by kernel_rfl
theorem join_29 : ((Rows.topTramsRow.pinned == Rows.topTramsRow.pinnedBy)) = true := by kernel_rfl
theorem join_30 : ((Rows.topTramsRow.veiled == (Tryz.f7.params.toList ++ Rows.topTramsSpec.plain.varTypes Tryz.prog ++ Tryz.f7.resultTypes.toList).any (Tryz.prog.veiledRec ·))) = true := by kernel_rfl
theorem join_31 : (Rows.topTramsRow.veiledFits Tryz.prog Tryz.f7.params.toList (Tryz.f7.params.toList ++ Rows.topTramsSpec.plain.varTypes Tryz.prog ++ Tryz.f7.resultTypes.toList)) = true := by kernel_rfl
set_option maxRecDepth 100000 in
theorem joined : joinedFacts Tryz.prog 7 Tryz.f7 Rows.topTramsSpec Rows.topTramsRow = true := (join_and (join_and (join_and (join_and (join_and (join_and (join_and (join_and (join_and (join_and (join_and (join_and (join_and (join_and (join_and (join_and (join_and (join_and (join_and (join_and (join_and (join_and (join_and (join_and (join_and (join_and (join_and (join_and (join_and (join_and (join_and join_0 join_1) join_2) join_3) join_4) join_5) join_6) join_7) join_8) join_9) join_10) join_11) join_12) join_13) join_14) join_15) join_16) join_17) join_18) join_19) join_20) join_21) join_22) join_23) join_24) join_25) join_26) join_27) join_28) join_29) join_30) join_31)
theorem over : Rows.topTramsRow.holds Tryz.pinned (OpenSpec.ofChange Rows.topTramsSpec) :=
  OpenClaim.holds_of_wide 7 Tryz.f7 rfl rfl rfl rfl rfl rfl rfl ⟨rfl, rfl, rfl, rfl, rfl⟩ rfl rfl rfl rfl rfl (by kernel_rfl) Tryz.func7 joined
    (of_decide_eq_true (by kernel_rfl)) (by unfold Func.isWrapper; first | (rw [if_pos (by decide +kernel)]; kernel_rfl) | (rw [if_neg (by decide +kernel)]; exact ⟨rfl, rfl⟩))
    (fun os started H enc _ => lifted os started H enc)
/-- The statement. -/
theorem proved : Rows.TopTramsSaid := over
#print axioms proved
end Go.Proofs.YtckllniniolhcaaGreat.topTrams
