/- A part of the proof of DoorKnown: an abstract machine, or what functions come to on it. -/
import Derived.Test.YtefifnlhfmfnlaaAllQ6
set_option linter.unusedVariables false
set_option linter.unusedSimpArgs false
set_option linter.defProp false
namespace Go.Am.Room
theorem y1 : causesOf (exV []) 0 = ([0, 1, 2], 0) := by decide +kernel
theorem y2 : whoseOf (exV []) 0 = ([0, 1, 2], 0) := by decide +kernel
theorem y4 : fewestOf (exV []) = ([], 0) := by decide +kernel
theorem y5 : splitOf exL 0 = (7, 2, 0) := by decide +kernel
theorem y6 : wrongOf exL = ([], 0) := by decide +kernel
end Go.Am.Room
set_option maxRecDepth 8000
namespace Go.Am.Room
set_option maxHeartbeats 1000000 in
theorem doorknown_ok : Pure T 7 [] (.bool true) := by
 refine pure_fn (af := a7) rfl (by simp [a7]) datas_nil ?_
 (repeat (first | simp only [↓QA, QB, Nat.reduceLT, reduceIte, Nat.reduceEqDiff, Nat.reduceAdd, Nat.reduceLeDiff, Nat.reduceMul, Nat.reduceBEq, QXDDrQ2, a7] | refine rd0 rfl ?_))
 refine callK_v (exvoy_ok []) (by simp [clr, clrs]) (by simp [okV, okVs]) ?_
 (repeat (first | simp only [↓QA, QB, Nat.reduceLT, reduceIte, Nat.reduceEqDiff, Nat.reduceAdd, Nat.reduceLeDiff, Nat.reduceMul, Nat.reduceBEq, QXDDrQ2] | refine rd0 rfl ?_))
 ((first | refine callK_d (green_ok 6) rfl dd ?_ | refine callD_d (green_ok 6) rfl dd ?_); (repeat (first | simp only [↓QA, QB, Nat.reduceLT, reduceIte, Nat.reduceEqDiff, Nat.reduceAdd, Nat.reduceLeDiff, Nat.reduceMul, Nat.reduceBEq, QXDDrQ2] | refine rd0 rfl ?_)))
 ((first | refine callK_d (lturned_ok 10) rfl dd ?_ | refine callD_d (lturned_ok 10) rfl dd ?_); (repeat (first | simp only [↓QA, QB, Nat.reduceLT, reduceIte, Nat.reduceEqDiff, Nat.reduceAdd, Nat.reduceLeDiff, Nat.reduceMul, Nat.reduceBEq, QXDDrQ2] | refine rd0 rfl ?_)))
 refine callK_v (exvoy_ok [⟨0, 6, false⟩, ⟨0, 10, true⟩]) (by simp [clr, clrs, encLook]) (by simp [okV, okVs]) ?_
 (repeat (first | simp only [↓QA, QB, Nat.reduceLT, reduceIte, Nat.reduceEqDiff, Nat.reduceAdd, Nat.reduceLeDiff, Nat.reduceMul, Nat.reduceBEq, QXDDrQ2] | refine rd0 rfl ?_))
 ((first | refine callK_d (pcauses_ok (exV []) 0 (fits_ex _)) rfl dd ?_ | refine callD_d (pcauses_ok (exV []) 0 (fits_ex _)) rfl dd ?_); (repeat (first | simp only [↓QA, QB, Nat.reduceLT, reduceIte, Nat.reduceEqDiff, Nat.reduceAdd, Nat.reduceLeDiff, Nat.reduceMul, Nat.reduceBEq, QXDDrQ2, y1, encLE] | refine rd0 rfl ?_)))
 ((first | refine callK_d (pwhose_ok (exV []) 0 (fits_ex _)) rfl dd ?_ | refine callD_d (pwhose_ok (exV []) 0 (fits_ex _)) rfl dd ?_); (repeat (first | simp only [↓QA, QB, Nat.reduceLT, reduceIte, Nat.reduceEqDiff, Nat.reduceAdd, Nat.reduceLeDiff, Nat.reduceMul, Nat.reduceBEq, QXDDrQ2, y2, encLE] | refine rd0 rfl ?_)))
 ((first | refine callK_d (popened_ok exL (fits_ex _)) rfl dd ?_ | refine callD_d (popened_ok exL (fits_ex _)) rfl dd ?_); (repeat (first | simp only [↓QA, QB, Nat.reduceLT, reduceIte, Nat.reduceEqDiff, Nat.reduceAdd, Nat.reduceLeDiff, Nat.reduceMul, Nat.reduceBEq, QXDDrQ2, y3, encLLE] | refine rd0 rfl ?_)))
 ((first | refine callK_d (pfewest_ok (exV []) (fits_ex _)) rfl dd ?_ | refine callD_d (pfewest_ok (exV []) (fits_ex _)) rfl dd ?_); (repeat (first | simp only [↓QA, QB, Nat.reduceLT, reduceIte, Nat.reduceEqDiff, Nat.reduceAdd, Nat.reduceLeDiff, Nat.reduceMul, Nat.reduceBEq, QXDDrQ2, y4, encLE] | refine rd0 rfl ?_)))
 ((first | refine callK_d (psplit_ok exL 0 (fits_ex _)) rfl dd ?_ | refine callD_d (psplit_ok exL 0 (fits_ex _)) rfl dd ?_); (repeat (first | simp only [↓QA, QB, Nat.reduceLT, reduceIte, Nat.reduceEqDiff, Nat.reduceAdd, Nat.reduceLeDiff, Nat.reduceMul, Nat.reduceBEq, QXDDrQ2, y5, enc3] | refine rd0 rfl ?_)))
 ((first | refine callK_d (pwrong_ok exL (fits_ex _)) rfl dd ?_ | refine callD_d (pwrong_ok exL (fits_ex _)) rfl dd ?_); (repeat (first | simp only [↓QA, QB, Nat.reduceLT, reduceIte, Nat.reduceEqDiff, Nat.reduceAdd, Nat.reduceLeDiff, Nat.reduceMul, Nat.reduceBEq, QXDDrQ2, y6, encLE] | refine rd0 rfl ?_)))
 ((first | refine callK_v (ints_ok [0, 1, 2] [0, 1, 2] (by simp) (by simp)) (by simp [clr, clrs, ints]) (by simp [okV, okVs]) ?_ | refine callD_v (ints_ok [0, 1, 2] [0, 1, 2] (by simp) (by simp)) (by simp [clr, clrs, ints]) (by simp [okV, okVs]) ?_); (repeat (first | simp only [↓QA, QB, Nat.reduceLT, reduceIte, Nat.reduceEqDiff, Nat.reduceAdd, Nat.reduceLeDiff, Nat.reduceMul, Nat.reduceBEq, QXDDrQ2, eq_self] | refine rd0 rfl ?_)))
 ((first | refine callK_v (ints_ok [0, 1, 2] [0, 1, 2] (by simp) (by simp)) (by simp [clr, clrs, ints]) (by simp [okV, okVs]) ?_ | refine callD_v (ints_ok [0, 1, 2] [0, 1, 2] (by simp) (by simp)) (by simp [clr, clrs, ints]) (by simp [okV, okVs]) ?_); (repeat (first | simp only [↓QA, QB, Nat.reduceLT, reduceIte, Nat.reduceEqDiff, Nat.reduceAdd, Nat.reduceLeDiff, Nat.reduceMul, Nat.reduceBEq, QXDDrQ2, eq_self] | refine rd0 rfl ?_)))
 ((first | refine callK_v (ints_ok [0, 1, 2] [0, 1, 2] (by simp) (by simp)) (by simp [clr, clrs, ints]) (by simp [okV, okVs]) ?_ | refine callD_v (ints_ok [0, 1, 2] [0, 1, 2] (by simp) (by simp)) (by simp [clr, clrs, ints]) (by simp [okV, okVs]) ?_); (repeat (first | simp only [↓QA, QB, Nat.reduceLT, reduceIte, Nat.reduceEqDiff, Nat.reduceAdd, Nat.reduceLeDiff, Nat.reduceMul, Nat.reduceBEq, QXDDrQ2, eq_self] | refine rd0 rfl ?_)))
 ((first | refine callK_v (ints_ok [0, 1, 2] [0, 1, 2] (by simp) (by simp)) (by simp [clr, clrs, ints]) (by simp [okV, okVs]) ?_ | refine callD_v (ints_ok [0, 1, 2] [0, 1, 2] (by simp) (by simp)) (by simp [clr, clrs, ints]) (by simp [okV, okVs]) ?_); (repeat (first | simp only [↓QA, QB, Nat.reduceLT, reduceIte, Nat.reduceEqDiff, Nat.reduceAdd, Nat.reduceLeDiff, Nat.reduceMul, Nat.reduceBEq, QXDDrQ2, eq_self, show (((0 : Nat) : Int) == 0) = true from rfl] | refine rd0 rfl ?_)))
 refine callK_d awake_ok rfl datas_nil ?_
 (repeat (first | simp only [↓QA, QB, Nat.reduceLT, reduceIte, Nat.reduceEqDiff, Nat.reduceAdd, Nat.reduceLeDiff, Nat.reduceMul, Nat.reduceBEq, QXDDrQ2] | refine rd0 rfl ?_))
end Go.Am.Room
