/- A part of the proof of TramKnown: an abstract machine, or what functions come to on it. -/
import Derived.Test.YtnjlkiflililkaaCmpQ7
set_option linter.unusedVariables false
set_option linter.unusedSimpArgs false
set_option linter.defProp false
namespace Go.Am.Room
theorem y1 : pathsOf exH 2 = ([[2], [1, 0]], 0) := by decide +kernel
theorem y2 : pathsOf exH 0 = ([], 0) := by decide +kernel
theorem y3 : comesR exH 0 = (⟨9, 10⟩, 1, 0) := by decide +kernel
theorem y4 : lateOf exH = ([], [], 0) := by decide +kernel
theorem y5 : lateOf exT = ([0, 1], [0, 1], 0) := by decide +kernel
theorem y6 : moveOf exH = ([[1, 0], [3, 1, 0]], [], 0) := by decide +kernel
theorem y7 : shutOf exT = ([0], [0], 0) := by decide +kernel
theorem y8 : wrongOf exT = ([], 0) := by decide +kernel
end Go.Am.Room
set_option maxRecDepth 8000
namespace Go.Am.Room
set_option maxHeartbeats 1000000 in
theorem tramknown_ok : Pure T 7 [] (.bool true) := by
 refine pure_fn (af := a7) rfl (by simp [a7]) datas_nil ?_
 (repeat (first | simp only [↓QA, QB, Nat.reduceLT, reduceIte, Nat.reduceEqDiff, Nat.reduceAdd, Nat.reduceLeDiff, Nat.reduceMul, Nat.reduceBEq, QXGTrQ2, a7] | refine rd0 rfl ?_))
 refine callK_v (exnet_ok false []) (by simp [clr, clrs]) (by simp [okV, okVs]) ?_
 (repeat (first | simp only [↓QA, QB, Nat.reduceLT, reduceIte, Nat.reduceEqDiff, Nat.reduceAdd, Nat.reduceLeDiff, Nat.reduceMul, Nat.reduceBEq, QXGTrQ2] | refine rd0 rfl ?_))
 ((first | refine callK_d (at_ok 0 (-1)) rfl dd ?_ | refine callD_d (at_ok 0 (-1)) rfl dd ?_); (repeat (first | simp only [↓QA, QB, Nat.reduceLT, reduceIte, Nat.reduceEqDiff, Nat.reduceAdd, Nat.reduceLeDiff, Nat.reduceMul, Nat.reduceBEq, QXGTrQ2] | refine rd0 rfl ?_)))
 refine callK_v (exnet_ok true [⟨0, -1⟩]) (by simp [clr, clrs, encSeen]) (by simp [okV, okVs]) ?_
 (repeat (first | simp only [↓QA, QB, Nat.reduceLT, reduceIte, Nat.reduceEqDiff, Nat.reduceAdd, Nat.reduceLeDiff, Nat.reduceMul, Nat.reduceBEq, QXGTrQ2] | refine rd0 rfl ?_))
 ((first | refine callK_d (ppaths_ok exH (fits_ex _ _) 2) rfl dd ?_ | refine callD_d (ppaths_ok exH (fits_ex _ _) 2) rfl dd ?_); (repeat (first | simp only [↓QA, QB, Nat.reduceLT, reduceIte, Nat.reduceEqDiff, Nat.reduceAdd, Nat.reduceLeDiff, Nat.reduceMul, Nat.reduceBEq, QXGTrQ2, y1, encLLI] | refine rd0 rfl ?_)))
 ((first | refine callK_d (ppaths_ok exH (fits_ex _ _) 0) rfl dd ?_ | refine callD_d (ppaths_ok exH (fits_ex _ _) 0) rfl dd ?_); (repeat (first | simp only [↓QA, QB, Nat.reduceLT, reduceIte, Nat.reduceEqDiff, Nat.reduceAdd, Nat.reduceLeDiff, Nat.reduceMul, Nat.reduceBEq, QXGTrQ2, y2, encLLI] | refine rd0 rfl ?_)))
 ((first | refine callK_d (pcomes_ok exH (fits_ex _ _) 0) rfl dd ?_ | refine callD_d (pcomes_ok exH (fits_ex _ _) 0) rfl dd ?_); (repeat (first | simp only [↓QA, QB, Nat.reduceLT, reduceIte, Nat.reduceEqDiff, Nat.reduceAdd, Nat.reduceLeDiff, Nat.reduceMul, Nat.reduceBEq, QXGTrQ2, y3, encSIE] | refine rd0 rfl ?_)))
 ((first | refine callK_d (plate_ok exH (fits_ex _ _)) rfl dd ?_ | refine callD_d (plate_ok exH (fits_ex _ _)) rfl dd ?_); (repeat (first | simp only [↓QA, QB, Nat.reduceLT, reduceIte, Nat.reduceEqDiff, Nat.reduceAdd, Nat.reduceLeDiff, Nat.reduceMul, Nat.reduceBEq, QXGTrQ2, y4, encLLE] | refine rd0 rfl ?_)))
 ((first | refine callK_d (plate_ok exT (fits_ex _ _)) rfl dd ?_ | refine callD_d (plate_ok exT (fits_ex _ _)) rfl dd ?_); (repeat (first | simp only [↓QA, QB, Nat.reduceLT, reduceIte, Nat.reduceEqDiff, Nat.reduceAdd, Nat.reduceLeDiff, Nat.reduceMul, Nat.reduceBEq, QXGTrQ2, y5, encLLE] | refine rd0 rfl ?_)))
 ((first | refine callK_d (pmove_ok exH (fits_ex _ _)) rfl dd ?_ | refine callD_d (pmove_ok exH (fits_ex _ _)) rfl dd ?_); (repeat (first | simp only [↓QA, QB, Nat.reduceLT, reduceIte, Nat.reduceEqDiff, Nat.reduceAdd, Nat.reduceLeDiff, Nat.reduceMul, Nat.reduceBEq, QXGTrQ2, y6, encMove] | refine rd0 rfl ?_)))
 ((first | refine callK_d (pshut_ok exT (fits_ex _ _)) rfl dd ?_ | refine callD_d (pshut_ok exT (fits_ex _ _)) rfl dd ?_); (repeat (first | simp only [↓QA, QB, Nat.reduceLT, reduceIte, Nat.reduceEqDiff, Nat.reduceAdd, Nat.reduceLeDiff, Nat.reduceMul, Nat.reduceBEq, QXGTrQ2, y7, encLLE] | refine rd0 rfl ?_)))
 ((first | refine callK_d (pwrong_ok exT (fits_ex _ _)) rfl dd ?_ | refine callD_d (pwrong_ok exT (fits_ex _ _)) rfl dd ?_); (repeat (first | simp only [↓QA, QB, Nat.reduceLT, reduceIte, Nat.reduceEqDiff, Nat.reduceAdd, Nat.reduceLeDiff, Nat.reduceMul, Nat.reduceBEq, QXGTrQ2, y8, encLE] | refine rd0 rfl ?_)))
 refine callD_v (rows_same [[2], [1, 0]] (by simp)) (by simp [clr, clrs, ints, intss]) (by simp [okV, okVs, ints, intss]) ?_
 (repeat (first | simp only [↓QA, QB, Nat.reduceLT, reduceIte, Nat.reduceEqDiff, Nat.reduceAdd, Nat.reduceLeDiff, Nat.reduceMul, Nat.reduceBEq, QXGTrQ2, List.map_nil, List.length_nil, show (((0 : Nat) : Int) == 0) = true from rfl] | refine rd0 rfl ?_))
 ((first | refine callK_d (span_ok 9 10) rfl dd ?_ | refine callD_d (span_ok 9 10) rfl dd ?_); (repeat (first | simp only [↓QA, QB, Nat.reduceLT, reduceIte, Nat.reduceEqDiff, Nat.reduceAdd, Nat.reduceLeDiff, Nat.reduceMul, Nat.reduceBEq, QXGTrQ2, List.map_nil, List.length_nil, show (((0 : Nat) : Int) == 0) = true from rfl] | refine rd0 rfl ?_)))
 ((first | refine callK_v (ints_ok [0, 1] [0, 1] (by simp) (by simp)) (by simp [clr, clrs, ints]) (by simp [okV, okVs]) ?_ | refine callD_v (ints_ok [0, 1] [0, 1] (by simp) (by simp)) (by simp [clr, clrs, ints]) (by simp [okV, okVs]) ?_); (repeat (first | simp only [↓QA, QB, Nat.reduceLT, reduceIte, Nat.reduceEqDiff, Nat.reduceAdd, Nat.reduceLeDiff, Nat.reduceMul, Nat.reduceBEq, QXGTrQ2, eq_self, List.map_nil, List.length_nil, show (((0 : Nat) : Int) == 0) = true from rfl] | refine rd0 rfl ?_)))
 ((first | refine callK_v (ints_ok [0, 1] [0, 1] (by simp) (by simp)) (by simp [clr, clrs, ints]) (by simp [okV, okVs]) ?_ | refine callD_v (ints_ok [0, 1] [0, 1] (by simp) (by simp)) (by simp [clr, clrs, ints]) (by simp [okV, okVs]) ?_); (repeat (first | simp only [↓QA, QB, Nat.reduceLT, reduceIte, Nat.reduceEqDiff, Nat.reduceAdd, Nat.reduceLeDiff, Nat.reduceMul, Nat.reduceBEq, QXGTrQ2, eq_self, List.map_nil, List.length_nil, show (((0 : Nat) : Int) == 0) = true from rfl] | refine rd0 rfl ?_)))
 refine callD_v (rows_same [[1, 0], [3, 1, 0]] (by simp)) (by simp [clr, clrs, ints, intss]) (by simp [okV, okVs, ints, intss]) ?_
 (repeat (first | simp only [↓QA, QB, Nat.reduceLT, reduceIte, Nat.reduceEqDiff, Nat.reduceAdd, Nat.reduceLeDiff, Nat.reduceMul, Nat.reduceBEq, QXGTrQ2, List.map_nil, List.length_nil, show (((0 : Nat) : Int) == 0) = true from rfl] | refine rd0 rfl ?_))
 ((first | refine callK_v (ints_ok [0] [0] (by simp) (by simp)) (by simp [clr, clrs, ints]) (by simp [okV, okVs]) ?_ | refine callD_v (ints_ok [0] [0] (by simp) (by simp)) (by simp [clr, clrs, ints]) (by simp [okV, okVs]) ?_); (repeat (first | simp only [↓QA, QB, Nat.reduceLT, reduceIte, Nat.reduceEqDiff, Nat.reduceAdd, Nat.reduceLeDiff, Nat.reduceMul, Nat.reduceBEq, QXGTrQ2, eq_self, List.map_nil, List.length_nil, show (((0 : Nat) : Int) == 0) = true from rfl] | refine rd0 rfl ?_)))
 ((first | refine callK_v (ints_ok [0] [0] (by simp) (by simp)) (by simp [clr, clrs, ints]) (by simp [okV, okVs]) ?_ | refine callD_v (ints_ok [0] [0] (by simp) (by simp)) (by simp [clr, clrs, ints]) (by simp [okV, okVs]) ?_); (repeat (first | simp only [↓QA, QB, Nat.reduceLT, reduceIte, Nat.reduceEqDiff, Nat.reduceAdd, Nat.reduceLeDiff, Nat.reduceMul, Nat.reduceBEq, QXGTrQ2, eq_self, List.map_nil, List.length_nil, show (((0 : Nat) : Int) == 0) = true from rfl] | refine rd0 rfl ?_)))
 refine callD_d awake_ok rfl datas_nil ?_
 (repeat (first | simp only [↓QA, QB, Nat.reduceLT, reduceIte, Nat.reduceEqDiff, Nat.reduceAdd, Nat.reduceLeDiff, Nat.reduceMul, Nat.reduceBEq, QXGTrQ2] | refine rd0 rfl ?_))
end Go.Am.Room
