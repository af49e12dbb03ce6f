/- A part of the proof of HoldKnown: an abstract machine, or what functions come to on it. -/
import Derived.Test.YtajhifmlmhmelaaAllQ6
set_option linter.unusedVariables false
set_option linter.unusedSimpArgs false
set_option linter.defProp false
namespace Go.Am.Room
theorem y1 : marksOf (exS []) 0 1 = (⟨26, 28⟩, 0) := by decide +kernel
theorem y2 : reachesOf (exS []) 0 25 = (⟨2, 2⟩, 1, 0) := by decide +kernel
theorem y3 : blockedOf (exS []) = ([], [1], 0) := by decide +kernel
theorem y4 : blockedOf exL = ([], [], 0) := by decide +kernel
theorem y5 : keepsOf (exS []) 0 = (1, 0) := by decide +kernel
theorem y6 : keepsOf (exS []) 1 = (0, 0) := by decide +kernel
theorem y7 : spoilsOf exM = ([1], [1], 0) := by decide +kernel
theorem y8 : clearOf exL = ([], 0) := by decide +kernel
theorem y9 : clearOf exM = ([1], 0) := by decide +kernel
theorem y10 : wrongOf exL = ([], 0) := by decide +kernel
end Go.Am.Room
set_option maxRecDepth 8000
namespace Go.Am.Room
set_option maxHeartbeats 1000000 in
theorem holdknown_ok : Pure T 7 [] (.bool true) := by
 refine pure_fn (af := a7) rfl (by simp [a7]) datas_nil ?_
 (repeat (first | simp only [↓QA, QB, Nat.reduceLT, reduceIte, Nat.reduceEqDiff, Nat.reduceAdd, Nat.reduceLeDiff, Nat.reduceMul, Nat.reduceBEq, QXHHdQ2, a7] | refine rd0 rfl ?_))
 refine callK_v (exship_ok []) (by simp [clr, clrs]) (by simp [okV, okVs]) ?_
 (repeat (first | simp only [↓QA, QB, Nat.reduceLT, reduceIte, Nat.reduceEqDiff, Nat.reduceAdd, Nat.reduceLeDiff, Nat.reduceMul, Nat.reduceBEq, QXHHdQ2] | refine rd0 rfl ?_))
 ((first | refine callK_d (line_ok 1 1 28) rfl dd ?_ | refine callD_d (line_ok 1 1 28) rfl dd ?_); (repeat (first | simp only [↓QA, QB, Nat.reduceLT, reduceIte, Nat.reduceEqDiff, Nat.reduceAdd, Nat.reduceLeDiff, Nat.reduceMul, Nat.reduceBEq, QXHHdQ2] | refine rd0 rfl ?_)))
 refine callK_v (exship_ok [⟨1, 1, 28⟩]) (by simp [clr, clrs, encLine]) (by simp [okV, okVs]) ?_
 (repeat (first | simp only [↓QA, QB, Nat.reduceLT, reduceIte, Nat.reduceEqDiff, Nat.reduceAdd, Nat.reduceLeDiff, Nat.reduceMul, Nat.reduceBEq, QXHHdQ2] | refine rd0 rfl ?_))
 ((first | refine callK_d (line_ok 1 1 33) rfl dd ?_ | refine callD_d (line_ok 1 1 33) rfl dd ?_); (repeat (first | simp only [↓QA, QB, Nat.reduceLT, reduceIte, Nat.reduceEqDiff, Nat.reduceAdd, Nat.reduceLeDiff, Nat.reduceMul, Nat.reduceBEq, QXHHdQ2] | refine rd0 rfl ?_)))
 refine callK_v (exship_ok [⟨1, 1, 33⟩]) (by simp [clr, clrs, encLine]) (by simp [okV, okVs]) ?_
 (repeat (first | simp only [↓QA, QB, Nat.reduceLT, reduceIte, Nat.reduceEqDiff, Nat.reduceAdd, Nat.reduceLeDiff, Nat.reduceMul, Nat.reduceBEq, QXHHdQ2] | refine rd0 rfl ?_))
 ((first | refine callK_d (pmarks_ok (exS []) 0 1 (fits_ex _)) rfl dd ?_ | refine callD_d (pmarks_ok (exS []) 0 1 (fits_ex _)) rfl dd ?_); (repeat (first | simp only [↓QA, QB, Nat.reduceLT, reduceIte, Nat.reduceEqDiff, Nat.reduceAdd, Nat.reduceLeDiff, Nat.reduceMul, Nat.reduceBEq, QXHHdQ2, y1, encSE] | refine rd0 rfl ?_)))
 ((first | refine callK_d (preaches_ok (exS []) 0 25 (fits_ex _)) rfl dd ?_ | refine callD_d (preaches_ok (exS []) 0 25 (fits_ex _)) rfl dd ?_); (repeat (first | simp only [↓QA, QB, Nat.reduceLT, reduceIte, Nat.reduceEqDiff, Nat.reduceAdd, Nat.reduceLeDiff, Nat.reduceMul, Nat.reduceBEq, QXHHdQ2, y2, encSNE] | refine rd0 rfl ?_)))
 ((first | refine callK_d (pblocked_ok (exS []) (fits_ex _)) rfl dd ?_ | refine callD_d (pblocked_ok (exS []) (fits_ex _)) rfl dd ?_); (repeat (first | simp only [↓QA, QB, Nat.reduceLT, reduceIte, Nat.reduceEqDiff, Nat.reduceAdd, Nat.reduceLeDiff, Nat.reduceMul, Nat.reduceBEq, QXHHdQ2, y3, encLLE] | refine rd0 rfl ?_)))
 ((first | refine callK_d (pblocked_ok exL (fits_ex _)) rfl dd ?_ | refine callD_d (pblocked_ok exL (fits_ex _)) rfl dd ?_); (repeat (first | simp only [↓QA, QB, Nat.reduceLT, reduceIte, Nat.reduceEqDiff, Nat.reduceAdd, Nat.reduceLeDiff, Nat.reduceMul, Nat.reduceBEq, QXHHdQ2, y4, encLLE] | refine rd0 rfl ?_)))
 ((first | refine callK_d (pkeeps_ok (exS []) 0 (fits_ex _)) rfl dd ?_ | refine callD_d (pkeeps_ok (exS []) 0 (fits_ex _)) rfl dd ?_); (repeat (first | simp only [↓QA, QB, Nat.reduceLT, reduceIte, Nat.reduceEqDiff, Nat.reduceAdd, Nat.reduceLeDiff, Nat.reduceMul, Nat.reduceBEq, QXHHdQ2, y5, encIE] | refine rd0 rfl ?_)))
 ((first | refine callK_d (pkeeps_ok (exS []) 1 (fits_ex _)) rfl dd ?_ | refine callD_d (pkeeps_ok (exS []) 1 (fits_ex _)) rfl dd ?_); (repeat (first | simp only [↓QA, QB, Nat.reduceLT, reduceIte, Nat.reduceEqDiff, Nat.reduceAdd, Nat.reduceLeDiff, Nat.reduceMul, Nat.reduceBEq, QXHHdQ2, y6, encIE] | refine rd0 rfl ?_)))
 ((first | refine callK_d (pspoils_ok exM (fits_ex _)) rfl dd ?_ | refine callD_d (pspoils_ok exM (fits_ex _)) rfl dd ?_); (repeat (first | simp only [↓QA, QB, Nat.reduceLT, reduceIte, Nat.reduceEqDiff, Nat.reduceAdd, Nat.reduceLeDiff, Nat.reduceMul, Nat.reduceBEq, QXHHdQ2, y7, encLLE] | refine rd0 rfl ?_)))
 ((first | refine callK_d (pclear_ok exL (fits_ex _)) rfl dd ?_ | refine callD_d (pclear_ok exL (fits_ex _)) rfl dd ?_); (repeat (first | simp only [↓QA, QB, Nat.reduceLT, reduceIte, Nat.reduceEqDiff, Nat.reduceAdd, Nat.reduceLeDiff, Nat.reduceMul, Nat.reduceBEq, QXHHdQ2, y8, encLE] | refine rd0 rfl ?_)))
 ((first | refine callK_d (pclear_ok exM (fits_ex _)) rfl dd ?_ | refine callD_d (pclear_ok exM (fits_ex _)) rfl dd ?_); (repeat (first | simp only [↓QA, QB, Nat.reduceLT, reduceIte, Nat.reduceEqDiff, Nat.reduceAdd, Nat.reduceLeDiff, Nat.reduceMul, Nat.reduceBEq, QXHHdQ2, y9, encLE] | refine rd0 rfl ?_)))
 ((first | refine callK_d (pwrong_ok exL (fits_ex _)) rfl dd ?_ | refine callD_d (pwrong_ok exL (fits_ex _)) rfl dd ?_); (repeat (first | simp only [↓QA, QB, Nat.reduceLT, reduceIte, Nat.reduceEqDiff, Nat.reduceAdd, Nat.reduceLeDiff, Nat.reduceMul, Nat.reduceBEq, QXHHdQ2, y10, encLE] | refine rd0 rfl ?_)))
 ((first | refine callK_d (span_ok 26 28) rfl dd ?_ | refine callD_d (span_ok 26 28) rfl dd ?_); (repeat (first | simp only [↓QA, QB, Nat.reduceLT, reduceIte, Nat.reduceEqDiff, Nat.reduceAdd, Nat.reduceLeDiff, Nat.reduceMul, Nat.reduceBEq, QXHHdQ2] | refine rd0 rfl ?_)))
 ((first | refine callK_d (span_ok 2 2) rfl dd ?_ | refine callD_d (span_ok 2 2) rfl dd ?_); (repeat (first | simp only [↓QA, QB, Nat.reduceLT, reduceIte, Nat.reduceEqDiff, Nat.reduceAdd, Nat.reduceLeDiff, Nat.reduceMul, Nat.reduceBEq, QXHHdQ2, show (((0 : Nat) : Int) == 0) = true from rfl] | refine rd0 rfl ?_)))
 ((first | refine callK_v (ints_ok [1] [1] (by simp) (by simp)) (by simp [clr, clrs, ints]) (by simp [okV, okVs]) ?_ | refine callD_v (ints_ok [1] [1] (by simp) (by simp)) (by simp [clr, clrs, ints]) (by simp [okV, okVs]) ?_); (repeat (first | simp only [↓QA, QB, Nat.reduceLT, reduceIte, Nat.reduceEqDiff, Nat.reduceAdd, Nat.reduceLeDiff, Nat.reduceMul, Nat.reduceBEq, QXHHdQ2, eq_self, show (((0 : Nat) : Int) == 0) = true from rfl] | refine rd0 rfl ?_)))
 ((first | refine callK_v (ints_ok [1] [1] (by simp) (by simp)) (by simp [clr, clrs, ints]) (by simp [okV, okVs]) ?_ | refine callD_v (ints_ok [1] [1] (by simp) (by simp)) (by simp [clr, clrs, ints]) (by simp [okV, okVs]) ?_); (repeat (first | simp only [↓QA, QB, Nat.reduceLT, reduceIte, Nat.reduceEqDiff, Nat.reduceAdd, Nat.reduceLeDiff, Nat.reduceMul, Nat.reduceBEq, QXHHdQ2, eq_self] | refine rd0 rfl ?_)))
 ((first | refine callK_v (ints_ok [1] [1] (by simp) (by simp)) (by simp [clr, clrs, ints]) (by simp [okV, okVs]) ?_ | refine callD_v (ints_ok [1] [1] (by simp) (by simp)) (by simp [clr, clrs, ints]) (by simp [okV, okVs]) ?_); (repeat (first | simp only [↓QA, QB, Nat.reduceLT, reduceIte, Nat.reduceEqDiff, Nat.reduceAdd, Nat.reduceLeDiff, Nat.reduceMul, Nat.reduceBEq, QXHHdQ2, eq_self, show (((0 : Nat) : Int) == 0) = true from rfl] | refine rd0 rfl ?_)))
 ((first | refine callK_v (ints_ok [1] [1] (by simp) (by simp)) (by simp [clr, clrs, ints]) (by simp [okV, okVs]) ?_ | refine callD_v (ints_ok [1] [1] (by simp) (by simp)) (by simp [clr, clrs, ints]) (by simp [okV, okVs]) ?_); (repeat (first | simp only [↓QA, QB, Nat.reduceLT, reduceIte, Nat.reduceEqDiff, Nat.reduceAdd, Nat.reduceLeDiff, Nat.reduceMul, Nat.reduceBEq, QXHHdQ2, eq_self, show (((0 : Nat) : Int) == 0) = true from rfl] | refine rd0 rfl ?_)))
 refine callD_d awake_ok rfl datas_nil ?_
 (repeat (first | simp only [↓QA, QB, Nat.reduceLT, reduceIte, Nat.reduceEqDiff, Nat.reduceAdd, Nat.reduceLeDiff, Nat.reduceMul, Nat.reduceBEq, QXHHdQ2] | refine rd0 rfl ?_))
end Go.Am.Room
