/- A part of the proof of FarmKnown: an abstract machine, or what functions come to on it. -/
import Derived.Test.YtnioeddjaihmmaaCmpQ6
set_option linter.unusedVariables false
set_option linter.unusedSimpArgs false
set_option linter.defProp false
namespace Go.Am.Room
theorem y1 : grownOf (exF []) 0 4 = (⟨6, 8⟩, 0) := by decide +kernel
theorem y2 : grownOf (exF []) 2 4 = (⟨4, 8⟩, 0) := by decide +kernel
theorem y3 : cutOf (exF []) 0 5 = (0, 0) := by decide +kernel
theorem y4 : daysOf (exF []) 1 = ([], [4, 5], 0) := by decide +kernel
theorem y5 : lastOf (exF []) 1 = (5, 0) := by decide +kernel
theorem y6 : earlyOf (exF []) 4 30 = ([0], [], 0) := by decide +kernel
theorem y7 : rainedOf exL 3 = (⟨1, 2⟩, 0) := by decide +kernel
theorem y8 : floweredOf (exF []) 1 = ([1, 2], 0) := by decide +kernel
theorem y9 : wrongOf exL = ([], 0) := by decide +kernel
end Go.Am.Room
set_option maxRecDepth 8000
namespace Go.Am.Room
set_option maxHeartbeats 1000000 in
theorem farmknown_ok : Pure T 6 [] (.bool true) := by
 refine pure_fn (af := a6) rfl (by simp [a6]) datas_nil ?_
 (repeat (first | simp only [↓QA, QB, Nat.reduceLT, reduceIte, Nat.reduceEqDiff, Nat.reduceAdd, Nat.reduceLeDiff, Nat.reduceMul, Nat.reduceBEq, QXFFaQ2, a6] | refine rd0 rfl ?_))
 refine callK_v (exfarm_ok []) (by simp [clr, clrs]) (by simp [okV, okVs]) ?_
 (repeat (first | simp only [↓QA, QB, Nat.reduceLT, reduceIte, Nat.reduceEqDiff, Nat.reduceAdd, Nat.reduceLeDiff, Nat.reduceMul, Nat.reduceBEq, QXFFaQ2] | refine rd0 rfl ?_))
 ((first | refine callK_d (seen_ok 1 3 2) rfl dd ?_ | refine callD_d (seen_ok 1 3 2) rfl dd ?_); (repeat (first | simp only [↓QA, QB, Nat.reduceLT, reduceIte, Nat.reduceEqDiff, Nat.reduceAdd, Nat.reduceLeDiff, Nat.reduceMul, Nat.reduceBEq, QXFFaQ2] | refine rd0 rfl ?_)))
 refine callK_v (exfarm_ok [⟨1, 3, 2⟩]) (by simp [clr, clrs, encLook]) (by simp [okV, okVs]) ?_
 (repeat (first | simp only [↓QA, QB, Nat.reduceLT, reduceIte, Nat.reduceEqDiff, Nat.reduceAdd, Nat.reduceLeDiff, Nat.reduceMul, Nat.reduceBEq, QXFFaQ2] | refine rd0 rfl ?_))
 ((first | refine callK_d (pgrown_ok (exF []) 0 4 (fits_ex _)) rfl dd ?_ | refine callD_d (pgrown_ok (exF []) 0 4 (fits_ex _)) rfl dd ?_); (repeat (first | simp only [↓QA, QB, Nat.reduceLT, reduceIte, Nat.reduceEqDiff, Nat.reduceAdd, Nat.reduceLeDiff, Nat.reduceMul, Nat.reduceBEq, QXFFaQ2, y1, encSE] | refine rd0 rfl ?_)))
 ((first | refine callK_d (pgrown_ok (exF []) 2 4 (fits_ex _)) rfl dd ?_ | refine callD_d (pgrown_ok (exF []) 2 4 (fits_ex _)) rfl dd ?_); (repeat (first | simp only [↓QA, QB, Nat.reduceLT, reduceIte, Nat.reduceEqDiff, Nat.reduceAdd, Nat.reduceLeDiff, Nat.reduceMul, Nat.reduceBEq, QXFFaQ2, y2, encSE] | refine rd0 rfl ?_)))
 ((first | refine callK_d (pcut_ok (exF []) 0 5 (fits_ex _)) rfl dd ?_ | refine callD_d (pcut_ok (exF []) 0 5 (fits_ex _)) rfl dd ?_); (repeat (first | simp only [↓QA, QB, Nat.reduceLT, reduceIte, Nat.reduceEqDiff, Nat.reduceAdd, Nat.reduceLeDiff, Nat.reduceMul, Nat.reduceBEq, QXFFaQ2, y3, encIE] | refine rd0 rfl ?_)))
 ((first | refine callK_d (pdays_ok (exF []) 1 (fits_ex _)) rfl dd ?_ | refine callD_d (pdays_ok (exF []) 1 (fits_ex _)) rfl dd ?_); (repeat (first | simp only [↓QA, QB, Nat.reduceLT, reduceIte, Nat.reduceEqDiff, Nat.reduceAdd, Nat.reduceLeDiff, Nat.reduceMul, Nat.reduceBEq, QXFFaQ2, y4, encLLE] | refine rd0 rfl ?_)))
 ((first | refine callK_d (plast_ok (exF []) 1 (fits_ex _)) rfl dd ?_ | refine callD_d (plast_ok (exF []) 1 (fits_ex _)) rfl dd ?_); (repeat (first | simp only [↓QA, QB, Nat.reduceLT, reduceIte, Nat.reduceEqDiff, Nat.reduceAdd, Nat.reduceLeDiff, Nat.reduceMul, Nat.reduceBEq, QXFFaQ2, y5, encIE] | refine rd0 rfl ?_)))
 ((first | refine callK_d (pearly_ok (exF []) 4 30 (fits_ex _)) rfl dd ?_ | refine callD_d (pearly_ok (exF []) 4 30 (fits_ex _)) rfl dd ?_); (repeat (first | simp only [↓QA, QB, Nat.reduceLT, reduceIte, Nat.reduceEqDiff, Nat.reduceAdd, Nat.reduceLeDiff, Nat.reduceMul, Nat.reduceBEq, QXFFaQ2, y6, encLLE] | refine rd0 rfl ?_)))
 ((first | refine callK_d (prained_ok exL 3 (fits_ex _)) rfl dd ?_ | refine callD_d (prained_ok exL 3 (fits_ex _)) rfl dd ?_); (repeat (first | simp only [↓QA, QB, Nat.reduceLT, reduceIte, Nat.reduceEqDiff, Nat.reduceAdd, Nat.reduceLeDiff, Nat.reduceMul, Nat.reduceBEq, QXFFaQ2, y7, encSE] | refine rd0 rfl ?_)))
 ((first | refine callK_d (pflowered_ok (exF []) 1 (fits_ex _)) rfl dd ?_ | refine callD_d (pflowered_ok (exF []) 1 (fits_ex _)) rfl dd ?_); (repeat (first | simp only [↓QA, QB, Nat.reduceLT, reduceIte, Nat.reduceEqDiff, Nat.reduceAdd, Nat.reduceLeDiff, Nat.reduceMul, Nat.reduceBEq, QXFFaQ2, y8, encLE] | refine rd0 rfl ?_)))
 ((first | refine callK_d (pwrong_ok exL (fits_ex _)) rfl dd ?_ | refine callD_d (pwrong_ok exL (fits_ex _)) rfl dd ?_); (repeat (first | simp only [↓QA, QB, Nat.reduceLT, reduceIte, Nat.reduceEqDiff, Nat.reduceAdd, Nat.reduceLeDiff, Nat.reduceMul, Nat.reduceBEq, QXFFaQ2, y9, encLE] | refine rd0 rfl ?_)))
 ((first | refine callK_d (span_ok 6 8) rfl dd ?_ | refine callD_d (span_ok 6 8) rfl dd ?_); (repeat (first | simp only [↓QA, QB, Nat.reduceLT, reduceIte, Nat.reduceEqDiff, Nat.reduceAdd, Nat.reduceLeDiff, Nat.reduceMul, Nat.reduceBEq, QXFFaQ2] | refine rd0 rfl ?_)))
 ((first | refine callK_d (span_ok 4 8) rfl dd ?_ | refine callD_d (span_ok 4 8) rfl dd ?_); (repeat (first | simp only [↓QA, QB, Nat.reduceLT, reduceIte, Nat.reduceEqDiff, Nat.reduceAdd, Nat.reduceLeDiff, Nat.reduceMul, Nat.reduceBEq, QXFFaQ2, List.map_nil, List.length_nil, show (((0 : Nat) : Int) == 0) = true from rfl] | refine rd0 rfl ?_)))
 ((first | refine callK_v (ints_ok [4, 5] [4, 5] (by simp) (by simp)) (by simp [clr, clrs, ints]) (by simp [okV, okVs]) ?_ | refine callD_v (ints_ok [4, 5] [4, 5] (by simp) (by simp)) (by simp [clr, clrs, ints]) (by simp [okV, okVs]) ?_); (repeat (first | simp only [↓QA, QB, Nat.reduceLT, reduceIte, Nat.reduceEqDiff, Nat.reduceAdd, Nat.reduceLeDiff, Nat.reduceMul, Nat.reduceBEq, QXFFaQ2, eq_self] | refine rd0 rfl ?_)))
 ((first | refine callK_v (ints_ok [0] [0] (by simp) (by simp)) (by simp [clr, clrs, ints]) (by simp [okV, okVs]) ?_ | refine callD_v (ints_ok [0] [0] (by simp) (by simp)) (by simp [clr, clrs, ints]) (by simp [okV, okVs]) ?_); (repeat (first | simp only [↓QA, QB, Nat.reduceLT, reduceIte, Nat.reduceEqDiff, Nat.reduceAdd, Nat.reduceLeDiff, Nat.reduceMul, Nat.reduceBEq, QXFFaQ2, eq_self, List.map_nil, List.length_nil, show (((0 : Nat) : Int) == 0) = true from rfl] | refine rd0 rfl ?_)))
 ((first | refine callK_d (span_ok 1 2) rfl dd ?_ | refine callD_d (span_ok 1 2) rfl dd ?_); (repeat (first | simp only [↓QA, QB, Nat.reduceLT, reduceIte, Nat.reduceEqDiff, Nat.reduceAdd, Nat.reduceLeDiff, Nat.reduceMul, Nat.reduceBEq, QXFFaQ2] | refine rd0 rfl ?_)))
 ((first | refine callK_v (ints_ok [1, 2] [1, 2] (by simp) (by simp)) (by simp [clr, clrs, ints]) (by simp [okV, okVs]) ?_ | refine callD_v (ints_ok [1, 2] [1, 2] (by simp) (by simp)) (by simp [clr, clrs, ints]) (by simp [okV, okVs]) ?_); (repeat (first | simp only [↓QA, QB, Nat.reduceLT, reduceIte, Nat.reduceEqDiff, Nat.reduceAdd, Nat.reduceLeDiff, Nat.reduceMul, Nat.reduceBEq, QXFFaQ2, eq_self, List.map_nil, List.length_nil, show (((0 : Nat) : Int) == 0) = true from rfl] | refine rd0 rfl ?_)))
 refine callD_d awake_ok rfl datas_nil ?_
 (repeat (first | simp only [↓QA, QB, Nat.reduceLT, reduceIte, Nat.reduceEqDiff, Nat.reduceAdd, Nat.reduceLeDiff, Nat.reduceMul, Nat.reduceBEq, QXFFaQ2] | refine rd0 rfl ?_))
end Go.Am.Room
