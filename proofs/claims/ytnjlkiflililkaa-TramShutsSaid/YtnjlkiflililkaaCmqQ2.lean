/- A part of the proofs: an abstract machine, or what functions come to on it. -/
import Derived.Test.YtnjlkiflililkaaCmqQ1
import Derived.RangeFuncLeaves
import Derived.OrdersIn
import Derived.Laws.AppendOwn
import Derived.Laws.CopyRow
import Derived.Laws.Rows
import Derived.Below
import Derived.Laws.Entries
import Derived.DeepKeys3
set_option linter.unusedVariables false
set_option linter.unusedSimpArgs false
set_option linter.defProp false
namespace Go.Am.Room
def XJ:ACode:=.seq (.reg [⟨some 31,.bin .lss (.t 30) (.t 29),none⟩])
 (.seq (.cond (.t 31) .skip
 (.jump (.exit 2)))
 (.seq (.block 3 (.seq (.reg [⟨some 32,.mov (.t 30),none⟩,⟨some 9,.mov (.t 32),none⟩])
 (.seq (.reg [⟨some 33,.mov (.t 9),none⟩,⟨some 34,.iaddr (some 5) 1 (.t 8) (.t 33),none⟩,⟨some 35,.load none (.t 34),none⟩,⟨some 36,.eql (.one .i) false (.t 35) (.c (.int .i64 0)),none⟩])
 (.cond (.t 36) (.dreg [⟨⟨some 37,.load none (.t 7),none⟩,0,0⟩,⟨⟨some 38,.mov (.t 9),none⟩,0,0⟩,⟨⟨some 39,.bin .shl (.c (.int .i64 1)) (.t 38),none⟩,0,0⟩,⟨⟨some 40,.bin .or (.t 37) (.t 39),none⟩,0,0⟩,⟨⟨none,.store 1 (.t 7) (.t 40),none⟩,0,1⟩])
 (.dreg [⟨⟨some 41,.load none (.t 6),none⟩,0,0⟩,⟨⟨some 42,.mov (.t 9),none⟩,0,0⟩,⟨⟨some 43,.bin .shl (.c (.int .i64 1)) (.t 42),none⟩,0,0⟩,⟨⟨some 44,.bin .andNot (.t 41) (.t 43),none⟩,0,0⟩,⟨⟨none,.store 1 (.t 6) (.t 44),none⟩,0,1⟩])))))
 (.reg [⟨some 45,.bin .add (.t 30) (.c (.int .i64 1)),none⟩,⟨some 30,.mov (.t 45),none⟩])))
def O8:ACode:=.block 1 (.seq (.reg [⟨some 27,.faddr (.t 1) 1,none⟩,⟨some 28,.load none (.t 27),none⟩,⟨some 29,.len 1 (.t 28),none⟩,⟨some 30,.mov (.c (.int .i64 0)),none⟩])
 (.block 2 (.loop XJ)))
def a32:AFunc:=⟨56,[.tmp 2,.tmp 3,.tmp 4],
 .seq (.reg [⟨some 1,.box 4 (.t 0),none⟩,⟨some 2,.mov (.c (.lit [] true none)),none⟩,⟨some 3,.mov (.c (.lit [] true none)),none⟩,⟨some 4,.mov (.c (.int .i64 0)),none⟩])
 (.seq (.reg [⟨some 11,.load (some 4) (.t 1),none⟩,⟨some 12,.call (.c (.func 79 [] [])) [(.t 11),(.c (.lit [] true none))],none⟩,⟨some 10,.mov (.t 12),none⟩,⟨some 13,.ext (.t 10) 0,none⟩,⟨some 14,.ext (.t 10) 1,none⟩,⟨some 5,.mov (.t 13),none⟩,⟨some 4,.mov (.t 14),none⟩])
 (.seq (.seq (.reg [⟨some 15,.mov (.t 4),none⟩,⟨some 16,.eql (.one .i) true (.t 15) (.c (.int .i64 0)),none⟩])
 (.cond (.t 16) (.seq (.reg [⟨some 17,.mov (.t 4),none⟩,⟨some 2,.mov (.c (.lit [] true none)),none⟩,⟨some 3,.mov (.c (.lit [] true none)),none⟩,⟨some 4,.mov (.t 17),none⟩])
 (.jump .ret))
 .skip))
 (.seq (.reg [⟨some 18,.faddr (.t 1) 1,none⟩,⟨some 19,.load none (.t 18),none⟩,⟨some 20,.len 1 (.t 19),none⟩,⟨some 21,.bin .shl (.c (.int .i64 1)) (.t 20),none⟩,⟨some 22,.bin .sub (.t 21) (.c (.int .i64 1)),none⟩,⟨some 6,.alloc [.int .i64 0],none⟩,⟨some 7,.alloc [.int .i64 0],none⟩,⟨none,.store 1 (.t 6) (.t 22),none⟩,⟨none,.store 1 (.t 7) (.c (.int .i64 0)),none⟩])
 (.seq (.seq (.reg [⟨some 23,.mov (.t 5),none⟩,⟨some 24,.call (.c (.func 80 [] [])) [.t 23],none⟩])
 (.block 0 (.rangeFunc (.t 24) [25,26] (.reg [⟨some 8,.alloc [.int .i64 0,.int .i64 0,.int .i64 0,.int .i64 0,.int .i64 0],none⟩,⟨none,.store 5 (.t 8) (.t 25),none⟩])
 (O8))))
 (.seq (.dreg [⟨⟨some 46,.load none (.t 6),none⟩,0,0⟩,⟨⟨some 47,.faddr (.t 1) 1,none⟩,0,0⟩,⟨⟨some 48,.load none (.t 47),none⟩,0,0⟩,⟨⟨some 49,.len 1 (.t 48),none⟩,0,0⟩,⟨⟨some 50,.call (.c (.func 85 [] [])) [.t 46,.t 49],none⟩,0,1⟩,⟨⟨some 51,.load none (.t 7),none⟩,0,1⟩,⟨⟨some 52,.faddr (.t 1) 1,none⟩,0,1⟩,⟨⟨some 53,.load none (.t 52),none⟩,0,1⟩,⟨⟨some 54,.len 1 (.t 53),none⟩,0,1⟩,⟨⟨some 55,.call (.c (.func 85 [] [])) [.t 51,.t 54],none⟩,1,2⟩,⟨⟨some 2,.mov (.t 50),none⟩,2,2⟩,⟨⟨some 3,.mov (.t 55),none⟩,2,2⟩,⟨⟨some 4,.mov (.c (.int .i64 0)),none⟩,2,2⟩])
 (.jump .ret))))))⟩
def Y4:ACode:=.seq (.seq (.reg [⟨some 36,.mov (.t 13),none⟩,⟨some 37,.mov (.t 8),none⟩,⟨some 38,.len 1 (.t 37),none⟩,⟨some 39,.bin .lss (.t 36) (.t 38),none⟩])
 (.cond (.t 39) .skip
 (.jump (.exit 2))))
 (.seq (.block 3 (.seq (.reg [⟨some 42,.mov (.t 8),none⟩,⟨some 43,.mov (.t 13),none⟩,⟨some 44,.iaddr none 2 (.t 42) (.t 43),none⟩,⟨some 45,.faddr (.t 44) 0,none⟩,⟨some 46,.load none (.t 45),none⟩,⟨some 47,.mov (.t 11),none⟩,⟨some 48,.iaddr none 1 (.t 46) (.t 47),none⟩,⟨some 49,.load none (.t 48),none⟩])
 (.cond (.t 49) (.reg [⟨some 50,.mov (.t 12),none⟩,⟨some 51,.bin .add (.t 50) (.c (.int .i64 1)),none⟩,⟨some 12,.mov (.t 51),none⟩])
 .skip)))
 (.reg [⟨some 40,.mov (.t 13),none⟩,⟨some 41,.bin .add (.t 40) (.c (.int .i64 1)),none⟩,⟨some 13,.mov (.t 41),none⟩]))
def Y0:ACode:=.seq (.seq (.reg [⟨some 29,.mov (.t 11),none⟩,⟨some 30,.faddr (.t 1) 1,none⟩,⟨some 31,.load none (.t 30),none⟩,⟨some 32,.len 1 (.t 31),none⟩,⟨some 33,.bin .lss (.t 29) (.t 32),none⟩])
 (.cond (.t 33) .skip
 (.jump (.exit 0))))
 (.seq (.block 1 (.seq (.reg [⟨some 12,.mov (.c (.int .i64 0)),none⟩])
 (.seq (.seq (.reg [⟨some 13,.mov (.c (.int .i64 0)),none⟩])
 (.block 2 (.loop Y4)))
 (.seq (.seq (.reg [⟨some 52,.mov (.t 12),none⟩,⟨some 53,.mov (.t 8),none⟩,⟨some 54,.len 1 (.t 53),none⟩,⟨some 55,.eql (.one .i) false (.t 52) (.t 54),none⟩])
 (.cond (.t 55) (.reg [⟨some 56,.mov (.t 9),none⟩,⟨some 57,.mov (.t 11),none⟩,⟨some 58,.mklit 1 [.t 57],none⟩,⟨some 59,.append 1 8 (.t 56) (.t 58),none⟩,⟨some 9,.mov (.t 59),none⟩])
 .skip))
 (.seq (.reg [⟨some 60,.mov (.t 12),none⟩,⟨some 61,.bin .gtr (.t 60) (.c (.int .i64 0)),none⟩])
 (.cond (.t 61) (.reg [⟨some 62,.mov (.t 10),none⟩,⟨some 63,.mov (.t 11),none⟩,⟨some 64,.mklit 1 [.t 63],none⟩,⟨some 65,.append 1 8 (.t 62) (.t 64),none⟩,⟨some 10,.mov (.t 65),none⟩])
 .skip))))))
 (.reg [⟨some 34,.mov (.t 11),none⟩,⟨some 35,.bin .add (.t 34) (.c (.int .i64 1)),none⟩,⟨some 11,.mov (.t 35),none⟩]))
def a33:AFunc:=⟨68,[.tmp 2,.tmp 3,.tmp 4],
 .seq (.reg [⟨some 1,.box 4 (.t 0),none⟩,⟨some 2,.mov (.c (.lit [] true none)),none⟩,⟨some 3,.mov (.c (.lit [] true none)),none⟩,⟨some 4,.mov (.c (.int .i64 0)),none⟩])
 (.seq (.reg [⟨some 15,.load (some 4) (.t 1),none⟩,⟨some 16,.call (.c (.func 18 [] [])) [.t 15],none⟩,⟨some 14,.mov (.t 16),none⟩,⟨some 17,.ext (.t 14) 0,none⟩,⟨some 18,.ext (.t 14) 1,none⟩,⟨some 19,.ext (.t 14) 2,none⟩,⟨some 5,.mov (.t 17),none⟩,⟨some 6,.mov (.t 18),none⟩,⟨some 7,.mov (.t 19),none⟩])
 (.seq (.reg [⟨some 21,.load (some 4) (.t 1),none⟩,⟨some 22,.mov (.t 7),none⟩,⟨some 23,.call (.c (.func 81 [] [])) [.t 21,.t 22],none⟩,⟨some 20,.mov (.t 23),none⟩,⟨some 24,.ext (.t 20) 0,none⟩,⟨some 25,.ext (.t 20) 1,none⟩,⟨some 8,.mov (.t 24),none⟩,⟨some 7,.mov (.t 25),none⟩])
 (.seq (.seq (.reg [⟨some 26,.mov (.t 7),none⟩,⟨some 27,.eql (.one .i) true (.t 26) (.c (.int .i64 0)),none⟩])
 (.cond (.t 27) (.seq (.reg [⟨some 28,.mov (.t 7),none⟩,⟨some 2,.mov (.c (.lit [] true none)),none⟩,⟨some 3,.mov (.c (.lit [] true none)),none⟩,⟨some 4,.mov (.t 28),none⟩])
 (.jump .ret))
 .skip))
 (.seq (.reg [⟨some 9,.mov (.c (.lit [] true none)),none⟩,⟨some 10,.mov (.c (.lit [] true none)),none⟩])
 (.seq (.seq (.reg [⟨some 11,.mov (.c (.int .i64 0)),none⟩])
 (.block 0 (.loop Y0)))
 (.seq (.reg [⟨some 66,.mov (.t 9),none⟩,⟨some 67,.mov (.t 10),none⟩,⟨some 2,.mov (.t 66),none⟩,⟨some 3,.mov (.t 67),none⟩,⟨some 4,.mov (.c (.int .i64 0)),none⟩])
 (.jump .ret)))))))⟩
def YU:ACode:=.seq (.reg [⟨some 34,.bin .lss (.t 33) (.t 32),none⟩])
 (.seq (.cond (.t 34) .skip
 (.jump (.exit 2)))
 (.seq (.block 3 (.seq (.reg [⟨some 35,.iaddr none 5 (.t 31) (.t 33),none⟩,⟨some 36,.load (some 5) (.t 35),none⟩,⟨some 9,.alloc [.str ⟨#[]⟩,.int .i64 0,.int .i64 0,.int .i64 0,.lit [] true none],none⟩,⟨none,.store 5 (.t 9) (.t 36),none⟩])
 (.seq (.reg [⟨some 37,.load (some 4) (.t 1),none⟩,⟨some 38,.faddr (.t 9) 1,none⟩,⟨some 39,.load none (.t 38),none⟩,⟨some 40,.mov (.t 5),none⟩,⟨some 41,.call (.c (.func 77 [] [])) [.t 37,.t 39,.t 40],none⟩,⟨some 42,.len 1 (.t 41),none⟩,⟨some 43,.eql (.one .i) false (.t 42) (.c (.int .i64 0)),none⟩])
 (.cond (.t 43) (.reg [⟨some 44,.mov (.t 7),none⟩,⟨some 45,.bin .add (.t 44) (.c (.int .i64 1)),none⟩,⟨some 7,.mov (.t 45),none⟩])
 .skip))))
 (.reg [⟨some 46,.bin .add (.t 33) (.c (.int .i64 1)),none⟩,⟨some 33,.mov (.t 46),none⟩])))
def XI:ACode:=.seq (.reg [⟨some 23,.bin .lss (.t 22) (.t 21),none⟩])
 (.seq (.cond (.t 23) .skip
 (.jump (.exit 0)))
 (.seq (.block 1 (.seq (.reg [⟨some 24,.mov (.t 22),none⟩,⟨some 25,.iaddr none 5 (.t 20) (.t 22),none⟩,⟨some 26,.load (some 5) (.t 25),none⟩,⟨some 6,.alloc [.int .i64 0,.int .i64 0,.int .i64 0,.int .i64 0,.int .i64 0],none⟩,⟨some 5,.mov (.t 24),none⟩,⟨none,.store 5 (.t 6) (.t 26),none⟩])
 (.seq (.seq (.reg [⟨some 27,.faddr (.t 6) 4,none⟩,⟨some 28,.load none (.t 27),none⟩,⟨some 29,.eql (.one .i) false (.t 28) (.c (.int .i64 1)),none⟩])
 (.cond (.t 29) (.jump (.exit 1))
 .skip))
 (.seq (.reg [⟨some 7,.mov (.c (.int .i64 0)),none⟩])
 (.seq (.seq (.reg [⟨some 30,.faddr (.t 1) 2,none⟩,⟨some 31,.load none (.t 30),none⟩,⟨some 32,.len 1 (.t 31),none⟩,⟨some 33,.mov (.c (.int .i64 0)),none⟩])
 (.block 2 (.loop YU)))
 (.seq (.reg [⟨some 47,.mov (.t 2),none⟩,⟨some 48,.bin .lss (.t 47) (.c (.int .i64 0)),none⟩,⟨some 49,.mov (.t 48),none⟩,⟨some 50,.mov (.t 7),(some (49,false))⟩,⟨some 51,.mov (.t 3),(some (49,false))⟩,⟨some 52,.bin .gtr (.t 50) (.t 51),(some (49,false))⟩,⟨some 53,.pick (.t 49) (.c (.bool true)) (.t 52),none⟩])
 (.cond (.t 53) (.reg [⟨some 54,.mov (.t 5),none⟩,⟨some 55,.mov (.t 7),none⟩,⟨some 2,.mov (.t 54),none⟩,⟨some 3,.mov (.t 55),none⟩])
 .skip)))))))
 (.reg [⟨some 56,.bin .add (.t 22) (.c (.int .i64 1)),none⟩,⟨some 22,.mov (.t 56),none⟩])))
def a34:AFunc:=⟨61,[.tmp 2,.tmp 3,.tmp 4],
 .seq (.reg [⟨some 1,.box 4 (.t 0),none⟩,⟨some 2,.mov (.c (.int .i64 0)),none⟩,⟨some 3,.mov (.c (.int .i64 0)),none⟩,⟨some 4,.mov (.c (.int .i64 0)),none⟩])
 (.seq (.seq (.reg [⟨some 11,.load (some 4) (.t 1),none⟩,⟨some 12,.call (.c (.func 17 [] [])) [.t 11],none⟩,⟨some 10,.mov (.t 12),none⟩,⟨some 13,.ext (.t 10) 0,none⟩,⟨some 14,.ext (.t 10) 1,none⟩,⟨some 15,.ext (.t 10) 2,none⟩,⟨some 4,.mov (.t 15),none⟩])
 (.seq (.reg [⟨some 16,.mov (.t 4),none⟩,⟨some 17,.eql (.one .i) true (.t 16) (.c (.int .i64 0)),none⟩])
 (.cond (.t 17) (.seq (.reg [⟨some 18,.mov (.t 4),none⟩,⟨some 2,.mov (.c (.int .i64 0)),none⟩,⟨some 3,.mov (.c (.int .i64 0)),none⟩,⟨some 4,.mov (.t 18),none⟩])
 (.jump .ret))
 .skip)))
 (.seq (.reg [⟨some 2,.mov (.c (.int .i64 (-1))),none⟩])
 (.seq (.seq (.reg [⟨some 19,.faddr (.t 1) 1,none⟩,⟨some 20,.load none (.t 19),none⟩,⟨some 21,.len 1 (.t 20),none⟩,⟨some 22,.mov (.c (.int .i64 0)),none⟩])
 (.block 0 (.loop XI)))
 (.seq (.seq (.reg [⟨some 57,.mov (.t 2),none⟩,⟨some 58,.bin .lss (.t 57) (.c (.int .i64 0)),none⟩])
 (.cond (.t 58) (.seq (.reg [⟨some 2,.mov (.c (.int .i64 0)),none⟩,⟨some 3,.mov (.c (.int .i64 0)),none⟩,⟨some 4,.mov (.c (.int .i64 9)),none⟩])
 (.jump .ret))
 .skip))
 (.seq (.reg [⟨some 59,.mov (.t 2),none⟩,⟨some 60,.mov (.t 3),none⟩,⟨some 2,.mov (.t 59),none⟩,⟨some 3,.mov (.t 60),none⟩,⟨some 4,.mov (.c (.int .i64 0)),none⟩])
 (.jump .ret))))))⟩
def YT:ACode:=.seq (.seq (.reg [⟨some 21,.mov (.t 10),none⟩,⟨some 22,.faddr (.t 1) 1,none⟩,⟨some 23,.load none (.t 22),none⟩,⟨some 24,.len 1 (.t 23),none⟩,⟨some 25,.bin .lss (.t 21) (.t 24),none⟩])
 (.cond (.t 25) .skip
 (.jump (.exit 0))))
 (.seq (.block 1 (.seq (.seq (.reg [⟨some 28,.faddr (.t 1) 1,none⟩,⟨some 29,.load none (.t 28),none⟩,⟨some 30,.mov (.t 10),none⟩,⟨some 31,.iaddr none 5 (.t 29) (.t 30),none⟩,⟨some 32,.faddr (.t 31) 4,none⟩,⟨some 33,.load none (.t 32),none⟩,⟨some 34,.eql (.one .i) false (.t 33) (.c (.int .i64 1)),none⟩])
 (.cond (.t 34) (.jump (.exit 1))
 .skip))
 (.seq (.reg [⟨some 35,.load (some 4) (.t 1),none⟩,⟨some 36,.mov (.t 10),none⟩,⟨some 37,.call (.c (.func 90 [] [])) [.t 35,.t 36],none⟩,⟨some 11,.mov (.t 37),none⟩])
 (.seq (.reg [⟨some 38,.mov (.t 8),none⟩,⟨some 39,.bin .lss (.t 38) (.c (.int .i64 0)),none⟩,⟨some 40,.mov (.t 39),none⟩,⟨some 41,.mov (.t 11),(some (40,false))⟩,⟨some 42,.mov (.t 9),(some (40,false))⟩,⟨some 43,.bin .gtr (.t 41) (.t 42),(some (40,false))⟩,⟨some 44,.pick (.t 40) (.c (.bool true)) (.t 43),none⟩])
 (.cond (.t 44) (.reg [⟨some 45,.mov (.t 10),none⟩,⟨some 46,.mov (.t 11),none⟩,⟨some 8,.mov (.t 45),none⟩,⟨some 9,.mov (.t 46),none⟩])
 .skip)))))
 (.reg [⟨some 26,.mov (.t 10),none⟩,⟨some 27,.bin .add (.t 26) (.c (.int .i64 1)),none⟩,⟨some 10,.mov (.t 27),none⟩]))
def a35:AFunc:=⟨51,[.tmp 2,.tmp 3,.tmp 4],
 .seq (.reg [⟨some 1,.box 4 (.t 0),none⟩,⟨some 2,.mov (.c (.int .i64 0)),none⟩,⟨some 3,.mov (.c (.int .i64 0)),none⟩,⟨some 4,.mov (.c (.int .i64 0)),none⟩])
 (.seq (.reg [⟨some 13,.load (some 4) (.t 1),none⟩,⟨some 14,.call (.c (.func 18 [] [])) [.t 13],none⟩,⟨some 12,.mov (.t 14),none⟩,⟨some 15,.ext (.t 12) 0,none⟩,⟨some 16,.ext (.t 12) 1,none⟩,⟨some 17,.ext (.t 12) 2,none⟩,⟨some 5,.mov (.t 15),none⟩,⟨some 6,.mov (.t 16),none⟩,⟨some 7,.mov (.t 17),none⟩])
 (.seq (.seq (.reg [⟨some 18,.mov (.t 7),none⟩,⟨some 19,.eql (.one .i) true (.t 18) (.c (.int .i64 0)),none⟩])
 (.cond (.t 19) (.seq (.reg [⟨some 20,.mov (.t 7),none⟩,⟨some 2,.mov (.c (.int .i64 0)),none⟩,⟨some 3,.mov (.c (.int .i64 0)),none⟩,⟨some 4,.mov (.t 20),none⟩])
 (.jump .ret))
 .skip))
 (.seq (.reg [⟨some 8,.mov (.c (.int .i64 (-1))),none⟩,⟨some 9,.mov (.c (.int .i64 0)),none⟩])
 (.seq (.seq (.reg [⟨some 10,.mov (.c (.int .i64 0)),none⟩])
 (.block 0 (.loop YT)))
 (.seq (.seq (.reg [⟨some 47,.mov (.t 8),none⟩,⟨some 48,.bin .lss (.t 47) (.c (.int .i64 0)),none⟩])
 (.cond (.t 48) (.seq (.reg [⟨some 2,.mov (.c (.int .i64 0)),none⟩,⟨some 3,.mov (.c (.int .i64 0)),none⟩,⟨some 4,.mov (.c (.int .i64 9)),none⟩])
 (.jump .ret))
 .skip))
 (.seq (.reg [⟨some 49,.mov (.t 8),none⟩,⟨some 50,.mov (.t 9),none⟩,⟨some 2,.mov (.t 49),none⟩,⟨some 3,.mov (.t 50),none⟩,⟨some 4,.mov (.c (.int .i64 0)),none⟩])
 (.jump .ret)))))))⟩
def ZE:ACode:=.seq (.reg [⟨some 21,.bin .lss (.t 20) (.t 19),none⟩])
 (.seq (.cond (.t 21) .skip
 (.jump (.exit 0)))
 (.seq (.block 1 (.seq (.reg [⟨some 22,.mov (.t 20),none⟩,⟨some 5,.mov (.t 22),none⟩])
 (.seq (.reg [⟨some 23,.mov (.t 5),none⟩,⟨some 24,.faddr (.t 1) 3,none⟩,⟨some 25,.load none (.t 24),none⟩,⟨some 26,.len 1 (.t 25),none⟩,⟨some 27,.call (.c (.func 85 [] [])) [.t 23,.t 26],none⟩,⟨some 6,.mov (.t 27),none⟩])
 (.seq (.seq (.reg [⟨some 28,.mov (.t 4),none⟩,⟨some 29,.mov (.t 28),none⟩,⟨some 30,.mov (.t 6),(some (29,true))⟩,⟨some 31,.len 1 (.t 30),(some (29,true))⟩,⟨some 32,.mov (.t 2),(some (29,true))⟩,⟨some 33,.len 1 (.t 32),(some (29,true))⟩,⟨some 34,.bin .gtr (.t 31) (.t 33),(some (29,true))⟩,⟨some 35,.mov (.t 34),(some (29,true))⟩,⟨some 36,.mov (.t 6),(some (35,false))⟩,⟨some 37,.len 1 (.t 36),(some (35,false))⟩,⟨some 38,.mov (.t 2),(some (35,false))⟩,⟨some 39,.len 1 (.t 38),(some (35,false))⟩,⟨some 40,.eql (.one .i) false (.t 37) (.t 39),(some (35,false))⟩,⟨some 41,.mov (.t 40),(some (35,false))⟩,⟨some 42,.mov (.t 6),(some (41,true))⟩,⟨some 43,.mov (.t 2),(some (41,true))⟩,⟨some 44,.call (.c (.func 91 [] [])) [.t 42,.t 43],(some (41,true))⟩,⟨some 45,.bin .gtr (.t 44) (.c (.int .i64 0)),(some (41,true))⟩,⟨some 46,.pick (.t 41) (.t 45) (.c (.bool false)),(some (35,false))⟩,⟨some 47,.pick (.t 35) (.c (.bool true)) (.t 46),(some (29,true))⟩,⟨some 48,.pick (.t 29) (.t 47) (.c (.bool false)),none⟩])
 (.cond (.t 48) (.jump (.exit 1))
 .skip))
 (.seq (.reg [⟨some 49,.load (some 4) (.t 1),none⟩,⟨some 50,.mov (.t 5),none⟩,⟨some 51,.call (.c (.func 92 [] [])) [.t 49,.t 50],none⟩,⟨some 52,.call (.c (.func 93 [] [])) [.t 51],none⟩])
 (.cond (.t 52) (.reg [⟨some 53,.mov (.t 6),none⟩,⟨some 2,.mov (.t 53),none⟩,⟨some 4,.mov (.c (.bool true)),none⟩])
 .skip))))))
 (.reg [⟨some 54,.bin .add (.t 20) (.c (.int .i64 1)),none⟩,⟨some 20,.mov (.t 54),none⟩])))
def a36:AFunc:=⟨56,[.tmp 2,.tmp 3],
 .seq (.reg [⟨some 1,.box 4 (.t 0),none⟩,⟨some 2,.mov (.c (.lit [] true none)),none⟩,⟨some 3,.mov (.c (.int .i64 0)),none⟩])
 (.seq (.seq (.reg [⟨some 8,.load (some 4) (.t 1),none⟩,⟨some 9,.call (.c (.func 17 [] [])) [.t 8],none⟩,⟨some 7,.mov (.t 9),none⟩,⟨some 10,.ext (.t 7) 0,none⟩,⟨some 11,.ext (.t 7) 1,none⟩,⟨some 12,.ext (.t 7) 2,none⟩,⟨some 3,.mov (.t 12),none⟩])
 (.seq (.reg [⟨some 13,.mov (.t 3),none⟩,⟨some 14,.eql (.one .i) true (.t 13) (.c (.int .i64 0)),none⟩])
 (.cond (.t 14) (.seq (.reg [⟨some 15,.mov (.t 3),none⟩,⟨some 2,.mov (.c (.lit [] true none)),none⟩,⟨some 3,.mov (.t 15),none⟩])
 (.jump .ret))
 .skip)))
 (.seq (.reg [⟨some 4,.mov (.c (.bool false)),none⟩])
 (.seq (.seq (.reg [⟨some 16,.faddr (.t 1) 3,none⟩,⟨some 17,.load none (.t 16),none⟩,⟨some 18,.len 1 (.t 17),none⟩,⟨some 19,.bin .shl (.c (.int .i64 1)) (.t 18),none⟩,⟨some 20,.mov (.c (.int .i64 0)),none⟩])
 (.block 0 (.loop ZE)))
 (.seq (.reg [⟨some 55,.mov (.t 2),none⟩,⟨some 2,.mov (.t 55),none⟩,⟨some 3,.mov (.c (.int .i64 0)),none⟩])
 (.jump .ret)))))⟩
def ZO:ACode:=.seq (.seq (.reg [⟨some 31,.mov (.t 9),none⟩,⟨some 32,.mov (.t 8),none⟩,⟨some 33,.len 1 (.t 32),none⟩,⟨some 34,.bin .lss (.t 31) (.t 33),none⟩])
 (.cond (.t 34) .skip
 (.jump (.exit 2))))
 (.seq (.block 3 (.seq (.dreg [⟨⟨some 37,.load (some 4) (.t 1),none⟩,0,0⟩,⟨⟨some 38,.mov (.t 8),none⟩,0,0⟩,⟨⟨some 39,.mov (.t 9),none⟩,0,0⟩,⟨⟨some 40,.iaddr none 1 (.t 38) (.t 39),none⟩,0,0⟩,⟨⟨some 41,.load none (.t 40),none⟩,0,0⟩,⟨⟨some 42,.call (.c (.func 48 [] [])) [.t 37,.t 41],none⟩,0,1⟩,⟨⟨some 43,.len 1 (.t 42),none⟩,1,1⟩,⟨⟨some 44,.bin .gtr (.t 43) (.c (.int .i64 0)),none⟩,1,1⟩])
 (.cond (.t 44) (.seq (.reg [⟨some 45,.mov (.t 8),none⟩,⟨some 46,.mov (.t 9),none⟩,⟨some 47,.iaddr none 1 (.t 45) (.t 46),none⟩,⟨some 48,.load none (.t 47),none⟩,⟨some 2,.mov (.t 48),none⟩,⟨some 3,.mov (.c (.int .i64 0)),none⟩])
 (.jump .ret))
 .skip)))
 (.reg [⟨some 35,.mov (.t 9),none⟩,⟨some 36,.bin .add (.t 35) (.c (.int .i64 1)),none⟩,⟨some 9,.mov (.t 36),none⟩]))
def YA:ACode:=.seq (.seq (.reg [⟨some 19,.mov (.t 7),none⟩,⟨some 20,.faddr (.t 1) 3,none⟩,⟨some 21,.load none (.t 20),none⟩,⟨some 22,.len 1 (.t 21),none⟩,⟨some 23,.bin .lss (.t 19) (.t 22),none⟩])
 (.cond (.t 23) .skip
 (.jump (.exit 0))))
 (.seq (.block 1 (.seq (.reg [⟨some 26,.faddr (.t 1) 3,none⟩,⟨some 27,.load none (.t 26),none⟩,⟨some 28,.len 1 (.t 27),none⟩,⟨some 29,.mov (.t 7),none⟩,⟨some 30,.call (.c (.func 94 [] [])) [.t 28,.t 29],none⟩,⟨some 8,.mov (.t 30),none⟩])
 (.seq (.reg [⟨some 9,.mov (.c (.int .i64 0)),none⟩])
 (.block 2 (.loop ZO)))))
 (.reg [⟨some 24,.mov (.t 7),none⟩,⟨some 25,.bin .add (.t 24) (.c (.int .i64 1)),none⟩,⟨some 7,.mov (.t 25),none⟩]))
def a37:AFunc:=⟨58,[.tmp 2,.tmp 3],
 .seq (.reg [⟨some 1,.box 4 (.t 0),none⟩,⟨some 2,.mov (.c (.lit [] true none)),none⟩,⟨some 3,.mov (.c (.int .i64 0)),none⟩])
 (.seq (.reg [⟨some 11,.load (some 4) (.t 1),none⟩,⟨some 12,.call (.c (.func 18 [] [])) [.t 11],none⟩,⟨some 10,.mov (.t 12),none⟩,⟨some 13,.ext (.t 10) 0,none⟩,⟨some 14,.ext (.t 10) 1,none⟩,⟨some 15,.ext (.t 10) 2,none⟩,⟨some 4,.mov (.t 13),none⟩,⟨some 5,.mov (.t 14),none⟩,⟨some 6,.mov (.t 15),none⟩])
 (.seq (.seq (.reg [⟨some 16,.mov (.t 6),none⟩,⟨some 17,.eql (.one .i) true (.t 16) (.c (.int .i64 0)),none⟩])
 (.cond (.t 17) (.seq (.reg [⟨some 18,.mov (.t 6),none⟩,⟨some 2,.mov (.c (.lit [] true none)),none⟩,⟨some 3,.mov (.t 18),none⟩])
 (.jump .ret))
 .skip))
 (.seq (.seq (.reg [⟨some 7,.mov (.c (.int .i64 0)),none⟩])
 (.block 0 (.loop YA)))
 (.seq (.reg [⟨some 49,.faddr (.t 1) 3,none⟩,⟨some 50,.load none (.t 49),none⟩,⟨some 51,.len 1 (.t 50),none⟩,⟨some 52,.faddr (.t 1) 3,none⟩,⟨some 53,.load none (.t 52),none⟩,⟨some 54,.len 1 (.t 53),none⟩,⟨some 55,.call (.c (.func 94 [] [])) [.t 51,.t 54],none⟩,⟨some 56,.iaddr none 1 (.t 55) (.c (.int .i64 0)),none⟩,⟨some 57,.load none (.t 56),none⟩,⟨some 2,.mov (.t 57),none⟩,⟨some 3,.mov (.c (.int .i64 0)),none⟩])
 (.jump .ret)))))⟩
def a38:AFunc:=⟨32,[.cell 4 (some 4)],
 .seq (.reg [⟨some 4,.alloc [.int .i64 0,.lit [] true none,.lit [] true none,.lit [] true none],none⟩])
 (.seq (.reg [⟨some 6,.call (.c (.func 40 [] [])) [(.c (.int .i64 5)),(.c (.int .i64 6))],none⟩,⟨some 7,.build [.int .i64 0,.int .i64 0,.int .i64 0,.int .i64 0,.int .i64 0] [(0,1,(.c (.int .i64 1))),(1,1,(.c (.int .i64 0))),(2,2,(.t 6))],none⟩,⟨some 8,.call (.c (.func 40 [] [])) [(.c (.int .i64 4)),(.c (.int .i64 4))],none⟩,⟨some 9,.build [.int .i64 0,.int .i64 0,.int .i64 0,.int .i64 0,.int .i64 0] [(0,1,(.c (.int .i64 2))),(1,1,(.c (.int .i64 1))),(2,2,(.t 8))],none⟩,⟨some 10,.call (.c (.func 40 [] [])) [(.c (.int .i64 12)),(.c (.int .i64 12))],none⟩,⟨some 11,.build [.int .i64 0,.int .i64 0,.int .i64 0,.int .i64 0,.int .i64 0] [(0,1,(.c (.int .i64 2))),(1,1,(.c (.int .i64 0))),(2,2,(.t 10)),(4,1,(.c (.int .i64 2)))],none⟩,⟨some 12,.call (.c (.func 40 [] [])) [(.c (.int .i64 3)),(.c (.int .i64 3))],none⟩,⟨some 13,.build [.int .i64 0,.int .i64 0,.int .i64 0,.int .i64 0,.int .i64 0] [(0,1,(.c (.int .i64 3))),(1,1,(.c (.int .i64 2))),(2,2,(.t 12))],none⟩,⟨some 14,.mkref 5 [.t 7,.t 9,.t 11,.t 13],none⟩,⟨some 15,.mkref 1 [(.c (.int .i64 1)),(.c (.int .i64 0))],none⟩,⟨some 16,.build [.str ⟨#[]⟩,.int .i64 0,.int .i64 0,.int .i64 0,.lit [] true none] [(0,1,(.c (.str ⟨#[114,101,100]⟩))),(1,1,(.c (.int .i64 2))),(3,1,(.c (.int .i64 12))),(4,1,(.t 15))],none⟩,⟨some 17,.mkref 1 [(.c (.int .i64 3)),(.c (.int .i64 1)),(.c (.int .i64 0))],none⟩,⟨some 18,.build [.str ⟨#[]⟩,.int .i64 0,.int .i64 0,.int .i64 0,.lit [] true none] [(0,1,(.c (.str ⟨#[98,108,117,101]⟩))),(1,1,(.c (.int .i64 3))),(3,1,(.c (.int .i64 24))),(4,1,(.t 17))],none⟩,⟨some 19,.mkref 5 [.t 16,.t 18],none⟩,⟨some 20,.mov (.t 1),none⟩,⟨some 21,.build [.int .i64 0,.lit [] true none,.lit [] true none,.lit [] true none] [(0,1,(.c (.int .i64 4))),(1,1,(.t 14)),(2,1,(.t 19)),(3,1,(.t 20))],none⟩,⟨some 5,.alloc [.int .i64 0,.lit [] true none,.lit [] true none,.lit [] true none],none⟩,⟨none,.store 4 (.t 5) (.t 21),none⟩])
 (.seq (.seq (.reg [⟨some 22,.mov (.t 0),none⟩])
 (.cond (.t 22) (.dreg [⟨⟨some 23,.faddr (.t 5) 1,none⟩,0,0⟩,⟨⟨some 24,.load none (.t 23),none⟩,0,0⟩,⟨⟨some 25,.faddr (.t 5) 1,none⟩,0,1⟩,⟨⟨some 26,.load none (.t 25),none⟩,0,1⟩,⟨⟨some 27,.iaddr none 5 (.t 24) (.c (.int .i64 0)),none⟩,0,0⟩,⟨⟨some 28,.faddr (.t 27) 4,none⟩,0,0⟩,⟨⟨none,.store 1 (.t 28) (.c (.int .i64 2)),none⟩,0,1⟩,⟨⟨some 29,.iaddr none 5 (.t 26) (.c (.int .i64 2)),none⟩,1,1⟩,⟨⟨some 30,.faddr (.t 29) 4,none⟩,1,1⟩,⟨⟨none,.store 1 (.t 30) (.c (.int .i64 0)),none⟩,1,2⟩])
 .skip))
 (.seq (.reg [⟨some 31,.load (some 4) (.t 5),none⟩,⟨none,.store 4 (.t 4) (.t 31),none⟩])
 (.jump .ret))))⟩
def a39:AFunc:=⟨8,[.cell 4 (some 2)],
 .seq (.reg [⟨some 4,.alloc [.int .i64 0,.int .i64 0],none⟩])
 (.seq (.reg [⟨some 5,.mov (.t 0),none⟩,⟨some 6,.mov (.t 1),none⟩,⟨some 7,.build [.int .i64 0,.int .i64 0] [(0,1,(.t 5)),(1,1,(.t 6))],none⟩,⟨none,.store 2 (.t 4) (.t 7),none⟩])
 (.jump .ret))⟩
def a40:AFunc:=⟨8,[.cell 4 (some 2)],
 .seq (.reg [⟨some 4,.alloc [.int .i64 0,.int .i64 0],none⟩])
 (.seq (.reg [⟨some 5,.mov (.t 0),none⟩,⟨some 6,.mov (.t 1),none⟩,⟨some 7,.build [.int .i64 0,.int .i64 0] [(0,1,(.t 5)),(1,1,(.t 6))],none⟩,⟨none,.store 2 (.t 4) (.t 7),none⟩])
 (.jump .ret))⟩
def X6:ACode:=.seq (.seq (.reg [⟨some 7,.mov (.t 6),none⟩,⟨some 8,.mov (.t 0),none⟩,⟨some 9,.len 1 (.t 8),none⟩,⟨some 10,.bin .lss (.t 7) (.t 9),none⟩])
 (.cond (.t 10) .skip
 (.jump (.exit 0))))
 (.seq (.block 1 (.reg [⟨some 13,.mov (.t 5),none⟩,⟨some 14,.mov (.t 13),none⟩,⟨some 15,.mov (.t 0),(some (14,false))⟩,⟨some 16,.mov (.t 6),(some (14,false))⟩,⟨some 17,.iaddr none 1 (.t 15) (.t 16),(some (14,false))⟩,⟨some 18,.load none (.t 17),(some (14,false))⟩,⟨some 19,.mov (.t 1),(some (14,false))⟩,⟨some 20,.eql (.one .i) false (.t 18) (.t 19),(some (14,false))⟩,⟨some 21,.pick (.t 14) (.c (.bool true)) (.t 20),none⟩,⟨some 5,.mov (.t 21),none⟩]))
 (.reg [⟨some 11,.mov (.t 6),none⟩,⟨some 12,.bin .add (.t 11) (.c (.int .i64 1)),none⟩,⟨some 6,.mov (.t 12),none⟩]))
def a43:AFunc:=⟨23,[.tmp 4],
 .seq (.reg [⟨some 4,.mov (.c (.bool false)),none⟩])
 (.seq (.reg [⟨some 5,.mov (.c (.bool false)),none⟩])
 (.seq (.seq (.reg [⟨some 6,.mov (.c (.int .i64 0)),none⟩])
 (.block 0 (.loop X6)))
 (.seq (.reg [⟨some 22,.mov (.t 5),none⟩,⟨some 4,.mov (.t 22),none⟩])
 (.jump .ret))))⟩
def a44:AFunc:=⟨13,[.tmp 4],
 .seq (.reg [⟨some 2,.box 5 (.t 0),none⟩,⟨some 4,.mov (.c (.bool false)),none⟩])
 (.seq (.reg [⟨some 5,.mov (.t 1),none⟩,⟨some 6,.eql (.one .i) true (.t 5) (.c (.int .i64 (-1))),none⟩,⟨some 7,.mov (.t 6),none⟩,⟨some 8,.mov (.t 1),(some (7,true))⟩,⟨some 9,.faddr (.t 2) 3,(some (7,true))⟩,⟨some 10,.load none (.t 9),(some (7,true))⟩,⟨some 11,.bin .leq (.t 8) (.t 10),(some (7,true))⟩,⟨some 12,.pick (.t 7) (.t 11) (.c (.bool false)),none⟩,⟨some 4,.mov (.t 12),none⟩])
 (.jump .ret))⟩
def Z4:ACode:=.seq (.seq (.reg [⟨some 31,.mov (.t 11),none⟩,⟨some 32,.faddr (.t 2) 3,none⟩,⟨some 33,.load none (.t 32),none⟩,⟨some 34,.len 1 (.t 33),none⟩,⟨some 35,.bin .lss (.t 31) (.t 34),none⟩])
 (.cond (.t 35) .skip
 (.jump (.exit 2))))
 (.seq (.block 3 (.dreg [⟨⟨some 38,.mov (.t 10),none⟩,0,0⟩,⟨⟨some 39,.mov (.t 38),none⟩,0,0⟩,⟨⟨some 40,.mov (.t 1),(some (39,true))⟩,0,0⟩,⟨⟨some 41,.mov (.t 11),(some (39,true))⟩,0,0⟩,⟨⟨some 42,.call (.c (.func 43 [] [])) [.t 40,.t 41],(some (39,true))⟩,0,1⟩,⟨⟨some 43,.mov (.t 42),(some (39,true))⟩,1,1⟩,⟨⟨some 44,.mov (.t 9),(some (43,false))⟩,1,1⟩,⟨⟨some 45,.faddr (.t 2) 3,(some (43,false))⟩,1,1⟩,⟨⟨some 46,.load none (.t 45),(some (43,false))⟩,1,1⟩,⟨⟨some 47,.mov (.t 11),(some (43,false))⟩,1,1⟩,⟨⟨some 48,.iaddr none 2 (.t 46) (.t 47),(some (43,false))⟩,1,1⟩,⟨⟨some 49,.faddr (.t 48) 0,(some (43,false))⟩,1,1⟩,⟨⟨some 50,.load none (.t 49),(some (43,false))⟩,1,1⟩,⟨⟨some 51,.iaddr none 1 (.t 44) (.t 50),(some (43,false))⟩,1,1⟩,⟨⟨some 52,.load none (.t 51),(some (43,false))⟩,1,1⟩,⟨⟨some 53,.faddr (.t 2) 3,(some (43,false))⟩,1,1⟩,⟨⟨some 54,.load none (.t 53),(some (43,false))⟩,1,1⟩,⟨⟨some 55,.mov (.t 11),(some (43,false))⟩,1,1⟩,⟨⟨some 56,.iaddr none 2 (.t 54) (.t 55),(some (43,false))⟩,1,1⟩,⟨⟨some 57,.faddr (.t 56) 1,(some (43,false))⟩,1,1⟩,⟨⟨some 58,.load none (.t 57),(some (43,false))⟩,1,1⟩,⟨⟨some 59,.eql (.one .i) false (.t 52) (.t 58),(some (43,false))⟩,1,1⟩,⟨⟨some 60,.pick (.t 43) (.c (.bool true)) (.t 59),(some (39,true))⟩,1,1⟩,⟨⟨some 61,.pick (.t 39) (.t 60) (.c (.bool false)),none⟩,1,1⟩,⟨⟨some 10,.mov (.t 61),none⟩,1,1⟩]))
 (.reg [⟨some 36,.mov (.t 11),none⟩,⟨some 37,.bin .add (.t 36) (.c (.int .i64 1)),none⟩,⟨some 11,.mov (.t 37),none⟩]))
def ZL:ACode:=.seq (.seq (.reg [⟨some 14,.mov (.t 7),none⟩,⟨some 15,.mov (.t 5),none⟩,⟨some 16,.len 1 (.t 15),none⟩,⟨some 17,.bin .lss (.t 14) (.t 16),none⟩])
 (.cond (.t 17) .skip
 (.jump (.exit 0))))
 (.seq (.block 1 (.seq (.dreg [⟨⟨some 21,.load (some 4) (.t 2),none⟩,0,1⟩,⟨⟨some 22,.mov (.t 5),none⟩,0,1⟩,⟨⟨some 23,.mov (.t 7),none⟩,0,1⟩,⟨⟨some 24,.iaddr none 2 (.t 22) (.t 23),none⟩,0,1⟩,⟨⟨some 25,.load (some 2) (.t 24),none⟩,0,1⟩,⟨⟨some 26,.load (some 4) (.t 2),none⟩,0,0⟩,⟨⟨some 27,.call (.c (.func 50 [] [])) [.t 26],none⟩,0,1⟩,⟨⟨some 28,.call (.c (.func 49 [] [])) [.t 21,.t 25,.t 27],none⟩,1,2⟩,⟨⟨some 20,.mov (.t 28),none⟩,2,2⟩,⟨⟨some 29,.ext (.t 20) 0,none⟩,2,2⟩,⟨⟨some 30,.ext (.t 20) 1,none⟩,2,2⟩,⟨⟨some 8,.mov (.t 29),none⟩,2,2⟩,⟨⟨some 9,.mov (.t 30),none⟩,2,2⟩])
 (.seq (.reg [⟨some 10,.mov (.c (.bool true)),none⟩])
 (.seq (.seq (.reg [⟨some 11,.mov (.c (.int .i64 0)),none⟩])
 (.block 2 (.loop Z4)))
 (.seq (.reg [⟨some 62,.mov (.t 10),none⟩])
 (.cond (.t 62) (.reg [⟨some 63,.mov (.t 6),none⟩,⟨some 64,.mov (.t 5),none⟩,⟨some 65,.mov (.t 7),none⟩,⟨some 66,.iaddr none 2 (.t 64) (.t 65),none⟩,⟨some 67,.load (some 2) (.t 66),none⟩,⟨some 68,.mklit 2 [.t 67],none⟩,⟨some 69,.append 2 48 (.t 63) (.t 68),none⟩,⟨some 6,.mov (.t 69),none⟩])
 .skip))))))
 (.reg [⟨some 18,.mov (.t 7),none⟩,⟨some 19,.bin .add (.t 18) (.c (.int .i64 1)),none⟩,⟨some 7,.mov (.t 19),none⟩]))
def a48:AFunc:=⟨71,[.tmp 4],
 .seq (.reg [⟨some 2,.box 4 (.t 0),none⟩,⟨some 4,.mov (.c (.lit [] true none)),none⟩])
 (.seq (.reg [⟨some 12,.load (some 4) (.t 2),none⟩,⟨some 13,.call (.c (.func 95 [] [])) [.t 12],none⟩,⟨some 5,.mov (.t 13),none⟩])
 (.seq (.reg [⟨some 6,.mov (.c (.lit [] true none)),none⟩])
 (.seq (.seq (.reg [⟨some 7,.mov (.c (.int .i64 0)),none⟩])
 (.block 0 (.loop ZL)))
 (.seq (.reg [⟨some 70,.mov (.t 6),none⟩,⟨some 4,.mov (.t 70),none⟩])
 (.jump .ret)))))⟩
def Y9:ACode:=.seq (.seq (.reg [⟨some 29,.mov (.t 12),none⟩,⟨some 30,.mov (.t 2),none⟩,⟨some 31,.mov (.t 10),none⟩,⟨some 32,.iaddr none 1 (.t 30) (.t 31),none⟩,⟨some 33,.load none (.t 32),none⟩,⟨some 34,.len 1 (.t 33),none⟩,⟨some 35,.bin .lss (.t 29) (.t 34),none⟩])
 (.cond (.t 35) .skip
 (.jump (.exit 2))))
 (.seq (.block 3 (.seq (.dreg [⟨⟨some 38,.faddr (.t 4) 0,none⟩,0,0⟩,⟨⟨some 39,.load none (.t 38),none⟩,0,0⟩,⟨⟨some 40,.mov (.t 2),none⟩,0,0⟩,⟨⟨some 41,.mov (.t 10),none⟩,0,0⟩,⟨⟨some 42,.iaddr none 1 (.t 40) (.t 41),none⟩,0,0⟩,⟨⟨some 43,.load none (.t 42),none⟩,0,0⟩,⟨⟨some 44,.mov (.t 12),none⟩,0,0⟩,⟨⟨some 45,.iaddr none 1 (.t 43) (.t 44),none⟩,0,0⟩,⟨⟨some 46,.load none (.t 45),none⟩,0,0⟩,⟨⟨some 47,.iaddr none 1 (.t 39) (.t 46),none⟩,0,0⟩,⟨⟨some 48,.load none (.t 47),none⟩,0,0⟩])
 (.cond (.t 48) (.reg [⟨some 11,.mov (.c (.int .i64 (-1))),none⟩])
 .skip)))
 (.reg [⟨some 36,.mov (.t 12),none⟩,⟨some 37,.bin .add (.t 36) (.c (.int .i64 1)),none⟩,⟨some 12,.mov (.t 37),none⟩]))
def K3:ACode:=.seq (.seq (.reg [⟨some 49,.mov (.t 13),none⟩,⟨some 50,.mov (.t 2),none⟩,⟨some 51,.mov (.t 10),none⟩,⟨some 52,.iaddr none 1 (.t 50) (.t 51),none⟩,⟨some 53,.load none (.t 52),none⟩,⟨some 54,.len 1 (.t 53),none⟩,⟨some 55,.bin .lss (.t 49) (.t 54),none⟩,⟨some 56,.mov (.t 55),none⟩,⟨some 57,.mov (.t 11),(some (56,true))⟩,⟨some 58,.eql (.one .i) true (.t 57) (.c (.int .i64 (-1))),(some (56,true))⟩,⟨some 59,.pick (.t 56) (.t 58) (.c (.bool false)),none⟩])
 (.cond (.t 59) .skip
 (.jump (.exit 4))))
 (.seq (.block 5 (.seq (.reg [⟨some 62,.mov (.t 2),none⟩,⟨some 63,.mov (.t 10),none⟩,⟨some 64,.iaddr none 1 (.t 62) (.t 63),none⟩,⟨some 65,.load none (.t 64),none⟩,⟨some 66,.mov (.t 13),none⟩,⟨some 67,.iaddr none 1 (.t 65) (.t 66),none⟩,⟨some 68,.load none (.t 67),none⟩,⟨some 14,.mov (.t 68),none⟩])
 (.seq (.reg [⟨some 69,.mov (.t 8),none⟩,⟨some 70,.mov (.t 14),none⟩,⟨some 71,.mov (.t 11),none⟩,⟨some 72,.faddr (.t 4) 1,none⟩,⟨some 73,.load none (.t 72),none⟩,⟨some 74,.mov (.t 14),none⟩,⟨some 75,.iaddr none 1 (.t 73) (.t 74),none⟩,⟨some 76,.load none (.t 75),none⟩,⟨some 77,.call (.c (.func 96 [] [])) [.t 69,.t 70,.t 71,.t 76],none⟩,⟨some 15,.mov (.t 77),none⟩])
 (.seq (.reg [⟨some 78,.mov (.t 15),none⟩,⟨some 79,.faddr (.t 4) 1,none⟩,⟨some 80,.load none (.t 79),none⟩,⟨some 81,.mov (.t 14),none⟩,⟨some 82,.iaddr none 1 (.t 80) (.t 81),none⟩,⟨some 83,.load none (.t 82),none⟩,⟨some 84,.bin .add (.t 78) (.t 83),none⟩,⟨some 11,.mov (.t 84),none⟩])
 (.reg [⟨some 85,.mov (.t 8),none⟩,⟨some 86,.mov (.t 10),none⟩,⟨some 87,.mov (.t 14),none⟩,⟨some 88,.mov (.t 15),none⟩,⟨some 89,.mov (.t 11),none⟩,⟨some 90,.build [.int .i64 0,.int .i64 0,.int .i64 0,.int .i64 0] [(0,1,(.t 86)),(1,1,(.t 87)),(2,1,(.t 88)),(3,1,(.t 89))],none⟩,⟨some 91,.mklit 4 [.t 90],none⟩,⟨some 92,.append 4 32 (.t 85) (.t 91),none⟩,⟨some 8,.mov (.t 92),none⟩])))))
 (.reg [⟨some 60,.mov (.t 13),none⟩,⟨some 61,.bin .add (.t 60) (.c (.int .i64 1)),none⟩,⟨some 13,.mov (.t 61),none⟩]))
def YB:ACode:=.seq (.seq (.reg [⟨some 16,.mov (.t 10),none⟩,⟨some 17,.faddr (.t 3) 2,none⟩,⟨some 18,.load none (.t 17),none⟩,⟨some 19,.len 1 (.t 18),none⟩,⟨some 20,.bin .lss (.t 16) (.t 19),none⟩])
 (.cond (.t 20) .skip
 (.jump (.exit 0))))
 (.seq (.block 1 (.seq (.reg [⟨some 23,.faddr (.t 3) 2,none⟩,⟨some 24,.load none (.t 23),none⟩,⟨some 25,.mov (.t 10),none⟩,⟨some 26,.iaddr none 5 (.t 24) (.t 25),none⟩,⟨some 27,.faddr (.t 26) 2,none⟩,⟨some 28,.load none (.t 27),none⟩,⟨some 11,.mov (.t 28),none⟩])
 (.seq (.seq (.reg [⟨some 12,.mov (.c (.int .i64 0)),none⟩])
 (.block 2 (.loop Y9)))
 (.seq (.seq (.reg [⟨some 13,.mov (.c (.int .i64 0)),none⟩])
 (.block 4 (.loop K3)))
 (.reg [⟨some 93,.mov (.t 9),none⟩,⟨some 94,.mov (.t 11),none⟩,⟨some 95,.mklit 1 [.t 94],none⟩,⟨some 96,.append 1 8 (.t 93) (.t 95),none⟩,⟨some 9,.mov (.t 96),none⟩])))))
 (.reg [⟨some 21,.mov (.t 10),none⟩,⟨some 22,.bin .add (.t 21) (.c (.int .i64 1)),none⟩,⟨some 10,.mov (.t 22),none⟩]))
def a49:AFunc:=⟨99,[.tmp 6,.tmp 7],
 .seq (.reg [⟨some 3,.box 4 (.t 0),none⟩,⟨some 4,.box 2 (.t 1),none⟩,⟨some 6,.mov (.c (.lit [] true none)),none⟩,⟨some 7,.mov (.c (.lit [] true none)),none⟩])
 (.seq (.reg [⟨some 8,.mov (.c (.lit [] true none)),none⟩])
 (.seq (.reg [⟨some 9,.mov (.c (.lit [] true none)),none⟩])
 (.seq (.seq (.reg [⟨some 10,.mov (.c (.int .i64 0)),none⟩])
 (.block 0 (.loop YB)))
 (.seq (.reg [⟨some 97,.mov (.t 8),none⟩,⟨some 98,.mov (.t 9),none⟩,⟨some 6,.mov (.t 97),none⟩,⟨some 7,.mov (.t 98),none⟩])
 (.jump .ret)))))⟩
def XS:ACode:=.seq (.seq (.reg [⟨some 5,.mov (.t 4),none⟩,⟨some 6,.faddr (.t 1) 2,none⟩,⟨some 7,.load none (.t 6),none⟩,⟨some 8,.len 1 (.t 7),none⟩,⟨some 9,.bin .lss (.t 5) (.t 8),none⟩])
 (.cond (.t 9) .skip
 (.jump (.exit 0))))
 (.seq (.block 1 (.reg [⟨some 12,.mov (.t 3),none⟩,⟨some 13,.faddr (.t 1) 2,none⟩,⟨some 14,.load none (.t 13),none⟩,⟨some 15,.mov (.t 4),none⟩,⟨some 16,.iaddr none 5 (.t 14) (.t 15),none⟩,⟨some 17,.faddr (.t 16) 4,none⟩,⟨some 18,.load none (.t 17),none⟩,⟨some 19,.mklit 1 [.t 18],none⟩,⟨some 20,.append 1 24 (.t 12) (.t 19),none⟩,⟨some 3,.mov (.t 20),none⟩]))
 (.reg [⟨some 10,.mov (.t 4),none⟩,⟨some 11,.bin .add (.t 10) (.c (.int .i64 1)),none⟩,⟨some 4,.mov (.t 11),none⟩]))
def a50:AFunc:=⟨22,[.tmp 2],
 .seq (.reg [⟨some 1,.box 4 (.t 0),none⟩,⟨some 2,.mov (.c (.lit [] true none)),none⟩])
 (.seq (.reg [⟨some 3,.mov (.c (.lit [] true none)),none⟩])
 (.seq (.seq (.reg [⟨some 4,.mov (.c (.int .i64 0)),none⟩])
 (.block 0 (.loop XS)))
 (.seq (.reg [⟨some 21,.mov (.t 3),none⟩,⟨some 2,.mov (.t 21),none⟩])
 (.jump .ret))))⟩
def ZY:ACode:=.seq (.seq (.reg [⟨some 25,.mov (.t 12),none⟩,⟨some 26,.faddr (.t 3) 1,none⟩,⟨some 27,.load none (.t 26),none⟩,⟨some 28,.len 1 (.t 27),none⟩,⟨some 29,.bin .lss (.t 25) (.t 28),none⟩])
 (.cond (.t 29) .skip
 (.jump (.exit 4))))
 (.seq (.block 5 (.seq (.seq (.reg [⟨some 32,.faddr (.t 3) 1,none⟩,⟨some 33,.load none (.t 32),none⟩,⟨some 34,.mov (.t 12),none⟩,⟨some 35,.iaddr none 5 (.t 33) (.t 34),none⟩,⟨some 36,.faddr (.t 35) 4,none⟩,⟨some 37,.load none (.t 36),none⟩,⟨some 38,.eql (.one .i) false (.t 37) (.c (.int .i64 1)),none⟩,⟨some 39,.mov (.t 38),none⟩,⟨some 40,.mov (.t 2),(some (39,false))⟩,⟨some 41,.mov (.t 12),(some (39,false))⟩,⟨some 42,.call (.c (.func 43 [] [])) [.t 40,.t 41],(some (39,false))⟩,⟨some 43,.pick (.t 39) (.c (.bool true)) (.t 42),none⟩,⟨some 44,.mov (.t 43),none⟩,⟨some 45,.mov (.t 8),(some (44,false))⟩,⟨some 46,.mov (.t 11),(some (44,false))⟩,⟨some 47,.iaddr none 1 (.t 45) (.t 46),(some (44,false))⟩,⟨some 48,.load none (.t 47),(some (44,false))⟩,⟨some 49,.mov (.t 12),(some (44,false))⟩,⟨some 50,.call (.c (.func 43 [] [])) [.t 48,.t 49],(some (44,false))⟩,⟨some 51,.pick (.t 44) (.c (.bool true)) (.t 50),none⟩])
 (.cond (.t 51) (.jump (.exit 5))
 .skip))
 (.seq (.reg [⟨some 52,.mklit 1 [],none⟩,⟨some 53,.mov (.t 8),none⟩,⟨some 54,.mov (.t 11),none⟩,⟨some 55,.iaddr none 1 (.t 53) (.t 54),none⟩,⟨some 56,.load none (.t 55),none⟩,⟨some 57,.append 1 8 (.t 52) (.t 56),none⟩,⟨some 58,.mov (.t 12),none⟩,⟨some 59,.mklit 1 [.t 58],none⟩,⟨some 60,.append 1 8 (.t 57) (.t 59),none⟩,⟨some 13,.mov (.t 60),none⟩])
 (.seq (.reg [⟨some 61,.mov (.t 10),none⟩,⟨some 62,.mov (.t 13),none⟩,⟨some 63,.mklit 1 [.t 62],none⟩,⟨some 64,.append 1 24 (.t 61) (.t 63),none⟩,⟨some 10,.mov (.t 64),none⟩])
 (.seq (.reg [⟨some 65,.load (some 4) (.t 3),none⟩,⟨some 66,.mov (.t 1),none⟩,⟨some 67,.mov (.t 13),none⟩,⟨some 68,.call (.c (.func 61 [] [])) [.t 65,.t 66,.t 67],none⟩])
 (.cond (.t 68) (.reg [⟨some 69,.mov (.t 7),none⟩,⟨some 70,.mov (.t 13),none⟩,⟨some 71,.mklit 1 [.t 70],none⟩,⟨some 72,.append 1 24 (.t 69) (.t 71),none⟩,⟨some 7,.mov (.t 72),none⟩])
 .skip))))))
 (.reg [⟨some 30,.mov (.t 12),none⟩,⟨some 31,.bin .add (.t 30) (.c (.int .i64 1)),none⟩,⟨some 12,.mov (.t 31),none⟩]))
def XH:ACode:=.seq (.seq (.reg [⟨some 19,.mov (.t 11),none⟩,⟨some 20,.mov (.t 8),none⟩,⟨some 21,.len 1 (.t 20),none⟩,⟨some 22,.bin .lss (.t 19) (.t 21),none⟩])
 (.cond (.t 22) .skip
 (.jump (.exit 2))))
 (.seq (.block 3 (.seq (.reg [⟨some 12,.mov (.c (.int .i64 0)),none⟩])
 (.block 4 (.loop ZY))))
 (.reg [⟨some 23,.mov (.t 11),none⟩,⟨some 24,.bin .add (.t 23) (.c (.int .i64 1)),none⟩,⟨some 11,.mov (.t 24),none⟩]))
def ZW:ACode:=.seq (.seq (.reg [⟨some 15,.mov (.t 9),none⟩,⟨some 16,.bin .leq (.t 15) (.c (.int .i64 4)),none⟩])
 (.cond (.t 16) .skip
 (.jump (.exit 0))))
 (.seq (.block 1 (.seq (.reg [⟨some 10,.mov (.c (.lit [] true none)),none⟩])
 (.seq (.seq (.reg [⟨some 11,.mov (.c (.int .i64 0)),none⟩])
 (.block 2 (.loop XH)))
 (.reg [⟨some 73,.mov (.t 10),none⟩,⟨some 8,.mov (.t 73),none⟩]))))
 (.reg [⟨some 17,.mov (.t 9),none⟩,⟨some 18,.bin .add (.t 17) (.c (.int .i64 1)),none⟩,⟨some 9,.mov (.t 18),none⟩]))
def a51:AFunc:=⟨75,[.tmp 6],
 .seq (.reg [⟨some 3,.box 4 (.t 0),none⟩,⟨some 6,.mov (.c (.lit [] true none)),none⟩])
 (.seq (.reg [⟨some 7,.mov (.c (.lit [] true none)),none⟩])
 (.seq (.reg [⟨some 14,.mklit 1 [(.c (.lit [] true none))],none⟩,⟨some 8,.mov (.t 14),none⟩])
 (.seq (.seq (.reg [⟨some 9,.mov (.c (.int .i64 1)),none⟩])
 (.block 0 (.loop ZW)))
 (.seq (.reg [⟨some 74,.mov (.t 7),none⟩,⟨some 6,.mov (.t 74),none⟩])
 (.jump .ret)))))⟩
def YZ:ACode:=.seq (.seq (.reg [⟨some 27,.mov (.t 10),none⟩,⟨some 28,.mov (.t 9),none⟩,⟨some 29,.len 1 (.t 28),none⟩,⟨some 30,.bin .lss (.t 27) (.t 29),none⟩])
 (.cond (.t 30) .skip
 (.jump (.exit 2))))
 (.seq (.block 3 (.seq (.dreg [⟨⟨some 33,.faddr (.t 3) 2,none⟩,0,0⟩,⟨⟨some 34,.load none (.t 33),none⟩,0,0⟩,⟨⟨some 35,.mov (.t 10),none⟩,0,0⟩,⟨⟨some 36,.iaddr none 5 (.t 34) (.t 35),none⟩,0,0⟩,⟨⟨some 37,.load (some 5) (.t 36),none⟩,0,0⟩,⟨⟨some 38,.mov (.t 9),none⟩,0,0⟩,⟨⟨some 39,.mov (.t 10),none⟩,0,0⟩,⟨⟨some 40,.iaddr none 1 (.t 38) (.t 39),none⟩,0,0⟩,⟨⟨some 41,.load none (.t 40),none⟩,0,0⟩,⟨⟨some 42,.call (.c (.func 44 [] [])) [.t 37,.t 41],none⟩,0,1⟩,⟨⟨some 43,.not (.t 42),none⟩,1,1⟩])
 (.cond (.t 43) (.seq (.reg [⟨some 6,.mov (.c (.bool false)),none⟩])
 (.jump .ret))
 .skip)))
 (.reg [⟨some 31,.mov (.t 10),none⟩,⟨some 32,.bin .add (.t 31) (.c (.int .i64 1)),none⟩,⟨some 10,.mov (.t 32),none⟩]))
def YV:ACode:=.seq (.seq (.reg [⟨some 11,.mov (.t 7),none⟩,⟨some 12,.mov (.t 1),none⟩,⟨some 13,.len 1 (.t 12),none⟩,⟨some 14,.bin .lss (.t 11) (.t 13),none⟩])
 (.cond (.t 14) .skip
 (.jump (.exit 0))))
 (.seq (.block 1 (.seq (.dreg [⟨⟨some 18,.load (some 4) (.t 3),none⟩,0,0⟩,⟨⟨some 19,.mov (.t 1),none⟩,0,0⟩,⟨⟨some 20,.mov (.t 7),none⟩,0,0⟩,⟨⟨some 21,.iaddr none 2 (.t 19) (.t 20),none⟩,0,0⟩,⟨⟨some 22,.load (some 2) (.t 21),none⟩,0,0⟩,⟨⟨some 23,.mov (.t 2),none⟩,0,0⟩,⟨⟨some 24,.call (.c (.func 49 [] [])) [.t 18,.t 22,.t 23],none⟩,0,1⟩,⟨⟨some 17,.mov (.t 24),none⟩,1,1⟩,⟨⟨some 25,.ext (.t 17) 0,none⟩,1,1⟩,⟨⟨some 26,.ext (.t 17) 1,none⟩,1,1⟩,⟨⟨some 8,.mov (.t 25),none⟩,1,1⟩,⟨⟨some 9,.mov (.t 26),none⟩,1,1⟩])
 (.seq (.reg [⟨some 10,.mov (.c (.int .i64 0)),none⟩])
 (.block 2 (.loop YZ)))))
 (.reg [⟨some 15,.mov (.t 7),none⟩,⟨some 16,.bin .add (.t 15) (.c (.int .i64 1)),none⟩,⟨some 7,.mov (.t 16),none⟩]))
def a53:AFunc:=⟨44,[.tmp 6],
 .seq (.reg [⟨some 3,.box 4 (.t 0),none⟩,⟨some 6,.mov (.c (.bool false)),none⟩])
 (.seq (.seq (.reg [⟨some 7,.mov (.c (.int .i64 0)),none⟩])
 (.block 0 (.loop YV)))
 (.seq (.reg [⟨some 6,.mov (.c (.bool true)),none⟩])
 (.jump .ret)))⟩
def ZT:ACode:=.seq (.seq (.reg [⟨some 7,.mov (.t 6),none⟩,⟨some 8,.mov (.t 1),none⟩,⟨some 9,.len 1 (.t 8),none⟩,⟨some 10,.bin .lss (.t 7) (.t 9),none⟩])
 (.cond (.t 10) .skip
 (.jump (.exit 0))))
 (.seq (.block 1 (.seq (.dreg [⟨⟨some 13,.mov (.t 1),none⟩,0,0⟩,⟨⟨some 14,.mov (.t 6),none⟩,0,0⟩,⟨⟨some 15,.iaddr none 1 (.t 13) (.t 14),none⟩,0,0⟩,⟨⟨some 16,.load none (.t 15),none⟩,0,0⟩,⟨⟨some 17,.faddr (.t 2) 2,none⟩,0,0⟩,⟨⟨some 18,.load none (.t 17),none⟩,0,0⟩,⟨⟨some 19,.mov (.t 6),none⟩,0,0⟩,⟨⟨some 20,.iaddr none 5 (.t 18) (.t 19),none⟩,0,0⟩,⟨⟨some 21,.faddr (.t 20) 4,none⟩,0,0⟩,⟨⟨some 22,.load none (.t 21),none⟩,0,0⟩,⟨⟨some 23,.call (.c (.func 27 [] [])) [.t 16,.t 22],none⟩,0,1⟩,⟨⟨some 24,.not (.t 23),none⟩,1,1⟩])
 (.cond (.t 24) (.reg [⟨some 25,.mov (.t 5),none⟩,⟨some 26,.mov (.t 6),none⟩,⟨some 27,.mklit 1 [.t 26],none⟩,⟨some 28,.append 1 8 (.t 25) (.t 27),none⟩,⟨some 5,.mov (.t 28),none⟩])
 .skip)))
 (.reg [⟨some 11,.mov (.t 6),none⟩,⟨some 12,.bin .add (.t 11) (.c (.int .i64 1)),none⟩,⟨some 6,.mov (.t 12),none⟩]))
def a55:AFunc:=⟨30,[.tmp 4],
 .seq (.reg [⟨some 2,.box 4 (.t 0),none⟩,⟨some 4,.mov (.c (.lit [] true none)),none⟩])
 (.seq (.reg [⟨some 5,.mov (.c (.lit [] true none)),none⟩])
 (.seq (.seq (.reg [⟨some 6,.mov (.c (.int .i64 0)),none⟩])
 (.block 0 (.loop ZT)))
 (.seq (.reg [⟨some 29,.mov (.t 5),none⟩,⟨some 4,.mov (.t 29),none⟩])
 (.jump .ret))))⟩
def YX:ACode:=.seq (.seq (.dreg [⟨⟨some 6,.mov (.t 5),none⟩,0,0⟩,⟨⟨some 7,.mov (.t 0),none⟩,0,0⟩,⟨⟨some 8,.len 1 (.t 7),none⟩,0,0⟩,⟨⟨some 9,.bin .lss (.t 6) (.t 8),none⟩,0,0⟩,⟨⟨some 10,.mov (.t 9),none⟩,0,0⟩,⟨⟨some 11,.mov (.t 5),(some (10,true))⟩,0,0⟩,⟨⟨some 12,.mov (.t 1),(some (10,true))⟩,0,0⟩,⟨⟨some 13,.len 1 (.t 12),(some (10,true))⟩,0,0⟩,⟨⟨some 14,.bin .lss (.t 11) (.t 13),(some (10,true))⟩,0,0⟩,⟨⟨some 15,.pick (.t 10) (.t 14) (.c (.bool false)),none⟩,0,0⟩,⟨⟨some 16,.mov (.t 15),none⟩,0,0⟩,⟨⟨some 17,.mov (.t 0),(some (16,true))⟩,0,0⟩,⟨⟨some 18,.mov (.t 5),(some (16,true))⟩,0,0⟩,⟨⟨some 19,.iaddr none 1 (.t 17) (.t 18),(some (16,true))⟩,0,0⟩,⟨⟨some 20,.load none (.t 19),(some (16,true))⟩,0,0⟩,⟨⟨some 21,.mov (.t 1),(some (16,true))⟩,0,0⟩,⟨⟨some 22,.mov (.t 5),(some (16,true))⟩,0,0⟩,⟨⟨some 23,.iaddr none 1 (.t 21) (.t 22),(some (16,true))⟩,0,0⟩,⟨⟨some 24,.load none (.t 23),(some (16,true))⟩,0,0⟩,⟨⟨some 25,.eql (.one .i) false (.t 20) (.t 24),(some (16,true))⟩,0,0⟩,⟨⟨some 26,.pick (.t 16) (.t 25) (.c (.bool false)),none⟩,0,0⟩])
 (.cond (.t 26) .skip
 (.jump (.exit 0))))
 (.block 1 (.reg [⟨some 27,.mov (.t 5),none⟩,⟨some 28,.bin .add (.t 27) (.c (.int .i64 1)),none⟩,⟨some 5,.mov (.t 28),none⟩]))
def a56:AFunc:=⟨48,[.tmp 4],
 .seq (.reg [⟨some 4,.mov (.c (.bool false)),none⟩])
 (.seq (.reg [⟨some 5,.mov (.c (.int .i64 0)),none⟩])
 (.seq (.block 0 (.loop YX))
 (.seq (.seq (.reg [⟨some 29,.mov (.t 5),none⟩,⟨some 30,.mov (.t 1),none⟩,⟨some 31,.len 1 (.t 30),none⟩,⟨some 32,.eql (.one .i) false (.t 29) (.t 31),none⟩])
 (.cond (.t 32) (.seq (.reg [⟨some 4,.mov (.c (.bool false)),none⟩])
 (.jump .ret))
 .skip))
 (.seq (.dreg [⟨⟨some 33,.mov (.t 5),none⟩,0,0⟩,⟨⟨some 34,.mov (.t 0),none⟩,0,0⟩,⟨⟨some 35,.len 1 (.t 34),none⟩,0,0⟩,⟨⟨some 36,.eql (.one .i) false (.t 33) (.t 35),none⟩,0,0⟩,⟨⟨some 37,.mov (.t 36),none⟩,0,0⟩,⟨⟨some 38,.mov (.t 0),(some (37,false))⟩,0,0⟩,⟨⟨some 39,.mov (.t 5),(some (37,false))⟩,0,0⟩,⟨⟨some 40,.iaddr none 1 (.t 38) (.t 39),(some (37,false))⟩,0,0⟩,⟨⟨some 41,.load none (.t 40),(some (37,false))⟩,0,0⟩,⟨⟨some 42,.mov (.t 1),(some (37,false))⟩,0,0⟩,⟨⟨some 43,.mov (.t 5),(some (37,false))⟩,0,0⟩,⟨⟨some 44,.iaddr none 1 (.t 42) (.t 43),(some (37,false))⟩,0,0⟩,⟨⟨some 45,.load none (.t 44),(some (37,false))⟩,0,0⟩,⟨⟨some 46,.bin .lss (.t 41) (.t 45),(some (37,false))⟩,0,0⟩,⟨⟨some 47,.pick (.t 37) (.c (.bool true)) (.t 46),none⟩,0,0⟩,⟨⟨some 4,.mov (.t 47),none⟩,0,0⟩])
 (.jump .ret)))))⟩
def XR:ACode:=.seq (.seq (.reg [⟨some 19,.mov (.t 8),none⟩,⟨some 20,.mov (.t 2),none⟩,⟨some 21,.len 1 (.t 20),none⟩,⟨some 22,.bin .lss (.t 19) (.t 21),none⟩])
 (.cond (.t 22) .skip
 (.jump (.exit 0))))
 (.seq (.block 1 (.seq (.dreg [⟨⟨some 25,.faddr (.t 3) 1,none⟩,0,0⟩,⟨⟨some 26,.load none (.t 25),none⟩,0,0⟩,⟨⟨some 27,.mov (.t 2),none⟩,0,0⟩,⟨⟨some 28,.mov (.t 8),none⟩,0,0⟩,⟨⟨some 29,.iaddr none 1 (.t 27) (.t 28),none⟩,0,0⟩,⟨⟨some 30,.load none (.t 29),none⟩,0,0⟩,⟨⟨some 31,.iaddr none 5 (.t 26) (.t 30),none⟩,0,0⟩,⟨⟨some 32,.load (some 5) (.t 31),none⟩,0,0⟩,⟨⟨some 33,.mov (.t 1),none⟩,0,0⟩,⟨⟨some 34,.call (.c (.func 97 [] [])) [.t 32,.t 33],none⟩,0,1⟩,⟨⟨some 1,.mov (.t 34),none⟩,1,1⟩])
 (.seq (.seq (.reg [⟨some 35,.mov (.t 1),none⟩,⟨some 36,.bin .lss (.t 35) (.c (.int .i64 0)),none⟩,⟨some 37,.mov (.t 36),none⟩,⟨some 38,.mov (.t 7),(some (37,false))⟩,⟨some 39,.mov (.t 1),(some (37,false))⟩,⟨some 40,.call (.c (.func 43 [] [])) [.t 38,.t 39],(some (37,false))⟩,⟨some 41,.pick (.t 37) (.c (.bool true)) (.t 40),none⟩,⟨some 42,.mov (.t 41),none⟩,⟨some 43,.mov (.t 1),(some (42,false))⟩,⟨some 44,.eql (.one .i) false (.t 43) (.c (.int .i64 0)),(some (42,false))⟩,⟨some 45,.mov (.t 44),(some (42,false))⟩,⟨some 46,.mov (.t 8),(some (45,true))⟩,⟨some 47,.bin .add (.t 46) (.c (.int .i64 1)),(some (45,true))⟩,⟨some 48,.mov (.t 2),(some (45,true))⟩,⟨some 49,.len 1 (.t 48),(some (45,true))⟩,⟨some 50,.bin .lss (.t 47) (.t 49),(some (45,true))⟩,⟨some 51,.pick (.t 45) (.t 50) (.c (.bool false)),(some (42,false))⟩,⟨some 52,.pick (.t 42) (.c (.bool true)) (.t 51),none⟩])
 (.cond (.t 52) (.seq (.reg [⟨some 6,.mov (.c (.bool false)),none⟩])
 (.jump .ret))
 .skip))
 (.reg [⟨some 53,.mov (.t 7),none⟩,⟨some 54,.mov (.t 1),none⟩,⟨some 55,.mklit 1 [.t 54],none⟩,⟨some 56,.append 1 8 (.t 53) (.t 55),none⟩,⟨some 7,.mov (.t 56),none⟩]))))
 (.reg [⟨some 23,.mov (.t 8),none⟩,⟨some 24,.bin .add (.t 23) (.c (.int .i64 1)),none⟩,⟨some 8,.mov (.t 24),none⟩]))
def a61:AFunc:=⟨59,[.tmp 6],
 .seq (.reg [⟨some 3,.box 4 (.t 0),none⟩,⟨some 6,.mov (.c (.bool false)),none⟩])
 (.seq (.seq (.reg [⟨some 9,.mov (.t 2),none⟩,⟨some 10,.len 1 (.t 9),none⟩,⟨some 11,.call (.c (.func 62 [] [])) [(.t 10),(.c (.int .i64 1)),(.c (.int .i64 4))],none⟩,⟨some 12,.not (.t 11),none⟩,⟨some 13,.mov (.t 12),none⟩,⟨some 14,.mov (.t 1),(some (13,false))⟩,⟨some 15,.eql (.one .i) false (.t 14) (.c (.int .i64 0)),(some (13,false))⟩,⟨some 16,.pick (.t 13) (.c (.bool true)) (.t 15),none⟩])
 (.cond (.t 16) (.seq (.reg [⟨some 6,.mov (.c (.bool false)),none⟩])
 (.jump .ret))
 .skip))
 (.seq (.reg [⟨some 17,.mov (.t 1),none⟩,⟨some 18,.mklit 1 [.t 17],none⟩,⟨some 7,.mov (.t 18),none⟩])
 (.seq (.seq (.reg [⟨some 8,.mov (.c (.int .i64 0)),none⟩])
 (.block 0 (.loop XR)))
 (.seq (.reg [⟨some 57,.mov (.t 1),none⟩,⟨some 58,.eql (.one .i) false (.t 57) (.c (.int .i64 0)),none⟩,⟨some 6,.mov (.t 58),none⟩])
 (.jump .ret)))))⟩
def a62:AFunc:=⟨15,[.tmp 6],
 .seq (.reg [⟨some 6,.mov (.c (.bool false)),none⟩])
 (.seq (.reg [⟨some 7,.mov (.t 0),none⟩,⟨some 8,.mov (.t 1),none⟩,⟨some 9,.bin .geq (.t 7) (.t 8),none⟩,⟨some 10,.mov (.t 9),none⟩,⟨some 11,.mov (.t 0),(some (10,true))⟩,⟨some 12,.mov (.t 2),(some (10,true))⟩,⟨some 13,.bin .leq (.t 11) (.t 12),(some (10,true))⟩,⟨some 14,.pick (.t 10) (.t 13) (.c (.bool false)),none⟩,⟨some 6,.mov (.t 14),none⟩])
 (.jump .ret))⟩
def a63:AFunc:=⟨10,[.tmp 6],
 .seq (.reg [⟨some 3,.box 1 (.t 0),none⟩,⟨some 4,.box 1 (.t 1),none⟩,⟨some 6,.mov (.c (.bool false)),none⟩])
 (.seq (.reg [⟨some 7,.mov (.t 2),none⟩,⟨some 8,.mkfun 99 [] [.t 3,.t 4],none⟩,⟨some 9,.call (.c (.func 98 [] [])) [.t 7,.t 8],none⟩,⟨some 6,.mov (.t 9),none⟩])
 (.jump .ret))⟩
def ZJ:ACode:=.seq (.reg [⟨some 12,.bin .lss (.t 11) (.t 10),none⟩])
 (.seq (.cond (.t 12) .skip
 (.jump (.exit 0)))
 (.seq (.block 1 (.seq (.reg [⟨some 13,.mov (.t 11),none⟩,⟨some 14,.iaddr none 5 (.t 9) (.t 11),none⟩,⟨some 15,.load (some 5) (.t 14),none⟩,⟨some 7,.alloc [.int .i64 0,.int .i64 0,.int .i64 0,.int .i64 0,.int .i64 0],none⟩,⟨some 6,.mov (.t 13),none⟩,⟨none,.store 5 (.t 7) (.t 15),none⟩])
 (.seq (.reg [⟨some 16,.mov (.t 1),none⟩,⟨some 17,.mov (.t 6),none⟩,⟨some 18,.load (some 5) (.t 7),none⟩,⟨some 19,.call (.t 16) [.t 17,.t 18],none⟩,⟨some 8,.mov (.t 19),none⟩])
 (.seq (.reg [⟨some 20,.mov (.t 8),none⟩,⟨some 21,.eql (.one .i) true (.t 20) (.c (.int .i64 0)),none⟩])
 (.cond (.t 21) (.seq (.reg [⟨some 22,.mov (.t 6),none⟩,⟨some 23,.mov (.t 8),none⟩,⟨some 4,.mov (.t 22),none⟩,⟨some 5,.mov (.t 23),none⟩])
 (.jump .ret))
 .skip)))))
 (.reg [⟨some 24,.bin .add (.t 11) (.c (.int .i64 1)),none⟩,⟨some 11,.mov (.t 24),none⟩])))
def a64:AFunc:=⟨25,[.tmp 4,.tmp 5],
 .seq (.reg [⟨some 4,.mov (.c (.int .i64 0)),none⟩,⟨some 5,.mov (.c (.int .i64 0)),none⟩])
 (.seq (.seq (.reg [⟨some 9,.mov (.t 0),none⟩,⟨some 10,.len 1 (.t 9),none⟩,⟨some 11,.mov (.c (.int .i64 0)),none⟩])
 (.block 0 (.loop ZJ)))
 (.seq (.reg [⟨some 4,.mov (.c (.int .i64 0)),none⟩,⟨some 5,.mov (.c (.int .i64 0)),none⟩])
 (.jump .ret)))⟩
def a65:AFunc:=⟨45,[.tmp 5],
 .seq (.reg [⟨some 4,.box 5 (.t 1),none⟩,⟨some 5,.mov (.c (.int .i64 0)),none⟩])
 (.seq (.block 0 (.seq (.reg [⟨some 7,.load none (.t 2),none⟩,⟨some 8,.faddr (.t 4) 0,none⟩,⟨some 9,.load none (.t 8),none⟩,⟨some 10,.faddr (.t 4) 1,none⟩,⟨some 11,.load none (.t 10),none⟩,⟨some 12,.mklit 1 [.t 9,.t 11],none⟩,⟨some 13,.call (.c (.func 63 [] [])) [(.c (.int .i64 0)),(.t 7),(.t 12)],none⟩,⟨some 6,.mov (.t 13),none⟩])
 (.cond (.t 6) (.seq (.reg [⟨some 5,.mov (.c (.int .i64 4)),none⟩])
 (.jump .ret))
 (.seq (.reg [⟨some 15,.faddr (.t 4) 0,none⟩,⟨some 16,.load none (.t 15),none⟩,⟨some 17,.faddr (.t 4) 1,none⟩,⟨some 18,.load none (.t 17),none⟩,⟨some 19,.eql (.one .i) false (.t 16) (.t 18),none⟩,⟨some 14,.mov (.t 19),none⟩])
 (.cond (.t 14) (.seq (.reg [⟨some 5,.mov (.c (.int .i64 2)),none⟩])
 (.jump .ret))
 (.seq (.reg [⟨some 21,.faddr (.t 4) 2,none⟩,⟨some 22,.faddr (.t 21) 0,none⟩,⟨some 23,.load none (.t 22),none⟩,⟨some 24,.faddr (.t 4) 2,none⟩,⟨some 25,.faddr (.t 24) 1,none⟩,⟨some 26,.load none (.t 25),none⟩,⟨some 27,.mklit 1 [.t 23,.t 26],none⟩,⟨some 28,.call (.c (.func 63 [] [])) [(.c (.int .i64 1)),(.c (.int .i64 20)),(.t 27)],none⟩,⟨some 29,.mov (.t 28),none⟩,⟨some 30,.faddr (.t 4) 4,(some (29,false))⟩,⟨some 31,.load none (.t 30),(some (29,false))⟩,⟨some 32,.mklit 1 [.t 31],(some (29,false))⟩,⟨some 33,.call (.c (.func 63 [] [])) [(.c (.int .i64 0)),(.c (.int .i64 2)),(.t 32)],(some (29,false))⟩,⟨some 34,.pick (.t 29) (.c (.bool true)) (.t 33),none⟩,⟨some 20,.mov (.t 34),none⟩])
 (.cond (.t 20) (.seq (.reg [⟨some 5,.mov (.c (.int .i64 7)),none⟩])
 (.jump .ret))
 (.seq (.reg [⟨some 36,.faddr (.t 4) 2,none⟩,⟨some 37,.faddr (.t 36) 1,none⟩,⟨some 38,.load none (.t 37),none⟩,⟨some 39,.faddr (.t 4) 2,none⟩,⟨some 40,.faddr (.t 39) 0,none⟩,⟨some 41,.load none (.t 40),none⟩,⟨some 42,.bin .sub (.t 38) (.t 41),none⟩,⟨some 43,.mklit 1 [.t 42],none⟩,⟨some 44,.call (.c (.func 63 [] [])) [(.c (.int .i64 0)),(.c (.int .i64 1)),(.t 43)],none⟩,⟨some 35,.mov (.t 44),none⟩])
 (.cond (.t 35) (.seq (.reg [⟨some 5,.mov (.c (.int .i64 2)),none⟩])
 (.jump .ret))
 .skip)))))))))
 (.seq (.reg [⟨some 5,.mov (.c (.int .i64 0)),none⟩])
 (.jump .ret)))⟩
def ZZ:ACode:=.seq (.reg [⟨some 12,.bin .lss (.t 11) (.t 10),none⟩])
 (.seq (.cond (.t 12) .skip
 (.jump (.exit 0)))
 (.seq (.block 1 (.seq (.reg [⟨some 13,.mov (.t 11),none⟩,⟨some 14,.iaddr none 5 (.t 9) (.t 11),none⟩,⟨some 15,.load (some 5) (.t 14),none⟩,⟨some 7,.alloc [.str ⟨#[]⟩,.int .i64 0,.int .i64 0,.int .i64 0,.lit [] true none],none⟩,⟨some 6,.mov (.t 13),none⟩,⟨none,.store 5 (.t 7) (.t 15),none⟩])
 (.seq (.reg [⟨some 16,.mov (.t 1),none⟩,⟨some 17,.mov (.t 6),none⟩,⟨some 18,.load (some 5) (.t 7),none⟩,⟨some 19,.call (.t 16) [.t 17,.t 18],none⟩,⟨some 8,.mov (.t 19),none⟩])
 (.seq (.reg [⟨some 20,.mov (.t 8),none⟩,⟨some 21,.eql (.one .i) true (.t 20) (.c (.int .i64 0)),none⟩])
 (.cond (.t 21) (.seq (.reg [⟨some 22,.mov (.t 6),none⟩,⟨some 23,.mov (.t 8),none⟩,⟨some 4,.mov (.t 22),none⟩,⟨some 5,.mov (.t 23),none⟩])
 (.jump .ret))
 .skip)))))
 (.reg [⟨some 24,.bin .add (.t 11) (.c (.int .i64 1)),none⟩,⟨some 11,.mov (.t 24),none⟩])))
def a66:AFunc:=⟨25,[.tmp 4,.tmp 5],
 .seq (.reg [⟨some 4,.mov (.c (.int .i64 0)),none⟩,⟨some 5,.mov (.c (.int .i64 0)),none⟩])
 (.seq (.seq (.reg [⟨some 9,.mov (.t 0),none⟩,⟨some 10,.len 1 (.t 9),none⟩,⟨some 11,.mov (.c (.int .i64 0)),none⟩])
 (.block 0 (.loop ZZ)))
 (.seq (.reg [⟨some 4,.mov (.c (.int .i64 0)),none⟩,⟨some 5,.mov (.c (.int .i64 0)),none⟩])
 (.jump .ret)))⟩
def a67:AFunc:=⟨63,[.tmp 6],
 .seq (.reg [⟨some 5,.box 5 (.t 1),none⟩,⟨some 6,.mov (.c (.int .i64 0)),none⟩])
 (.seq (.block 0 (.seq (.reg [⟨some 10,.faddr (.t 5) 0,none⟩,⟨some 11,.load none (.t 10),none⟩,⟨some 12,.call (.c (.func 68 [] [])) [.t 11],none⟩,⟨some 13,.not (.t 12),none⟩,⟨some 9,.mov (.t 13),none⟩])
 (.cond (.t 9) (.seq (.reg [⟨some 6,.mov (.c (.int .i64 6)),none⟩])
 (.jump .ret))
 (.seq (.reg [⟨some 15,.faddr (.t 2) 2,none⟩,⟨some 16,.load none (.t 15),none⟩,⟨some 17,.mov (.t 0),none⟩,⟨some 18,.slicev 5 (.t 16) none (some (.t 17)) none,none⟩,⟨some 19,.mkfun 70 [] [.t 5],none⟩,⟨some 20,.call (.c (.func 69 [] [])) [.t 18,.t 19],none⟩,⟨some 14,.mov (.t 20),none⟩])
 (.cond (.t 14) (.seq (.reg [⟨some 6,.mov (.c (.int .i64 5)),none⟩])
 (.jump .ret))
 (.seq (.reg [⟨some 22,.load none (.t 3),none⟩,⟨some 23,.faddr (.t 5) 1,none⟩,⟨some 24,.load none (.t 23),none⟩,⟨some 25,.mklit 1 [.t 24],none⟩,⟨some 26,.call (.c (.func 63 [] [])) [(.c (.int .i64 0)),(.t 22),(.t 25)],none⟩,⟨some 21,.mov (.t 26),none⟩])
 (.cond (.t 21) (.seq (.reg [⟨some 6,.mov (.c (.int .i64 4)),none⟩])
 (.jump .ret))
 (.seq (.reg [⟨some 28,.faddr (.t 5) 2,none⟩,⟨some 29,.load none (.t 28),none⟩,⟨some 30,.mklit 1 [.t 29],none⟩,⟨some 31,.call (.c (.func 63 [] [])) [(.c (.int .i64 0)),(.c (.int .i64 60)),(.t 30)],none⟩,⟨some 32,.mov (.t 31),none⟩,⟨some 33,.faddr (.t 5) 3,(some (32,false))⟩,⟨some 34,.load none (.t 33),(some (32,false))⟩,⟨some 35,.mklit 1 [.t 34],(some (32,false))⟩,⟨some 36,.call (.c (.func 63 [] [])) [(.c (.int .i64 0)),(.c (.int .i64 400)),(.t 35)],(some (32,false))⟩,⟨some 37,.pick (.t 32) (.c (.bool true)) (.t 36),none⟩,⟨some 27,.mov (.t 37),none⟩])
 (.cond (.t 27) (.seq (.reg [⟨some 6,.mov (.c (.int .i64 7)),none⟩])
 (.jump .ret))
 (.seq (.reg [⟨some 39,.faddr (.t 5) 4,none⟩,⟨some 40,.load none (.t 39),none⟩,⟨some 41,.len 1 (.t 40),none⟩,⟨some 42,.mklit 1 [.t 41],none⟩,⟨some 43,.call (.c (.func 63 [] [])) [(.c (.int .i64 1)),(.c (.int .i64 4)),(.t 42)],none⟩,⟨some 38,.mov (.t 43),none⟩])
 (.cond (.t 38) (.seq (.reg [⟨some 6,.mov (.c (.int .i64 3)),none⟩])
 (.jump .ret))
 (.seq (.reg [⟨some 45,.faddr (.t 2) 1,none⟩,⟨some 46,.load none (.t 45),none⟩,⟨some 47,.len 1 (.t 46),none⟩,⟨some 48,.bin .sub (.t 47) (.c (.int .i64 1)),none⟩,⟨some 49,.faddr (.t 5) 4,none⟩,⟨some 50,.load none (.t 49),none⟩,⟨some 51,.call (.c (.func 63 [] [])) [(.c (.int .i64 0)),(.t 48),(.t 50)],none⟩,⟨some 44,.mov (.t 51),none⟩])
 (.cond (.t 44) (.seq (.reg [⟨some 6,.mov (.c (.int .i64 4)),none⟩])
 (.jump .ret))
 .skip)))))))))))))
 (.seq (.seq (.reg [⟨some 53,.load (some 4) (.t 2),none⟩,⟨some 54,.faddr (.t 5) 1,none⟩,⟨some 55,.load none (.t 54),none⟩,⟨some 56,.faddr (.t 5) 4,none⟩,⟨some 57,.load none (.t 56),none⟩,⟨some 58,.call (.c (.func 71 [] [])) [.t 53,.t 55,.t 57],none⟩,⟨some 52,.mov (.t 58),none⟩,⟨some 59,.ext (.t 52) 0,none⟩,⟨some 60,.ext (.t 52) 1,none⟩,⟨some 7,.mov (.t 59),none⟩,⟨some 8,.mov (.t 60),none⟩])
 (.seq (.reg [⟨some 61,.mov (.t 7),none⟩,⟨some 62,.not (.t 61),none⟩])
 (.cond (.t 62) (.seq (.reg [⟨some 6,.mov (.c (.int .i64 2)),none⟩])
 (.jump .ret))
 .skip)))
 (.seq (.reg [⟨some 6,.mov (.c (.int .i64 0)),none⟩])
 (.jump .ret))))⟩
def RO:ACode:=.seq (.reg [⟨some 8,.snext (.t 7),none⟩,⟨some 9,.ext (.t 8) 0,none⟩])
 (.seq (.cond (.t 9) .skip
 (.jump (.exit 0)))
 (.block 1 (.seq (.reg [⟨some 10,.ext (.t 8) 1,none⟩,⟨some 11,.ext (.t 8) 2,none⟩,⟨some 3,.mov (.t 10),none⟩,⟨some 4,.mov (.t 11),none⟩])
 (.seq (.reg [⟨some 12,.mov (.t 4),none⟩,⟨some 13,.bin .geq (.t 12) (.c (.int .i32 97)),none⟩,⟨some 14,.mov (.t 13),none⟩,⟨some 15,.mov (.t 4),(some (14,true))⟩,⟨some 16,.bin .leq (.t 15) (.c (.int .i32 122)),(some (14,true))⟩,⟨some 17,.pick (.t 14) (.t 16) (.c (.bool false)),none⟩,⟨some 5,.mov (.t 17),none⟩])
 (.seq (.reg [⟨some 18,.mov (.t 5),none⟩,⟨some 19,.not (.t 18),none⟩,⟨some 20,.mov (.t 19),none⟩,⟨some 21,.mov (.t 3),(some (20,true))⟩,⟨some 22,.eql (.one .i) false (.t 21) (.c (.int .i64 0)),(some (20,true))⟩,⟨some 23,.mov (.t 22),(some (20,true))⟩,⟨some 24,.mov (.t 4),(some (23,false))⟩,⟨some 25,.eql (.one .i) true (.t 24) (.c (.int .i32 46)),(some (23,false))⟩,⟨some 26,.mov (.t 25),(some (23,false))⟩,⟨some 27,.mov (.t 4),(some (26,true))⟩,⟨some 28,.bin .lss (.t 27) (.c (.int .i32 48)),(some (26,true))⟩,⟨some 29,.mov (.t 28),(some (26,true))⟩,⟨some 30,.mov (.t 4),(some (29,false))⟩,⟨some 31,.bin .gtr (.t 30) (.c (.int .i32 57)),(some (29,false))⟩,⟨some 32,.pick (.t 29) (.c (.bool true)) (.t 31),(some (26,true))⟩,⟨some 33,.pick (.t 26) (.t 32) (.c (.bool false)),(some (23,false))⟩,⟨some 34,.pick (.t 23) (.c (.bool true)) (.t 33),(some (20,true))⟩,⟨some 35,.pick (.t 20) (.t 34) (.c (.bool false)),none⟩])
 (.cond (.t 35) (.seq (.reg [⟨some 2,.mov (.c (.bool false)),none⟩])
 (.jump .ret))
 .skip))))))
def a68:AFunc:=⟨41,[.tmp 2],
 .seq (.reg [⟨some 2,.mov (.c (.bool false)),none⟩])
 (.seq (.seq (.reg [⟨some 6,.mov (.t 0),none⟩,⟨some 7,.srange (.t 6),none⟩])
 (.block 0 (.loop RO)))
 (.seq (.reg [⟨some 36,.mov (.t 0),none⟩,⟨some 37,.len 0 (.t 36),none⟩,⟨some 38,.mklit 1 [.t 37],none⟩,⟨some 39,.call (.c (.func 100 [] [])) [(.c (.int .i64 1)),(.c (.int .i64 16)),(.t 38)],none⟩,⟨some 40,.not (.t 39),none⟩,⟨some 2,.mov (.t 40),none⟩])
 (.jump .ret)))⟩
def a69:AFunc:=⟨9,[.tmp 4],
 .seq (.reg [⟨some 4,.mov (.c (.bool false)),none⟩])
 (.seq (.reg [⟨some 5,.mov (.t 0),none⟩,⟨some 6,.mov (.t 1),none⟩,⟨some 7,.call (.c (.func 101 [] [])) [.t 5,.t 6],none⟩,⟨some 8,.bin .geq (.t 7) (.c (.int .i64 0)),none⟩,⟨some 4,.mov (.t 8),none⟩])
 (.jump .ret))⟩
def a70:AFunc:=⟨9,[.tmp 3],
 .seq (.reg [⟨some 2,.box 5 (.t 0),none⟩,⟨some 3,.mov (.c (.bool false)),none⟩])
 (.seq (.reg [⟨some 4,.faddr (.t 2) 0,none⟩,⟨some 5,.load none (.t 4),none⟩,⟨some 6,.faddr (.t 1) 0,none⟩,⟨some 7,.load none (.t 6),none⟩,⟨some 8,.eql (.one .s) false (.t 5) (.t 7),none⟩,⟨some 3,.mov (.t 8),none⟩])
 (.jump .ret))⟩
def ZF:ACode:=.seq (.reg [⟨some 16,.bin .lss (.t 15) (.t 14),none⟩])
 (.seq (.cond (.t 16) .skip
 (.jump (.exit 0)))
 (.seq (.block 1 (.seq (.reg [⟨some 17,.iaddr none 1 (.t 13) (.t 15),none⟩,⟨some 18,.load none (.t 17),none⟩,⟨some 10,.mov (.t 18),none⟩])
 (.seq (.seq (.reg [⟨some 19,.mov (.t 1),none⟩,⟨some 20,.eql (.one .i) true (.t 19) (.c (.int .i64 0)),none⟩])
 (.cond (.t 20) (.seq (.reg [⟨some 21,.faddr (.t 3) 1,none⟩,⟨some 22,.load none (.t 21),none⟩,⟨some 23,.mov (.t 10),none⟩,⟨some 24,.iaddr none 5 (.t 22) (.t 23),none⟩,⟨some 25,.load (some 5) (.t 24),none⟩,⟨some 26,.mov (.t 1),none⟩,⟨some 27,.call (.c (.func 102 [] [])) [.t 25,.t 26],none⟩,⟨some 1,.mov (.t 27),none⟩])
 (.seq (.reg [⟨some 28,.mov (.t 1),none⟩,⟨some 29,.bin .geq (.t 28) (.c (.int .i64 0)),none⟩,⟨some 30,.mov (.t 29),none⟩,⟨some 31,.mov (.t 8),(some (30,true))⟩,⟨some 32,.mov (.t 1),(some (30,true))⟩,⟨some 33,.bin .shr (.t 31) (.t 32),(some (30,true))⟩,⟨some 34,.bin .and (.t 33) (.c (.int .i64 1)),(some (30,true))⟩,⟨some 35,.eql (.one .i) false (.t 34) (.c (.int .i64 0)),(some (30,true))⟩,⟨some 36,.pick (.t 30) (.t 35) (.c (.bool false)),none⟩])
 (.cond (.t 36) (.seq (.reg [⟨some 37,.mov (.t 8),none⟩,⟨some 38,.mov (.t 1),none⟩,⟨some 39,.bin .shl (.c (.int .i64 1)) (.t 38),none⟩,⟨some 40,.bin .or (.t 37) (.t 39),none⟩,⟨some 8,.mov (.t 40),none⟩])
 (.jump (.exit 1)))
 .skip)))
 .skip))
 (.seq (.reg [⟨some 6,.mov (.c (.bool false)),none⟩,⟨some 7,.mov (.c (.bool false)),none⟩])
 (.jump .ret)))))
 (.reg [⟨some 41,.bin .add (.t 15) (.c (.int .i64 1)),none⟩,⟨some 15,.mov (.t 41),none⟩])))
def a71:AFunc:=⟨51,[.tmp 6,.tmp 7],
 .seq (.reg [⟨some 3,.box 4 (.t 0),none⟩,⟨some 6,.mov (.c (.bool false)),none⟩,⟨some 7,.mov (.c (.bool false)),none⟩])
 (.scope (.seq (.reg [⟨some 11,.mov (.t 1),none⟩,⟨some 12,.bin .shl (.c (.int .i64 1)) (.t 11),none⟩,⟨some 8,.mov (.t 12),none⟩])
 (.seq .skip
 (.seq (.seq (.reg [⟨some 13,.mov (.t 2),none⟩,⟨some 14,.len 1 (.t 13),none⟩,⟨some 15,.mov (.c (.int .i64 0)),none⟩])
 (.block 0 (.loop ZF)))
 (.seq (.reg [⟨some 42,.mov (.t 1),none⟩,⟨some 43,.eql (.one .i) false (.t 42) (.c (.int .i64 0)),none⟩,⟨some 44,.mov (.t 43),none⟩,⟨some 45,.mov (.t 2),(some (44,true))⟩,⟨some 46,.len 1 (.t 45),(some (44,true))⟩,⟨some 47,.bin .gtr (.t 46) (.c (.int .i64 0)),(some (44,true))⟩,⟨some 48,.pick (.t 44) (.t 47) (.c (.bool false)),none⟩,⟨some 49,.mov (.t 1),none⟩,⟨some 50,.eql (.one .i) true (.t 49) (.c (.int .i64 0)),none⟩,⟨some 6,.mov (.t 48),none⟩,⟨some 7,.mov (.t 50),none⟩])
 (.jump .ret))))))⟩
def XX:ACode:=.seq (.reg [⟨some 12,.bin .lss (.t 11) (.t 10),none⟩])
 (.seq (.cond (.t 12) .skip
 (.jump (.exit 0)))
 (.seq (.block 1 (.seq (.reg [⟨some 13,.mov (.t 11),none⟩,⟨some 14,.iaddr none 2 (.t 9) (.t 11),none⟩,⟨some 15,.load (some 2) (.t 14),none⟩,⟨some 7,.alloc [.int .i64 0,.int .i64 0],none⟩,⟨some 6,.mov (.t 13),none⟩,⟨none,.store 2 (.t 7) (.t 15),none⟩])
 (.seq (.reg [⟨some 16,.mov (.t 1),none⟩,⟨some 17,.mov (.t 6),none⟩,⟨some 18,.load (some 2) (.t 7),none⟩,⟨some 19,.call (.t 16) [.t 17,.t 18],none⟩,⟨some 8,.mov (.t 19),none⟩])
 (.seq (.reg [⟨some 20,.mov (.t 8),none⟩,⟨some 21,.eql (.one .i) true (.t 20) (.c (.int .i64 0)),none⟩])
 (.cond (.t 21) (.seq (.reg [⟨some 22,.mov (.t 6),none⟩,⟨some 23,.mov (.t 8),none⟩,⟨some 4,.mov (.t 22),none⟩,⟨some 5,.mov (.t 23),none⟩])
 (.jump .ret))
 .skip)))))
 (.reg [⟨some 24,.bin .add (.t 11) (.c (.int .i64 1)),none⟩,⟨some 11,.mov (.t 24),none⟩])))
def a72:AFunc:=⟨25,[.tmp 4,.tmp 5],
 .seq (.reg [⟨some 4,.mov (.c (.int .i64 0)),none⟩,⟨some 5,.mov (.c (.int .i64 0)),none⟩])
 (.seq (.seq (.reg [⟨some 9,.mov (.t 0),none⟩,⟨some 10,.len 1 (.t 9),none⟩,⟨some 11,.mov (.c (.int .i64 0)),none⟩])
 (.block 0 (.loop XX)))
 (.seq (.reg [⟨some 4,.mov (.c (.int .i64 0)),none⟩,⟨some 5,.mov (.c (.int .i64 0)),none⟩])
 (.jump .ret)))⟩
def a73:AFunc:=⟨20,[.tmp 5],
 .seq (.reg [⟨some 4,.box 2 (.t 1),none⟩,⟨some 5,.mov (.c (.int .i64 0)),none⟩])
 (.seq (.block 0 (.seq (.reg [⟨some 7,.faddr (.t 2) 2,none⟩,⟨some 8,.load none (.t 7),none⟩,⟨some 9,.len 1 (.t 8),none⟩,⟨some 10,.bin .sub (.t 9) (.c (.int .i64 1)),none⟩,⟨some 11,.faddr (.t 4) 0,none⟩,⟨some 12,.load none (.t 11),none⟩,⟨some 13,.mklit 1 [.t 12],none⟩,⟨some 14,.call (.c (.func 63 [] [])) [(.c (.int .i64 0)),(.t 10),(.t 13)],none⟩,⟨some 6,.mov (.t 14),none⟩])
 (.cond (.t 6) (.seq (.reg [⟨some 5,.mov (.c (.int .i64 4)),none⟩])
 (.jump .ret))
 (.seq (.reg [⟨some 16,.faddr (.t 4) 1,none⟩,⟨some 17,.load none (.t 16),none⟩,⟨some 18,.mklit 1 [.t 17],none⟩,⟨some 19,.call (.c (.func 63 [] [])) [(.c (.int .i64 (-1))),(.c (.int .i64 400)),(.t 18)],none⟩,⟨some 15,.mov (.t 19),none⟩])
 (.cond (.t 15) (.seq (.reg [⟨some 5,.mov (.c (.int .i64 7)),none⟩])
 (.jump .ret))
 .skip)))))
 (.seq (.reg [⟨some 5,.mov (.c (.int .i64 0)),none⟩])
 (.jump .ret)))⟩
def a74:AFunc:=⟨46,[.tmp 4],
 .seq (.reg [⟨some 2,.box 4 (.t 0),none⟩,⟨some 3,.box 5 (.t 1),none⟩,⟨some 4,.mov (.c (.int .i64 0)),none⟩])
 (.seq (.seq (.reg [⟨some 6,.load (some 4) (.t 2),none⟩,⟨some 7,.faddr (.t 3) 0,none⟩,⟨some 8,.load none (.t 7),none⟩,⟨some 9,.call (.c (.func 78 [] [])) [.t 6,.t 8],none⟩,⟨some 10,.not (.t 9),none⟩,⟨some 11,.mov (.t 10),none⟩,⟨some 12,.load (some 4) (.t 2),(some (11,false))⟩,⟨some 13,.faddr (.t 3) 1,(some (11,false))⟩,⟨some 14,.load none (.t 13),(some (11,false))⟩,⟨some 15,.call (.c (.func 78 [] [])) [.t 12,.t 14],(some (11,false))⟩,⟨some 16,.not (.t 15),(some (11,false))⟩,⟨some 17,.pick (.t 11) (.c (.bool true)) (.t 16),none⟩])
 (.cond (.t 17) (.seq (.reg [⟨some 4,.mov (.c (.int .i64 4)),none⟩])
 (.jump .ret))
 .skip))
 (.seq (.seq (.reg [⟨some 18,.faddr (.t 3) 0,none⟩,⟨some 19,.load none (.t 18),none⟩,⟨some 20,.faddr (.t 3) 1,none⟩,⟨some 21,.load none (.t 20),none⟩,⟨some 22,.eql (.one .i) false (.t 19) (.t 21),none⟩])
 (.cond (.t 22) (.seq (.reg [⟨some 4,.mov (.c (.int .i64 2)),none⟩])
 (.jump .ret))
 .skip))
 (.seq (.reg [⟨some 23,.faddr (.t 3) 2,none⟩,⟨some 24,.load (some 2) (.t 23),none⟩,⟨some 25,.call (.c (.func 103 [] [])) [(.t 24),(.c (.int .i64 1)),(.c (.int .i64 20))],none⟩,⟨some 5,.mov (.t 25),none⟩])
 (.seq (.seq (.reg [⟨some 26,.mov (.t 5),none⟩,⟨some 27,.eql (.one .i) false (.t 26) (.c (.int .i64 7)),none⟩,⟨some 28,.mov (.t 27),none⟩,⟨some 29,.faddr (.t 3) 4,(some (28,false))⟩,⟨some 30,.load none (.t 29),(some (28,false))⟩,⟨some 31,.call (.c (.func 62 [] [])) [(.t 30),(.c (.int .i64 0)),(.c (.int .i64 2))],(some (28,false))⟩,⟨some 32,.not (.t 31),(some (28,false))⟩,⟨some 33,.pick (.t 28) (.c (.bool true)) (.t 32),none⟩])
 (.cond (.t 33) (.seq (.reg [⟨some 4,.mov (.c (.int .i64 7)),none⟩])
 (.jump .ret))
 .skip))
 (.seq (.seq (.reg [⟨some 34,.mov (.t 5),none⟩,⟨some 35,.eql (.one .i) true (.t 34) (.c (.int .i64 0)),none⟩,⟨some 36,.mov (.t 35),none⟩,⟨some 37,.faddr (.t 3) 2,(some (36,false))⟩,⟨some 38,.faddr (.t 37) 1,(some (36,false))⟩,⟨some 39,.load none (.t 38),(some (36,false))⟩,⟨some 40,.faddr (.t 3) 2,(some (36,false))⟩,⟨some 41,.faddr (.t 40) 0,(some (36,false))⟩,⟨some 42,.load none (.t 41),(some (36,false))⟩,⟨some 43,.bin .add (.t 42) (.c (.int .i64 1)),(some (36,false))⟩,⟨some 44,.bin .gtr (.t 39) (.t 43),(some (36,false))⟩,⟨some 45,.pick (.t 36) (.c (.bool true)) (.t 44),none⟩])
 (.cond (.t 45) (.seq (.reg [⟨some 4,.mov (.c (.int .i64 2)),none⟩])
 (.jump .ret))
 .skip))
 (.seq (.reg [⟨some 4,.mov (.c (.int .i64 0)),none⟩])
 (.jump .ret)))))))⟩
def a75:AFunc:=⟨14,[.tmp 4],
 .seq (.reg [⟨some 4,.mov (.c (.int .i64 0)),none⟩])
 (.seq (.reg [⟨some 5,.mov (.c (.int .i64 0)),none⟩])
 (.seq (.seq (.reg [⟨some 6,.mov (.t 1),none⟩,⟨some 7,.mov (.t 0),none⟩,⟨some 8,.call (.c (.func 104 [] [])) [.t 6,.t 7],none⟩,⟨some 9,.bin .geq (.t 8) (.c (.int .i64 0)),none⟩])
 (.cond (.t 9) (.reg [⟨some 5,.mov (.c (.int .i64 5)),none⟩])
 .skip))
 (.seq (.seq (.reg [⟨some 10,.mov (.t 0),none⟩,⟨some 11,.call (.c (.func 105 [] [])) [.t 10],none⟩,⟨some 12,.not (.t 11),none⟩])
 (.cond (.t 12) (.reg [⟨some 5,.mov (.c (.int .i64 6)),none⟩])
 .skip))
 (.seq (.reg [⟨some 13,.mov (.t 5),none⟩,⟨some 4,.mov (.t 13),none⟩])
 (.jump .ret)))))⟩
def YE:ACode:=.seq (.seq (.reg [⟨some 26,.mov (.t 5),none⟩,⟨some 27,.faddr (.t 3) 4,none⟩,⟨some 28,.load none (.t 27),none⟩,⟨some 29,.len 1 (.t 28),none⟩,⟨some 30,.bin .lss (.t 26) (.t 29),none⟩])
 (.cond (.t 30) .skip
 (.jump (.exit 0))))
 (.seq (.block 1 (.seq (.dreg [⟨⟨some 33,.faddr (.t 3) 4,none⟩,0,0⟩,⟨⟨some 34,.load none (.t 33),none⟩,0,0⟩,⟨⟨some 35,.mov (.t 5),none⟩,0,0⟩,⟨⟨some 36,.iaddr none 1 (.t 34) (.t 35),none⟩,0,0⟩,⟨⟨some 37,.load none (.t 36),none⟩,0,0⟩,⟨⟨some 38,.faddr (.t 2) 1,none⟩,0,0⟩,⟨⟨some 39,.load none (.t 38),none⟩,0,0⟩,⟨⟨some 40,.len 1 (.t 39),none⟩,0,0⟩,⟨⟨some 41,.bin .sub (.t 40) (.c (.int .i64 1)),none⟩,0,0⟩,⟨⟨some 42,.call (.c (.func 62 [] [])) [(.t 37),(.c (.int .i64 0)),(.t 41)],none⟩,0,1⟩,⟨⟨some 43,.not (.t 42),none⟩,1,1⟩])
 (.cond (.t 43) (.seq (.reg [⟨some 4,.mov (.c (.int .i64 4)),none⟩])
 (.jump .ret))
 .skip)))
 (.reg [⟨some 31,.mov (.t 5),none⟩,⟨some 32,.bin .add (.t 31) (.c (.int .i64 1)),none⟩,⟨some 5,.mov (.t 32),none⟩]))
def a76:AFunc:=⟨51,[.tmp 4],
 .seq (.reg [⟨some 2,.box 4 (.t 0),none⟩,⟨some 3,.box 5 (.t 1),none⟩,⟨some 4,.mov (.c (.int .i64 0)),none⟩])
 (.seq (.seq (.reg [⟨some 6,.load (some 4) (.t 2),none⟩,⟨some 7,.faddr (.t 3) 1,none⟩,⟨some 8,.load none (.t 7),none⟩,⟨some 9,.call (.c (.func 78 [] [])) [.t 6,.t 8],none⟩,⟨some 10,.not (.t 9),none⟩])
 (.cond (.t 10) (.seq (.reg [⟨some 4,.mov (.c (.int .i64 4)),none⟩])
 (.jump .ret))
 .skip))
 (.seq (.seq (.reg [⟨some 11,.faddr (.t 3) 2,none⟩,⟨some 12,.load none (.t 11),none⟩,⟨some 13,.call (.c (.func 62 [] [])) [(.t 12),(.c (.int .i64 0)),(.c (.int .i64 60))],none⟩,⟨some 14,.not (.t 13),none⟩,⟨some 15,.mov (.t 14),none⟩,⟨some 16,.faddr (.t 3) 3,(some (15,false))⟩,⟨some 17,.load none (.t 16),(some (15,false))⟩,⟨some 18,.call (.c (.func 62 [] [])) [(.t 17),(.c (.int .i64 0)),(.c (.int .i64 400))],(some (15,false))⟩,⟨some 19,.not (.t 18),(some (15,false))⟩,⟨some 20,.pick (.t 15) (.c (.bool true)) (.t 19),none⟩])
 (.cond (.t 20) (.seq (.reg [⟨some 4,.mov (.c (.int .i64 7)),none⟩])
 (.jump .ret))
 .skip))
 (.seq (.seq (.reg [⟨some 21,.faddr (.t 3) 4,none⟩,⟨some 22,.load none (.t 21),none⟩,⟨some 23,.len 1 (.t 22),none⟩,⟨some 24,.call (.c (.func 62 [] [])) [(.t 23),(.c (.int .i64 1)),(.c (.int .i64 4))],none⟩,⟨some 25,.not (.t 24),none⟩])
 (.cond (.t 25) (.seq (.reg [⟨some 4,.mov (.c (.int .i64 3)),none⟩])
 (.jump .ret))
 .skip))
 (.seq (.seq (.reg [⟨some 5,.mov (.c (.int .i64 0)),none⟩])
 (.block 0 (.loop YE)))
 (.seq (.seq (.reg [⟨some 44,.load (some 4) (.t 2),none⟩,⟨some 45,.faddr (.t 3) 1,none⟩,⟨some 46,.load none (.t 45),none⟩,⟨some 47,.faddr (.t 3) 4,none⟩,⟨some 48,.load none (.t 47),none⟩,⟨some 49,.call (.c (.func 61 [] [])) [.t 44,.t 46,.t 48],none⟩,⟨some 50,.not (.t 49),none⟩])
 (.cond (.t 50) (.seq (.reg [⟨some 4,.mov (.c (.int .i64 2)),none⟩])
 (.jump .ret))
 .skip))
 (.seq (.reg [⟨some 4,.mov (.c (.int .i64 0)),none⟩])
 (.jump .ret)))))))⟩
def XN:ACode:=.seq (.reg [⟨some 32,.bin .lss (.t 31) (.t 30),none⟩])
 (.seq (.cond (.t 32) .skip
 (.jump (.exit 4)))
 (.seq (.block 5 (.seq (.reg [⟨some 33,.mov (.t 31),none⟩,⟨some 34,.iaddr none 5 (.t 29) (.t 31),none⟩,⟨some 35,.load (some 5) (.t 34),none⟩,⟨some 12,.alloc [.int .i64 0,.int .i64 0,.int .i64 0,.int .i64 0,.int .i64 0],none⟩,⟨some 11,.mov (.t 33),none⟩,⟨none,.store 5 (.t 12) (.t 35),none⟩])
 (.seq (.seq (.reg [⟨some 36,.mov (.t 11),none⟩,⟨some 37,.mov (.t 2),none⟩,⟨some 38,.eql (.one .i) false (.t 36) (.t 37),none⟩,⟨some 39,.mov (.t 38),none⟩,⟨some 40,.faddr (.t 12) 4,(some (39,false))⟩,⟨some 41,.load none (.t 40),(some (39,false))⟩,⟨some 42,.eql (.one .i) false (.t 41) (.c (.int .i64 1)),(some (39,false))⟩,⟨some 43,.pick (.t 39) (.c (.bool true)) (.t 42),none⟩,⟨some 44,.mov (.t 43),none⟩,⟨some 45,.mov (.t 10),(some (44,false))⟩,⟨some 46,.len 1 (.t 45),(some (44,false))⟩,⟨some 47,.eql (.one .i) false (.t 46) (.c (.int .i64 4)),(some (44,false))⟩,⟨some 48,.pick (.t 44) (.c (.bool true)) (.t 47),none⟩])
 (.cond (.t 48) (.jump (.exit 5))
 .skip))
 (.seq (.reg [⟨some 49,.mov (.t 10),none⟩,⟨some 50,.len 1 (.t 49),none⟩,⟨some 51,.bin .add (.t 50) (.c (.int .i64 1)),none⟩,⟨some 52,.mkslice [.int .i64 0] 8 (.t 51) (.t 51),none⟩,⟨some 13,.mov (.t 52),none⟩])
 (.seq (.reg [⟨some 53,.mov (.t 13),none⟩,⟨some 54,.mov (.t 10),none⟩,⟨some 55,.copy 1 (.t 53) (.t 54),none⟩])
 (.seq (.reg [⟨some 56,.mov (.t 13),none⟩,⟨some 57,.mov (.t 10),none⟩,⟨some 58,.len 1 (.t 57),none⟩,⟨some 59,.mov (.t 11),none⟩,⟨some 60,.iaddr none 1 (.t 56) (.t 58),none⟩,⟨none,.store 1 (.t 60) (.t 59),none⟩])
 (.seq (.reg [⟨some 62,.load (some 4) (.t 3),none⟩,⟨some 63,.mov (.t 1),none⟩,⟨some 64,.mov (.t 13),none⟩,⟨some 65,.call (.c (.func 71 [] [])) [.t 62,.t 63,.t 64],none⟩,⟨some 61,.mov (.t 65),none⟩,⟨some 66,.ext (.t 61) 0,none⟩,⟨some 67,.ext (.t 61) 1,none⟩,⟨some 14,.mov (.t 66),none⟩,⟨some 15,.mov (.t 67),none⟩])
 (.block 6 (.seq (.reg [⟨some 69,.mov (.t 14),none⟩,⟨some 68,.mov (.t 69),none⟩])
 (.cond (.t 68) (.reg [⟨some 70,.mov (.t 6),none⟩,⟨some 71,.mov (.t 13),none⟩,⟨some 72,.mklit 1 [.t 71],none⟩,⟨some 73,.append 1 24 (.t 70) (.t 72),none⟩,⟨some 6,.mov (.t 73),none⟩])
 (.seq (.reg [⟨some 75,.mov (.t 15),none⟩,⟨some 74,.mov (.t 75),none⟩])
 (.cond (.t 74) (.reg [⟨some 76,.mov (.t 8),none⟩,⟨some 77,.mov (.t 13),none⟩,⟨some 78,.mklit 1 [.t 77],none⟩,⟨some 79,.append 1 24 (.t 76) (.t 78),none⟩,⟨some 8,.mov (.t 79),none⟩])
 .skip))))))))))))
 (.reg [⟨some 80,.bin .add (.t 31) (.c (.int .i64 1)),none⟩,⟨some 31,.mov (.t 80),none⟩])))
def YS:ACode:=.seq (.reg [⟨some 25,.bin .lss (.t 24) (.t 23),none⟩])
 (.seq (.cond (.t 25) .skip
 (.jump (.exit 2)))
 (.seq (.block 3 (.seq (.reg [⟨some 26,.iaddr none 1 (.t 22) (.t 24),none⟩,⟨some 27,.load none (.t 26),none⟩,⟨some 10,.mov (.t 27),none⟩])
 (.seq (.reg [⟨some 28,.faddr (.t 3) 1,none⟩,⟨some 29,.load none (.t 28),none⟩,⟨some 30,.len 1 (.t 29),none⟩,⟨some 31,.mov (.c (.int .i64 0)),none⟩])
 (.block 4 (.loop XN)))))
 (.reg [⟨some 81,.bin .add (.t 24) (.c (.int .i64 1)),none⟩,⟨some 24,.mov (.t 81),none⟩])))
def ZQ:ACode:=.seq (.seq (.reg [⟨some 19,.mov (.t 7),none⟩,⟨some 20,.len 1 (.t 19),none⟩,⟨some 21,.bin .gtr (.t 20) (.c (.int .i64 0)),none⟩])
 (.cond (.t 21) .skip
 (.jump (.exit 0))))
 (.block 1 (.seq (.reg [⟨some 8,.mov (.c (.lit [] true none)),none⟩])
 (.seq (.seq (.reg [⟨some 22,.mov (.t 7),none⟩,⟨some 23,.len 1 (.t 22),none⟩,⟨some 24,.mov (.c (.int .i64 0)),none⟩])
 (.block 2 (.loop YS)))
 (.reg [⟨some 82,.mov (.t 8),none⟩,⟨some 7,.mov (.t 82),none⟩]))))
def a77:AFunc:=⟨84,[.tmp 6],
 .seq (.reg [⟨some 3,.box 4 (.t 0),none⟩,⟨some 6,.mov (.c (.lit [] true none)),none⟩])
 (.seq (.seq (.reg [⟨some 16,.mov (.t 1),none⟩,⟨some 17,.eql (.one .i) false (.t 16) (.c (.int .i64 0)),none⟩])
 (.cond (.t 17) (.seq (.reg [⟨some 6,.mov (.c (.lit [] true none)),none⟩])
 (.jump .ret))
 .skip))
 (.seq (.seq (.reg [⟨some 18,.mklit 1 [(.c (.lit [] true none))],none⟩,⟨some 7,.mov (.t 18),none⟩])
 (.block 0 (.loop ZQ)))
 (.seq (.reg [⟨some 83,.mov (.t 6),none⟩,⟨some 6,.mov (.t 83),none⟩])
 (.jump .ret))))⟩
def a78:AFunc:=⟨10,[.tmp 4],
 .seq (.reg [⟨some 2,.box 4 (.t 0),none⟩,⟨some 4,.mov (.c (.bool false)),none⟩])
 (.seq (.reg [⟨some 5,.mov (.t 1),none⟩,⟨some 6,.faddr (.t 2) 0,none⟩,⟨some 7,.load none (.t 6),none⟩,⟨some 8,.bin .sub (.t 7) (.c (.int .i64 1)),none⟩,⟨some 9,.call (.c (.func 62 [] [])) [(.t 5),(.c (.int .i64 0)),(.t 8)],none⟩,⟨some 4,.mov (.t 9),none⟩])
 (.jump .ret))⟩
def MA:ACode:=.seq (.seq (.reg [⟨some 20,.mov (.t 9),none⟩,⟨some 21,.bin .add (.t 20) (.c (.int .i64 1)),none⟩,⟨some 22,.mov (.t 1),none⟩,⟨some 23,.len 1 (.t 22),none⟩,⟨some 24,.bin .lss (.t 21) (.t 23),none⟩])
 (.cond (.t 24) .skip
 (.jump (.exit 0))))
 (.seq (.block 1 (.seq (.dreg [⟨⟨some 27,.mov (.t 1),none⟩,0,0⟩,⟨⟨some 28,.mov (.t 9),none⟩,0,0⟩,⟨⟨some 29,.bin .add (.t 28) (.c (.int .i64 1)),none⟩,0,0⟩,⟨⟨some 30,.iaddr none 1 (.t 27) (.t 29),none⟩,0,0⟩,⟨⟨some 31,.load none (.t 30),none⟩,0,0⟩,⟨⟨some 32,.bin .sub (.t 31) (.c (.int .i64 1)),none⟩,0,0⟩,⟨⟨some 33,.mov (.t 1),none⟩,0,0⟩,⟨⟨some 34,.mov (.t 9),none⟩,0,0⟩,⟨⟨some 35,.iaddr none 1 (.t 33) (.t 34),none⟩,0,0⟩,⟨⟨some 36,.load none (.t 35),none⟩,0,0⟩,⟨⟨some 37,.mklit 1 [.t 36],none⟩,0,0⟩,⟨⟨some 38,.call (.c (.func 63 [] [])) [(.c (.int .i64 0)),(.t 32),(.t 37)],none⟩,0,1⟩])
 (.cond (.t 38) (.seq (.reg [⟨some 4,.mov (.c (.nilPtr)),none⟩,⟨some 5,.mov (.c (.int .i64 4)),none⟩])
 (.jump .ret))
 .skip)))
 (.reg [⟨some 25,.mov (.t 9),none⟩,⟨some 26,.bin .add (.t 25) (.c (.int .i64 2)),none⟩,⟨some 9,.mov (.t 26),none⟩]))
def a79:AFunc:=⟨45,[.tmp 4,.tmp 5],
 .seq (.reg [⟨some 2,.box 4 (.t 0),none⟩,⟨some 4,.mov (.c (.nilPtr)),none⟩,⟨some 5,.mov (.c (.int .i64 0)),none⟩])
 (.seq (.seq (.reg [⟨some 12,.load (some 4) (.t 2),none⟩,⟨some 13,.call (.c (.func 17 [] [])) [.t 12],none⟩,⟨some 11,.mov (.t 13),none⟩,⟨some 14,.ext (.t 11) 0,none⟩,⟨some 15,.ext (.t 11) 1,none⟩,⟨some 16,.ext (.t 11) 2,none⟩,⟨some 6,.mov (.t 14),none⟩,⟨some 7,.mov (.t 15),none⟩,⟨some 8,.mov (.t 16),none⟩])
 (.seq (.reg [⟨some 17,.mov (.t 8),none⟩,⟨some 18,.eql (.one .i) true (.t 17) (.c (.int .i64 0)),none⟩])
 (.cond (.t 18) (.seq (.reg [⟨some 19,.mov (.t 8),none⟩,⟨some 4,.mov (.c (.nilPtr)),none⟩,⟨some 5,.mov (.t 19),none⟩])
 (.jump .ret))
 .skip)))
 (.seq (.seq (.reg [⟨some 9,.mov (.c (.int .i64 0)),none⟩])
 (.block 0 (.loop MA)))
 (.seq (.reg [⟨some 39,.load (some 4) (.t 2),none⟩,⟨some 40,.call (.c (.func 92 [] [])) [(.t 39),(.c (.int .i64 0))],none⟩,⟨some 10,.mov (.t 40),none⟩])
 (.seq (.seq (.reg [⟨some 41,.mov (.t 10),none⟩,⟨some 42,.call (.c (.func 93 [] [])) [.t 41],none⟩,⟨some 43,.not (.t 42),none⟩])
 (.cond (.t 43) (.seq (.reg [⟨some 4,.mov (.c (.nilPtr)),none⟩,⟨some 5,.mov (.c (.int .i64 8)),none⟩])
 (.jump .ret))
 .skip))
 (.seq (.reg [⟨some 44,.mov (.t 10),none⟩,⟨some 4,.mov (.t 44),none⟩,⟨some 5,.mov (.c (.int .i64 0)),none⟩])
 (.jump .ret))))))⟩
def a80:AFunc:=⟨4,[.tmp 2],
 .seq (.reg [⟨some 1,.box 1 (.t 0),none⟩,⟨some 2,.mov (.c (.nilFunc)),none⟩])
 (.seq (.reg [⟨some 3,.mkfun 106 [] [.t 1],none⟩,⟨some 2,.mov (.t 3),none⟩])
 (.jump .ret))⟩
def a81:AFunc:=⟨16,[.tmp 4,.tmp 5],
 .seq (.reg [⟨some 2,.box 4 (.t 0),none⟩,⟨some 4,.mov (.c (.lit [] true none)),none⟩,⟨some 5,.mov (.c (.int .i64 0)),none⟩])
 (.seq (.seq (.reg [⟨some 7,.mov (.t 1),none⟩,⟨some 8,.eql (.one .i) true (.t 7) (.c (.int .i64 0)),none⟩])
 (.cond (.t 8) (.seq (.reg [⟨some 9,.mov (.t 1),none⟩,⟨some 4,.mov (.c (.lit [] true none)),none⟩,⟨some 5,.mov (.t 9),none⟩])
 (.jump .ret))
 .skip))
 (.seq (.reg [⟨some 10,.load (some 4) (.t 2),none⟩,⟨some 11,.call (.c (.func 48 [] [])) [(.t 10),(.c (.lit [] true none))],none⟩,⟨some 6,.mov (.t 11),none⟩])
 (.seq (.seq (.reg [⟨some 12,.mov (.t 6),none⟩,⟨some 13,.len 1 (.t 12),none⟩,⟨some 14,.eql (.one .i) false (.t 13) (.c (.int .i64 0)),none⟩])
 (.cond (.t 14) (.seq (.reg [⟨some 4,.mov (.c (.lit [] true none)),none⟩,⟨some 5,.mov (.c (.int .i64 8)),none⟩])
 (.jump .ret))
 .skip))
 (.seq (.reg [⟨some 15,.mov (.t 6),none⟩,⟨some 4,.mov (.t 15),none⟩,⟨some 5,.mov (.c (.int .i64 0)),none⟩])
 (.jump .ret)))))⟩
def a82:AFunc:=⟨14,[.cell 4 (some 2)],
 .seq (.reg [⟨some 2,.box 2 (.t 0),none⟩,⟨some 4,.alloc [.int .i64 0,.int .i64 0],none⟩])
 (.seq (.reg [⟨some 5,.faddr (.t 2) 0,none⟩,⟨some 6,.load none (.t 5),none⟩,⟨some 7,.mov (.t 1),none⟩,⟨some 8,.min [.t 6,.t 7],none⟩,⟨some 9,.faddr (.t 2) 1,none⟩,⟨some 10,.load none (.t 9),none⟩,⟨some 11,.mov (.t 1),none⟩,⟨some 12,.max [.t 10,.t 11],none⟩,⟨some 13,.build [.int .i64 0,.int .i64 0] [(0,1,(.t 8)),(1,1,(.t 12))],none⟩,⟨none,.store 2 (.t 4) (.t 13),none⟩])
 (.jump .ret))⟩
def a83:AFunc:=⟨11,[.tmp 4],
 .seq (.reg [⟨some 4,.mov (.c (.int .i64 0)),none⟩])
 (.seq (.seq (.reg [⟨some 5,.mov (.t 0),none⟩])
 (.block 0 (.seq (.reg [⟨some 7,.mov (.t 1),none⟩,⟨some 8,.eql (.one .i) false (.t 5) (.t 7),none⟩,⟨some 6,.mov (.t 8),none⟩])
 (.cond (.t 6) (.seq (.reg [⟨some 4,.mov (.c (.int .i64 1)),none⟩])
 (.jump .ret))
 (.seq (.reg [⟨some 10,.eql (.one .i) false (.t 5) (.c (.int .i64 0)),none⟩,⟨some 9,.mov (.t 10),none⟩])
 (.cond (.t 9) (.seq (.reg [⟨some 4,.mov (.c (.int .i64 2)),none⟩])
 (.jump .ret))
 .skip))))))
 (.seq (.reg [⟨some 4,.mov (.c (.int .i64 0)),none⟩])
 (.jump .ret)))⟩
def ZR:ACode:=.seq (.reg [⟨some 29,.bin .lss (.t 28) (.t 27),none⟩])
 (.seq (.cond (.t 29) .skip
 (.jump (.exit 2)))
 (.seq (.block 3 (.seq (.reg [⟨some 30,.mov (.t 28),none⟩,⟨some 7,.mov (.t 30),none⟩])
 (.seq (.dreg [⟨⟨some 31,.load none (.t 4),none⟩,0,0⟩,⟨⟨some 32,.mov (.t 7),none⟩,0,0⟩,⟨⟨some 33,.mov (.t 7),none⟩,0,0⟩,⟨⟨some 34,.iaddr (some 3) 1 (.t 6) (.t 33),none⟩,0,0⟩,⟨⟨some 35,.load none (.t 34),none⟩,0,0⟩,⟨⟨some 36,.call (.t 31) [.t 32,.t 35],none⟩,0,1⟩])
 (.cond (.t 36) (.dreg [⟨⟨some 37,.load none (.t 2),none⟩,0,0⟩,⟨⟨some 38,.mov (.t 7),none⟩,0,0⟩,⟨⟨some 39,.bin .shl (.c (.int .i64 1)) (.t 38),none⟩,0,0⟩,⟨⟨some 40,.bin .andNot (.t 37) (.t 39),none⟩,0,0⟩,⟨⟨none,.store 1 (.t 2) (.t 40),none⟩,0,1⟩])
 (.dreg [⟨⟨some 41,.load none (.t 3),none⟩,0,0⟩,⟨⟨some 42,.mov (.t 7),none⟩,0,0⟩,⟨⟨some 43,.bin .shl (.c (.int .i64 1)) (.t 42),none⟩,0,0⟩,⟨⟨some 44,.bin .or (.t 41) (.t 43),none⟩,0,0⟩,⟨⟨none,.store 1 (.t 3) (.t 44),none⟩,0,1⟩])))))
 (.reg [⟨some 45,.bin .add (.t 28) (.c (.int .i64 1)),none⟩,⟨some 28,.mov (.t 45),none⟩])))
def RT:ACode:=.block 1 (.seq (.reg [⟨some 22,.load none (.t 1),none⟩,⟨some 23,.nilCheck (.t 22),none⟩,⟨some 24,.faddr (.t 23) 0,none⟩,⟨some 25,.faddr (.t 24) 2,none⟩,⟨some 26,.load none (.t 25),none⟩,⟨some 27,.len 1 (.t 26),none⟩,⟨some 28,.mov (.c (.int .i64 0)),none⟩])
 (.block 2 (.loop ZR)))
def a84:AFunc:=⟨48,[.cell 2 none,.cell 3 none],
 .seq (.reg [⟨some 1,.box 1 (.t 0),none⟩,⟨some 2,.alloc [.int .i64 0],none⟩,⟨some 3,.alloc [.int .i64 0],none⟩])
 (.seq (.reg [⟨some 8,.load none (.t 1),none⟩,⟨some 9,.mkfun 111 [.t 8] [],none⟩,⟨some 4,.alloc [.nilFunc],none⟩,⟨none,.store 1 (.t 4) (.t 9),none⟩])
 (.seq (.reg [⟨some 10,.load none (.t 1),none⟩,⟨some 11,.nilCheck (.t 10),none⟩,⟨some 12,.faddr (.t 11) 0,none⟩,⟨some 13,.faddr (.t 12) 2,none⟩,⟨some 14,.load none (.t 13),none⟩,⟨some 15,.len 1 (.t 14),none⟩,⟨some 16,.bin .shl (.c (.int .i64 1)) (.t 15),none⟩,⟨some 17,.bin .sub (.t 16) (.c (.int .i64 1)),none⟩,⟨none,.store 1 (.t 2) (.t 17),none⟩])
 (.seq (.seq (.reg [⟨some 18,.load none (.t 1),none⟩,⟨some 19,.call (.c (.func 80 [] [])) [.t 18],none⟩])
 (.block 0 (.rangeFunc (.t 19) [20,21] (.reg [⟨some 6,.alloc [.int .i64 0,.int .i64 0,.int .i64 0],none⟩,⟨none,.store 3 (.t 6) (.t 21),none⟩])
 (RT))))
 (.seq (.dreg [⟨⟨some 46,.load none (.t 2),none⟩,0,0⟩,⟨⟨some 47,.load none (.t 3),none⟩,0,1⟩,⟨⟨none,.store 1 (.t 2) (.t 46),none⟩,0,1⟩,⟨⟨none,.store 1 (.t 3) (.t 47),none⟩,1,2⟩])
 (.jump .ret)))))⟩
def YR:ACode:=.seq (.reg [⟨some 8,.bin .lss (.t 7) (.t 6),none⟩])
 (.seq (.cond (.t 8) .skip
 (.jump (.exit 0)))
 (.seq (.block 1 (.seq (.reg [⟨some 9,.mov (.t 7),none⟩,⟨some 5,.mov (.t 9),none⟩])
 (.seq (.reg [⟨some 10,.mov (.t 0),none⟩,⟨some 11,.mov (.t 5),none⟩,⟨some 12,.bin .shr (.t 10) (.t 11),none⟩,⟨some 13,.bin .and (.t 12) (.c (.int .i64 1)),none⟩,⟨some 14,.eql (.one .i) false (.t 13) (.c (.int .i64 1)),none⟩])
 (.cond (.t 14) (.reg [⟨some 15,.mov (.t 4),none⟩,⟨some 16,.mov (.t 5),none⟩,⟨some 17,.mklit 1 [.t 16],none⟩,⟨some 18,.append 1 8 (.t 15) (.t 17),none⟩,⟨some 4,.mov (.t 18),none⟩])
 .skip))))
 (.reg [⟨some 19,.bin .add (.t 7) (.c (.int .i64 1)),none⟩,⟨some 7,.mov (.t 19),none⟩])))
def a85:AFunc:=⟨21,[.tmp 4],
 .seq (.reg [⟨some 4,.mov (.c (.lit [] true none)),none⟩])
 (.seq (.seq (.reg [⟨some 6,.mov (.t 1),none⟩,⟨some 7,.mov (.c (.int .i64 0)),none⟩])
 (.block 0 (.loop YR)))
 (.seq (.reg [⟨some 20,.mov (.t 4),none⟩,⟨some 4,.mov (.t 20),none⟩])
 (.jump .ret)))⟩
def YG:ACode:=.seq (.reg [⟨some 30,.bin .lss (.t 29) (.t 28),none⟩])
 (.seq (.cond (.t 30) .skip
 (.jump (.exit 0)))
 (.seq (.block 1 (.seq (.reg [⟨some 31,.iaddr none 1 (.t 27) (.t 29),none⟩,⟨some 32,.load none (.t 31),none⟩,⟨some 11,.mov (.t 32),none⟩])
 (.seq (.reg [⟨some 12,.mov (.c (.int .i64 0)),none⟩])
 (.seq (.seq (.reg [⟨some 33,.mov (.t 11),none⟩,⟨some 34,.faddr (.t 5) 2,none⟩,⟨some 35,.load none (.t 34),none⟩,⟨some 36,.mov (.t 0),none⟩,⟨some 37,.iaddr none 5 (.t 35) (.t 36),none⟩,⟨some 38,.faddr (.t 37) 4,none⟩,⟨some 39,.load none (.t 38),none⟩,⟨some 40,.call (.c (.func 88 [] [])) [.t 33,.t 39],none⟩,⟨some 41,.not (.t 40),none⟩])
 (.cond (.t 41) (.reg [⟨some 12,.mov (.c (.int .i64 1)),none⟩])
 .skip))
 (.seq (.reg [⟨some 42,.load none (.t 2),none⟩,⟨some 43,.mov (.t 0),none⟩,⟨some 44,.mov (.t 11),none⟩,⟨some 45,.iaddr none 1 (.t 42) (.t 43),none⟩,⟨none,.store 1 (.t 45) (.t 44),none⟩])
 (.seq (.reg [⟨some 46,.mov (.t 12),none⟩,⟨some 47,.mov (.t 1),none⟩,⟨some 48,.bin .leq (.t 46) (.t 47),none⟩,⟨some 49,.mov (.t 48),none⟩,⟨some 50,.load none (.t 6),(some (49,true))⟩,⟨some 51,.mov (.t 0),(some (49,true))⟩,⟨some 52,.bin .add (.t 51) (.c (.int .i64 1)),(some (49,true))⟩,⟨some 53,.mov (.t 1),(some (49,true))⟩,⟨some 54,.mov (.t 12),(some (49,true))⟩,⟨some 55,.bin .sub (.t 53) (.t 54),(some (49,true))⟩,⟨some 56,.call (.t 50) [.t 52,.t 55],(some (49,true))⟩,⟨some 57,.pick (.t 49) (.t 56) (.c (.bool false)),none⟩])
 (.cond (.t 57) (.seq (.reg [⟨some 9,.mov (.c (.bool true)),none⟩])
 (.jump .ret))
 .skip)))))))
 (.reg [⟨some 58,.bin .add (.t 29) (.c (.int .i64 1)),none⟩,⟨some 29,.mov (.t 58),none⟩])))
def a86:AFunc:=⟨59,[.tmp 9],
 .seq (.reg [⟨some 9,.mov (.c (.bool false)),none⟩])
 (.seq (.seq (.reg [⟨some 13,.mov (.t 0),none⟩,⟨some 14,.load none (.t 2),none⟩,⟨some 15,.len 1 (.t 14),none⟩,⟨some 16,.eql (.one .i) false (.t 13) (.t 15),none⟩])
 (.cond (.t 16) (.seq (.reg [⟨some 17,.mov (.t 1),none⟩,⟨some 18,.eql (.one .i) false (.t 17) (.c (.int .i64 0)),none⟩,⟨some 19,.mov (.t 18),none⟩,⟨some 20,.load none (.t 3),(some (19,true))⟩,⟨some 21,.load none (.t 2),(some (19,true))⟩,⟨some 22,.call (.c (.func 87 [] [])) [.t 20,.t 21],(some (19,true))⟩,⟨some 23,.pick (.t 19) (.t 22) (.c (.bool false)),none⟩,⟨some 9,.mov (.t 23),none⟩])
 (.jump .ret))
 .skip))
 (.seq (.seq (.reg [⟨some 24,.load none (.t 4),none⟩,⟨some 25,.mov (.t 0),none⟩,⟨some 26,.iaddr none 1 (.t 24) (.t 25),none⟩,⟨some 27,.load none (.t 26),none⟩,⟨some 28,.len 1 (.t 27),none⟩,⟨some 29,.mov (.c (.int .i64 0)),none⟩])
 (.block 0 (.loop YG)))
 (.seq (.reg [⟨some 9,.mov (.c (.bool false)),none⟩])
 (.jump .ret))))⟩
def ZM:ACode:=.seq (.reg [⟨some 23,.bin .lss (.t 22) (.t 21),none⟩])
 (.seq (.cond (.t 23) .skip
 (.jump (.exit 2)))
 (.seq (.block 3 (.seq (.reg [⟨some 24,.mov (.t 22),none⟩,⟨some 7,.mov (.t 24),none⟩])
 (.seq (.dreg [⟨⟨some 25,.load none (.t 2),none⟩,0,0⟩,⟨⟨some 26,.mov (.t 7),none⟩,0,0⟩,⟨⟨some 27,.mov (.t 7),none⟩,0,0⟩,⟨⟨some 28,.iaddr (some 3) 1 (.t 6) (.t 27),none⟩,0,0⟩,⟨⟨some 29,.load none (.t 28),none⟩,0,0⟩,⟨⟨some 30,.call (.c (.func 111 [] [])) [.t 25,.t 26,.t 29],none⟩,0,1⟩,⟨⟨some 31,.not (.t 30),none⟩,1,1⟩])
 (.cond (.t 31) (.seq (.reg [⟨none,.store 1 (.t 4) (.c (.bool false)),none⟩])
 (.jump .ret))
 .skip))))
 (.reg [⟨some 32,.bin .add (.t 22) (.c (.int .i64 1)),none⟩,⟨some 22,.mov (.t 32),none⟩])))
def O6:ACode:=.block 1 (.seq (.reg [⟨some 12,.load none (.t 2),none⟩,⟨some 13,.load (some 5) (.t 5),none⟩,⟨some 14,.mkfun 112 [] [.t 3],none⟩,⟨some 15,.call (.c (.func 109 [] [])) [.t 12,.t 13,.t 14],none⟩,⟨some 6,.alloc [.int .i64 0,.int .i64 0,.int .i64 0],none⟩,⟨none,.store 3 (.t 6) (.t 15),none⟩])
 (.seq (.reg [⟨some 16,.load none (.t 2),none⟩,⟨some 17,.nilCheck (.t 16),none⟩,⟨some 18,.faddr (.t 17) 0,none⟩,⟨some 19,.faddr (.t 18) 2,none⟩,⟨some 20,.load none (.t 19),none⟩,⟨some 21,.len 1 (.t 20),none⟩,⟨some 22,.mov (.c (.int .i64 0)),none⟩])
 (.block 2 (.loop ZM))))
def a87:AFunc:=⟨33,[.cell 4 none],
 .seq (.reg [⟨some 2,.box 1 (.t 0),none⟩,⟨some 3,.box 1 (.t 1),none⟩,⟨some 4,.alloc [.bool false],none⟩])
 (.seq (.seq (.reg [⟨some 8,.load none (.t 2),none⟩,⟨some 9,.call (.c (.func 80 [] [])) [.t 8],none⟩])
 (.block 0 (.rangeFunc (.t 9) [10,11] (.reg [⟨some 5,.alloc [.int .i64 0,.int .i64 0,.int .i64 0,.int .i64 0,.int .i64 0],none⟩,⟨none,.store 5 (.t 5) (.t 10),none⟩])
 (O6))))
 (.seq (.reg [⟨none,.store 1 (.t 4) (.c (.bool true)),none⟩])
 (.jump .ret)))⟩
def YN:ACode:=.seq (.reg [⟨some 14,.bin .lss (.t 13) (.t 12),none⟩])
 (.seq (.cond (.t 14) .skip
 (.jump (.exit 0)))
 (.seq (.block 1 (.seq (.reg [⟨some 15,.mov (.t 13),none⟩,⟨some 5,.mov (.t 15),none⟩])
 (.seq (.dreg [⟨⟨some 16,.mov (.t 0),none⟩,0,0⟩,⟨⟨some 17,.mov (.t 5),none⟩,0,0⟩,⟨⟨some 18,.iaddr none 1 (.t 16) (.t 17),none⟩,0,0⟩,⟨⟨some 19,.load none (.t 18),none⟩,0,0⟩,⟨⟨some 20,.mov (.t 1),none⟩,0,0⟩,⟨⟨some 21,.mov (.t 5),none⟩,0,0⟩,⟨⟨some 22,.iaddr none 1 (.t 20) (.t 21),none⟩,0,0⟩,⟨⟨some 23,.load none (.t 22),none⟩,0,0⟩,⟨⟨some 24,.eql (.one .i) true (.t 19) (.t 23),none⟩,0,0⟩])
 (.cond (.t 24) (.seq (.reg [⟨some 4,.mov (.c (.bool false)),none⟩])
 (.jump .ret))
 .skip))))
 (.reg [⟨some 25,.bin .add (.t 13) (.c (.int .i64 1)),none⟩,⟨some 13,.mov (.t 25),none⟩])))
def a88:AFunc:=⟨26,[.tmp 4],
 .seq (.reg [⟨some 4,.mov (.c (.bool false)),none⟩])
 (.seq (.seq (.reg [⟨some 6,.mov (.t 0),none⟩,⟨some 7,.len 1 (.t 6),none⟩,⟨some 8,.mov (.t 1),none⟩,⟨some 9,.len 1 (.t 8),none⟩,⟨some 10,.eql (.one .i) true (.t 7) (.t 9),none⟩])
 (.cond (.t 10) (.seq (.reg [⟨some 4,.mov (.c (.bool false)),none⟩])
 (.jump .ret))
 .skip))
 (.seq (.seq (.reg [⟨some 11,.mov (.t 0),none⟩,⟨some 12,.len 1 (.t 11),none⟩,⟨some 13,.mov (.c (.int .i64 0)),none⟩])
 (.block 0 (.loop YN)))
 (.seq (.reg [⟨some 4,.mov (.c (.bool true)),none⟩])
 (.jump .ret))))⟩
def Y5:ACode:=.seq (.seq (.reg [⟨some 31,.mov (.t 8),none⟩,⟨some 32,.mov (.t 5),none⟩,⟨some 33,.len 1 (.t 32),none⟩,⟨some 34,.bin .lss (.t 31) (.t 33),none⟩])
 (.cond (.t 34) .skip
 (.jump (.exit 4))))
 (.seq (.block 5 (.dreg [⟨⟨some 37,.mov (.t 6),none⟩,0,2⟩,⟨⟨some 38,.mklit 1 [],none⟩,0,0⟩,⟨⟨some 39,.mov (.t 3),none⟩,0,0⟩,⟨⟨some 40,.mov (.t 7),none⟩,0,0⟩,⟨⟨some 41,.iaddr none 1 (.t 39) (.t 40),none⟩,0,0⟩,⟨⟨some 42,.load none (.t 41),none⟩,0,0⟩,⟨⟨some 43,.append 1 24 (.t 38) (.t 42),none⟩,0,1⟩,⟨⟨some 44,.mov (.t 5),none⟩,0,1⟩,⟨⟨some 45,.mov (.t 8),none⟩,0,1⟩,⟨⟨some 46,.iaddr none 1 (.t 44) (.t 45),none⟩,0,1⟩,⟨⟨some 47,.load none (.t 46),none⟩,0,1⟩,⟨⟨some 48,.mklit 1 [.t 47],none⟩,0,1⟩,⟨⟨some 49,.append 1 24 (.t 43) (.t 48),none⟩,1,2⟩,⟨⟨some 50,.mklit 1 [.t 49],none⟩,2,2⟩,⟨⟨some 51,.append 1 24 (.t 37) (.t 50),none⟩,2,3⟩,⟨⟨some 6,.mov (.t 51),none⟩,3,3⟩]))
 (.reg [⟨some 35,.mov (.t 8),none⟩,⟨some 36,.bin .add (.t 35) (.c (.int .i64 1)),none⟩,⟨some 8,.mov (.t 36),none⟩]))
def X9:ACode:=.seq (.seq (.reg [⟨some 25,.mov (.t 7),none⟩,⟨some 26,.mov (.t 3),none⟩,⟨some 27,.len 1 (.t 26),none⟩,⟨some 28,.bin .lss (.t 25) (.t 27),none⟩])
 (.cond (.t 28) .skip
 (.jump (.exit 2))))
 (.seq (.block 3 (.seq (.reg [⟨some 8,.mov (.c (.int .i64 0)),none⟩])
 (.block 4 (.loop Y5))))
 (.reg [⟨some 29,.mov (.t 7),none⟩,⟨some 30,.bin .add (.t 29) (.c (.int .i64 1)),none⟩,⟨some 7,.mov (.t 30),none⟩]))
def XK:ACode:=.seq (.seq (.reg [⟨some 10,.mov (.t 4),none⟩,⟨some 11,.faddr (.t 1) 2,none⟩,⟨some 12,.load none (.t 11),none⟩,⟨some 13,.len 1 (.t 12),none⟩,⟨some 14,.bin .lss (.t 10) (.t 13),none⟩])
 (.cond (.t 14) .skip
 (.jump (.exit 0))))
 (.seq (.block 1 (.seq (.dreg [⟨⟨some 17,.load (some 4) (.t 1),none⟩,0,0⟩,⟨⟨some 18,.faddr (.t 1) 2,none⟩,0,0⟩,⟨⟨some 19,.load none (.t 18),none⟩,0,0⟩,⟨⟨some 20,.mov (.t 4),none⟩,0,0⟩,⟨⟨some 21,.iaddr none 5 (.t 19) (.t 20),none⟩,0,0⟩,⟨⟨some 22,.faddr (.t 21) 1,none⟩,0,0⟩,⟨⟨some 23,.load none (.t 22),none⟩,0,0⟩,⟨⟨some 24,.call (.c (.func 51 [] [])) [(.t 17),(.t 23),(.c (.lit [] true none))],none⟩,0,1⟩,⟨⟨some 5,.mov (.t 24),none⟩,1,1⟩])
 (.seq (.reg [⟨some 6,.mov (.c (.lit [] true none)),none⟩])
 (.seq (.seq (.reg [⟨some 7,.mov (.c (.int .i64 0)),none⟩])
 (.block 2 (.loop X9)))
 (.reg [⟨some 52,.mov (.t 6),none⟩,⟨some 3,.mov (.t 52),none⟩])))))
 (.reg [⟨some 15,.mov (.t 4),none⟩,⟨some 16,.bin .add (.t 15) (.c (.int .i64 1)),none⟩,⟨some 4,.mov (.t 16),none⟩]))
def a89:AFunc:=⟨54,[.tmp 2],
 .seq (.reg [⟨some 1,.box 4 (.t 0),none⟩,⟨some 2,.mov (.c (.lit [] true none)),none⟩])
 (.seq (.reg [⟨some 9,.mklit 1 [(.c (.lit [] true none))],none⟩,⟨some 3,.mov (.t 9),none⟩])
 (.seq (.seq (.reg [⟨some 4,.mov (.c (.int .i64 0)),none⟩])
 (.block 0 (.loop XK)))
 (.seq (.reg [⟨some 53,.mov (.t 3),none⟩,⟨some 2,.mov (.t 53),none⟩])
 (.jump .ret))))⟩
def YH:ACode:=.seq (.seq (.reg [⟨some 7,.mov (.t 6),none⟩,⟨some 8,.faddr (.t 2) 2,none⟩,⟨some 9,.load none (.t 8),none⟩,⟨some 10,.len 1 (.t 9),none⟩,⟨some 11,.bin .lss (.t 7) (.t 10),none⟩])
 (.cond (.t 11) .skip
 (.jump (.exit 0))))
 (.seq (.block 1 (.seq (.dreg [⟨⟨some 14,.load (some 4) (.t 2),none⟩,0,0⟩,⟨⟨some 15,.faddr (.t 2) 2,none⟩,0,0⟩,⟨⟨some 16,.load none (.t 15),none⟩,0,0⟩,⟨⟨some 17,.mov (.t 6),none⟩,0,0⟩,⟨⟨some 18,.iaddr none 5 (.t 16) (.t 17),none⟩,0,0⟩,⟨⟨some 19,.faddr (.t 18) 1,none⟩,0,0⟩,⟨⟨some 20,.load none (.t 19),none⟩,0,0⟩,⟨⟨some 21,.mov (.t 1),none⟩,0,0⟩,⟨⟨some 22,.mklit 1 [.t 21],none⟩,0,0⟩,⟨⟨some 23,.call (.c (.func 51 [] [])) [.t 14,.t 20,.t 22],none⟩,0,1⟩,⟨⟨some 24,.len 1 (.t 23),none⟩,1,1⟩,⟨⟨some 25,.eql (.one .i) false (.t 24) (.c (.int .i64 0)),none⟩,1,1⟩])
 (.cond (.t 25) (.reg [⟨some 26,.mov (.t 5),none⟩,⟨some 27,.bin .add (.t 26) (.c (.int .i64 1)),none⟩,⟨some 5,.mov (.t 27),none⟩])
 .skip)))
 (.reg [⟨some 12,.mov (.t 6),none⟩,⟨some 13,.bin .add (.t 12) (.c (.int .i64 1)),none⟩,⟨some 6,.mov (.t 13),none⟩]))
def a90:AFunc:=⟨29,[.tmp 4],
 .seq (.reg [⟨some 2,.box 4 (.t 0),none⟩,⟨some 4,.mov (.c (.int .i64 0)),none⟩])
 (.seq (.reg [⟨some 5,.mov (.c (.int .i64 0)),none⟩])
 (.seq (.seq (.reg [⟨some 6,.mov (.c (.int .i64 0)),none⟩])
 (.block 0 (.loop YH)))
 (.seq (.reg [⟨some 28,.mov (.t 5),none⟩,⟨some 4,.mov (.t 28),none⟩])
 (.jump .ret))))⟩
def ZC:ACode:=.seq (.reg [⟨some 12,.bin .lss (.t 11) (.t 10),none⟩])
 (.seq (.cond (.t 12) .skip
 (.jump (.exit 0)))
 (.seq (.block 1 (.seq (.reg [⟨some 13,.mov (.t 11),none⟩,⟨some 14,.iaddr none 1 (.t 9) (.t 11),none⟩,⟨some 15,.load none (.t 14),none⟩,⟨some 5,.mov (.t 13),none⟩,⟨some 6,.mov (.t 15),none⟩])
 (.seq (.seq (.reg [⟨some 16,.mov (.t 5),none⟩,⟨some 17,.mov (.t 1),none⟩,⟨some 18,.len 1 (.t 17),none⟩,⟨some 19,.bin .geq (.t 16) (.t 18),none⟩])
 (.cond (.t 19) (.seq (.reg [⟨some 4,.mov (.c (.int .i64 1)),none⟩])
 (.jump .ret))
 .skip))
 (.seq (.reg [⟨some 20,.mov (.t 1),none⟩,⟨some 21,.mov (.t 5),none⟩,⟨some 22,.iaddr none 1 (.t 20) (.t 21),none⟩,⟨some 23,.load none (.t 22),none⟩,⟨some 7,.mov (.t 23),none⟩])
 (.seq (.reg [⟨some 24,.mov (.t 6),none⟩,⟨some 25,.mov (.t 7),none⟩,⟨some 26,.call (.c (.func 113 [] [])) [.t 24,.t 25],none⟩,⟨some 8,.mov (.t 26),none⟩])
 (.seq (.reg [⟨some 27,.mov (.t 8),none⟩,⟨some 28,.eql (.one .i) true (.t 27) (.c (.int .i64 0)),none⟩])
 (.cond (.t 28) (.seq (.reg [⟨some 29,.mov (.t 8),none⟩,⟨some 4,.mov (.t 29),none⟩])
 (.jump .ret))
 .skip)))))))
 (.reg [⟨some 30,.bin .add (.t 11) (.c (.int .i64 1)),none⟩,⟨some 11,.mov (.t 30),none⟩])))
def a91:AFunc:=⟨36,[.tmp 4],
 .seq (.reg [⟨some 4,.mov (.c (.int .i64 0)),none⟩])
 (.seq (.seq (.reg [⟨some 9,.mov (.t 0),none⟩,⟨some 10,.len 1 (.t 9),none⟩,⟨some 11,.mov (.c (.int .i64 0)),none⟩])
 (.block 0 (.loop ZC)))
 (.seq (.seq (.reg [⟨some 31,.mov (.t 0),none⟩,⟨some 32,.len 1 (.t 31),none⟩,⟨some 33,.mov (.t 1),none⟩,⟨some 34,.len 1 (.t 33),none⟩,⟨some 35,.bin .lss (.t 32) (.t 34),none⟩])
 (.cond (.t 35) (.seq (.reg [⟨some 4,.mov (.c (.int .i64 (-1))),none⟩])
 (.jump .ret))
 .skip))
 (.seq (.reg [⟨some 4,.mov (.c (.int .i64 0)),none⟩])
 (.jump .ret))))⟩
def a92:AFunc:=⟨10,[.tmp 4],
 .seq (.reg [⟨some 2,.box 4 (.t 0),none⟩,⟨some 4,.mov (.c (.nilPtr)),none⟩])
 (.seq (.reg [⟨some 5,.load (some 4) (.t 2),none⟩,⟨some 6,.mov (.t 1),none⟩,⟨some 7,.mkmap,none⟩,⟨some 8,.build [.int .i64 0,.lit [] true none,.lit [] true none,.lit [] true none,.int .i64 0,.nilMap] [(0,4,(.t 5)),(4,1,(.t 6)),(5,1,(.t 7))],none⟩,⟨some 9,.box 6 (.t 8),none⟩,⟨some 4,.mov (.t 9),none⟩])
 (.jump .ret))⟩
def YO:ACode:=.block 1 (.seq (.reg [⟨none,.store 1 (.t 2) (.c (.bool true)),none⟩])
 (.jump .ret))
def a93:AFunc:=⟨7,[.cell 2 none],
 .seq (.reg [⟨some 2,.alloc [.bool false],none⟩])
 (.seq (.seq (.reg [⟨some 3,.mov (.t 0),none⟩,⟨some 4,.call (.c (.func 80 [] [])) [.t 3],none⟩])
 (.block 0 (.rangeFunc (.t 4) [5,6] .skip
 (YO))))
 (.seq (.reg [⟨none,.store 1 (.t 2) (.c (.bool false)),none⟩])
 (.jump .ret)))⟩
def PT:ACode:=.seq (.seq (.reg [⟨some 35,.mov (.t 10),none⟩,⟨some 36,.mov (.t 0),none⟩,⟨some 37,.bin .lss (.t 35) (.t 36),none⟩])
 (.cond (.t 37) .skip
 (.jump (.exit 4))))
 (.seq (.block 5 (.reg [⟨some 40,.mov (.t 7),none⟩,⟨some 41,.mklit 1 [],none⟩,⟨some 42,.mov (.t 5),none⟩,⟨some 43,.mov (.t 8),none⟩,⟨some 44,.iaddr none 1 (.t 42) (.t 43),none⟩,⟨some 45,.load none (.t 44),none⟩,⟨some 46,.append 1 8 (.t 41) (.t 45),none⟩,⟨some 47,.mov (.t 10),none⟩,⟨some 48,.mklit 1 [.t 47],none⟩,⟨some 49,.append 1 8 (.t 46) (.t 48),none⟩,⟨some 50,.mklit 1 [.t 49],none⟩,⟨some 51,.append 1 24 (.t 40) (.t 50),none⟩,⟨some 7,.mov (.t 51),none⟩]))
 (.reg [⟨some 38,.mov (.t 10),none⟩,⟨some 39,.bin .add (.t 38) (.c (.int .i64 1)),none⟩,⟨some 10,.mov (.t 39),none⟩]))
def XO:ACode:=.seq (.seq (.reg [⟨some 17,.mov (.t 8),none⟩,⟨some 18,.mov (.t 5),none⟩,⟨some 19,.len 1 (.t 18),none⟩,⟨some 20,.bin .lss (.t 17) (.t 19),none⟩])
 (.cond (.t 20) .skip
 (.jump (.exit 2))))
 (.seq (.block 3 (.seq (.reg [⟨some 9,.mov (.c (.int .i64 0)),none⟩])
 (.seq (.seq (.reg [⟨some 23,.mov (.t 6),none⟩,⟨some 24,.bin .gtr (.t 23) (.c (.int .i64 0)),none⟩])
 (.cond (.t 24) (.reg [⟨some 25,.mov (.t 5),none⟩,⟨some 26,.mov (.t 8),none⟩,⟨some 27,.iaddr none 1 (.t 25) (.t 26),none⟩,⟨some 28,.load none (.t 27),none⟩,⟨some 29,.mov (.t 6),none⟩,⟨some 30,.bin .sub (.t 29) (.c (.int .i64 1)),none⟩,⟨some 31,.iaddr none 1 (.t 28) (.t 30),none⟩,⟨some 32,.load none (.t 31),none⟩,⟨some 33,.bin .add (.t 32) (.c (.int .i64 1)),none⟩,⟨some 9,.mov (.t 33),none⟩])
 .skip))
 (.seq (.reg [⟨some 34,.mov (.t 9),none⟩,⟨some 10,.mov (.t 34),none⟩])
 (.block 4 (.loop PT))))))
 (.reg [⟨some 21,.mov (.t 8),none⟩,⟨some 22,.bin .add (.t 21) (.c (.int .i64 1)),none⟩,⟨some 8,.mov (.t 22),none⟩]))
def XW:ACode:=.seq (.seq (.reg [⟨some 12,.mov (.t 6),none⟩,⟨some 13,.mov (.t 1),none⟩,⟨some 14,.bin .lss (.t 12) (.t 13),none⟩])
 (.cond (.t 14) .skip
 (.jump (.exit 0))))
 (.seq (.block 1 (.seq (.reg [⟨some 7,.mov (.c (.lit [] true none)),none⟩])
 (.seq (.seq (.reg [⟨some 8,.mov (.c (.int .i64 0)),none⟩])
 (.block 2 (.loop XO)))
 (.reg [⟨some 52,.mov (.t 7),none⟩,⟨some 5,.mov (.t 52),none⟩]))))
 (.reg [⟨some 15,.mov (.t 6),none⟩,⟨some 16,.bin .add (.t 15) (.c (.int .i64 1)),none⟩,⟨some 6,.mov (.t 16),none⟩]))
def a94:AFunc:=⟨54,[.tmp 4],
 .seq (.reg [⟨some 4,.mov (.c (.lit [] true none)),none⟩])
 (.seq (.reg [⟨some 11,.mklit 1 [(.c (.lit [] true none))],none⟩,⟨some 5,.mov (.t 11),none⟩])
 (.seq (.seq (.reg [⟨some 6,.mov (.c (.int .i64 0)),none⟩])
 (.block 0 (.loop XW)))
 (.seq (.reg [⟨some 53,.mov (.t 5),none⟩,⟨some 4,.mov (.t 53),none⟩])
 (.jump .ret))))⟩
def X4:ACode:=.seq (.seq (.reg [⟨some 42,.mov (.t 9),none⟩,⟨some 43,.bin .lss (.t 42) (.c (.int .i64 2)),none⟩])
 (.cond (.t 43) .skip
 (.jump (.exit 6))))
 (.seq (.block 7 (.seq (.reg [⟨some 46,.mov (.t 9),none⟩,⟨some 47,.eql (.one .i) false (.t 46) (.c (.int .i64 1)),none⟩,⟨some 10,.mov (.t 47),none⟩])
 (.seq (.seq (.reg [⟨some 48,.mov (.t 10),none⟩,⟨some 49,.mov (.t 48),none⟩,⟨some 50,.faddr (.t 5) 4,(some (49,true))⟩,⟨some 51,.load none (.t 50),(some (49,true))⟩,⟨some 52,.eql (.one .i) false (.t 51) (.c (.int .i64 0)),(some (49,true))⟩,⟨some 53,.pick (.t 49) (.t 52) (.c (.bool false)),none⟩,⟨some 54,.mov (.t 53),none⟩,⟨some 55,.mov (.t 10),(some (54,false))⟩,⟨some 56,.not (.t 55),(some (54,false))⟩,⟨some 57,.mov (.t 56),(some (54,false))⟩,⟨some 58,.faddr (.t 5) 4,(some (57,true))⟩,⟨some 59,.load none (.t 58),(some (57,true))⟩,⟨some 60,.eql (.one .i) false (.t 59) (.c (.int .i64 1)),(some (57,true))⟩,⟨some 61,.pick (.t 57) (.t 60) (.c (.bool false)),(some (54,false))⟩,⟨some 62,.pick (.t 54) (.c (.bool true)) (.t 61),none⟩])
 (.cond (.t 62) (.jump (.exit 7))
 .skip))
 (.seq (.dreg [⟨⟨some 63,.mklit 1 [],none⟩,0,0⟩,⟨⟨some 64,.mov (.t 3),none⟩,0,0⟩,⟨⟨some 65,.mov (.t 7),none⟩,0,0⟩,⟨⟨some 66,.iaddr none 2 (.t 64) (.t 65),none⟩,0,0⟩,⟨⟨some 67,.faddr (.t 66) 0,none⟩,0,0⟩,⟨⟨some 68,.load none (.t 67),none⟩,0,0⟩,⟨⟨some 69,.append 1 1 (.t 63) (.t 68),none⟩,0,1⟩,⟨⟨some 70,.mov (.t 10),none⟩,0,1⟩,⟨⟨some 71,.mklit 1 [.t 70],none⟩,0,1⟩,⟨⟨some 72,.append 1 1 (.t 69) (.t 71),none⟩,1,2⟩,⟨⟨some 73,.mklit 1 [],none⟩,0,2⟩,⟨⟨some 74,.mov (.t 3),none⟩,0,2⟩,⟨⟨some 75,.mov (.t 7),none⟩,0,2⟩,⟨⟨some 76,.iaddr none 2 (.t 74) (.t 75),none⟩,0,2⟩,⟨⟨some 77,.faddr (.t 76) 1,none⟩,0,2⟩,⟨⟨some 78,.load none (.t 77),none⟩,0,2⟩,⟨⟨some 79,.append 1 8 (.t 73) (.t 78),none⟩,2,3⟩,⟨⟨some 80,.mov (.t 8),none⟩,0,3⟩,⟨⟨some 81,.mklit 1 [.t 80],none⟩,0,3⟩,⟨⟨some 82,.append 1 8 (.t 79) (.t 81),none⟩,3,4⟩,⟨⟨some 83,.build [.lit [] true none,.lit [] true none] [(0,1,(.t 72)),(1,1,(.t 82))],none⟩,4,4⟩,⟨⟨some 11,.alloc [.lit [] true none,.lit [] true none],none⟩,0,4⟩,⟨⟨none,.store 2 (.t 11) (.t 83),none⟩,4,5⟩])
 (.reg [⟨some 84,.mov (.t 6),none⟩,⟨some 85,.load (some 2) (.t 11),none⟩,⟨some 86,.mklit 2 [.t 85],none⟩,⟨some 87,.append 2 48 (.t 84) (.t 86),none⟩,⟨some 6,.mov (.t 87),none⟩])))))
 (.reg [⟨some 44,.mov (.t 9),none⟩,⟨some 45,.bin .add (.t 44) (.c (.int .i64 1)),none⟩,⟨some 9,.mov (.t 45),none⟩]))
def X5:ACode:=.seq (.seq (.reg [⟨some 35,.mov (.t 8),none⟩,⟨some 36,.faddr (.t 5) 2,none⟩,⟨some 37,.faddr (.t 36) 1,none⟩,⟨some 38,.load none (.t 37),none⟩,⟨some 39,.bin .leq (.t 35) (.t 38),none⟩])
 (.cond (.t 39) .skip
 (.jump (.exit 4))))
 (.seq (.block 5 (.seq (.reg [⟨some 9,.mov (.c (.int .i64 0)),none⟩])
 (.block 6 (.loop X4))))
 (.reg [⟨some 40,.mov (.t 8),none⟩,⟨some 41,.bin .add (.t 40) (.c (.int .i64 1)),none⟩,⟨some 8,.mov (.t 41),none⟩]))
def ZS:ACode:=.seq (.seq (.reg [⟨some 26,.mov (.t 7),none⟩,⟨some 27,.mov (.t 3),none⟩,⟨some 28,.len 1 (.t 27),none⟩,⟨some 29,.bin .lss (.t 26) (.t 28),none⟩])
 (.cond (.t 29) .skip
 (.jump (.exit 2))))
 (.seq (.block 3 (.seq (.reg [⟨some 32,.faddr (.t 5) 2,none⟩,⟨some 33,.faddr (.t 32) 0,none⟩,⟨some 34,.load none (.t 33),none⟩,⟨some 8,.mov (.t 34),none⟩])
 (.block 4 (.loop X5))))
 (.reg [⟨some 30,.mov (.t 7),none⟩,⟨some 31,.bin .add (.t 30) (.c (.int .i64 1)),none⟩,⟨some 7,.mov (.t 31),none⟩]))
def XY:ACode:=.seq (.seq (.reg [⟨some 14,.mov (.t 4),none⟩,⟨some 15,.faddr (.t 1) 1,none⟩,⟨some 16,.load none (.t 15),none⟩,⟨some 17,.len 1 (.t 16),none⟩,⟨some 18,.bin .lss (.t 14) (.t 17),none⟩])
 (.cond (.t 18) .skip
 (.jump (.exit 0))))
 (.seq (.block 1 (.seq (.reg [⟨some 21,.faddr (.t 1) 1,none⟩,⟨some 22,.load none (.t 21),none⟩,⟨some 23,.mov (.t 4),none⟩,⟨some 24,.iaddr none 5 (.t 22) (.t 23),none⟩,⟨some 25,.load (some 5) (.t 24),none⟩,⟨some 5,.alloc [.int .i64 0,.int .i64 0,.int .i64 0,.int .i64 0,.int .i64 0],none⟩,⟨none,.store 5 (.t 5) (.t 25),none⟩])
 (.seq (.reg [⟨some 6,.mov (.c (.lit [] true none)),none⟩])
 (.seq (.seq (.reg [⟨some 7,.mov (.c (.int .i64 0)),none⟩])
 (.block 2 (.loop ZS)))
 (.reg [⟨some 88,.mov (.t 6),none⟩,⟨some 3,.mov (.t 88),none⟩])))))
 (.reg [⟨some 19,.mov (.t 4),none⟩,⟨some 20,.bin .add (.t 19) (.c (.int .i64 1)),none⟩,⟨some 4,.mov (.t 20),none⟩]))
def a95:AFunc:=⟨90,[.tmp 2],
 .seq (.reg [⟨some 1,.box 4 (.t 0),none⟩,⟨some 2,.mov (.c (.lit [] true none)),none⟩])
 (.seq (.reg [⟨some 12,.build [.lit [] true none,.lit [] true none] [],none⟩,⟨some 13,.mklit 2 [.t 12],none⟩,⟨some 3,.mov (.t 13),none⟩])
 (.seq (.seq (.reg [⟨some 4,.mov (.c (.int .i64 0)),none⟩])
 (.block 0 (.loop XY)))
 (.seq (.reg [⟨some 89,.mov (.t 3),none⟩,⟨some 2,.mov (.t 89),none⟩])
 (.jump .ret))))⟩
def X7:ACode:=.seq (.seq (.reg [⟨some 13,.mov (.t 10),none⟩,⟨some 14,.mov (.t 0),none⟩,⟨some 15,.len 1 (.t 14),none⟩,⟨some 16,.bin .lss (.t 13) (.t 15),none⟩])
 (.cond (.t 16) .skip
 (.jump (.exit 2))))
 (.seq (.block 3 (.seq (.reg [⟨some 19,.mov (.t 0),none⟩,⟨some 20,.mov (.t 10),none⟩,⟨some 21,.iaddr none 4 (.t 19) (.t 20),none⟩,⟨some 22,.load (some 4) (.t 21),none⟩,⟨some 11,.alloc [.int .i64 0,.int .i64 0,.int .i64 0,.int .i64 0],none⟩,⟨none,.store 4 (.t 11) (.t 22),none⟩])
 (.seq (.reg [⟨some 23,.faddr (.t 11) 1,none⟩,⟨some 24,.load none (.t 23),none⟩,⟨some 25,.mov (.t 1),none⟩,⟨some 26,.eql (.one .i) false (.t 24) (.t 25),none⟩,⟨some 27,.mov (.t 26),none⟩,⟨some 28,.faddr (.t 11) 2,(some (27,true))⟩,⟨some 29,.load none (.t 28),(some (27,true))⟩,⟨some 30,.mov (.t 2),(some (27,true))⟩,⟨some 31,.mov (.t 3),(some (27,true))⟩,⟨some 32,.bin .add (.t 30) (.t 31),(some (27,true))⟩,⟨some 33,.bin .lss (.t 29) (.t 32),(some (27,true))⟩,⟨some 34,.pick (.t 27) (.t 33) (.c (.bool false)),none⟩,⟨some 35,.mov (.t 34),none⟩,⟨some 36,.faddr (.t 11) 3,(some (35,true))⟩,⟨some 37,.load none (.t 36),(some (35,true))⟩,⟨some 38,.mov (.t 2),(some (35,true))⟩,⟨some 39,.bin .gtr (.t 37) (.t 38),(some (35,true))⟩,⟨some 40,.pick (.t 35) (.t 39) (.c (.bool false)),none⟩])
 (.cond (.t 40) (.reg [⟨some 41,.mov (.t 9),none⟩,⟨some 42,.faddr (.t 11) 3,none⟩,⟨some 43,.load none (.t 42),none⟩,⟨some 44,.max [.t 41,.t 43],none⟩,⟨some 9,.mov (.t 44),none⟩])
 .skip))))
 (.reg [⟨some 17,.mov (.t 10),none⟩,⟨some 18,.bin .add (.t 17) (.c (.int .i64 1)),none⟩,⟨some 10,.mov (.t 18),none⟩]))
def YI:ACode:=.block 1 (.seq (.reg [⟨some 12,.mov (.t 2),none⟩,⟨some 9,.mov (.t 12),none⟩])
 (.seq (.seq (.reg [⟨some 10,.mov (.c (.int .i64 0)),none⟩])
 (.block 2 (.loop X7)))
 (.seq (.seq (.reg [⟨some 45,.mov (.t 9),none⟩,⟨some 46,.mov (.t 2),none⟩,⟨some 47,.eql (.one .i) false (.t 45) (.t 46),none⟩])
 (.cond (.t 47) (.seq (.reg [⟨some 48,.mov (.t 2),none⟩,⟨some 8,.mov (.t 48),none⟩])
 (.jump .ret))
 .skip))
 (.reg [⟨some 49,.mov (.t 9),none⟩,⟨some 2,.mov (.t 49),none⟩]))))
def a96:AFunc:=⟨50,[.tmp 8],
 .seq (.reg [⟨some 8,.mov (.c (.int .i64 0)),none⟩])
 (.block 0 (.loop YI))⟩
def a97:AFunc:=⟨18,[.tmp 4],
 .seq (.reg [⟨some 2,.box 5 (.t 0),none⟩,⟨some 4,.mov (.c (.int .i64 0)),none⟩])
 (.seq (.seq (.reg [⟨some 5,.mov (.t 1),none⟩])
 (.block 0 (.seq (.reg [⟨some 7,.faddr (.t 2) 0,none⟩,⟨some 8,.load none (.t 7),none⟩,⟨some 9,.eql (.one .i) false (.t 5) (.t 8),none⟩,⟨some 6,.mov (.t 9),none⟩])
 (.cond (.t 6) (.seq (.reg [⟨some 10,.faddr (.t 2) 1,none⟩,⟨some 11,.load none (.t 10),none⟩,⟨some 4,.mov (.t 11),none⟩])
 (.jump .ret))
 (.seq (.reg [⟨some 13,.faddr (.t 2) 1,none⟩,⟨some 14,.load none (.t 13),none⟩,⟨some 15,.eql (.one .i) false (.t 5) (.t 14),none⟩,⟨some 12,.mov (.t 15),none⟩])
 (.cond (.t 12) (.seq (.reg [⟨some 16,.faddr (.t 2) 0,none⟩,⟨some 17,.load none (.t 16),none⟩,⟨some 4,.mov (.t 17),none⟩])
 (.jump .ret))
 .skip))))))
 (.seq (.reg [⟨some 4,.mov (.c (.int .i64 (-1))),none⟩])
 (.jump .ret)))⟩
def a98:AFunc:=⟨9,[.tmp 4],
 .seq (.reg [⟨some 4,.mov (.c (.bool false)),none⟩])
 (.seq (.reg [⟨some 5,.mov (.t 0),none⟩,⟨some 6,.mov (.t 1),none⟩,⟨some 7,.call (.c (.func 114 [] [])) [.t 5,.t 6],none⟩,⟨some 8,.bin .geq (.t 7) (.c (.int .i64 0)),none⟩,⟨some 4,.mov (.t 8),none⟩])
 (.jump .ret))⟩
def a99:AFunc:=⟨13,[.tmp 4],
 .seq (.reg [⟨some 4,.mov (.c (.bool false)),none⟩])
 (.seq (.reg [⟨some 5,.mov (.t 0),none⟩,⟨some 6,.load none (.t 1),none⟩,⟨some 7,.bin .lss (.t 5) (.t 6),none⟩,⟨some 8,.mov (.t 7),none⟩,⟨some 9,.mov (.t 0),(some (8,false))⟩,⟨some 10,.load none (.t 2),(some (8,false))⟩,⟨some 11,.bin .gtr (.t 9) (.t 10),(some (8,false))⟩,⟨some 12,.pick (.t 8) (.c (.bool true)) (.t 11),none⟩,⟨some 4,.mov (.t 12),none⟩])
 (.jump .ret))⟩
def a100:AFunc:=⟨10,[.tmp 6],
 .seq (.reg [⟨some 3,.box 1 (.t 0),none⟩,⟨some 4,.box 1 (.t 1),none⟩,⟨some 6,.mov (.c (.bool false)),none⟩])
 (.seq (.reg [⟨some 7,.mov (.t 2),none⟩,⟨some 8,.mkfun 115 [] [.t 3,.t 4],none⟩,⟨some 9,.call (.c (.func 98 [] [])) [.t 7,.t 8],none⟩,⟨some 6,.mov (.t 9),none⟩])
 (.jump .ret))⟩
def P8:ACode:=.seq (.reg [⟨some 9,.bin .lss (.t 8) (.t 7),none⟩])
 (.seq (.cond (.t 9) .skip
 (.jump (.exit 0)))
 (.seq (.block 1 (.seq (.reg [⟨some 10,.mov (.t 8),none⟩,⟨some 5,.mov (.t 10),none⟩])
 (.seq (.reg [⟨some 11,.mov (.t 1),none⟩,⟨some 12,.mov (.t 0),none⟩,⟨some 13,.mov (.t 5),none⟩,⟨some 14,.iaddr none 5 (.t 12) (.t 13),none⟩,⟨some 15,.load (some 5) (.t 14),none⟩,⟨some 16,.call (.t 11) [.t 15],none⟩])
 (.cond (.t 16) (.seq (.reg [⟨some 17,.mov (.t 5),none⟩,⟨some 4,.mov (.t 17),none⟩])
 (.jump .ret))
 .skip))))
 (.reg [⟨some 18,.bin .add (.t 8) (.c (.int .i64 1)),none⟩,⟨some 8,.mov (.t 18),none⟩])))
def a101:AFunc:=⟨19,[.tmp 4],
 .seq (.reg [⟨some 4,.mov (.c (.int .i64 0)),none⟩])
 (.seq (.seq (.reg [⟨some 6,.mov (.t 0),none⟩,⟨some 7,.len 1 (.t 6),none⟩,⟨some 8,.mov (.c (.int .i64 0)),none⟩])
 (.block 0 (.loop P8)))
 (.seq (.reg [⟨some 4,.mov (.c (.int .i64 (-1))),none⟩])
 (.jump .ret)))⟩
def a102:AFunc:=⟨18,[.tmp 4],
 .seq (.reg [⟨some 2,.box 5 (.t 0),none⟩,⟨some 4,.mov (.c (.int .i64 0)),none⟩])
 (.seq (.seq (.reg [⟨some 5,.mov (.t 1),none⟩])
 (.block 0 (.seq (.reg [⟨some 7,.faddr (.t 2) 0,none⟩,⟨some 8,.load none (.t 7),none⟩,⟨some 9,.eql (.one .i) false (.t 5) (.t 8),none⟩,⟨some 6,.mov (.t 9),none⟩])
 (.cond (.t 6) (.seq (.reg [⟨some 10,.faddr (.t 2) 1,none⟩,⟨some 11,.load none (.t 10),none⟩,⟨some 4,.mov (.t 11),none⟩])
 (.jump .ret))
 (.seq (.reg [⟨some 13,.faddr (.t 2) 1,none⟩,⟨some 14,.load none (.t 13),none⟩,⟨some 15,.eql (.one .i) false (.t 5) (.t 14),none⟩,⟨some 12,.mov (.t 15),none⟩])
 (.cond (.t 12) (.seq (.reg [⟨some 16,.faddr (.t 2) 0,none⟩,⟨some 17,.load none (.t 16),none⟩,⟨some 4,.mov (.t 17),none⟩])
 (.jump .ret))
 .skip))))))
 (.seq (.reg [⟨some 4,.mov (.c (.int .i64 (-1))),none⟩])
 (.jump .ret)))⟩
def a103:AFunc:=⟨26,[.tmp 6],
 .seq (.reg [⟨some 3,.box 2 (.t 0),none⟩,⟨some 6,.mov (.c (.int .i64 0)),none⟩])
 (.seq (.seq (.reg [⟨some 7,.faddr (.t 3) 0,none⟩,⟨some 8,.load none (.t 7),none⟩,⟨some 9,.mov (.t 1),none⟩,⟨some 10,.mov (.t 2),none⟩,⟨some 11,.call (.c (.func 62 [] [])) [.t 8,.t 9,.t 10],none⟩,⟨some 12,.not (.t 11),none⟩,⟨some 13,.mov (.t 12),none⟩,⟨some 14,.faddr (.t 3) 1,(some (13,false))⟩,⟨some 15,.load none (.t 14),(some (13,false))⟩,⟨some 16,.mov (.t 1),(some (13,false))⟩,⟨some 17,.mov (.t 2),(some (13,false))⟩,⟨some 18,.call (.c (.func 62 [] [])) [.t 15,.t 16,.t 17],(some (13,false))⟩,⟨some 19,.not (.t 18),(some (13,false))⟩,⟨some 20,.pick (.t 13) (.c (.bool true)) (.t 19),none⟩])
 (.cond (.t 20) (.seq (.reg [⟨some 6,.mov (.c (.int .i64 7)),none⟩])
 (.jump .ret))
 .skip))
 (.seq (.seq (.reg [⟨some 21,.faddr (.t 3) 1,none⟩,⟨some 22,.load none (.t 21),none⟩,⟨some 23,.faddr (.t 3) 0,none⟩,⟨some 24,.load none (.t 23),none⟩,⟨some 25,.bin .lss (.t 22) (.t 24),none⟩])
 (.cond (.t 25) (.seq (.reg [⟨some 6,.mov (.c (.int .i64 2)),none⟩])
 (.jump .ret))
 .skip))
 (.seq (.reg [⟨some 6,.mov (.c (.int .i64 0)),none⟩])
 (.jump .ret))))⟩
def RK:ACode:=.seq (.seq (.reg [⟨some 6,.mov (.t 5),none⟩,⟨some 7,.mov (.t 0),none⟩,⟨some 8,.len 1 (.t 7),none⟩,⟨some 9,.bin .lss (.t 6) (.t 8),none⟩,⟨some 10,.mov (.t 9),none⟩,⟨some 11,.mov (.t 0),(some (10,true))⟩,⟨some 12,.mov (.t 5),(some (10,true))⟩,⟨some 13,.iaddr none 1 (.t 11) (.t 12),(some (10,true))⟩,⟨some 14,.load none (.t 13),(some (10,true))⟩,⟨some 15,.mov (.t 1),(some (10,true))⟩,⟨some 16,.eql (.one .s) true (.t 14) (.t 15),(some (10,true))⟩,⟨some 17,.pick (.t 10) (.t 16) (.c (.bool false)),none⟩])
 (.cond (.t 17) .skip
 (.jump (.exit 0))))
 (.block 1 (.reg [⟨some 18,.mov (.t 5),none⟩,⟨some 19,.bin .add (.t 18) (.c (.int .i64 1)),none⟩,⟨some 5,.mov (.t 19),none⟩]))
def a104:AFunc:=⟨25,[.tmp 4],
 .seq (.reg [⟨some 4,.mov (.c (.int .i64 0)),none⟩])
 (.seq (.reg [⟨some 5,.mov (.c (.int .i64 0)),none⟩])
 (.seq (.block 0 (.loop RK))
 (.seq (.seq (.reg [⟨some 20,.mov (.t 5),none⟩,⟨some 21,.mov (.t 0),none⟩,⟨some 22,.len 1 (.t 21),none⟩,⟨some 23,.eql (.one .i) false (.t 20) (.t 22),none⟩])
 (.cond (.t 23) (.seq (.reg [⟨some 4,.mov (.c (.int .i64 (-1))),none⟩])
 (.jump .ret))
 .skip))
 (.seq (.reg [⟨some 24,.mov (.t 5),none⟩,⟨some 4,.mov (.t 24),none⟩])
 (.jump .ret)))))⟩
def PA:ACode:=.seq (.seq (.reg [⟨some 9,.mov (.t 4),none⟩,⟨some 10,.mov (.t 0),none⟩,⟨some 11,.len 0 (.t 10),none⟩,⟨some 12,.bin .lss (.t 9) (.t 11),none⟩])
 (.cond (.t 12) .skip
 (.jump (.exit 0))))
 (.seq (.block 1 (.seq (.reg [⟨some 15,.mov (.t 4),none⟩,⟨some 16,.bin .gtr (.t 15) (.c (.int .i64 0)),none⟩,⟨some 17,.mov (.t 16),none⟩,⟨some 18,.mov (.t 0),(some (17,true))⟩,⟨some 19,.mov (.t 4),(some (17,true))⟩,⟨some 20,.sindex (.t 18) (.t 19),(some (17,true))⟩,⟨some 21,.eql (.one .i) false (.t 20) (.c (.int .u8 46)),(some (17,true))⟩,⟨some 22,.mov (.t 21),(some (17,true))⟩,⟨some 23,.mov (.t 0),(some (22,false))⟩,⟨some 24,.mov (.t 4),(some (22,false))⟩,⟨some 25,.sindex (.t 23) (.t 24),(some (22,false))⟩,⟨some 26,.conv .i64 (.t 25),(some (22,false))⟩,⟨some 27,.call (.c (.func 62 [] [])) [(.t 26),(.c (.int .i64 48)),(.c (.int .i64 57))],(some (22,false))⟩,⟨some 28,.pick (.t 22) (.c (.bool true)) (.t 27),(some (17,true))⟩,⟨some 29,.pick (.t 17) (.t 28) (.c (.bool false)),none⟩,⟨some 5,.mov (.t 29),none⟩])
 (.reg [⟨some 30,.mov (.t 3),none⟩,⟨some 31,.mov (.t 30),none⟩,⟨some 32,.mov (.t 0),(some (31,true))⟩,⟨some 33,.mov (.t 4),(some (31,true))⟩,⟨some 34,.sindex (.t 32) (.t 33),(some (31,true))⟩,⟨some 35,.conv .i64 (.t 34),(some (31,true))⟩,⟨some 36,.call (.c (.func 62 [] [])) [(.t 35),(.c (.int .i64 97)),(.c (.int .i64 122))],(some (31,true))⟩,⟨some 37,.mov (.t 36),(some (31,true))⟩,⟨some 38,.mov (.t 5),(some (37,false))⟩,⟨some 39,.pick (.t 37) (.c (.bool true)) (.t 38),(some (31,true))⟩,⟨some 40,.pick (.t 31) (.t 39) (.c (.bool false)),none⟩,⟨some 3,.mov (.t 40),none⟩])))
 (.reg [⟨some 13,.mov (.t 4),none⟩,⟨some 14,.bin .add (.t 13) (.c (.int .i64 1)),none⟩,⟨some 4,.mov (.t 14),none⟩]))
def a105:AFunc:=⟨42,[.tmp 2],
 .seq (.reg [⟨some 2,.mov (.c (.bool false)),none⟩])
 (.seq (.reg [⟨some 6,.mov (.t 0),none⟩,⟨some 7,.len 0 (.t 6),none⟩,⟨some 8,.call (.c (.func 62 [] [])) [(.t 7),(.c (.int .i64 1)),(.c (.int .i64 16))],none⟩,⟨some 3,.mov (.t 8),none⟩])
 (.seq (.seq (.reg [⟨some 4,.mov (.c (.int .i64 0)),none⟩])
 (.block 0 (.loop PA)))
 (.seq (.reg [⟨some 41,.mov (.t 3),none⟩,⟨some 2,.mov (.t 41),none⟩])
 (.jump .ret))))⟩
def a106:AFunc:=⟨12,[],
 .seq (.reg [⟨some 2,.box 1 (.t 0),none⟩])
 (.seq (.reg [⟨some 3,.alloc [.int .i64 0,.int .i64 0,.int .i64 0,.int .i64 0,.int .i64 0],none⟩,⟨some 4,.alloc [.int .i64 0,.int .i64 0,.int .i64 0,.int .i64 0,.int .i64 0],none⟩])
 (.seq (.reg [⟨some 5,.alloc [.bool false],none⟩,⟨none,.store 1 (.t 5) (.c (.bool true)),none⟩])
 (.seq (.reg [⟨some 8,.call (.c (.func 107 [] [])) [],none⟩,⟨some 6,.alloc [.nilFunc,.nilFunc,.nilFunc],none⟩,⟨none,.store 3 (.t 6) (.t 8),none⟩])
 (.seq (.reg [⟨some 7,.alloc [.nilFunc],none⟩])
 (.seq (.reg [⟨some 9,.mkfun 108 [] [.t 1,.t 3,.t 4,.t 5,.t 2,.t 6,.t 7],none⟩,⟨none,.store 1 (.t 7) (.t 9),none⟩])
 (.reg [⟨some 10,.load none (.t 7),none⟩,⟨some 11,.call (.t 10) [(.c (.int .i64 0))],none⟩]))))))⟩
def a107:AFunc:=⟨8,[.cell 0 (some 3)],
 .seq (.reg [⟨some 0,.alloc [.nilFunc,.nilFunc,.nilFunc],none⟩])
 (.seq (.reg [⟨some 1,.build [.nilFunc] [(0,1,(.c (.func 116 [] [])))],none⟩,⟨some 2,.iaddr (some 3) 1 (.t 0) (.c (.int .i64 0)),none⟩,⟨none,.store 1 (.t 2) (.t 1),none⟩])
 (.seq (.reg [⟨some 3,.build [.nilFunc] [(0,1,(.c (.func 117 [] [])))],none⟩,⟨some 4,.iaddr (some 3) 1 (.t 0) (.c (.int .i64 1)),none⟩,⟨none,.store 1 (.t 4) (.t 3),none⟩])
 (.seq (.reg [⟨some 5,.build [.nilFunc] [(0,1,(.c (.func 118 [] [])))],none⟩,⟨some 6,.iaddr (some 3) 1 (.t 0) (.c (.int .i64 2)),none⟩,⟨none,.store 1 (.t 6) (.t 5),none⟩])
 (.seq (.reg [⟨some 7,.load (some 3) (.t 0),none⟩,⟨none,.store 3 (.t 0) (.t 7),none⟩])
 (.jump .ret)))))⟩
def F8:ACode:=.seq (.reg [⟨some 61,.bin .lss (.t 60) (.t 59),none⟩])
 (.seq (.cond (.t 61) .skip
 (.jump (.exit 0)))
 (.seq (.block 1 (.seq (.reg [⟨some 62,.mov (.t 60),none⟩,⟨some 63,.iaddr none 2 (.t 58) (.t 60),none⟩,⟨some 64,.load (some 2) (.t 63),none⟩,⟨some 13,.alloc [.int .i64 0,.int .i64 0],none⟩,⟨some 12,.mov (.t 62),none⟩,⟨none,.store 2 (.t 13) (.t 64),none⟩])
 (.seq (.dreg [⟨⟨some 65,.load none (.t 1),none⟩,0,0⟩,⟨⟨some 66,.nilCheck (.t 65),none⟩,0,0⟩,⟨⟨some 67,.faddr (.t 66) 4,none⟩,0,0⟩,⟨⟨some 68,.load none (.t 67),none⟩,0,0⟩,⟨⟨some 69,.mov (.t 12),none⟩,0,0⟩,⟨⟨some 70,.bin .shr (.t 68) (.t 69),none⟩,0,0⟩,⟨⟨some 71,.bin .and (.t 70) (.c (.int .i64 1)),none⟩,0,0⟩,⟨⟨some 72,.eql (.one .i) false (.t 71) (.c (.int .i64 0)),none⟩,0,0⟩,⟨⟨some 73,.mov (.t 72),none⟩,0,0⟩,⟨⟨some 74,.faddr (.t 13) 0,(some (73,true))⟩,0,0⟩,⟨⟨some 75,.load none (.t 74),(some (73,true))⟩,0,0⟩,⟨⟨some 76,.iaddr (some 3) 1 (.t 10) (.t 75),(some (73,true))⟩,0,0⟩,⟨⟨some 77,.load none (.t 76),(some (73,true))⟩,0,0⟩,⟨⟨some 78,.faddr (.t 13) 1,(some (73,true))⟩,0,0⟩,⟨⟨some 79,.load none (.t 78),(some (73,true))⟩,0,0⟩,⟨⟨some 80,.eql (.one .i) true (.t 77) (.t 79),(some (73,true))⟩,0,0⟩,⟨⟨some 81,.pick (.t 73) (.t 80) (.c (.bool false)),none⟩,0,0⟩])
 (.cond (.t 81) (.seq (.reg [⟨some 9,.mov (.c (.bool true)),none⟩])
 (.jump .ret))
 .skip))))
 (.reg [⟨some 82,.bin .add (.t 60) (.c (.int .i64 1)),none⟩,⟨some 60,.mov (.t 82),none⟩])))
def B1:ACode:=.seq (.seq (.reg [⟨some 111,.mov (.t 15),none⟩,⟨some 112,.faddr (.t 14) 2,none⟩,⟨some 113,.faddr (.t 112) 1,none⟩,⟨some 114,.load none (.t 113),none⟩,⟨some 115,.bin .leq (.t 111) (.t 114),none⟩,⟨some 116,.mov (.t 115),none⟩,⟨some 117,.faddr (.t 14) 4,(some (116,true))⟩,⟨some 118,.load none (.t 117),(some (116,true))⟩,⟨some 119,.iaddr (some 3) 1 (.t 6) (.t 118),(some (116,true))⟩,⟨some 120,.faddr (.t 119) 0,(some (116,true))⟩,⟨some 121,.load none (.t 120),(some (116,true))⟩,⟨some 122,.call (.t 121) [(.c (.bool false))],(some (116,true))⟩,⟨some 123,.pick (.t 116) (.t 122) (.c (.bool false)),none⟩])
 (.cond (.t 123) .skip
 (.jump (.exit 2))))
 (.seq (.block 3 (.seq (.reg [⟨some 126,.mov (.t 0),none⟩,⟨some 127,.mov (.t 15),none⟩,⟨some 128,.iaddr (some 5) 1 (.t 2) (.t 126),none⟩,⟨none,.store 1 (.t 128) (.t 127),none⟩])
 (.seq (.reg [⟨some 129,.load none (.t 7),none⟩,⟨some 130,.mov (.t 0),none⟩,⟨some 131,.bin .add (.t 130) (.c (.int .i64 1)),none⟩,⟨some 132,.call (.t 129) [.t 131],none⟩,⟨some 133,.not (.t 132),none⟩])
 (.cond (.t 133) (.seq (.reg [⟨some 9,.mov (.c (.bool false)),none⟩])
 (.jump .ret))
 .skip))))
 (.reg [⟨some 124,.mov (.t 15),none⟩,⟨some 125,.bin .add (.t 124) (.c (.int .i64 1)),none⟩,⟨some 15,.mov (.t 125),none⟩]))
def a108:AFunc:=⟨136,[.tmp 9],
 .seq (.reg [⟨some 9,.mov (.c (.bool false)),none⟩])
 (.seq (.seq (.reg [⟨some 16,.mov (.t 0),none⟩,⟨some 17,.load none (.t 1),none⟩,⟨some 18,.nilCheck (.t 17),none⟩,⟨some 19,.faddr (.t 18) 0,none⟩,⟨some 20,.faddr (.t 19) 1,none⟩,⟨some 21,.load none (.t 20),none⟩,⟨some 22,.len 1 (.t 21),none⟩,⟨some 23,.eql (.one .i) false (.t 16) (.t 22),none⟩])
 (.cond (.t 23) (.seq (.seq (.reg [⟨some 24,.load (some 5) (.t 2),none⟩,⟨some 25,.load (some 5) (.t 3),none⟩,⟨some 26,.eql (.agg [.i,.i,.i,.i,.i]) false (.t 24) (.t 25),none⟩,⟨some 27,.mov (.t 26),none⟩,⟨some 28,.load none (.t 4),(some (27,true))⟩,⟨some 29,.not (.t 28),(some (27,true))⟩,⟨some 30,.pick (.t 27) (.t 29) (.c (.bool false)),none⟩])
 (.cond (.t 30) (.seq (.reg [⟨some 9,.mov (.c (.bool true)),none⟩])
 (.jump .ret))
 .skip))
 (.seq (.dreg [⟨⟨some 31,.load (some 5) (.t 2),none⟩,0,1⟩,⟨⟨none,.store 1 (.t 4) (.c (.bool false)),none⟩,0,1⟩,⟨⟨none,.store 5 (.t 3) (.t 31),none⟩,1,2⟩])
 (.seq (.dreg [⟨⟨some 33,.load none (.t 1),none⟩,0,0⟩,⟨⟨some 34,.nilCheck (.t 33),none⟩,0,0⟩,⟨⟨some 35,.faddr (.t 34) 5,none⟩,0,0⟩,⟨⟨some 36,.load none (.t 35),none⟩,0,0⟩,⟨⟨some 37,.load (some 5) (.t 2),none⟩,0,0⟩,⟨⟨some 38,.lookup (.agg [.i,.i,.i,.i,.i]) true (.agg [.int .i64 0,.int .i64 0,.int .i64 0]) (.t 36) (.t 37),none⟩,0,0⟩,⟨⟨some 32,.mov (.t 38),none⟩,0,0⟩,⟨⟨some 39,.ext (.t 32) 0,none⟩,0,0⟩,⟨⟨some 40,.ext (.t 32) 1,none⟩,0,1⟩,⟨⟨some 10,.alloc [.int .i64 0,.int .i64 0,.int .i64 0],none⟩,0,0⟩,⟨⟨none,.store 3 (.t 10) (.t 39),none⟩,0,1⟩,⟨⟨some 11,.mov (.t 40),none⟩,1,1⟩])
 (.seq (.seq (.reg [⟨some 41,.mov (.t 11),none⟩,⟨some 42,.not (.t 41),none⟩])
 (.cond (.t 42) (.seq (.reg [⟨some 43,.load none (.t 1),none⟩,⟨some 44,.load (some 5) (.t 2),none⟩,⟨some 45,.load none (.t 1),none⟩,⟨some 46,.mkfun 110 [.t 45] [],none⟩,⟨some 47,.call (.c (.func 109 [] [])) [.t 43,.t 44,.t 46],none⟩,⟨none,.store 3 (.t 10) (.t 47),none⟩])
 (.dreg [⟨⟨some 48,.load none (.t 1),none⟩,0,0⟩,⟨⟨some 49,.nilCheck (.t 48),none⟩,0,0⟩,⟨⟨some 50,.faddr (.t 49) 5,none⟩,0,0⟩,⟨⟨some 51,.load none (.t 50),none⟩,0,0⟩,⟨⟨some 52,.load (some 5) (.t 2),none⟩,0,0⟩,⟨⟨some 53,.load (some 3) (.t 10),none⟩,0,0⟩,⟨⟨none,.mapset (.agg [.i,.i,.i,.i,.i]) (.t 51) (.t 52) (.t 53),none⟩,0,1⟩]))
 .skip))
 (.seq (.seq (.reg [⟨some 54,.load none (.t 1),none⟩,⟨some 55,.nilCheck (.t 54),none⟩,⟨some 56,.faddr (.t 55) 0,none⟩,⟨some 57,.faddr (.t 56) 3,none⟩,⟨some 58,.load none (.t 57),none⟩,⟨some 59,.len 1 (.t 58),none⟩,⟨some 60,.mov (.c (.int .i64 0)),none⟩])
 (.block 0 (.loop F8)))
 (.seq (.reg [⟨some 83,.load none (.t 5),none⟩,⟨some 84,.load (some 5) (.t 2),none⟩,⟨some 85,.load (some 3) (.t 10),none⟩,⟨some 86,.call (.t 83) [.t 84,.t 85],none⟩,⟨some 9,.mov (.t 86),none⟩])
 (.jump .ret)))))))
 .skip))
 (.seq (.reg [⟨some 87,.load none (.t 1),none⟩,⟨some 88,.nilCheck (.t 87),none⟩,⟨some 89,.faddr (.t 88) 0,none⟩,⟨some 90,.faddr (.t 89) 1,none⟩,⟨some 91,.load none (.t 90),none⟩,⟨some 92,.mov (.t 0),none⟩,⟨some 93,.iaddr none 5 (.t 91) (.t 92),none⟩,⟨some 94,.load (some 5) (.t 93),none⟩,⟨some 14,.alloc [.int .i64 0,.int .i64 0,.int .i64 0,.int .i64 0,.int .i64 0],none⟩,⟨none,.store 5 (.t 14) (.t 94),none⟩])
 (.seq (.seq (.reg [⟨some 95,.faddr (.t 14) 4,none⟩,⟨some 96,.load none (.t 95),none⟩,⟨some 97,.iaddr (some 3) 1 (.t 6) (.t 96),none⟩,⟨some 98,.faddr (.t 97) 0,none⟩,⟨some 99,.load none (.t 98),none⟩,⟨some 100,.call (.t 99) [(.c (.bool true))],none⟩])
 (.cond (.t 100) (.seq (.reg [⟨some 101,.mov (.t 0),none⟩,⟨some 102,.iaddr (some 5) 1 (.t 2) (.t 101),none⟩,⟨none,.store 1 (.t 102) (.c (.int .i64 0)),none⟩])
 (.seq (.reg [⟨some 103,.load none (.t 7),none⟩,⟨some 104,.mov (.t 0),none⟩,⟨some 105,.bin .add (.t 104) (.c (.int .i64 1)),none⟩,⟨some 106,.call (.t 103) [.t 105],none⟩,⟨some 107,.not (.t 106),none⟩])
 (.cond (.t 107) (.seq (.reg [⟨some 9,.mov (.c (.bool false)),none⟩])
 (.jump .ret))
 .skip)))
 .skip))
 (.seq (.seq (.reg [⟨some 108,.faddr (.t 14) 2,none⟩,⟨some 109,.faddr (.t 108) 0,none⟩,⟨some 110,.load none (.t 109),none⟩,⟨some 15,.mov (.t 110),none⟩])
 (.block 2 (.loop B1)))
 (.seq (.reg [⟨some 134,.mov (.t 0),none⟩,⟨some 135,.iaddr (some 5) 1 (.t 2) (.t 134),none⟩,⟨none,.store 1 (.t 135) (.c (.int .i64 0)),none⟩])
 (.seq (.reg [⟨some 9,.mov (.c (.bool true)),none⟩])
 (.jump .ret)))))))⟩
def I1:ACode:=.seq (.reg [⟨some 40,.bin .lss (.t 39) (.t 38),none⟩])
 (.seq (.cond (.t 40) .skip
 (.jump (.exit 2)))
 (.seq (.block 3 (.seq (.reg [⟨some 41,.iaddr none 1 (.t 37) (.t 39),none⟩,⟨some 42,.load none (.t 41),none⟩,⟨some 12,.mov (.t 42),none⟩])
 (.seq (.dreg [⟨⟨some 43,.mov (.t 7),none⟩,0,0⟩,⟨⟨some 44,.mov (.t 12),none⟩,0,0⟩,⟨⟨some 45,.mov (.t 8),none⟩,0,0⟩,⟨⟨some 46,.iaddr (some 3) 1 (.t 6) (.t 45),none⟩,0,0⟩,⟨⟨some 47,.load none (.t 46),none⟩,0,0⟩,⟨⟨some 48,.mov (.t 8),none⟩,0,0⟩,⟨⟨some 49,.iaddr (some 3) 1 (.t 6) (.t 48),none⟩,0,0⟩,⟨⟨some 50,.load none (.t 49),none⟩,0,0⟩,⟨⟨some 51,.mov (.t 12),none⟩,0,0⟩,⟨⟨some 52,.iaddr (some 5) 1 (.t 4) (.t 51),none⟩,0,0⟩,⟨⟨some 53,.load none (.t 52),none⟩,0,0⟩,⟨⟨some 54,.bin .add (.t 50) (.t 53),none⟩,0,0⟩,⟨⟨some 55,.build [.int .i64 0,.int .i64 0,.int .i64 0] [(0,1,(.t 44)),(1,1,(.t 47)),(2,1,(.t 54))],none⟩,0,0⟩,⟨⟨some 56,.call (.c (.func 120 [] [])) [.t 43,.t 55],none⟩,0,1⟩,⟨⟨some 13,.mov (.t 56),none⟩,1,1⟩])
 (.seq (.reg [⟨some 57,.mov (.t 8),none⟩,⟨some 58,.mov (.t 13),none⟩,⟨some 59,.mov (.t 12),none⟩,⟨some 60,.iaddr (some 5) 1 (.t 4) (.t 59),none⟩,⟨some 61,.load none (.t 60),none⟩,⟨some 62,.bin .add (.t 58) (.t 61),none⟩,⟨some 63,.iaddr (some 3) 1 (.t 6) (.t 57),none⟩,⟨none,.store 1 (.t 63) (.t 62),none⟩])
 (.reg [⟨some 64,.mov (.t 7),none⟩,⟨some 65,.mov (.t 12),none⟩,⟨some 66,.mov (.t 13),none⟩,⟨some 67,.mov (.t 8),none⟩,⟨some 68,.iaddr (some 3) 1 (.t 6) (.t 67),none⟩,⟨some 69,.load none (.t 68),none⟩,⟨some 70,.build [.int .i64 0,.int .i64 0,.int .i64 0] [(0,1,(.t 65)),(1,1,(.t 66)),(2,1,(.t 69))],none⟩,⟨some 71,.mklit 3 [.t 70],none⟩,⟨some 72,.append 3 24 (.t 64) (.t 71),none⟩,⟨some 7,.mov (.t 72),none⟩])))))
 (.reg [⟨some 73,.bin .add (.t 39) (.c (.int .i64 1)),none⟩,⟨some 39,.mov (.t 73),none⟩])))
def PQ:ACode:=.seq (.reg [⟨some 21,.bin .lss (.t 20) (.t 19),none⟩])
 (.seq (.cond (.t 21) .skip
 (.jump (.exit 0)))
 (.seq (.block 1 (.seq (.reg [⟨some 22,.mov (.t 20),none⟩,⟨some 23,.iaddr none 5 (.t 18) (.t 20),none⟩,⟨some 24,.load (some 5) (.t 23),none⟩,⟨some 9,.alloc [.str ⟨#[]⟩,.int .i64 0,.int .i64 0,.int .i64 0,.lit [] true none],none⟩,⟨some 8,.mov (.t 22),none⟩,⟨none,.store 5 (.t 9) (.t 24),none⟩])
 (.seq (.reg [⟨some 25,.mov (.t 8),none⟩,⟨some 26,.faddr (.t 9) 2,none⟩,⟨some 27,.load none (.t 26),none⟩,⟨some 28,.iaddr (some 3) 1 (.t 6) (.t 25),none⟩,⟨none,.store 1 (.t 28) (.t 27),none⟩])
 (.seq (.reg [⟨some 29,.mov (.t 2),none⟩,⟨some 30,.mov (.t 8),none⟩,⟨some 31,.call (.t 29) [.t 30],none⟩,⟨some 10,.mov (.t 31),none⟩])
 (.seq (.seq (.reg [⟨some 32,.mov (.t 10),none⟩,⟨some 33,.mkfun 119 [] [.t 4],none⟩,⟨some 34,.call (.c (.func 98 [] [])) [.t 32,.t 33],none⟩])
 (.cond (.t 34) (.seq (.reg [⟨some 35,.mov (.t 8),none⟩,⟨some 36,.iaddr (some 3) 1 (.t 6) (.t 35),none⟩,⟨none,.store 1 (.t 36) (.c (.int .i64 (-1))),none⟩])
 (.jump (.exit 1)))
 .skip))
 (.seq (.reg [⟨some 37,.mov (.t 10),none⟩,⟨some 38,.len 1 (.t 37),none⟩,⟨some 39,.mov (.c (.int .i64 0)),none⟩])
 (.block 2 (.loop I1))))))))
 (.reg [⟨some 74,.bin .add (.t 20) (.c (.int .i64 1)),none⟩,⟨some 20,.mov (.t 74),none⟩])))
def a109:AFunc:=⟨76,[.cell 6 (some 3)],
 .seq (.reg [⟨some 4,.box 5 (.t 1),none⟩,⟨some 6,.alloc [.int .i64 0,.int .i64 0,.int .i64 0],none⟩])
 (.seq (.reg [⟨some 7,.mov (.c (.lit [] true none)),none⟩])
 (.seq (.seq (.reg [⟨some 14,.mov (.t 0),none⟩,⟨some 15,.nilCheck (.t 14),none⟩,⟨some 16,.faddr (.t 15) 0,none⟩,⟨some 17,.faddr (.t 16) 2,none⟩,⟨some 18,.load none (.t 17),none⟩,⟨some 19,.len 1 (.t 18),none⟩,⟨some 20,.mov (.c (.int .i64 0)),none⟩])
 (.block 0 (.loop PQ)))
 (.seq (.reg [⟨some 75,.load (some 3) (.t 6),none⟩,⟨none,.store 3 (.t 6) (.t 75),none⟩])
 (.jump .ret))))⟩
def a110:AFunc:=⟨14,[.tmp 4],
 .seq (.reg [⟨some 4,.mov (.c (.lit [] true none)),none⟩])
 (.seq (.reg [⟨some 5,.mov (.t 0),none⟩,⟨some 6,.nilCheck (.t 5),none⟩,⟨some 7,.faddr (.t 6) 0,none⟩,⟨some 8,.faddr (.t 7) 2,none⟩,⟨some 9,.load none (.t 8),none⟩,⟨some 10,.mov (.t 1),none⟩,⟨some 11,.iaddr none 5 (.t 9) (.t 10),none⟩,⟨some 12,.faddr (.t 11) 4,none⟩,⟨some 13,.load none (.t 12),none⟩,⟨some 4,.mov (.t 13),none⟩])
 (.jump .ret))⟩
def a111:AFunc:=⟨22,[.tmp 6],
 .seq (.reg [⟨some 6,.mov (.c (.bool false)),none⟩])
 (.seq (.reg [⟨some 7,.mov (.t 2),none⟩,⟨some 8,.eql (.one .i) true (.t 7) (.c (.int .i64 (-1))),none⟩,⟨some 9,.mov (.t 8),none⟩,⟨some 10,.mov (.t 2),(some (9,true))⟩,⟨some 11,.mov (.t 0),(some (9,true))⟩,⟨some 12,.nilCheck (.t 11),(some (9,true))⟩,⟨some 13,.faddr (.t 12) 0,(some (9,true))⟩,⟨some 14,.faddr (.t 13) 2,(some (9,true))⟩,⟨some 15,.load none (.t 14),(some (9,true))⟩,⟨some 16,.mov (.t 1),(some (9,true))⟩,⟨some 17,.iaddr none 5 (.t 15) (.t 16),(some (9,true))⟩,⟨some 18,.faddr (.t 17) 3,(some (9,true))⟩,⟨some 19,.load none (.t 18),(some (9,true))⟩,⟨some 20,.bin .leq (.t 10) (.t 19),(some (9,true))⟩,⟨some 21,.pick (.t 9) (.t 20) (.c (.bool false)),none⟩,⟨some 6,.mov (.t 21),none⟩])
 (.jump .ret))⟩
def a112:AFunc:=⟨8,[.tmp 3],
 .seq (.reg [⟨some 3,.mov (.c (.lit [] true none)),none⟩])
 (.seq (.reg [⟨some 4,.load none (.t 1),none⟩,⟨some 5,.mov (.t 0),none⟩,⟨some 6,.iaddr none 1 (.t 4) (.t 5),none⟩,⟨some 7,.load none (.t 6),none⟩,⟨some 3,.mov (.t 7),none⟩])
 (.jump .ret))⟩
def a113:AFunc:=⟨20,[.tmp 4],
 .seq (.reg [⟨some 4,.mov (.c (.int .i64 0)),none⟩])
 (.seq (.reg [⟨some 7,.mov (.t 0),none⟩,⟨some 8,.call (.c (.func 121 [] [])) [.t 7],none⟩,⟨some 5,.mov (.t 8),none⟩])
 (.seq (.reg [⟨some 9,.mov (.t 1),none⟩,⟨some 10,.call (.c (.func 121 [] [])) [.t 9],none⟩,⟨some 6,.mov (.t 10),none⟩])
 (.seq (.seq (.reg [⟨some 11,.mov (.t 5),none⟩])
 (.cond (.t 11) (.seq (.seq (.reg [⟨some 12,.mov (.t 6),none⟩])
 (.cond (.t 12) (.seq (.reg [⟨some 4,.mov (.c (.int .i64 0)),none⟩])
 (.jump .ret))
 .skip))
 (.seq (.reg [⟨some 4,.mov (.c (.int .i64 (-1))),none⟩])
 (.jump .ret)))
 .skip))
 (.seq (.seq (.reg [⟨some 13,.mov (.t 6),none⟩])
 (.cond (.t 13) (.seq (.reg [⟨some 4,.mov (.c (.int .i64 1)),none⟩])
 (.jump .ret))
 .skip))
 (.seq (.seq (.reg [⟨some 14,.mov (.t 0),none⟩,⟨some 15,.mov (.t 1),none⟩,⟨some 16,.bin .lss (.t 14) (.t 15),none⟩])
 (.cond (.t 16) (.seq (.reg [⟨some 4,.mov (.c (.int .i64 (-1))),none⟩])
 (.jump .ret))
 .skip))
 (.seq (.seq (.reg [⟨some 17,.mov (.t 0),none⟩,⟨some 18,.mov (.t 1),none⟩,⟨some 19,.bin .gtr (.t 17) (.t 18),none⟩])
 (.cond (.t 19) (.seq (.reg [⟨some 4,.mov (.c (.int .i64 1)),none⟩])
 (.jump .ret))
 .skip))
 (.seq (.reg [⟨some 4,.mov (.c (.int .i64 0)),none⟩])
 (.jump .ret))))))))⟩
def RX:ACode:=.seq (.reg [⟨some 9,.bin .lss (.t 8) (.t 7),none⟩])
 (.seq (.cond (.t 9) .skip
 (.jump (.exit 0)))
 (.seq (.block 1 (.seq (.reg [⟨some 10,.mov (.t 8),none⟩,⟨some 5,.mov (.t 10),none⟩])
 (.seq (.reg [⟨some 11,.mov (.t 1),none⟩,⟨some 12,.mov (.t 0),none⟩,⟨some 13,.mov (.t 5),none⟩,⟨some 14,.iaddr none 1 (.t 12) (.t 13),none⟩,⟨some 15,.load none (.t 14),none⟩,⟨some 16,.call (.t 11) [.t 15],none⟩])
 (.cond (.t 16) (.seq (.reg [⟨some 17,.mov (.t 5),none⟩,⟨some 4,.mov (.t 17),none⟩])
 (.jump .ret))
 .skip))))
 (.reg [⟨some 18,.bin .add (.t 8) (.c (.int .i64 1)),none⟩,⟨some 8,.mov (.t 18),none⟩])))
def a114:AFunc:=⟨19,[.tmp 4],
 .seq (.reg [⟨some 4,.mov (.c (.int .i64 0)),none⟩])
 (.seq (.seq (.reg [⟨some 6,.mov (.t 0),none⟩,⟨some 7,.len 1 (.t 6),none⟩,⟨some 8,.mov (.c (.int .i64 0)),none⟩])
 (.block 0 (.loop RX)))
 (.seq (.reg [⟨some 4,.mov (.c (.int .i64 (-1))),none⟩])
 (.jump .ret)))⟩
def a115:AFunc:=⟨13,[.tmp 4],
 .seq (.reg [⟨some 4,.mov (.c (.bool false)),none⟩])
 (.seq (.reg [⟨some 5,.mov (.t 0),none⟩,⟨some 6,.load none (.t 1),none⟩,⟨some 7,.bin .lss (.t 5) (.t 6),none⟩,⟨some 8,.mov (.t 7),none⟩,⟨some 9,.mov (.t 0),(some (8,false))⟩,⟨some 10,.load none (.t 2),(some (8,false))⟩,⟨some 11,.bin .gtr (.t 9) (.t 10),(some (8,false))⟩,⟨some 12,.pick (.t 8) (.c (.bool true)) (.t 11),none⟩,⟨some 4,.mov (.t 12),none⟩])
 (.jump .ret))⟩
def a116:AFunc:=⟨5,[.tmp 2],
 .seq (.reg [⟨some 2,.mov (.c (.bool false)),none⟩])
 (.seq (.reg [⟨some 3,.mov (.t 0),none⟩,⟨some 4,.not (.t 3),none⟩,⟨some 2,.mov (.t 4),none⟩])
 (.jump .ret))⟩
def a117:AFunc:=⟨4,[.tmp 2],
 .seq (.reg [⟨some 2,.mov (.c (.bool false)),none⟩])
 (.seq (.reg [⟨some 3,.mov (.t 0),none⟩,⟨some 2,.mov (.t 3),none⟩])
 (.jump .ret))⟩
def a118:AFunc:=⟨3,[.tmp 2],
 .seq (.reg [⟨some 2,.mov (.c (.bool false)),none⟩])
 (.seq (.reg [⟨some 2,.mov (.c (.bool true)),none⟩])
 (.jump .ret))⟩
def a119:AFunc:=⟨8,[.tmp 3],
 .seq (.reg [⟨some 3,.mov (.c (.bool false)),none⟩])
 (.seq (.reg [⟨some 4,.mov (.t 0),none⟩,⟨some 5,.iaddr (some 5) 1 (.t 1) (.t 4),none⟩,⟨some 6,.load none (.t 5),none⟩,⟨some 7,.eql (.one .i) false (.t 6) (.c (.int .i64 0)),none⟩,⟨some 3,.mov (.t 7),none⟩])
 (.jump .ret))⟩
def O9:ACode:=.seq (.reg [⟨some 13,.bin .lss (.t 12) (.t 11),none⟩])
 (.seq (.cond (.t 13) .skip
 (.jump (.exit 2)))
 (.seq (.block 3 (.seq (.reg [⟨some 14,.iaddr none 3 (.t 10) (.t 12),none⟩,⟨some 15,.load (some 3) (.t 14),none⟩,⟨some 7,.alloc [.int .i64 0,.int .i64 0,.int .i64 0],none⟩,⟨none,.store 3 (.t 7) (.t 15),none⟩])
 (.seq (.reg [⟨some 16,.faddr (.t 7) 0,none⟩,⟨some 17,.load none (.t 16),none⟩,⟨some 18,.faddr (.t 3) 0,none⟩,⟨some 19,.load none (.t 18),none⟩,⟨some 20,.eql (.one .i) false (.t 17) (.t 19),none⟩,⟨some 21,.mov (.t 20),none⟩,⟨some 22,.faddr (.t 7) 1,(some (21,true))⟩,⟨some 23,.load none (.t 22),(some (21,true))⟩,⟨some 24,.faddr (.t 3) 2,(some (21,true))⟩,⟨some 25,.load none (.t 24),(some (21,true))⟩,⟨some 26,.bin .lss (.t 23) (.t 25),(some (21,true))⟩,⟨some 27,.pick (.t 21) (.t 26) (.c (.bool false)),none⟩,⟨some 28,.mov (.t 27),none⟩,⟨some 29,.faddr (.t 7) 2,(some (28,true))⟩,⟨some 30,.load none (.t 29),(some (28,true))⟩,⟨some 31,.faddr (.t 3) 1,(some (28,true))⟩,⟨some 32,.load none (.t 31),(some (28,true))⟩,⟨some 33,.bin .gtr (.t 30) (.t 32),(some (28,true))⟩,⟨some 34,.pick (.t 28) (.t 33) (.c (.bool false)),none⟩])
 (.cond (.t 34) (.seq (.reg [⟨some 35,.faddr (.t 3) 2,none⟩,⟨some 36,.load none (.t 35),none⟩,⟨some 37,.faddr (.t 3) 1,none⟩,⟨some 38,.load none (.t 37),none⟩,⟨some 39,.bin .sub (.t 36) (.t 38),none⟩,⟨some 8,.mov (.t 39),none⟩])
 (.dreg [⟨⟨some 40,.faddr (.t 7) 2,none⟩,0,0⟩,⟨⟨some 41,.load none (.t 40),none⟩,0,0⟩,⟨⟨some 42,.faddr (.t 7) 2,none⟩,0,1⟩,⟨⟨some 43,.load none (.t 42),none⟩,0,1⟩,⟨⟨some 44,.mov (.t 8),none⟩,0,1⟩,⟨⟨some 45,.bin .add (.t 43) (.t 44),none⟩,0,1⟩,⟨⟨some 46,.faddr (.t 3) 1,none⟩,0,0⟩,⟨⟨none,.store 1 (.t 46) (.t 41),none⟩,0,1⟩,⟨⟨some 47,.faddr (.t 3) 2,none⟩,1,1⟩,⟨⟨none,.store 1 (.t 47) (.t 45),none⟩,1,2⟩]))
 .skip))))
 (.reg [⟨some 48,.bin .add (.t 12) (.c (.int .i64 1)),none⟩,⟨some 12,.mov (.t 48),none⟩])))
def Q2:ACode:=.block 1 (.seq (.reg [⟨some 9,.load (some 3) (.t 3),none⟩,⟨some 5,.alloc [.int .i64 0,.int .i64 0,.int .i64 0],none⟩,⟨none,.store 3 (.t 5) (.t 9),none⟩])
 (.seq (.seq (.reg [⟨some 10,.mov (.t 0),none⟩,⟨some 11,.len 1 (.t 10),none⟩,⟨some 12,.mov (.c (.int .i64 0)),none⟩])
 (.block 2 (.loop O9)))
 (.seq (.reg [⟨some 49,.load (some 3) (.t 3),none⟩,⟨some 50,.load (some 3) (.t 5),none⟩,⟨some 51,.eql (.agg [.i,.i,.i]) false (.t 49) (.t 50),none⟩])
 (.cond (.t 51) (.seq (.reg [⟨some 52,.faddr (.t 3) 1,none⟩,⟨some 53,.load none (.t 52),none⟩,⟨some 4,.mov (.t 53),none⟩])
 (.jump .ret))
 .skip))))
def a120:AFunc:=⟨54,[.tmp 4],
 .seq (.reg [⟨some 3,.box 3 (.t 1),none⟩,⟨some 4,.mov (.c (.int .i64 0)),none⟩])
 (.block 0 (.loop Q2))⟩
def a121:AFunc:=⟨6,[.tmp 2],
 .seq (.reg [⟨some 2,.mov (.c (.bool false)),none⟩])
 (.seq (.reg [⟨some 3,.mov (.t 0),none⟩,⟨some 4,.mov (.t 0),none⟩,⟨some 5,.eql (.one .i) true (.t 3) (.t 4),none⟩,⟨some 2,.mov (.t 5),none⟩])
 (.jump .ret))⟩
def T (f:FuncId):Option AFunc:=cond (Nat.ble f 70) (cond (Nat.ble f 33) (cond (Nat.ble f 20) (cond (Nat.ble f 7) (cond (Nat.ble f 4) (cond (Nat.ble f 2) (cond (Nat.beq f 2) (some a2) none) (cond (Nat.ble f 3) (cond (Nat.beq f 3) (some a3) none) (cond (Nat.beq f 4) (some a4) none))) (cond (Nat.ble f 5) (cond (Nat.beq f 5) (some a5) none) (cond (Nat.ble f 6) (cond (Nat.beq f 6) (some a6) none) (cond (Nat.beq f 7) (some a7) none)))) (cond (Nat.ble f 17) (cond (Nat.ble f 8) (cond (Nat.beq f 8) (some a8) none) (cond (Nat.ble f 9) (cond (Nat.beq f 9) (some a9) none) (cond (Nat.beq f 17) (some a17) none))) (cond (Nat.ble f 18) (cond (Nat.beq f 18) (some a18) none) (cond (Nat.ble f 19) (cond (Nat.beq f 19) (some a19) none) (cond (Nat.beq f 20) (some a20) none))))) (cond (Nat.ble f 26) (cond (Nat.ble f 23) (cond (Nat.ble f 21) (cond (Nat.beq f 21) (some a21) none) (cond (Nat.ble f 22) (cond (Nat.beq f 22) (some a22) none) (cond (Nat.beq f 23) (some a23) none))) (cond (Nat.ble f 24) (cond (Nat.beq f 24) (some a24) none) (cond (Nat.ble f 25) (cond (Nat.beq f 25) (some a25) none) (cond (Nat.beq f 26) (some a26) none)))) (cond (Nat.ble f 29) (cond (Nat.ble f 27) (cond (Nat.beq f 27) (some a27) none) (cond (Nat.ble f 28) (cond (Nat.beq f 28) (some a28) none) (cond (Nat.beq f 29) (some a29) none))) (cond (Nat.ble f 31) (cond (Nat.ble f 30) (cond (Nat.beq f 30) (some a30) none) (cond (Nat.beq f 31) (some a31) none)) (cond (Nat.ble f 32) (cond (Nat.beq f 32) (some a32) none) (cond (Nat.beq f 33) (some a33) none)))))) (cond (Nat.ble f 51) (cond (Nat.ble f 39) (cond (Nat.ble f 36) (cond (Nat.ble f 34) (cond (Nat.beq f 34) (some a34) none) (cond (Nat.ble f 35) (cond (Nat.beq f 35) (some a35) none) (cond (Nat.beq f 36) (some a36) none))) (cond (Nat.ble f 37) (cond (Nat.beq f 37) (some a37) none) (cond (Nat.ble f 38) (cond (Nat.beq f 38) (some a38) none) (cond (Nat.beq f 39) (some a39) none)))) (cond (Nat.ble f 44) (cond (Nat.ble f 40) (cond (Nat.beq f 40) (some a40) none) (cond (Nat.ble f 43) (cond (Nat.beq f 43) (some a43) none) (cond (Nat.beq f 44) (some a44) none))) (cond (Nat.ble f 49) (cond (Nat.ble f 48) (cond (Nat.beq f 48) (some a48) none) (cond (Nat.beq f 49) (some a49) none)) (cond (Nat.ble f 50) (cond (Nat.beq f 50) (some a50) none) (cond (Nat.beq f 51) (some a51) none))))) (cond (Nat.ble f 63) (cond (Nat.ble f 56) (cond (Nat.ble f 53) (cond (Nat.beq f 53) (some a53) none) (cond (Nat.ble f 55) (cond (Nat.beq f 55) (some a55) none) (cond (Nat.beq f 56) (some a56) none))) (cond (Nat.ble f 61) (cond (Nat.beq f 61) (some a61) none) (cond (Nat.ble f 62) (cond (Nat.beq f 62) (some a62) none) (cond (Nat.beq f 63) (some a63) none)))) (cond (Nat.ble f 66) (cond (Nat.ble f 64) (cond (Nat.beq f 64) (some a64) none) (cond (Nat.ble f 65) (cond (Nat.beq f 65) (some a65) none) (cond (Nat.beq f 66) (some a66) none))) (cond (Nat.ble f 68) (cond (Nat.ble f 67) (cond (Nat.beq f 67) (some a67) none) (cond (Nat.beq f 68) (some a68) none)) (cond (Nat.ble f 69) (cond (Nat.beq f 69) (some a69) none) (cond (Nat.beq f 70) (some a70) none))))))) (cond (Nat.ble f 95) (cond (Nat.ble f 82) (cond (Nat.ble f 76) (cond (Nat.ble f 73) (cond (Nat.ble f 71) (cond (Nat.beq f 71) (some a71) none) (cond (Nat.ble f 72) (cond (Nat.beq f 72) (some a72) none) (cond (Nat.beq f 73) (some a73) none))) (cond (Nat.ble f 74) (cond (Nat.beq f 74) (some a74) none) (cond (Nat.ble f 75) (cond (Nat.beq f 75) (some a75) none) (cond (Nat.beq f 76) (some a76) none)))) (cond (Nat.ble f 79) (cond (Nat.ble f 77) (cond (Nat.beq f 77) (some a77) none) (cond (Nat.ble f 78) (cond (Nat.beq f 78) (some a78) none) (cond (Nat.beq f 79) (some a79) none))) (cond (Nat.ble f 80) (cond (Nat.beq f 80) (some a80) none) (cond (Nat.ble f 81) (cond (Nat.beq f 81) (some a81) none) (cond (Nat.beq f 82) (some a82) none))))) (cond (Nat.ble f 88) (cond (Nat.ble f 85) (cond (Nat.ble f 83) (cond (Nat.beq f 83) (some a83) none) (cond (Nat.ble f 84) (cond (Nat.beq f 84) (some a84) none) (cond (Nat.beq f 85) (some a85) none))) (cond (Nat.ble f 86) (cond (Nat.beq f 86) (some a86) none) (cond (Nat.ble f 87) (cond (Nat.beq f 87) (some a87) none) (cond (Nat.beq f 88) (some a88) none)))) (cond (Nat.ble f 91) (cond (Nat.ble f 89) (cond (Nat.beq f 89) (some a89) none) (cond (Nat.ble f 90) (cond (Nat.beq f 90) (some a90) none) (cond (Nat.beq f 91) (some a91) none))) (cond (Nat.ble f 93) (cond (Nat.ble f 92) (cond (Nat.beq f 92) (some a92) none) (cond (Nat.beq f 93) (some a93) none)) (cond (Nat.ble f 94) (cond (Nat.beq f 94) (some a94) none) (cond (Nat.beq f 95) (some a95) none)))))) (cond (Nat.ble f 108) (cond (Nat.ble f 101) (cond (Nat.ble f 98) (cond (Nat.ble f 96) (cond (Nat.beq f 96) (some a96) none) (cond (Nat.ble f 97) (cond (Nat.beq f 97) (some a97) none) (cond (Nat.beq f 98) (some a98) none))) (cond (Nat.ble f 99) (cond (Nat.beq f 99) (some a99) none) (cond (Nat.ble f 100) (cond (Nat.beq f 100) (some a100) none) (cond (Nat.beq f 101) (some a101) none)))) (cond (Nat.ble f 104) (cond (Nat.ble f 102) (cond (Nat.beq f 102) (some a102) none) (cond (Nat.ble f 103) (cond (Nat.beq f 103) (some a103) none) (cond (Nat.beq f 104) (some a104) none))) (cond (Nat.ble f 106) (cond (Nat.ble f 105) (cond (Nat.beq f 105) (some a105) none) (cond (Nat.beq f 106) (some a106) none)) (cond (Nat.ble f 107) (cond (Nat.beq f 107) (some a107) none) (cond (Nat.beq f 108) (some a108) none))))) (cond (Nat.ble f 114) (cond (Nat.ble f 111) (cond (Nat.ble f 109) (cond (Nat.beq f 109) (some a109) none) (cond (Nat.ble f 110) (cond (Nat.beq f 110) (some a110) none) (cond (Nat.beq f 111) (some a111) none))) (cond (Nat.ble f 112) (cond (Nat.beq f 112) (some a112) none) (cond (Nat.ble f 113) (cond (Nat.beq f 113) (some a113) none) (cond (Nat.beq f 114) (some a114) none)))) (cond (Nat.ble f 117) (cond (Nat.ble f 115) (cond (Nat.beq f 115) (some a115) none) (cond (Nat.ble f 116) (cond (Nat.beq f 116) (some a116) none) (cond (Nat.beq f 117) (some a117) none))) (cond (Nat.ble f 119) (cond (Nat.ble f 118) (cond (Nat.beq f 118) (some a118) none) (cond (Nat.beq f 119) (some a119) none)) (cond (Nat.ble f 120) (cond (Nat.beq f 120) (some a120) none) (cond (Nat.beq f 121) (some a121) none)))))))
end Go.Am.Room
namespace Go.Am
def wG:Value→Option AV
 |.bool b=>some (.bool b)
 |.int k n=>some (.int k n)
 |.string s=>some (.str s)
 |.pointer none=>some .nilPtr
 |.slice none 0 0=>some (.lit [] true none)
 |.map none=>some .nilMap
 |.nilFunc=>some .nilFunc
 |_=>none
def qH:List Value→Option (List AV)
 |[]=>some []
 |v::vs=>match wG v,qH vs with|some a,some b=>some (a::b)|_,_=>none
def ofValue:Value→Option AV
 |.agg cs=>match qH cs.toList with|some l=>some (.agg l)|none=>none
 |.tuple vs=>if vs.size=0 then some (.tuple []) else none
 |v=>wG v
def opd:Operand→Option AOpd
 |.tmp t=>some (.t t)
 |.const v=>match ofValue v with|some a=>some (.c a)|none=>none
 |.func f=>some (.c (.func f [] []))
 |.global _=>none
def BJ:List Operand→Option (List AOpd)
 |[]=>some []
 |x::xs=>match opd x,BJ xs with|some a,some b=>some (a::b)|_,_=>none
def jV:Option Operand→Option (Option AOpd)
 |none=>some none
 |some x=>match opd x with|some a=>some (some a)|none=>none
section
variable (P:Program) (h:String→Bool)
def fS (t:TypeId):Option Bool :=
 match P.underlying t with
 |some (.struct _)|some (.array _ _)=>some true
 |some _=>some false
 |none=>none
def fT (t:TypeId):Option Nat :=
 match P.info? t with
 |some i=>if i.size=0 then none else some i.size
 |none=>none
def oX (t:TypeId):Option (Option Nat) :=
 match fS P t,fT P t with
 |some true,some n=>some (some n)
 |some false,some 1=>some none
 |_,_=>none
def G9 (t:TypeId):Option AV :=
 match P.info? t with
 |some i=>match i.zero with|some v=>ofValue v|none=>none
 |none=>none
def gC (t:TypeId):Option (List AV) :=
 match G9 P t,fT P t with
 |some z,some n=>if z.cells.length=n∧z.cells.all (·.cell)=true then some z.cells else none
 |_,_=>none
mutual
def plainT:Nat→TypeId→Option (List SK)
 |0,_=>none
 |d+1,t =>
  match P.underlying t with
  |some .bool=>some [.b]
  |some (.int _)=>some [.i]
  |some .string=>some [.s]
  |some (.struct fs)=>if P.stoodInHeld t then none else plainFields d fs.toList 0
  |some (.array n e) =>
   match plainT d e,P.info? e with
   |some ks,some i=>if i.size=ks.length then some (List.replicate n ks).flatten else none
   |_,_=>none
  |_=>none
def plainFields:Nat→List Field→Nat→Option (List SK)
 |0,_,_=>none
 |_+1,[],_=>some []
 |d+1,f::fs,n =>
  if f.name = "_"∨f.offset≠n then none else
  match plainT d f.type,P.info? f.type with
  |some ks,some i=>if i.size=ks.length then (match plainFields d fs (n+ks.length) with|some r=>some (ks++r)|none=>none) else none
  |_,_=>none
end
def tG:Nat:=60
def eqT (t:TypeId):Option EqTy :=
 match plainT P tG t,fS P t with
 |some [k],some false=>some (.one k)
 |some ks,some true=>if P.eqGuardType P.depth t then none else some (.agg ks)
 |_,_=>none
def vV (s:TypeId) (f:Nat):Option Field :=
 match P.underlying s with
 |some (.struct fs) =>
  match fs[f]? with
  |some f=>match fT P f.type with|some _=>some f|none=>none
  |none=>none
 |_=>none
def AR (t:TypeId):Bool :=
 match P.underlying t with
 |some (.struct fs)=>fs.toList.all fun f=>(P.info? f.type).isSome
 |some (.array _ e)=>(P.info? e).isSome
 |_=>false
def mN (t:TypeId):List (Nat×Operand)→Option (List (Nat×Nat×AOpd))
 |[]=>some []
 |(i,x)::rest =>
  let place:Option (Nat×Nat):=match P.underlying t with
   |some (.struct fs)=>match fs[i]? with|some f=>(match fT P f.type with|some n=>some (f.offset,n)|none=>none)|none=>none
   |some (.array n e)=>if i<n then (match fT P e with|some m=>some (i*m,m)|none=>none) else none
   |_=>none
  match place,opd x,mN t rest with
  |some (off,n),some a,some r=>some ((off,n,a)::r)
  |_,_,_=>none
def mO:Nat→List (Nat×Operand)→Option (List AOpd)
 |_,[]=>some []
 |k,(i,x)::rest=>if i=k then (match opd x,mO (k+1) rest with|some a,some b=>some (a::b)|_,_=>none) else none
def k9 (t:TypeId):Option (TypeId×Nat) :=
 match P.underlying t with
 |some (.slice e)=>match fT P e with|some n=>some (e,n)|none=>none
 |_=>none
def qP (pos:String) (c:Call):Option AOp :=
 match c.callee,BJ c.args.toList with
 |.value f,some args=>match opd f with|some g=>some (.call g args)|none=>none
 |.builtin .len,some [x] =>
  match c.argTypes[0]? with
  |some t =>
   match P.underlying t with
   |some .string=>some (.len 0 x)
   |some (.slice _)=>some (.len 1 x)
   |some (.map _ _)=>some (.len 2 x)
   |some (.array n _)=>some (.mov (.c (.int .i64 n)))
   |_=>none
  |none=>none
 |.builtin .append,some [x,y] =>
  match c.argTypes[0]?,c.argTypes[1]? with
  |some t,some u =>
   match k9 P t,k9 P u,P.info? (match P.underlying t with|some (.slice e)=>e|_=>0) with
   |some (e,sz),some (e',_),some i=>if t=u∧e=e'∧0<i.bytes then (match gC P e with|some _=>some (if h pos then .apref sz i.bytes x y else .append sz i.bytes x y)|none=>none) else none
   |_,_,_=>none
  |_,_=>none
 |.builtin .copy,some [x,y] =>
  match c.argTypes[0]?,c.argTypes[1]? with
  |some t,some u =>
   match k9 P t,k9 P u with
   |some (e,sz),some (e',_)=>if e=e' then some (.copy sz x y) else none
   |_,_=>none
  |_,_=>none
 |.builtin .min,some xs=>some (.min xs)
 |.builtin .max,some xs=>some (.max xs)
 |_,_=>none
def cI (pos:String):Op→Option AOp
 |.move x|.assign x=>match opd x with|some a=>some (.mov a)|none=>none
 |.pick c a b=>match opd c,opd a,opd b with|some c,some a,some b=>some (.pick c a b)|_,_,_=>none
 |.alloc t=>match gC P t with|some z=>some (.alloc z)|none=>none
 |.box t x=>match opd x,oX P t,fT P t with|some a,some _,some n=>some (.box n a)|_,_,_=>none
 |.build t parts =>
  match gC P t,AR P t,mN P t parts.toList with
  |some z,true,some ps=>some (.build z ps)
  |_,_,_=>none
 |.buildSlice t n parts =>
  match k9 P t,mO 0 parts.toList with
  |some (e,sz),some xs=>if xs.length=n∧n*sz≤2^24 then (match gC P e with|some _=>some (if (h pos&&n != 0)=true then .mkref sz xs else .mklit sz xs)|none=>none) else none
  |_,_=>none
 |.load t a=>match oX P t,opd a with|some sh,some x=>some (.load sh x)|_,_=>none
 |.store t a x=>match fT P t,opd a,opd x with|some n,some a,some x=>some (.store n a x)|_,_,_=>none
 |.nilCheck x=>match opd x with|some a=>some (.nilCheck a)|none=>none
 |.binOp op t x y _ =>
  match opd x,opd y with
  |some a,some b =>
   match op with
   |.eql=>match eqT P t with|some sh=>some (.eql sh false a b)|none=>none
   |.neq=>match eqT P t with|some sh=>some (.eql sh true a b)|none=>none
   |op =>
    match P.underlying t with
    |some (.int _)=>some (.bin op a b)
    |_=>none
  |_,_=>none
 |.unOp op _ x =>
  match op,opd x with
  |.not,some a=>some (.not a)
  |.neg,some a=>some (.neg a)
  |_,_=>none
 |.convert s d x =>
  match P.underlying s,P.underlying d,opd x with
  |some (.int _),some (.int k),some a=>some (.conv k a)
  |_,_,_=>none
 |.makeFunc fn first cap =>
  match fn,BJ first.toList,BJ cap.toList with
  |.func f,some a,some b=>some (.mkfun f a b)
  |_,_,_=>none
 |.makeMap t none=>match P.underlying t with|some (.map _ _)=>some .mkmap|_=>none
 |.makeSlice t l c =>
  match k9 P t,opd l,opd c with
  |some (e,_),some l,some c =>
   match gC P e,P.info? e with
   |some z,some i=>if 0<i.bytes then some (.mkslice z i.bytes l c) else none
   |_,_=>none
  |_,_,_=>none
 |.slice t x lo hi mx =>
  match opd x,jV lo,jV hi,jV mx with
  |some x,some lo,some hi,some mx =>
   match P.underlying t with
   |some (.slice e)=>match fT P e with|some sz=>some (.slicev sz x lo hi mx)|none=>none
   |some (.array n e)=>match fT P e,mx with|some sz,none=>some (.slicea n sz x lo hi)|_,_=>none
   |_=>none
  |_,_,_,_=>none
 |.fieldAddr t x f=>match vV P t f,opd x with|some f,some a=>some (.faddr a f.offset)|_,_=>none
 |.field t x f =>
  match vV P t f,opd x with
  |some f,some a=>match oX P f.type with|some sh=>some (.field a f.offset sh)|none=>none
  |_,_=>none
 |.indexAddr t x i =>
  match opd x,opd i with
  |some x,some i =>
   match P.underlying t with
   |some (.array n e)=>match fT P e with|some sz=>some (.iaddr (some n) sz x i)|none=>none
   |some (.slice e)=>match fT P e with|some sz=>some (.iaddr none sz x i)|none=>none
   |_=>none
  |_,_=>none
 |.index t x i =>
  match opd x,opd i with
  |some x,some i =>
   match P.underlying t with
   |some .string=>some (.sindex x i)
   |some (.array n e)=>match fT P e,oX P e with|some sz,some sh=>some (.index n sz sh x i)|_,_=>none
   |_=>none
  |_,_=>none
 |.lookup t m k ok =>
  match opd m,opd k with
  |some m,some k =>
   match P.underlying t with
   |some (.map key elem)=>(match eqT P key,G9 P elem with|some sh,some z=>some (.lookup sh ok z m k)|_,_=>none)
   |_=>none
  |_,_=>none
 |.mapUpdate t m k v =>
  match opd m,opd k,opd v with
  |some m,some k,some v =>
   match P.underlying t with
   |some (.map key _)=>(match eqT P key with|some sh=>some (.mapset sh m k v)|none=>none)
   |_=>none
  |_,_,_=>none
 |.range t x =>
  match opd x with
  |some x =>
   match P.underlying t with
   |some .string=>some (.srange x)
   |some (.map _ _)=>some (.mrange x)
   |_=>none
  |none=>none
 |.next x s=>match opd x with|some a=>if s then some (.snext a) else some (.mnext a)|none=>none
 |.entry x=>match opd x with|some a=>some (.entry a)|none=>none
 |.extract x i=>match opd x with|some a=>some (.ext a i)|none=>none
 |.call c=>qP P h pos c
 |_=>none
def nD (n:Nat) (ops:Array Oper) (o:Oper):Option AOper :=
 let d:Bool:=match o.dst with|some d=>decide (d<n)|none=>true
 let g:Option (Option (Nat×Bool)):=match o.guard with
  |none=>some none
  |some (j,want)=>match (ops[j]?).bind (·.dst) with|some t=>some (some (t,want))|none=>none
 match cI P h o.pos o.op,g with
 |some op,some g=>if d then some { dst:=o.dst,op,guard:=g } else none
 |_,_=>none
def gN (n:Nat) (ops:Array Oper):List Oper→Option (List AOper)
 |[]=>some []
 |o::os=>match nD P h n ops o,gN n ops os with|some a,some b=>some (a::b)|_,_=>none
def AOpd.tmps:AOpd→List Nat
 |.t n=>[n]
 |.c _=>[]
def AOp.tmps:AOp→List Nat
 |.mov x|.box _ x|.load _ x|.nilCheck x|.not x|.neg x|.conv _ x|.faddr x _|.field x _ _|.srange x|.snext x|.mrange x|.mnext x|.entry x|.ext x _|.len _ x=>x.tmps
 |.pick c a b|.mapset _ c a b=>c.tmps++a.tmps++b.tmps
 |.alloc _|.mkmap=>[]
 |.build _ ps=>ps.flatMap fun p=>p.2.2.tmps
 |.mklit _ xs|.mkref _ xs|.min xs|.max xs=>xs.flatMap AOpd.tmps
 |.store _ a b|.bin _ a b|.eql _ _ a b|.append _ _ a b|.apref _ _ a b|.copy _ a b|.mkslice _ _ a b|.iaddr _ _ a b|.index _ _ _ a b|.sindex a b|.lookup _ _ _ a b=>a.tmps++b.tmps
 |.mkfun _ a b=>a.flatMap AOpd.tmps++b.flatMap AOpd.tmps
 |.slicev _ x l h m=>x.tmps++(l.toList++h.toList++m.toList).flatMap AOpd.tmps
 |.slicea _ _ x l h=>x.tmps++(l.toList++h.toList).flatMap AOpd.tmps
 |.call f xs=>f.tmps++xs.flatMap AOpd.tmps
def AOper.tmps (o:AOper):List Nat:=o.op.tmps++(match o.guard with|some (t,_)=>[t]|none=>[])
def dF (os:List AOper):List Nat:=(os.zipIdx.filter fun p=>p.1.op.acts).map (·.2)
def JQ (md:Region.Mode) (ops:Array Oper) (i:Nat):Nat :=
 match ops[i]? with
 |none=>0
 |some o =>
  let j:=o.after.toList.foldl (fun m e=>if Region.binds md e&&decide (m<e.on) then e.on else m) i
  if j=i then i*(ops.size+1) else j*(ops.size+1)+1+i
def rI (md:Region.Mode) (ops:Array Oper):Bool :=
 (List.range ops.size).all fun i=>((ops[i]?).map fun o=>o.after.toList.all fun e=>!Region.binds md e||(decide (e.on<ops.size)&&decide (JQ md ops e.on<JQ md ops i))).getD false
def AK (ops:Array Oper):Bool:=rI .any ops&&rI .text ops&&rI .gc ops
def o7:Code→Bool
 |.seq a b|.cond _ a b=>o7 a&&o7 b
 |.block _ b|.loop b|.scope b=>o7 b
 |.rangeFunc ..=>false
 |_=>true
def BV (before:Array Nat) (os:List AOper):Bool :=
 let ps:=os.zipIdx
 let acts:=dF os
 (ps.all fun (o,i)=>ps.all fun (o',j)=>i==j||!(o.dst.isSome&&o.dst==o'.dst)) &&
 (ps.all fun (o,i)=>o.tmps.all fun t=>ps.all fun (o',j)=>o'.dst != some t||(decide (j<i)&&(before.getD i 0).testBit j)||(decide (i<j)&&(before.getD j 0).testBit i)) &&
 (acts.all fun i=>acts.all fun j=>!(decide (i<j))||(before.getD j 0).testBit i)
def iY (before:Array Nat) (os:List AOper):List ADOper :=
 let acts:=dF os
 os.zipIdx.map fun (o,i) =>
  { o,lo:=(acts.filter fun a=>(before.getD i 0).testBit a).length,hi:=(acts.takeWhile fun a=>!(before.getD a 0).testBit i).length }
def comp (n:Nat):Code→Option ACode
 |.skip|.label _=>some .skip
 |.region _ ops draw =>
  match gN P h n ops ops.toList with
  |some os=>if draw then (if AK ops&&BV (Region.before ops) os then some (.dreg (iY (Region.before ops) os)) else none) else some (.reg os)
  |none=>none
 |.seq a b=>match comp n a,comp n b with|some x,some y=>some (.seq x y)|_,_=>none
 |.cond c a b=>match opd c,comp n a,comp n b with|some c,some x,some y=>some (.cond c x y)|_,_,_=>none
 |.block id b=>match comp n b with|some x=>some (.block id x)|none=>none
 |.loop b=>match comp n b with|some x=>some (.loop x)|none=>none
 |.rangeFunc f ps a b=>match opd f,comp n a,comp n b with|some f,some x,some y=>if ps.toList.all (fun p=>decide (p<n))&&o7 a&&o7 b then some (.rangeFunc f ps.toList x y) else none|_,_,_=>none
 |.exit id=>some (.jump (.exit id))
 |.ret=>some (.jump .ret)
 |.scope b=>match comp n b with|some x=>some (.scope x)|none=>none
 |.goto _|.refuse _=>none
def n4:List ResultVar→Option (List ARes)
 |[]=>some []
 |.tmp t::rs=>match n4 rs with|some l=>some (.tmp t::l)|none=>none
 |.cell a t::rs=>match oX P t,n4 rs with|some sh,some l=>some (.cell a sh::l)|_,_=>none
def aF (fn:Func):Option AFunc :=
 match fn.body with
 |none=>none
 |some c =>
  match comp P h fn.ntmps c,n4 P fn.results.toList with
  |some b,some rs=>if fn.name== "runtime.NumGoroutine" then none else some { ntmps:=fn.ntmps,results:=rs,body:=b }
  |_,_=>none
end
end Go.Am
namespace Go.Am
structure Gh where
 loc:Nat→Option Nat
 lim:Nat→Option Nat
 tok:Nat→Option (Option Addr×Nat×Nat)
 own:Nat→Option Nat
 defs:Nat→Prop
 B0:Nat
 h0:Array Obj
 /-- blocks that have no place,and get none;and what they hold -/
 res:Nat→Option (Option (List AV))
structure LitAt (G:Gh) (w:World) (xs:List AV) (tk:Option Nat) (b off sz:Nat):Prop where
 lim:∃ L,G.lim b=some L∧off+xs.length*sz≤L
 own:∀ t,G.own b=some t→tk=some t
 size:∀ (i:Nat) (x:AV),xs[i]? = some x→x.cells.length=sz
 cells:∀ k,k<xs.length*sz→(w.cell? ⟨b,off+k,none⟩).isSome=true
def nL (G:Gh) (full:Bool) (tk:Option Nat) (n:Nat) (base:Option Addr) (cap:Nat):Prop :=
 n≤cap∧(full=true→cap=n) ∧
 ∀ t,tk=some t→∃ b m c,G.tok t=some (b,m,c)∧n≤m∧(full=false→m=n→b=base∧c=cap)
inductive RelV (G:Gh) (w:World):AV→Value→Prop where
 |undef (v:Value):RelV G w .undef v
 |int (k:IntKind) (n:Int):RelV G w (.int k n) (.int k n)
 |bool (b:Bool):RelV G w (.bool b) (.bool b)
 |str (s:ByteArray):RelV G w (.str s) (.string s)
 |func {f first cap first' cap'} (h1:first'.size=first.length) (h2:cap'.size=cap.length)
   (h3:∀ (i:Nat) (a:AV) (v:Value),first[i]? = some a→first'[i]? = some v→RelV G w a v) (h4:∀ (i:Nat) (a:AV) (v:Value),cap[i]? = some a→cap'[i]? = some v→RelV G w a v) :
   RelV G w (.func f first cap) (.func (.func f) first' cap')
 |nilFunc:RelV G w .nilFunc .nilFunc
 |yield {id b} (h:G.loc id=some b):RelV G w (.yield id) (.func (.yield b) #[] #[])
 |ptr {id off b} (h:G.loc id=some b):RelV G w (.ptr id off) (.pointer (some ⟨b,off,none⟩))
 |nilPtr:RelV G w .nilPtr (.pointer none)
 |lptr {xs i off tk b o sz} (ht:∀ t,tk=some t→∃ p,G.tok t=some p) (hi:i<xs.length) (hl:LitAt G w xs tk b o sz)
   (hc:∀ (i:Nat) (x:AV) (j:Nat) (c:AV) (u:Value),xs[i]? = some x→x.cells[j]? = some c→w.cell? ⟨b,o+(i*sz+j),none⟩=some u→RelV G w c u) :
   RelV G w (.lptr xs i off tk) (.pointer (some ⟨b,o+i*sz+off,none⟩))
 |nil {full tk base cap} (ht:nL G full tk 0 base cap) (hb:base=none→cap=0):RelV G w (.lit [] full tk) (.slice base 0 cap)
 |lit {xs full tk b o sz cap} (ht:nL G full tk xs.length (some ⟨b,o,none⟩) cap) (hl:LitAt G w xs tk b o sz)
   (hc:∀ (i:Nat) (x:AV) (j:Nat) (c:AV) (u:Value),xs[i]? = some x→x.cells[j]? = some c→w.cell? ⟨b,o+(i*sz+j),none⟩=some u→RelV G w c u) :
   RelV G w (.lit xs full tk) (.slice (some ⟨b,o,none⟩) xs.length cap)
 |ref {id off len sz b base cap} (h:G.loc id=some b) (hb:len≠0→base=some ⟨b,off,none⟩) (hc:len≤cap) (hn:base=none→cap=0) :
   RelV G w (.ref id off len sz) (.slice base len cap)
 |map {id b} (h:G.loc id=some b):RelV G w (.map id) (.map (some b))
 |nilMap:RelV G w .nilMap (.map none)
 |agg {cs vs} (h:vs.size=cs.length) (hc:∀ (i:Nat) (a:AV) (v:Value),cs[i]? = some a→vs[i]? = some v→RelV G w a v):RelV G w (.agg cs) (.agg vs)
 |tuple {cs vs} (h:vs.size=cs.length) (hc:∀ (i:Nat) (a:AV) (v:Value),cs[i]? = some a→vs[i]? = some v→RelV G w a v):RelV G w (.tuple cs) (.tuple vs)
def aBG:LS→LoopState
 |.ready=>.ready
 |.busy=>.busy
 |.done=>.done
def I7:AJump→Code
 |.ret=>.ret
 |.exit id=>.exit id
def fK (G:Gh) (w:World) (n:Nat) (env:Env) (tmps:Array Value):Prop :=
 tmps.size=n∧∀ t,RelV G w (Env.get env t) (tmps.getD t Go.undef)
def iC (P:Program) (h:String→Bool) (G:Gh) (w:World):ABlk→Nat→Prop
 |.cells cs,b=>∃ vs T,w.heap[b]? = some (.cells vs T (0,0))∧cs.length≤vs.size∧∀ (i:Nat) (a:AV) (v:Value),cs[i]? = some a→vs[i]? = some v→RelV G w a v
 |.map es,b=>∃ ents,w.heap[b]? = some (.map ents es.length)∧ents.size=es.length ∧
   (∀ (i:Nat) (e:MapEntry),ents[i]? = some e→e.born=i)∧∀ (i:Nat) (p:AV×AV) (e:MapEntry),es[i]? = some p→ents[i]? = some e→RelV G w p.1 e.key∧RelV G w p.2 e.val
 |.tok _ _ _,_=>False
 |.siter s pos,b=>w.heap[b]? = some (.stringIter s pos)
 |.miter m n left last,b=>∃ bm seen stepped,G.loc m=some bm∧w.heap[b]? = some (.mapIter (some bm) n seen stepped) ∧
   left=(List.range n).filter (fun i=>!seen.contains i)∧seen.back? = last∧(seen.isEmpty=false→stepped=n)
 |.loop st pend env ps a c,b=>∃ l n,w.heap[b]? = some (.loop l)∧l.state=aBG st∧l.pending=pend.map I7∧l.params.toList=ps ∧
   comp P h n l.assign=some a∧comp P h n l.body=some c∧(∀ p∈ps,p<n)∧fK G w n env l.tmps∧o7 l.assign=true∧o7 l.body=true
 |.dead,_=>True
def E9:Obj:=.deferred none
structure RelS (P:Program) (h:String→Bool) (G:Gh) (w:World) (σ:St):Prop where
 lt:∀ id b,G.loc id=some b→id<σ.length
 blk:∀ id b x,G.loc id=some b→σ[id]? = some x→iC P h G w x b
 inj:∀ i j b,G.loc i=some b→G.loc j=some b→i=j
 fresh:∀ id b,G.loc id=some b→G.B0≤b∧b<w.heap.size∧G.lim b=none∧¬G.defs b
 lim:∀ b L,G.lim b=some L→∃ vs T fr,w.heap[b]? = some (.cells vs T fr)∧L≤vs.size∧(b<G.B0→G.h0[G.B0+b]? = some E9)
 tok:∀ t b n c,G.tok t=some (b,n,c)→∃ sz ex,σ[t]? = some (.tok sz n ex)∧n≤c∧(ex=false→c=n) ∧
  (ex=true→∃ bb vs T,b=some ⟨bb,0,none⟩∧G.own bb=some t∧G.lim bb=some (n*sz)∧G.B0≤bb ∧
   w.heap[bb]? = some (.cells vs T (0,0))∧c*sz≤vs.size)
 own:∀ b t,G.own b=some t→b<w.heap.size∧∃ p,G.tok t=some p
 defs:∀ r,G.defs r→w.heap[r]? = some (.deferred (some []))∧G.B0≤r∧G.lim r=none
 base:∀ b,b<G.B0→w.heap[b]? = G.h0[b]?
 size:G.B0≤w.heap.size
 res:∀ id r,G.res id=some r→G.loc id=none∧id<σ.length∧∀ cs,r=some cs→σ[id]? = some (.cells cs)
structure Evo (G:Gh) (w:World) (G':Gh) (w':World):Prop where
 loc:∀ id b,G.loc id=some b→G'.loc id=some b
 lim:∀ b L,G.lim b=some L→∃ L',G'.lim b=some L'∧L≤L'∧∀ k,k<L→w'.cell? ⟨b,k,none⟩=w.cell? ⟨b,k,none⟩
 tok:∀ t b n c,G.tok t=some (b,n,c)→∃ b' n' c',G'.tok t=some (b',n',c')∧n≤n'∧(n'=n→b'=b∧c'=c)
 own:∀ b L t,G.lim b=some L→G'.own b=some t→G.own b=some t
 defs:∀ r,G.defs r→G'.defs r
 B0:G'.B0=G.B0
 h0:G'.h0=G.h0
 os:w'.os=w.os
 tape:w'.tape=w.tape
 output:w'.output=w.output
 size:w.heap.size≤w'.heap.size
 res:∀ id r,G.res id=some r→G'.res id=some r
theorem Evo.refl (G:Gh) (w:World):Evo G w G w :=
 ⟨fun _ _ h=>h,fun b L h=>⟨L,h,Nat.le_refl _,fun _ _=>rfl⟩,fun t b n c h=>⟨b,n,c,h,Nat.le_refl _,fun _=>⟨rfl,rfl⟩⟩,
  fun _ _ _ _ h=>h,fun _ h=>h,rfl,rfl,rfl,rfl,rfl,Nat.le_refl _,fun _ _ h=>h⟩
theorem Evo.trans {G1 w1 G2 w2 G3 w3} (h:Evo G1 w1 G2 w2) (k:Evo G2 w2 G3 w3):Evo G1 w1 G3 w3 where
 loc id b e:=k.loc _ _ (h.loc _ _ e)
 lim b L e:=by
  obtain ⟨L2,e2,l2,c2⟩:=h.lim _ _ e
  obtain ⟨L3,e3,l3,c3⟩:=k.lim _ _ e2
  exact ⟨L3,e3,Nat.le_trans l2 l3,fun i hi=>(c3 i (Nat.lt_of_lt_of_le hi l2)).trans (c2 i hi)⟩
 tok t b n c e:=by
  obtain ⟨b2,n2,c2,e2,l2,q2⟩:=h.tok _ _ _ _ e
  obtain ⟨b3,n3,c3,e3,l3,q3⟩:=k.tok _ _ _ _ e2
  refine ⟨b3,n3,c3,e3,Nat.le_trans l2 l3,fun hn=>?_⟩
  have:n2=n:=by omega
  obtain ⟨a1,a2⟩:=q2 this
  obtain ⟨a3,a4⟩:=q3 (by omega)
  exact ⟨a3.trans a1,a4.trans a2⟩
 own b L t e e3:=by
  obtain ⟨L2,e2,_,_⟩:=h.lim _ _ e
  exact h.own _ _ _ e (k.own _ _ _ e2 e3)
 defs r e:=k.defs _ (h.defs _ e)
 B0:=k.B0.trans h.B0
 h0:=k.h0.trans h.h0
 os:=k.os.trans h.os
 tape:=k.tape.trans h.tape
 output:=k.output.trans h.output
 size:=Nat.le_trans h.size k.size
 res id r e:=k.res _ _ (h.res _ _ e)
theorem nL.mono {G w G' w' full tk n base cap} (he:Evo G w G' w') (h:nL G full tk n base cap):nL G' full tk n base cap:=by
 obtain ⟨h1,h2,h3⟩:=h
 refine ⟨h1,h2,fun t ht=>?_⟩
 obtain ⟨b,m,c,e1,e2,e3⟩:=h3 t ht
 obtain ⟨b',m',c',e1',l,q⟩:=he.tok _ _ _ _ e1
 refine ⟨b',m',c',e1',Nat.le_trans e2 l,fun hf hm=>?_⟩
 have:m=n:=by omega
 obtain ⟨q1,q2⟩:=q (by omega)
 obtain ⟨r1,r2⟩:=e3 hf this
 exact ⟨q1.trans r1,q2.trans r2⟩
theorem LitAt.cellOf {G w xs tk b o sz} (h:LitAt G w xs tk b o sz) {i:Nat} {x:AV} {j:Nat} {c:AV} (hx:xs[i]? = some x) (hc:x.cells[j]? = some c) :
  i*sz+j<xs.length*sz:=by
 have hi:i<xs.length:=(List.getElem?_eq_some_iff.1 hx).1
 have hj:j<sz:=by rw [←h.size i x hx];exact (List.getElem?_eq_some_iff.1 hc).1
 calc i*sz+j<i*sz+sz:=by omega
  _=(i+1)*sz:=by rw [Nat.add_mul];omega
  _≤xs.length*sz:=Nat.mul_le_mul_right _ hi
theorem LitAt.mono {G w G' w' xs tk b o sz} (he:Evo G w G' w') (h:LitAt G w xs tk b o sz):LitAt G' w' xs tk b o sz:=by
 obtain ⟨L,hL,hle⟩:=h.lim
 obtain ⟨L',hL',hle',hcell⟩:=he.lim _ _ hL
 refine ⟨⟨L',hL',by omega⟩,fun t ht=>h.own t (he.own _ _ _ hL ht),h.size,fun k hk=>?_⟩
 rw [hcell _ (by omega)]
 exact h.cells k hk
theorem LitAt.same {G w G' w' xs tk b o sz} (he:Evo G w G' w') (h:LitAt G w xs tk b o sz) {i:Nat} {x:AV} {j:Nat} {c:AV} {u:Value} (hx:xs[i]? = some x) (hc:x.cells[j]? = some c)
  (hu:w'.cell? ⟨b,o+(i*sz+j),none⟩=some u):w.cell? ⟨b,o+(i*sz+j),none⟩=some u:=by
 obtain ⟨L,hL,hle⟩:=h.lim
 obtain ⟨L',hL',hle',hcell⟩:=he.lim _ _ hL
 have:=h.cellOf hx hc
 rw [←hcell _ (by omega)]
 exact hu
theorem RelV.mono {G w G' w' a v} (he:Evo G w G' w') (h:RelV G w a v):RelV G' w' a v:=by
 induction h with
 |undef v=>exact .undef v
 |int k n=>exact .int k n
 |bool b=>exact .bool b
 |str s=>exact .str s
 |func h1 h2 _ _ h3 h4=>exact .func h1 h2 h3 h4
 |nilFunc=>exact .nilFunc
 |yield h=>exact .yield (he.loc _ _ h)
 |ptr h=>exact .ptr (he.loc _ _ h)
 |nilPtr=>exact .nilPtr
 |lptr ht hi hl _ ih =>
  refine .lptr (fun t e=>?_) hi (hl.mono he) fun i x j c u hx hc hu=>ih i x j c u hx hc (hl.same he hx hc hu)
  obtain ⟨⟨b,n,c⟩,hp⟩:=ht t e
  obtain ⟨b',n',c',e',_⟩:=he.tok _ _ _ _ hp
  exact ⟨_,e'⟩
 |nil ht hb=>exact .nil (ht.mono he) hb
 |lit ht hl _ ih=>exact .lit (ht.mono he) (hl.mono he) fun i x j c u hx hc hu=>ih i x j c u hx hc (hl.same he hx hc hu)
 |ref h hb hc hn=>exact .ref (he.loc _ _ h) hb hc hn
 |map h=>exact .map (he.loc _ _ h)
 |nilMap=>exact .nilMap
 |agg h _ ih=>exact .agg h ih
 |tuple h _ ih=>exact .tuple h ih
theorem fK.mono {G w G' w' n env tmps} (he:Evo G w G' w') (h:fK G w n env tmps):fK G' w' n env tmps :=
 ⟨h.1,fun t=>(h.2 t).mono he⟩
theorem iC.mono {P h G w G' w' x b} (he:Evo G w G' w') (hb:w'.heap[b]? = w.heap[b]?) (hx:iC P h G w x b):iC P h G' w' x b:=by
 cases x with
 |cells cs =>
  obtain ⟨vs,T,e,l,r⟩:=hx
  exact ⟨vs,T,hb.trans e,l,fun i a v h1 h2=>(r i a v h1 h2).mono he⟩
 |map es =>
  obtain ⟨ents,e,l,q,r⟩:=hx
  exact ⟨ents,hb.trans e,l,q,fun i p e h1 h2=>⟨(r i p e h1 h2).1.mono he,(r i p e h1 h2).2.mono he⟩⟩
 |tok _ _ _=>exact hx
 |siter s pos=>exact hb.trans hx
 |miter m n left last =>
  obtain ⟨bm,seen,stepped,h1,h2,h3⟩:=hx
  exact ⟨bm,seen,stepped,he.loc _ _ h1,hb.trans h2,h3⟩
 |loop st pend env ps a c =>
  obtain ⟨l,n,h1,h2,h3,h4,h5,h6,h7,h8,h9⟩:=hx
  exact ⟨l,n,hb.trans h1,h2,h3,h4,h5,h6,h7,h8.mono he,h9⟩
 |dead=>trivial
variable {P:Program} {hh:String→Bool} {G:Gh} {w:World} {σ:St}
theorem RelV.cell {a:AV} {v:Value} (h:RelV G w a v) (hc:a.cell=true):v.oneCell'=true∧v.cells = #[v]:=by
 cases h<;>first|(simp [AV.cell] at hc;done)|exact ⟨rfl,rfl⟩
theorem RelV.cells {a:AV} {v:Value} (h:RelV G w a v) (hc:a.cells.all (·.cell)=true) :
  v.cells.size=a.cells.length∧(∀ (i:Nat) (x:AV) (u:Value),a.cells[i]? = some x→v.cells[i]? = some u→RelV G w x u)∧∀ u∈v.cells.toList,u.oneCell'=true:=by
 have one:∀ {a:AV} {v:Value},RelV G w a v→a.cells=[a]→a.cell=true →
   v.cells.size=a.cells.length∧(∀ (i:Nat) (x:AV) (u:Value),a.cells[i]? = some x→v.cells[i]? = some u→RelV G w x u)∧∀ u∈v.cells.toList,u.oneCell'=true:=by
  intro a v h hs hc
  obtain ⟨h1,h2⟩:=h.cell hc
  refine ⟨by rw [h2,hs];rfl,fun i x u hx hu=>?_,fun u hu=>?_⟩
  ·rw [hs] at hx
   rw [h2] at hu
   cases i with
   |zero=>simp at hx hu;subst hx;subst hu;exact h
   |succ i=>simp at hx
  ·rw [h2] at hu
   simp at hu
   subst hu
   exact h1
 cases h with
 |agg hs hr =>
  refine ⟨hs,hr,fun u hu=>?_⟩
  obtain ⟨i,hi,rfl⟩:=List.getElem_of_mem hu
  simp only [AV.cells,List.all_eq_true] at hc
  simp only [Value.cells,Array.length_toList] at hi
  have hi':i<(_:List AV).length:=hs▸hi
  have hx:=hr i _ _ (List.getElem?_eq_getElem hi') (Array.getElem?_eq_getElem hi)
  simpa [Value.cells] using (hx.cell (hc _ (List.getElem_mem hi'))).1
 |tuple hs hr=>simp [AV.cells,AV.cell] at hc
 |undef v=>simp [AV.cells,AV.cell] at hc
 |int=>exact one (.int _ _) rfl rfl
 |bool=>exact one (.bool _) rfl rfl
 |str=>exact one (.str _) rfl rfl
 |func h1 h2 h3 h4=>exact one (.func h1 h2 h3 h4) rfl rfl
 |nilFunc=>exact one .nilFunc rfl rfl
 |yield h=>exact one (.yield h) rfl rfl
 |ptr h=>exact one (.ptr h) rfl rfl
 |nilPtr=>exact one .nilPtr rfl rfl
 |lptr h1 h2 h3 h4=>exact one (.lptr h1 h2 h3 h4) rfl rfl
 |nil h hb=>exact one (.nil h hb) rfl rfl
 |lit h1 h2 h3=>exact one (.lit h1 h2 h3) rfl rfl
 |ref h1 h2 h3 h4=>exact one (.ref h1 h2 h3 h4) rfl rfl
 |map h=>exact one (.map h) rfl rfl
 |nilMap=>exact one .nilMap rfl rfl
theorem eN (w:World) (o:Obj) (k:Nat):(w.alloc o).heap[k]? = if k=w.heap.size then some o else w.heap[k]?:=by
 show (w.heap.push o)[k]? = _
 rw [Array.getElem?_push]
theorem A3 (w:World) (o:Obj) (a:Addr) (h:a.block<w.heap.size):(w.alloc o).cell? a=w.cell? a:=World.cell?_alloc_lt w o a h
theorem rC (h:RelS P hh G w σ) {b L:Nat} (e:G.lim b=some L):b<w.heap.size:=by
 obtain ⟨vs,T,fr,hb,_⟩:=h.lim _ _ e
 exact (Array.getElem?_eq_some_iff.1 hb).1
theorem oV:Evo G w G w.drew :=
 ⟨fun _ _ h=>h,fun b L h=>⟨L,h,Nat.le_refl _,fun _ _=>rfl⟩,fun t b n c h=>⟨b,n,c,h,Nat.le_refl _,fun _=>⟨rfl,rfl⟩⟩,
  fun _ _ _ _ h=>h,fun _ h=>h,rfl,rfl,rfl,rfl,rfl,Nat.le_refl _,fun _ _ h=>h⟩
theorem RelS.drew (h:RelS P hh G w σ):RelS P hh G w.drew σ where
 lt:=h.lt
 blk id b x e1 e2:=(h.blk id b x e1 e2).mono oV rfl
 inj:=h.inj
 fresh:=h.fresh
 lim:=h.lim
 tok:=h.tok
 own:=h.own
 defs:=h.defs
 base:=h.base
 size:=h.size
 res:=h.res
theorem lB (h:RelS P hh G w σ) (o:Obj):Evo G w G (w.alloc o) where
 loc _ _ h:=h
 lim b L e:=⟨L,e,Nat.le_refl _,fun k _=>A3 w o _ (rC h e)⟩
 tok t b n c h:=⟨b,n,c,h,Nat.le_refl _,fun _=>⟨rfl,rfl⟩⟩
 own _ _ _ _ h:=h
 defs _ h:=h
 B0:=rfl
 h0:=rfl
 os:=rfl
 tape:=rfl
 output:=rfl
 size:=by simp
 res _ _ h:=h
theorem RelS.alloc (h:RelS P hh G w σ) (o:Obj):RelS P hh G (w.alloc o) σ where
 lt:=h.lt
 blk id b x e1 e2:=(h.blk id b x e1 e2).mono (lB h o) (by rw [eN,if_neg];have:=(h.fresh _ _ e1).2.1;omega)
 inj:=h.inj
 fresh id b e:=by
  obtain ⟨a,b,c⟩:=h.fresh id b e
  exact ⟨a,by simp;omega,c⟩
 lim b L e:=by
  obtain ⟨vs,T,fr,hb,l⟩:=h.lim _ _ e
  exact ⟨vs,T,fr,by rw [eN,if_neg (by have:=rC h e;omega)];exact hb,l⟩
 tok t b n c e:=by
  obtain ⟨sz,ex,h1,h2,h3,h4⟩:=h.tok _ _ _ _ e
  refine ⟨sz,ex,h1,h2,h3,fun hx=>?_⟩
  obtain ⟨bb,vs,T,q1,q2,q3,q4,q5,q6⟩:=h4 hx
  exact ⟨bb,vs,T,q1,q2,q3,q4,by rw [eN,if_neg (by have:=rC h q3;omega)];exact q5,q6⟩
 own b t e:=by
  obtain ⟨h1,h2⟩:=h.own b t e
  exact ⟨by simp;omega,h2⟩
 defs r e:=by
  obtain ⟨h1,h2,h3⟩:=h.defs r e
  refine ⟨?_,h2,h3⟩
  rw [eN,if_neg]
  ·exact h1
  ·have:=(Array.getElem?_eq_some_iff.1 h1).1;omega
 base b hb:=by rw [eN,if_neg (by have:=h.size;omega)];exact h.base b hb
 size:=by have:=h.size;simp;omega
 res:=h.res
def Gh.withLoc (G:Gh) (id b:Nat):Gh:={ G with loc:=fun i=>if i=id then some b else G.loc i }
theorem m9 {id b:Nat} (hid:G.loc id=none):Evo G w (G.withLoc id b) w where
 loc i c e:=by
  have:i≠id:=fun h=>by rw [h,hid] at e;cases e
  simp [Gh.withLoc,this,e]
 lim b L e:=⟨L,e,Nat.le_refl _,fun _ _=>rfl⟩
 tok t b n c h:=⟨b,n,c,h,Nat.le_refl _,fun _=>⟨rfl,rfl⟩⟩
 own _ _ _ _ h:=h
 defs _ h:=h
 B0:=rfl
 h0:=rfl
 os:=rfl
 tape:=rfl
 output:=rfl
 size:=Nat.le_refl _
 res _ _ h:=h
theorem RelS.withLoc {id b:Nat} {x:ABlk} (h:RelS P hh G w σ) (hres:G.res id=none) (hid:G.loc id=none) (hx:σ[id]? = some x) (hr:iC P hh (G.withLoc id b) w x b)
  (h1:G.B0≤b) (h2:b<w.heap.size) (h3:G.lim b=none) (h4:¬G.defs b) (h5:∀ i,G.loc i≠some b):RelS P hh (G.withLoc id b) w σ where
 lt i c e:=by
  by_cases hi:i=id
  ·subst hi;exact (List.getElem?_eq_some_iff.1 hx).1
  ·simp [Gh.withLoc,hi] at e;exact h.lt i c e
 blk i c y e1 e2:=by
  by_cases hi:i=id
  ·subst hi
   simp [Gh.withLoc] at e1
   subst e1
   rw [hx] at e2
   cases e2
   exact hr
  ·simp [Gh.withLoc,hi] at e1
   exact (h.blk i c y e1 e2).mono (m9 hid) rfl
 inj i j c e1 e2:=by
  by_cases hi:i=id<;>by_cases hj:j=id
  ·rw [hi,hj]
  ·simp [Gh.withLoc,hi] at e1
   simp [Gh.withLoc,hj] at e2
   subst e1
   exact absurd e2 (h5 j)
  ·simp [Gh.withLoc,hi] at e1
   simp [Gh.withLoc,hj] at e2
   subst e2
   exact absurd e1 (h5 i)
  ·simp [Gh.withLoc,hi] at e1
   simp [Gh.withLoc,hj] at e2
   exact h.inj i j c e1 e2
 fresh i c e:=by
  by_cases hi:i=id
  ·simp [Gh.withLoc,hi] at e;subst e;exact ⟨h1,h2,h3,h4⟩
  ·simp [Gh.withLoc,hi] at e;exact h.fresh i c e
 lim:=h.lim
 tok:=h.tok
 own:=h.own
 defs:=h.defs
 base:=h.base
 size:=h.size
 res i r e:=by
  have hi:i≠id:=fun hi=>by subst hi;rw [show (G.withLoc i b).res i=G.res i from rfl,hres] at e;cases e
  have:=h.res i r e
  simpa [Gh.withLoc,hi] using this
theorem RelS.more (h:RelS P hh G w σ) (τ:St):RelS P hh G w (σ++τ) where
 lt i c e:=by have:=h.lt i c e;simp;omega
 blk i c y e1 e2:=h.blk i c y e1 (by rw [List.getElem?_append_left (h.lt i c e1)] at e2;exact e2)
 inj:=h.inj
 fresh:=h.fresh
 lim:=h.lim
 tok t b n c e:=by
  obtain ⟨sz,ex,h1,rest⟩:=h.tok t b n c e
  exact ⟨sz,ex,by rw [List.getElem?_append_left (List.getElem?_eq_some_iff.1 h1).1];exact h1,rest⟩
 own:=h.own
 defs:=h.defs
 base:=h.base
 size:=h.size
 res i r e:=by
  obtain ⟨q1,q2,q3⟩:=h.res i r e
  exact ⟨q1,by simp;omega,fun cs hc=>by rw [List.getElem?_append_left q2];exact q3 cs hc⟩
theorem tJ (h:RelS P hh G w σ) {id:Nat} (hid:σ.length≤id):G.loc id=none:=by
 cases e:G.loc id with
 |none=>rfl
 |some b=>have:=h.lt _ _ e;omega
theorem H2 (h:RelS P hh G w σ) {id:Nat} (hid:σ.length≤id):G.res id=none:=by
 cases e:G.res id with
 |none=>rfl
 |some b=>have:=(h.res _ _ e).2.1;omega
theorem RS (h:RelS P hh G w σ) {b:Nat} (hb:w.heap.size≤b) (i:Nat):G.loc i≠some b:=fun e=>by
 have:=(h.fresh _ _ e).2.1;omega
theorem RelS.new {x:ABlk} {o:Obj} (h:RelS P hh G w σ) (hr:iC P hh (G.withLoc σ.length w.heap.size) (w.alloc o) x w.heap.size) :
  RelS P hh (G.withLoc σ.length w.heap.size) (w.alloc o) (σ++[x])∧Evo G w (G.withLoc σ.length w.heap.size) (w.alloc o):=by
 have h1:=(h.alloc o).more [x]
 have hl:G.loc σ.length=none:=tJ h (Nat.le_refl _)
 refine ⟨h1.withLoc (H2 h (Nat.le_refl _)) hl (by simp) hr h.size (by simp) ?_ ?_ (fun i=>RS h (Nat.le_refl _) i),(lB h o).trans (m9 hl)⟩
 ·cases e:G.lim w.heap.size with
  |none=>rfl
  |some L=>have:=rC h e;omega
 ·intro e
  have:=(Array.getElem?_eq_some_iff.1 (h.defs _ e).1).1
  omega
theorem RelS.place {x:ABlk} {o:Obj} {id:Nat} (h:RelS P hh G w σ) (hres:G.res id=none) (hid:G.loc id=none) (hx:σ[id]? = some x) (hr:iC P hh (G.withLoc id w.heap.size) (w.alloc o) x w.heap.size) :
  RelS P hh (G.withLoc id w.heap.size) (w.alloc o) σ∧Evo G w (G.withLoc id w.heap.size) (w.alloc o):=by
 refine ⟨(h.alloc o).withLoc hres hid hx hr h.size (by simp) ?_ ?_ (fun i=>RS h (Nat.le_refl _) i),(lB h o).trans (m9 hid)⟩
 ·cases e:G.lim w.heap.size with
  |none=>rfl
  |some L=>have:=rC h e;omega
 ·intro e
  have:=(Array.getElem?_eq_some_iff.1 (h.defs _ e).1).1
  omega
def Gh.withLim (G:Gh) (b n:Nat):Gh:={ G with lim:=fun i=>if i=b then some n else G.lim i }
theorem RelS.newLit (h:RelS P hh G w σ) (cs:Array Value) (T:TypeId) :
  RelS P hh (G.withLim w.heap.size cs.size) (w.alloc (.cells cs T)) σ∧Evo G w (G.withLim w.heap.size cs.size) (w.alloc (.cells cs T)):=by
 have hn:G.lim w.heap.size=none:=by
  cases e:G.lim w.heap.size with
  |none=>rfl
  |some L=>have:=rC h e;omega
 have ho:∀ t,G.own w.heap.size≠some t:=fun t e=>by have:=(h.own _ _ e).1;omega
 have he0:Evo G (w.alloc (.cells cs T)) (G.withLim w.heap.size cs.size) (w.alloc (.cells cs T)):=by
  refine ⟨fun _ _ h=>h,fun b L e=>⟨L,?_,Nat.le_refl _,fun _ _=>rfl⟩,fun t b n c h=>⟨b,n,c,h,Nat.le_refl _,fun _=>⟨rfl,rfl⟩⟩,
   fun _ _ _ _ h=>h,fun _ h=>h,rfl,rfl,rfl,rfl,rfl,Nat.le_refl _,fun _ _ h=>h⟩
  have:b≠w.heap.size:=fun e'=>by rw [e',hn] at e;cases e
  simp [Gh.withLim,this,e]
 have h1:=h.alloc (.cells cs T)
 refine ⟨⟨h.lt,fun id b x e1 e2=>(h1.blk id b x e1 e2).mono he0 rfl,h.inj,fun id b e=>?_,fun b L e=>?_,fun t b n c e=>?_,h1.own,fun r e=>?_,h1.base,h1.size,h1.res⟩,
  (lB h _).trans he0⟩
 ·obtain ⟨q1,q2,q3,q4⟩:=h1.fresh id b e
  have:b≠w.heap.size:=by have:=(h.fresh id b e).2.1;omega
  exact ⟨q1,q2,by simp [Gh.withLim,this,q3],q4⟩
 ·by_cases hb:b=w.heap.size
  ·subst hb
   simp [Gh.withLim] at e
   subst e
   exact ⟨cs,T,(0,0),by rw [eN,if_pos rfl],Nat.le_refl _,fun hlt=>absurd hlt (Nat.not_lt.2 h.size)⟩
  ·simp [Gh.withLim,hb] at e
   exact h1.lim b L e
 ·obtain ⟨sz,ex,q1,q2,q3,q4⟩:=h1.tok t b n c e
  refine ⟨sz,ex,q1,q2,q3,fun hx=>?_⟩
  obtain ⟨bb,vs,T',r1,r2,r3,r4,r5,r6⟩:=q4 hx
  have:bb≠w.heap.size:=fun e'=>by rw [e'] at r2;exact ho _ r2
  exact ⟨bb,vs,T',r1,r2,by simp [Gh.withLim,this,r3],r4,r5,r6⟩
 ·obtain ⟨q1,q2,q3⟩:=h1.defs r e
  have:r≠w.heap.size:=by have:=(Array.getElem?_eq_some_iff.1 (h.defs _ e).1).1;omega
  exact ⟨q1,q2,by simp [Gh.withLim,this,q3]⟩
structure Part (b:Nat) (w w':World):Prop where
 os:w'.os=w.os
 tape:w'.tape=w.tape
 output:w'.output=w.output
 size:w'.heap.size=w.heap.size
 other:∀ k,k≠b→w'.heap[k]? = w.heap[k]?
theorem Part.cell {b:Nat} {w w':World} (h:Part b w w') {a:Addr} (ha:a.block≠b):w'.cell? a=w.cell? a:=by
 simp [World.cell?,h.other _ ha]
theorem oH {b:Nat} {w w':World} (hp:Part b w w') (hb:G.lim b=none):Evo G w G w' where
 loc _ _ h:=h
 lim c L e:=⟨L,e,Nat.le_refl _,fun k _=>hp.cell (fun e'=>by simp at e';rw [e',hb] at e;cases e)⟩
 tok t b n c h:=⟨b,n,c,h,Nat.le_refl _,fun _=>⟨rfl,rfl⟩⟩
 own _ _ _ _ h:=h
 defs _ h:=h
 B0:=rfl
 h0:=rfl
 os:=hp.os
 tape:=hp.tape
 output:=hp.output
 size:=Nat.le_of_eq hp.size.symm
 res _ _ h:=h
theorem RelS.write {b id:Nat} {w':World} {x y:ABlk} (h:RelS P hh G w σ) (hl:G.loc id=some b) (hp:Part b w w') (hx:σ[id]? = some x) (ht:∀ a b c,x≠.tok a b c)
  (hr:iC P hh G w' y b):RelS P hh G w' (σ.set id y)∧Evo G w G w':=by
 obtain ⟨f1,f2,f3,f4⟩:=h.fresh _ _ hl
 have he:=oH hp f3
 refine ⟨⟨fun i c e=>by have:=h.lt i c e;simpa using this,fun i c z e1 e2=>?_,h.inj,fun i c e=>?_,fun c L e=>?_,fun t c n k e=>?_,fun c t e=>?_,fun r e=>?_,fun c hc=>?_,?_,fun i r e=>?_⟩,he⟩
 ·by_cases hi:i=id
  ·subst hi
   rw [hl] at e1
   cases e1
   rw [List.getElem?_set_self (h.lt _ _ hl)] at e2
   cases e2
   exact hr
  ·rw [List.getElem?_set_ne (fun e=>hi e.symm)] at e2
   refine (h.blk i c z e1 e2).mono he (hp.other _ fun e=>hi ?_)
   subst e
   exact h.inj _ _ _ e1 hl
 ·obtain ⟨a,b,c⟩:=h.fresh i c e
  exact ⟨a,by rw [hp.size];exact b,c⟩
 ·obtain ⟨vs,T,fr,q,l⟩:=h.lim c L e
  refine ⟨vs,T,fr,?_,l⟩
  rw [hp.other _ fun e'=>by rw [e',f3] at e;cases e]
  exact q
 ·obtain ⟨sz,ex,q1,q2,q3,q4⟩:=h.tok t c n k e
  refine ⟨sz,ex,?_,q2,q3,fun hx'=>?_⟩
  ·rw [List.getElem?_set_ne]
   ·exact q1
   ·intro e'
    subst e'
    rw [hx] at q1
    cases q1
    exact ht _ _ _ rfl
  ·obtain ⟨bb,vs,T,r1,r2,r3,r4,r5,r6⟩:=q4 hx'
   refine ⟨bb,vs,T,r1,r2,r3,r4,?_,r6⟩
   rw [hp.other _ fun e'=>by rw [e',f3] at r3;cases r3]
   exact r5
 ·obtain ⟨q1,q2⟩:=h.own c t e
  exact ⟨by rw [hp.size];exact q1,q2⟩
 ·obtain ⟨q1,q2,q3⟩:=h.defs r e
  refine ⟨?_,q2,q3⟩
  rw [hp.other _ fun e'=>by rw [e'] at e;exact f4 e]
  exact q1
 ·rw [hp.other _ (by omega)]
  exact h.base c hc
 ·rw [hp.size];exact h.size
 ·obtain ⟨q1,q2,q3⟩:=h.res i r e
  have hi:i≠id:=fun hi=>by subst hi;rw [hl] at q1;cases q1
  exact ⟨q1,by simpa using q2,fun cs hc=>by rw [List.getElem?_set_ne (Ne.symm hi)];exact q3 cs hc⟩
theorem zM (w:World) (g:Nat) (cs:Array Value):Part g w (w.setRow g cs) :=
 ⟨rfl,rfl,rfl,by simp,fun k hk=>setRow_other w g k cs fun e=>hk (e▸rfl)⟩
theorem k8 (w:World) (g:Nat) (o:Obj):Part g w { w with heap:=w.heap.setIfInBounds g o } :=
 ⟨rfl,rfl,rfl,by simp,fun k hk=>by simp [Array.getElem?_setIfInBounds_ne (Ne.symm hk)]⟩
end Go.Am
namespace Go.Am
variable {P:Program} {hh:String→Bool} {G:Gh} {w:World} {σ:St} {env:Env}
theorem wP {v:Value} {a:AV} (h:wG v=some a):RelV G w a v:=by
 unfold wG at h
 split at h<;>first|cases h|skip
 ·exact .bool _
 ·exact .int _ _
 ·exact .str _
 ·exact .nilPtr
 ·exact .nil ⟨Nat.le_refl _,fun _=>rfl,fun t e=>by cases e⟩ fun _=>rfl
 ·exact .nilMap
 ·exact .nilFunc
theorem u3:∀ {vs:List Value} {az:List AV},qH vs=some az→vs.length=az.length∧∀ (i:Nat) (a:AV) (v:Value),az[i]? = some a→vs[i]? = some v→RelV G w a v
 |[],az,h=>by simp [qH] at h;subst h;exact ⟨rfl,fun i a v h=>by simp at h⟩
 |v::vs,az,h=>by
  simp only [qH] at h
  split at h
  ·rename_i a b h1 h2
   cases h
   obtain ⟨l,r⟩:=u3 h2
   refine ⟨by simp [l],fun i x u hx hu=>?_⟩
   cases i with
   |zero=>simp at hx hu;subst hx;subst hu;exact wP h1
   |succ i=>simp at hx hu;exact r i x u hx hu
  ·cases h
theorem tU {v:Value} {a:AV} (h:ofValue v=some a):RelV G w a v:=by
 unfold ofValue at h
 split at h
 ·rename_i cs
  split at h
  ·rename_i l hl
   cases h
   obtain ⟨q,r⟩:=u3 hl
   exact .agg (by simpa using q) fun i a v h1 h2=>r i a v h1 (by simpa using h2)
  ·cases h
 ·rename_i vs
  split at h
  ·rename_i hs
   cases h
   exact .tuple (by simpa using hs) fun i a v h1 _=>by simp at h1
  ·cases h
 ·exact wP h
theorem cZ {n:Nat} {a:Act} {x:Operand} {x':AOpd} (hx:opd x=some x') (hE:fK G w n env a.tmps):RelV G w (x'.ev env) (a.eval x):=by
 cases x with
 |tmp t=>simp [opd] at hx;subst hx;exact hE.2 t
 |const v =>
  simp only [opd] at hx
  split at hx
  ·rename_i b hb;cases hx;exact tU hb
  ·cases hx
 |global g=>simp [opd] at hx
 |func f=>simp [opd] at hx;subst hx;exact .func rfl rfl (fun i a v h=>by simp at h) (fun i a v h=>by simp at h)
theorem LR {n:Nat} {a:Act}:∀ {xs:List Operand} {ys:List AOpd},BJ xs=some ys→fK G w n env a.tmps →
  xs.length=ys.length∧∀ (i:Nat) (y:AV) (v:Value),(ys.map (·.ev env))[i]? = some y→(xs.map a.eval)[i]? = some v→RelV G w y v
 |[],ys,h,_=>by simp [BJ] at h;subst h;exact ⟨rfl,fun i a v h=>by simp at h⟩
 |x::xs,ys,h,hE=>by
  simp only [BJ] at h
  split at h
  ·rename_i a b h1 h2
   cases h
   obtain ⟨l,r⟩:=LR h2 hE
   refine ⟨by simp [l],fun i y u hy hu=>?_⟩
   cases i with
   |zero=>simp at hy hu;subst hy;subst hu;exact cZ h1 hE
   |succ i=>simp only [List.map_cons,List.getElem?_cons_succ] at hy hu;exact r i y u hy hu
  ·cases h
theorem fN {t:TypeId} {n:Nat} (h:fT P t=some n) (w:World):(sizeOf t).run P w = .ok n w∧0<n∧∃ i,P.info? t=some i∧i.size=n:=by
 unfold fT at h
 split at h
 ·rename_i i hi
  split at h
  ·cases h
  ·cases h
   exact ⟨by simp [sizeOf,typeInfo,hi],by omega,i,hi,rfl⟩
 ·cases h
theorem lA {t:TypeId} {b:Bool} (h:fS P t=some b) (w:World):(isAgg t).run P w = .ok b w:=by
 unfold fS at h
 unfold isAgg
 split at h
 ·rename_i hu;cases h;simp [run_underlying hu]
 ·rename_i hu;cases h;simp [run_underlying hu]
 ·rename_i d h1 h2 hu
  cases h
  rw [Sem.run_bind,run_underlying hu]
  cases d<;>simp_all
 ·cases h
theorem rG {t:TypeId} {sh:Option Nat} (h:oX P t=some sh) :
  (sh=none∧fS P t=some false∧fT P t=some 1)∨(∃ n,sh=some n∧fS P t=some true∧fT P t=some n):=by
 unfold oX at h
 split at h
 ·rename_i n h1 h2;cases h;exact .inr ⟨n,rfl,h1,h2⟩
 ·rename_i h1 h2;cases h;exact .inl ⟨rfl,h1,h2⟩
 ·cases h
theorem kB (b o i:Nat):(⟨b,o,none⟩:Addr).add i=⟨b,o+i,none⟩:=by unfold Addr.add;split<;>simp_all
def wC (G:Gh) (w:World) (cs:List AV) (b o:Nat):Prop :=
 ∀ (i:Nat) (c:AV),cs[i]? = some c→∃ u,w.cell? ⟨b,o+i,none⟩=some u∧RelV G w c u
theorem wC.list {cs:List AV} {b o:Nat} (h:wC G w cs b o) :
  ∃ vs:List Value,vs.length=cs.length∧(∀ (j:Nat) (v:Value),vs[j]? = some v→w.cell? ((⟨b,o,none⟩:Addr).add j)=some v) ∧
   ∀ (i:Nat) (c:AV) (v:Value),cs[i]? = some c→vs[i]? = some v→RelV G w c v:=by
 induction cs generalizing o with
 |nil=>exact ⟨[],rfl,fun j v h=>by simp at h,fun i c v h=>by simp at h⟩
 |cons c cs ih =>
  obtain ⟨u,hu,hr⟩:=h 0 c rfl
  obtain ⟨vs,l,h1,h2⟩:=ih (o:=o+1) fun i d hd=>by
   obtain ⟨u,q,r⟩:=h (i+1) d (by simpa using hd)
   exact ⟨u,by rw [show o+1+i=o+(i+1) from by omega];exact q,r⟩
  refine ⟨u::vs,by simp [l],fun j v hj=>?_,fun i d v hd hv=>?_⟩
  ·cases j with
   |zero=>simp at hj;subst hj;rw [kB];exact hu
   |succ j=>simp at hj;have:=h1 j v hj;rw [kB] at this ⊢;rw [show o+(j+1)=o+1+j from by omega];exact this
  ·cases i with
   |zero=>simp at hd hv;subst hd;subst hv;exact hr
   |succ i=>simp at hd hv;exact h2 i d v hd hv
theorem wC.sub {cs:List AV} {b o:Nat} (h:wC G w cs b o) (k n:Nat):wC G w ((cs.drop k).take n) b (o+k):=by
 intro i c hc
 rw [List.getElem?_take] at hc
 split at hc
 ·rw [List.getElem?_drop] at hc
  obtain ⟨u,q,r⟩:=h _ _ hc
  exact ⟨u,by rw [Nat.add_assoc];exact q,r⟩
 ·cases hc
theorem zC {t:TypeId} {sh:Option Nat} {cs:List AV} {b o off:Nat} {v:AV} (ht:oX P t=some sh) (hr:wC G w cs b o) (hv:gJ sh cs off=some v) :
  ∃ u,(loadVar t ⟨b,o+off,none⟩).run P w = .ok u w∧RelV G w v u:=by
 rcases rG ht with ⟨rfl,h1,h2⟩|⟨n,rfl,h1,h2⟩
 ·simp only [gJ] at hv
  obtain ⟨u,hu,r⟩:=hr _ _ hv
  refine ⟨u,?_,r⟩
  simp [loadVar,lA h1,run_load,hu]
 ·simp only [gJ] at hv
  split at hv
  ·rename_i hle
   cases hv
   obtain ⟨vs,l,h3,h4⟩:=(hr.sub off n).list
   have hl:vs.length=n:=by rw [l];simp;omega
   have hrun:=run_loadCells_list (P:=P) w ⟨b,o+off,none⟩ vs h3
   rw [hl] at hrun
   obtain ⟨hs,_⟩:=fN h2 w
   refine ⟨.agg vs.toArray,?_,.agg (by simp [l]) fun i a v e1 e2=>h4 i a v e1 (by simpa using e2)⟩
   simp [loadVar,lA h1,hs,hrun]
  ·cases hv
theorem pR {id:Nat} {cs:List AV} {b:Nat} (h:RelS P hh G w σ) (hl:G.loc id=some b) (hc:aM σ id=some cs):wC G w cs b 0:=by
 unfold aM at hc
 split at hc
 ·rename_i ds he
  cases hc
  obtain ⟨vs,T,e,l,r⟩:=h.blk _ _ _ hl he
  intro i c hi
  have h1:i<vs.size:=by have:=(List.getElem?_eq_some_iff.1 hi).1;omega
  refine ⟨vs[i],?_,r i c _ hi (Array.getElem?_eq_getElem h1)⟩
  rw [Nat.zero_add,cell_of_row w b i vs T (0,0) e]
  exact Array.getElem?_eq_getElem h1
 ·cases hc
theorem NE {xs:List AV} {tk:Option Nat} {b o sz i:Nat} {x:AV} (hl:LitAt G w xs tk b o sz)
  (hc:∀ (i:Nat) (x:AV) (j:Nat) (c:AV) (u:Value),xs[i]? = some x→x.cells[j]? = some c→w.cell? ⟨b,o+(i*sz+j),none⟩=some u→RelV G w c u)
  (hx:xs[i]? = some x):wC G w x.cells b (o+i*sz):=by
 intro j c hj
 have h1:=hl.cells _ (hl.cellOf hx hj)
 obtain ⟨u,hu⟩:=Option.isSome_iff_exists.1 h1
 exact ⟨u,by rw [Nat.add_assoc];exact hu,hc i x j c u hx hj hu⟩
theorem xI {t:TypeId} {sh:Option Nat} {x v:AV} {u:Value} (hS:RelS P hh G w σ) (ht:oX P t=some sh) (hx:RelV G w x u) (h:mC sh σ x=some v) :
  ∃ a r,u = .pointer (some a)∧(loadVar t a).run P w = .ok r w∧RelV G w v r:=by
 unfold mC at h
 split at h
 ·rename_i id off
  split at h
  ·rename_i cs hcs
   cases hx with
   |ptr hl =>
    obtain ⟨r,h1,h2⟩:=zC ht (pR hS hl hcs) h
    rw [Nat.zero_add] at h1
    exact ⟨_,r,rfl,h1,h2⟩
  ·cases h
 ·rename_i xs i off tk
  split at h
  ·rename_i y hy
   cases hx with
   |lptr h1 h2 h3 h4 =>
    obtain ⟨r,q1,q2⟩:=zC ht (NE h3 h4 hy) h
    exact ⟨_,r,rfl,q1,q2⟩
  ·cases h
 ·cases h
theorem pV {cs vs cs':List AV} {off:Nat} (h:gY cs off vs=some cs') :
  off+vs.length≤cs.length∧cs'=cs.take off++vs++cs.drop (off+vs.length)∧cs'.length=cs.length:=by
 unfold gY at h
 split at h
 ·rename_i hl
  cases h
  exact ⟨hl,rfl,by simp;omega⟩
 ·cases h
theorem KY {cs vs:List AV} {cur us:List Value} {off:Nat} (hl:us.length=vs.length) (hle:off+vs.length≤cs.length) (hcur:cs.length≤cur.length)
  (h1:∀ (i:Nat) (a:AV) (v:Value),cs[i]? = some a→cur[i]? = some v→RelV G w a v) (h2:∀ (i:Nat) (a:AV) (v:Value),vs[i]? = some a→us[i]? = some v→RelV G w a v) :
  ∀ (i:Nat) (a:AV) (v:Value),(cs.take off++vs++cs.drop (off+vs.length))[i]? = some a→(cur.take off++us++cur.drop (off+us.length))[i]? = some v→RelV G w a v:=by
 intro i a v ha hv
 by_cases c1:i<off
 ·rw [List.append_assoc,List.getElem?_append_left (by simp;omega),List.getElem?_take,if_pos c1] at ha hv
  exact h1 i a v ha hv
 ·by_cases c2:i<off+vs.length
  ·rw [List.append_assoc,List.getElem?_append_right (by simp;omega),List.getElem?_append_left (by simp;omega)] at ha hv
   simp only [List.length_take] at ha hv
   rw [show min off cs.length=off from by omega] at ha
   rw [show min off cur.length=off from by omega] at hv
   exact h2 _ a v ha hv
  ·rw [List.getElem?_append_right (by simp;omega)] at ha hv
   simp only [List.length_append,List.length_take,List.getElem?_drop] at ha hv
   rw [show off+vs.length+(i-(min off cs.length+vs.length))=i from by omega] at ha
   rw [show off+us.length+(i-(min off cur.length+us.length))=i from by omega] at hv
   exact h1 i a v ha hv
theorem tC {id b off:Nat} {cs cs' vs:List AV} {us:List Value} (hS:RelS P hh G w σ) (hl:G.loc id=some b) (hc:aM σ id=some cs) (hset:gY cs off vs=some cs')
  (hlen:us.length=vs.length) (hr:∀ (i:Nat) (a:AV) (v:Value),vs[i]? = some a→us[i]? = some v→RelV G w a v) (h1:∀ u∈us,u.oneCell'=true) :
  ∃ w',(storeCells ⟨b,off,none⟩ us).run P w = .ok () w'∧RelS P hh G w' (σ.set id (.cells cs'))∧Evo G w G w':=by
 unfold aM at hc
 split at hc
 ·rename_i ds he
  cases hc
  obtain ⟨cur,T,e,l,r⟩:=hS.blk _ _ _ hl he
  obtain ⟨q1,q2,q3⟩:=pV hset
  have hrun:=run_storeCells_at P b off T us 0 cur w e (by omega) h1
  rw [Nat.add_zero] at hrun
  refine ⟨_,hrun,?_⟩
  have hp:=zM w b (cur.toList.take off++us++cur.toList.drop (off+us.length)).toArray
  have hev:=oH hp (hS.fresh _ _ hl).2.2.1
  refine hS.write hl hp he (fun _ _ _ h=>by cases h) ⟨_,T,setRow_heap w b cur _ T _ e,?_,fun i a v ha hv=>?_⟩
  ·simp;omega
  ·refine RelV.mono hev ?_
   rw [q2] at ha
   exact KY (cs:=_) (cur:=cur.toList) hlen q1 (by simpa using l) (fun i a v h3 h4=>r i a v h3 (by simpa using h4)) hr i a v ha (by simpa using hv)
 ·cases hc
theorem C9 {t:TypeId} {n:Nat} {x y:AV} {u v:Value} {σ':St} (hS:RelS P hh G w σ) (ht:fT P t=some n) (hx:RelV G w x u) (hy:RelV G w y v) (h:o9 n σ x y=some σ') :
  ∃ a w',u = .pointer (some a)∧(storeVar t a v).run P w = .ok () w'∧RelS P hh G w' σ'∧Evo G w G w':=by
 unfold o9 at h
 split at h
 ·rename_i id off
  split at h
  ·rename_i hcond
   simp only [Bool.and_eq_true,beq_iff_eq] at hcond
   split at h
   ·rename_i cs hcs
    split at h
    ·rename_i cs' hset
     cases h
     cases hx with
     |ptr hl =>
      obtain ⟨k1,k2,k3⟩:=hy.cells hcond.2
      obtain ⟨w',e1,e2,e3⟩:=tC (us:=v.cells.toList) hS hl hcs hset (by simpa using k1) (fun i a v h3 h4=>k2 i a v h3 (by simpa using h4)) k3
      refine ⟨_,w',rfl,?_,e2,e3⟩
      obtain ⟨hs,_⟩:=fN ht w
      have hne:¬v.cells.size≠n:=by rw [k1,hcond.1];simp
      simp only [storeVar,Sem.run_bind,hs,Result.andThen_ok,hne,if_false]
      exact e1
    ·cases h
   ·cases h
  ·cases h
 ·cases h
end Go.Am
namespace Go.Am
variable {P:Program} {hh:String→Bool} {G:Gh} {w:World} {σ σ':St} {env:Env}
def wO (P:Program) (hh:String→Bool) (G:Gh) (w:World) (v:AV) (σ':St) (r:Result Next):Prop :=
 ∃ nx w' G',r = .ok nx w'∧((∃ u,nx = .value u∧RelV G' w' v u)∨(nx = .skip∧v = .tuple []))∧RelS P hh G' w' σ'∧Evo G w G' w'
theorem wO.val {v:AV} {u:Value} (hS:RelS P hh G w σ) (h:RelV G w v u):wO P hh G w v σ (.ok (.value u) w) :=
 ⟨_,w,G,rfl,.inl ⟨u,rfl,h⟩,hS,.refl _ _⟩
theorem BR {t:TypeId} {z:AV} (h:G9 P t=some z):∃ i v,P.info? t=some i∧i.zero=some v∧ofValue v=some z∧∀ w,(zeroValue t).run P w = .ok v w:=by
 unfold G9 at h
 split at h
 ·rename_i i hi
  split at h
  ·rename_i v hv
   exact ⟨i,v,hi,hv,h,fun w=>by simp [zeroValue,typeInfo,hi,hv]⟩
  ·cases h
 ·cases h
theorem jA {t:TypeId} {z:List AV} (h:gC P t=some z) :
  ∃ i v,P.info? t=some i∧i.zero=some v∧i.size=z.length∧0<z.length∧(∀ w,(zeroValue t).run P w = .ok v w)∧v.cells.size=z.length∧z.all (·.cell)=true ∧
   ∀ G w,(∀ (i:Nat) (x:AV) (u:Value),z[i]? = some x→v.cells[i]? = some u→RelV G w x u)∧∀ u∈v.cells.toList,u.oneCell'=true:=by
 unfold gC at h
 split at h
 ·rename_i y n h1 h2
  split at h
  ·rename_i hc
   cases h
   obtain ⟨i,v,hi,hz,hv,hrun⟩:=BR h1
   obtain ⟨_,hn,j,hj,hjs⟩:=fN (P:=P) h2 default
   rw [hi] at hj
   cases hj
   have hr:∀ G w,RelV G w y v:=fun G w=>tU hv
   have hcells:=fun G w=>(hr G w).cells hc.2
   refine ⟨i,v,hi,hz,by rw [hjs,hc.1],by rw [hc.1];exact hn,hrun,(hcells ⟨fun _=>none,fun _=>none,fun _=>none,fun _=>none,fun _=>False,0,#[],fun _=>none⟩ default).1,hc.2,fun G w=>⟨(hcells G w).2.1,(hcells G w).2.2⟩⟩
  ·cases h
 ·cases h
theorem ED {t:TypeId} {z:List AV} (h:gC P t=some z) (w:World) :
  ∃ vs:Array Value,(Instr.alloc t true (.tuple #[])).run P w = .ok (.pointer (some ⟨w.heap.size,0,none⟩)) (w.alloc (.cells vs t))∧vs.size=z.length ∧
   ∀ G w,(∀ (i:Nat) (x:AV) (u:Value),z[i]? = some x→vs[i]? = some u→RelV G w x u):=by
 obtain ⟨i,v,hi,hz,hs,h0,hrun,hsz,hcell,hr⟩:=jA h
 exact ⟨v.cells,by simp [Instr.alloc,hrun,newVar,newRow],hsz,fun G w=>(hr G w).1⟩
theorem DF {cs:List AV} {vs:Array Value} {T:TypeId} (hl:cs.length≤vs.size) (hr:∀ (i:Nat) (x:AV) (u:Value),cs[i]? = some x→vs[i]? = some u→RelV G (w.alloc (.cells vs T)) x u) :
  iC P hh G (w.alloc (.cells vs T)) (.cells cs) w.heap.size :=
 ⟨vs,T,by rw [eN,if_pos rfl],hl,hr⟩
theorem sN {cs:List AV} {vs:Array Value} {T:TypeId} (hS:RelS P hh G w σ) (hl:cs.length≤vs.size) (hr:∀ (i:Nat) (x:AV) (u:Value),cs[i]? = some x→vs[i]? = some u→RelV G w x u) :
  RelS P hh (G.withLoc σ.length w.heap.size) (w.alloc (.cells vs T)) (σ++[.cells cs])∧Evo G w (G.withLoc σ.length w.heap.size) (w.alloc (.cells vs T)):=by
 have he:=(lB hS (.cells vs T)).trans (m9 (b:=w.heap.size) (tJ hS (Nat.le_refl _)))
 exact hS.new (DF hl fun i x u h1 h2=>(hr i x u h1 h2).mono he)
theorem fB {id b:Nat}:(G.withLoc id b).loc id=some b:=by simp [Gh.withLoc]
theorem MN (vs:List Value):∀ (k:Nat) (cs:Array Value) (off:Nat),off+k+vs.length≤cs.size →
  ((vs.zipIdx k).foldl (fun cs (p:Value×Nat)=>cs.setIfInBounds (off+p.2) p.1) cs).toList=cs.toList.take (off+k)++vs++cs.toList.drop (off+k+vs.length):=by
 induction vs with
 |nil=>intro k cs off h;simp
 |cons v vs ih =>
  intro k cs off h
  simp only [List.zipIdx_cons,List.foldl_cons]
  rw [ih (k+1) _ off (by simp at h ⊢;omega),Array.toList_setIfInBounds]
  have e:=list_seg_step cs.toList (off+k) v vs (by simp at h ⊢;omega)
  simpa [Nat.add_assoc] using e
theorem D1 {place:Nat→Option (Nat×Nat)} {cells:Array Value} {i off n:Nat} {v:Value} {rest:List (Nat×Value)} (hp:place i=some (off,n)) (hn:v.cells.size=n) (hle:off+n≤cells.size) :
  Instr.fill place cells ((i,v)::rest)=Instr.fill place (cells.toList.take off++v.cells.toList++cells.toList.drop (off+n)).toArray rest:=by
 have h1:¬(v.cells.size≠n∨cells.size<off+v.cells.size):=by omega
 have h2:=MN v.cells.toList 0 cells off (by simp;omega)
 simp only [Instr.fill,hp]
 rw [if_neg (by simpa using h1)]
 congr 1
 apply Array.ext'
 rw [←Array.foldl_toList]
 simp only [Array.toList_zipIdx]
 rw [h2]
 simp [hn]
theorem vX {t:TypeId} {place:Nat→Option (Nat×Nat)} {n:Nat} {a:Act} (hE:fK G w n env a.tmps)
  (hplace:∀ i off m,(match P.underlying t with
   |some (.struct fs)=>match fs[i]? with|some f=>(match fT P f.type with|some n=>some (f.offset,n)|none=>none)|none=>none
   |some (.array n e)=>if i<n then (match fT P e with|some m=>some (i*m,m)|none=>none) else none
   |_=>none)=some (off,m)→place i=some (off,m)) :
  ∀ {ops:List (Nat×Operand)} {ps:List (Nat×Nat×AOpd)} {cs cs':List AV} {vs:Array Value},mN P t ops=some ps→cY env cs ps=some cs'→cs.length=vs.size →
   (∀ (i:Nat) (x:AV) (u:Value),cs[i]? = some x→vs[i]? = some u→RelV G w x u) →
   ∃ vs',Instr.fill place vs (ops.map fun p=>(p.1,a.eval p.2))=some vs'∧cs'.length=vs'.size∧∀ (i:Nat) (x:AV) (u:Value),cs'[i]? = some x→vs'[i]? = some u→RelV G w x u
 |[],ps,cs,cs',vs,h1,h2,h3,h4=>by
  simp [mN] at h1
  subst h1
  simp [cY] at h2
  subst h2
  exact ⟨vs,rfl,h3,h4⟩
 |(i,x)::ops,ps,cs,cs',vs,h1,h2,h3,h4=>by
  simp only [mN] at h1
  split at h1
  ·rename_i off m b r hp hx hr
   cases h1
   simp only [cY] at h2
   split at h2
   ·rename_i hc
    simp only [Bool.and_eq_true,beq_iff_eq] at hc
    split at h2
    ·rename_i ds hset
     obtain ⟨q1,q2,q3⟩:=pV hset
     have hv:=cZ (x:=x) hx hE
     obtain ⟨k1,k2,k3⟩:=hv.cells hc.2
     have hsz:(a.eval x).cells.size=m:=by rw [k1,hc.1]
     have hle:off+m≤vs.size:=by rw [hc.1] at q1;omega
     have hrel:=KY (cs:=cs) (vs:=(b.ev env).cells) (cur:=vs.toList) (us:=(a.eval x).cells.toList) (G:=G) (w:=w) (off:=off) (by simpa using k1) q1 (by simp;omega)
      (fun i a v e1 e2=>h4 i a v e1 (by simpa using e2)) (fun i a v e1 e2=>k2 i a v e1 (by simpa using e2))
     simp only [List.map_cons]
     rw [D1 (hplace _ _ _ hp) hsz hle]
     refine vX hE hplace hr h2 ?_ ?_
     ·rw [q3];simp;omega
     ·intro i y u e1 e2
      rw [q2] at e1
      refine hrel i y u e1 ?_
      simpa [hsz] using e2
    ·cases h2
   ·cases h2
  ·cases h1
theorem zR {w:World}:∀ {fs:List Field},fs.all (fun f=>(P.info? f.type).isSome)=true →
  (fs.mapM (fun f=>do pure (f.offset,←sizeOf f.type)):Sem (List (Nat×Nat))).run P w = .ok (fs.map fun f=>(f.offset,P.cellsOf f.type)) w
 |[],_=>by simp
 |f::fs,h=>by
  simp only [List.all_cons,Bool.and_eq_true] at h
  obtain ⟨i,hi⟩:=Option.isSome_iff_exists.1 h.1
  have ih:=zR (w:=w) h.2
  simp only [List.mapM_cons,Sem.run_bind,sizeOf,typeInfo,run_program,Result.andThen_ok,hi,Sem.run_pure]
  simp only [sizeOf,typeInfo] at ih
  rw [ih]
  simp [Program.cellsOf,hi]
theorem IA {t:TypeId} {n:Nat} {a:Act} {parts:Array (Nat×Operand)} {z cs:List AV} {ps:List (Nat×Nat×AOpd)} (hS:RelS P hh G w σ) (hE:fK G w n env a.tmps)
  (hz:gC P t=some z) (hf:AR P t=true) (hp:mN P t parts.toList=some ps) (hb:cY env z ps=some cs) :
  ∃ u,(Instr.build t (parts.map fun (i,x)=>(i,a.eval x))).run P w = .ok u w∧RelV G w (.agg cs) u:=by
 obtain ⟨i,v,hi,hzv,hs,h0,hrun,hsz,hcell,hr⟩:=jA hz
 have hlist:(parts.map fun (i,x)=>(i,a.eval x)).toList=parts.toList.map fun p=>(p.1,a.eval p.2):=by simp
 unfold AR at hf
 cases hu:P.underlying t with
 |none=>simp [hu] at hf
 |some d =>
  cases d<;>simp only [hu] at hf<;>try (cases hf;done)
  case array len e =>
   obtain ⟨ie,hie⟩:=Option.isSome_iff_exists.1 hf
   have hpl:∀ i off m,(match P.underlying t with
     |some (.struct fs)=>match fs[i]? with|some f=>(match fT P f.type with|some n=>some (f.offset,n)|none=>none)|none=>none
     |some (.array n e)=>if i<n then (match fT P e with|some m=>some (i*m,m)|none=>none) else none
     |_=>none)=some (off,m)→(fun i=>some (i*ie.size,ie.size)) i=some (off,m):=by
    intro i off m h
    simp only [hu] at h
    split at h
    ·cases hse:fT P e with
     |none=>simp [hse] at h
     |some q =>
      simp only [hse] at h
      cases h
      have:ie.size=m:=by
       unfold fT at hse
       simp only [hie] at hse
       split at hse
       ·cases hse
       ·cases hse;rfl
      simp [this]
    ·cases h
   obtain ⟨vs',e1,e2,e3⟩:=vX hE hpl hp hb hsz.symm (hr G w).1
   refine ⟨.agg vs',?_,.agg e2.symm e3⟩
   simp only [Instr.build,Sem.run_bind,hrun,Result.andThen_ok,run_underlying hu,sizeOf,typeInfo,run_program,hie,Sem.run_pure,hlist,e1]
  case struct fs =>
   have hpl:∀ i off m,(match P.underlying t with
     |some (.struct fs)=>match fs[i]? with|some f=>(match fT P f.type with|some n=>some (f.offset,n)|none=>none)|none=>none
     |some (.array n e)=>if i<n then (match fT P e with|some m=>some (i*m,m)|none=>none) else none
     |_=>none)=some (off,m)→(fun i=>(fs.map fun f=>(f.offset,P.cellsOf f.type))[i]?) i=some (off,m):=by
    intro i off m h
    simp only [hu] at h
    split at h
    ·rename_i f hfi
     split at h
     ·rename_i k hk
      cases h
      have:P.cellsOf f.type=m:=by
       obtain ⟨_,_,j,hj,hjs⟩:=fN (P:=P) hk default
       simp [Program.cellsOf,hj,hjs]
      simp [hfi,this]
     ·cases h
    ·cases h
   obtain ⟨vs',e1,e2,e3⟩:=vX hE hpl hp hb hsz.symm (hr G w).1
   refine ⟨.agg vs',?_,.agg e2.symm e3⟩
   have hm:=zR (P:=P) (w:=w) hf
   have hm':(fs.mapM (fun f=>do pure (f.offset,←sizeOf f.type)):Sem (Array (Nat×Nat))).run P w = .ok (fs.map fun f=>(f.offset,P.cellsOf f.type)) w:=by
    rw [Array.mapM_eq_mapM_toList,Sem.run_map,hm,Result.andThen_ok]
    congr 1
    apply Array.ext'
    simp
   simp only [Instr.build,Sem.run_bind,hrun,Result.andThen_ok,run_underlying hu,hm',hlist,e1,Sem.run_pure]
end Go.Am
namespace Go.Am
variable {P:Program} {hh:String→Bool} {G:Gh} {w:World} {σ σ':St} {env:Env}
theorem rH {n:Nat} {xs:List AV} (h:aL n xs=true) {x:AV} (hx:x∈xs):x.cells.length=n∧x.cells.all (·.cell)=true:=by
 have:=List.all_eq_true.1 h x hx
 simp only [Bool.and_eq_true,beq_iff_eq] at this
 exact this
theorem lM {n:Nat} {xs:List AV} (h:aL n xs=true) {i:Nat} {x:AV} (hx:xs[i]? = some x):x.cells.length=n∧x.cells.all (·.cell)=true :=
 rH h (List.mem_of_getElem? hx)
theorem jD {n:Nat} {x:AV} {xs:List AV} (h:aL n (x::xs)=true):(x.cells.length=n∧x.cells.all (·.cell)=true)∧aL n xs=true :=
 ⟨rH h (by simp),by simp only [aL,List.all_cons,Bool.and_eq_true] at h ⊢;exact h.2⟩
theorem sG {n:Nat} {xs ys:List AV}:aL n (xs++ys)=true↔aL n xs=true∧aL n ys=true:=by
 simp [aL,List.all_append]
theorem JN {x:AV} (h:x.cell=true):x.cells=[x]:=by cases x<;>first|rfl|simp [AV.cell] at h
theorem fW {n:Nat}:∀ {xs:List AV},aL n xs=true→(xs.flatMap AV.cells).length=xs.length*n
 |[],_=>by simp
 |x::xs,h=>by
  obtain ⟨h1,h2⟩:=jD h
  simp only [List.flatMap_cons,List.length_append,h1.1,fW h2,List.length_cons,Nat.add_mul]
  omega
theorem v8 {n:Nat}:∀ {xs:List AV},aL n xs=true→∀ {i j:Nat} {x c:AV},xs[i]? = some x→x.cells[j]? = some c→(xs.flatMap AV.cells)[i*n+j]? = some c
 |[],_,i,j,x,c,hx,_=>by simp at hx
 |y::xs,h,i,j,x,c,hx,hc=>by
  obtain ⟨h1,h2⟩:=jD h
  simp only [List.flatMap_cons]
  cases i with
  |zero =>
   simp at hx
   subst hx
   rw [Nat.zero_mul,Nat.zero_add,List.getElem?_append_left (List.getElem?_eq_some_iff.1 hc).1]
   exact hc
  |succ i =>
   simp at hx
   rw [List.getElem?_append_right (by rw [h1.1,Nat.add_mul];omega),h1.1,show (i+1)*n+j-n=i*n+j from by rw [Nat.add_mul];omega]
   exact v8 h2 hx hc
theorem H8 {n:Nat}:∀ {xs:List AV},aL n xs=true→∀ {p:Nat} {c:AV},(xs.flatMap AV.cells)[p]? = some c→∃ i j x,xs[i]? = some x∧x.cells[j]? = some c∧p=i*n+j
 |[],_,p,c,hp=>by simp at hp
 |y::xs,h,p,c,hp=>by
  obtain ⟨h1,h2⟩:=jD h
  simp only [List.flatMap_cons] at hp
  by_cases hlt:p<n
  ·rw [List.getElem?_append_left (by omega)] at hp
   exact ⟨0,p,y,rfl,hp,by omega⟩
  ·rw [List.getElem?_append_right (by omega),h1.1] at hp
   obtain ⟨i,j,x,e1,e2,e3⟩:=H8 h2 hp
   exact ⟨i+1,j,x,by simpa using e1,e2,by rw [Nat.add_mul];omega⟩
theorem TK {n:Nat} {xs:List AV} (h:aL n xs=true):∀ c∈xs.flatMap AV.cells,c.cell=true:=by
 intro c hc
 obtain ⟨x,hx,hcx⟩:=List.mem_flatMap.1 hc
 exact List.all_eq_true.1 (rH h hx).2 c hcx
theorem DT {sz n:Nat} {a:Act} (hE:fK G w n env a.tmps):∀ {parts:List (Nat×Operand)} {k:Nat} {xs:List AOpd} {vs:Array Value},
  mO k parts=some xs→aL sz (xs.map (·.ev env))=true→(k+xs.length)*sz≤vs.size →
  ∃ vs',Instr.fill (fun i=>some (i*sz,sz)) vs (parts.map fun p=>(p.1,a.eval p.2))=some vs'∧vs'.size=vs.size∧(∀ p,p<k*sz→vs'[p]? = vs[p]?) ∧
   ∀ (p:Nat) (c:AV) (u:Value),((xs.map (·.ev env)).flatMap AV.cells)[p]? = some c→vs'[k*sz+p]? = some u→RelV G w c u
 |[],k,xs,vs,h1,h2,h3=>by
  simp [mO] at h1
  subst h1
  exact ⟨vs,rfl,rfl,fun _ _=>rfl,fun p c u h=>by simp at h⟩
 |(i,x)::parts,k,xs,vs,h1,h2,h3=>by
  simp only [mO] at h1
  split at h1
  ·rename_i hik
   subst hik
   split at h1
   ·rename_i b ys hx hys
    cases h1
    obtain ⟨c1,c2⟩:=jD h2
    obtain ⟨k1,k2,k3⟩:=(cZ (x:=x) hx hE).cells c1.2
    have hsz:(a.eval x).cells.size=sz:=by rw [k1,c1.1]
    have hle:i*sz+sz≤vs.size:=by
     simp only [List.length_cons] at h3
     have:(i+1)*sz≤(i+(ys.length+1))*sz:=Nat.mul_le_mul_right _ (by omega)
     rw [Nat.add_mul] at this
     omega
    simp only [List.map_cons]
    rw [D1 (place:=fun i=>some (i*sz,sz)) (off:=i*sz) (n:=sz) rfl hsz hle]
    have hlen:((vs.toList.take (i*sz)++(a.eval x).cells.toList++vs.toList.drop (i*sz+sz)).toArray).size=vs.size:=by simp;omega
    obtain ⟨vs',q1,q2,q3,q4⟩:=DT (a:=a) hE (k:=i+1) (vs:=(vs.toList.take (i*sz)++(a.eval x).cells.toList++vs.toList.drop (i*sz+sz)).toArray) hys c2
     (by rw [hlen];simp only [List.length_cons] at h3;rw [show i+1+ys.length=i+(ys.length+1) from by omega];exact h3)
    refine ⟨vs',q1,by rw [q2,hlen],fun p hp=>?_,fun p c u hc hu=>?_⟩
    ·rw [q3 p (by rw [Nat.add_mul];omega)]
     simp only [List.getElem?_toArray]
     rw [List.append_assoc,List.getElem?_append_left (by simp;omega),List.getElem?_take,if_pos hp]
     simp
    ·simp only [List.map_cons,List.flatMap_cons] at hc
     by_cases hlt:p<sz
     ·rw [List.getElem?_append_left (by omega)] at hc
      rw [q3 _ (by rw [Nat.add_mul];omega)] at hu
      simp only [List.getElem?_toArray] at hu
      rw [List.append_assoc,List.getElem?_append_right (by simp;omega)] at hu
      simp only [List.length_take,Array.length_toList] at hu
      rw [show i*sz+p-min (i*sz) vs.size=p from by omega,List.getElem?_append_left (by simp;omega)] at hu
      exact k2 p c u hc (by simpa using hu)
     ·rw [List.getElem?_append_right (by omega),c1.1] at hc
      refine q4 (p-sz) c u hc ?_
      rw [←hu]
      congr 1
      rw [Nat.add_mul]
      omega
   ·cases h1
  ·cases h1
theorem WN {xs:List AV} {sz:Nat} {vs:Array Value} {T:TypeId} (hS:RelS P hh G w σ) (hx:aL sz xs=true) (hl:vs.size=xs.length*sz)
  (hr:∀ (p:Nat) (c:AV) (u:Value),(xs.flatMap AV.cells)[p]? = some c→vs[p]? = some u→RelV G w c u) :
  ∃ G',RelS P hh G' (w.alloc (.cells vs T)) σ∧Evo G w G' (w.alloc (.cells vs T))∧RelV G' (w.alloc (.cells vs T)) (.lit xs true none) (.slice (some ⟨w.heap.size,0,none⟩) xs.length xs.length):=by
 obtain ⟨h1,h2⟩:=hS.newLit vs T
 refine ⟨_,h1,h2,.lit (sz:=sz) ⟨Nat.le_refl _,fun _=>rfl,fun t e=>by cases e⟩ ⟨⟨vs.size,by simp [Gh.withLim],by omega⟩,fun t e=>?_,fun i x e=>(lM hx e).1,fun k hk=>?_⟩ fun i x j c u e1 e2 e3=>?_⟩
 ·have:=(hS.own _ _ (show G.own w.heap.size=some t from e)).1
  omega
 ·rw [Nat.zero_add,World.cell?_alloc_new]
  simp [Array.getElem?_eq_getElem (show k<vs.size by omega)]
 ·rw [Nat.zero_add,World.cell?_alloc_new] at e3
  exact (hr _ _ _ (v8 hx e1 e2) e3).mono h2
theorem tT {t e:TypeId} {sz n m:Nat} {a:Act} {parts:Array (Nat×Operand)} {xs:List AOpd} {z:List AV} (hE:fK G w n env a.tmps)
  (ht:P.underlying t=some (.slice e)) (hz:gC P e=some z) (hs:fT P e=some sz) (hp:mO 0 parts.toList=some xs) (hn:xs.length=m) (hb:m*sz≤2^24)
  (hc:aL sz (xs.map (·.ev env))=true) :
  ∃ vs:Array Value,(Instr.buildSlice t m (parts.map fun (i,x)=>(i,a.eval x))).run P w = .ok (.slice (some ⟨w.heap.size,0,none⟩) m m) (w.alloc (.cells vs e))∧vs.size=m*sz ∧
   ∀ (p:Nat) (c:AV) (u:Value),((xs.map (·.ev env)).flatMap AV.cells)[p]? = some c→vs[p]? = some u→RelV G w c u:=by
 obtain ⟨i,v,hi,hzv,hsz,h0,hrun,hcs,hcell,hr⟩:=jA hz
 obtain ⟨hso,_⟩:=fN hs w
 have hlist:(parts.map fun (i,x)=>(i,a.eval x)).toList=parts.toList.map fun p=>(p.1,a.eval p.2):=by simp
 have hbig:¬(m*sz > 2^24):=by omega
 by_cases hm0:m=0
 ·subst hm0
  have hxs:xs=[]:=List.eq_nil_of_length_eq_zero hn
  subst hxs
  have hps:parts.toList=[]:=by
   cases hq:parts.toList with
   |nil=>rfl
   |cons p ps =>
    rw [hq] at hp
    simp only [mO] at hp
    split at hp
    ·split at hp<;>cases hp
    ·cases hp
  refine ⟨#[],?_,by simp,fun p c u h=>by simp at h⟩
  rw [hps] at hlist
  simp only [Instr.buildSlice,Sem.run_bind,run_underlying ht,Result.andThen_ok,hso,Nat.zero_mul,hlist,List.map_nil,Instr.fill]
  simp [newRow,Array.range_zero']
 have h00:¬m*sz=0:=by
  intro e
  rcases Nat.mul_eq_zero.1 e with e|e
  ·exact hm0 e
  ·rw [←hsz,(fN hs w).2.2.choose_spec.1.symm.trans hi |> Option.some.inj |> fun e=>(congrArg TypeInfo.size e).symm,(fN hs w).2.2.choose_spec.2] at h0
   omega
 ·obtain ⟨vs',q1,q2,q3,q4⟩:=DT (sz:=sz) (a:=a) hE (vs:=((Array.range (m*sz)).map (v.cells[·%v.cells.size]!))) hp hc (by simp [hn])
  refine ⟨vs',?_,by rw [q2];simp,fun p c u h3 h4=>q4 p c u h3 (by simpa using h4)⟩
  simp only [Instr.buildSlice,Sem.run_bind,run_underlying ht,Result.andThen_ok,hso,hbig,if_false,Sem.run_pure,h00,hrun]
  simp only [hlist,q1,newRow,Sem.run_bind,run_newObj,Result.andThen_ok,Sem.run_pure,World.alloc_eq]
theorem xR {sz:Nat} (h0:0<sz):∀ {n:Nat} {cs:List AV},n*sz≤cs.length→aL sz (vY sz n cs)=true→(vY sz n cs).flatMap AV.cells=cs.take (n*sz)∧(vY sz n cs).length=n
 |0,cs,_,_=>by simp [vY]
 |n+1,cs,h,ha=>by
  rw [Nat.add_mul] at h
  simp only [vY] at ha ⊢
  obtain ⟨h1,h2⟩:=jD ha
  obtain ⟨i1,i2⟩:=xR h0 (by simp;omega) h2
  refine ⟨?_,by simp [i2]⟩
  simp only [List.flatMap_cons,i1]
  have hx:AV.cells (if sz=1∧(cs.headD .undef).cell=true then cs.headD .undef else .agg (cs.take sz))=cs.take sz:=by
   split
   ·rename_i hs
    rw [JN hs.2,hs.1]
    cases cs with
    |nil=>simp at h;omega
    |cons c cs=>simp
   ·rfl
  rw [hx,←List.take_add]
  congr 1
  rw [Nat.add_mul]
  omega
theorem oT {sz:Nat} {y:AV} {v:Value} {ys:List AV} (h0:0<sz) (hS:RelS P hh G w σ) (hy:RelV G w y v) (hv:lO σ y=some ys) (hs:zE sz y=true) (ha:aL sz ys=true) :
  ∃ (base:Option Addr) (cap:Nat) (us:List Value),v = .slice base ys.length cap∧us.length=ys.length*sz∧(ys≠[]→∃ a:Addr,base=some a∧∀ (j:Nat) (u:Value),us[j]? = some u→w.cell? (a.add j)=some u) ∧
   (∀ (p:Nat) (c:AV) (u:Value),(ys.flatMap AV.cells)[p]? = some c→us[p]? = some u→RelV G w c u)∧∀ u∈us,u.oneCell'=true:=by
 have key:∀ {b o:Nat},wC G w (ys.flatMap AV.cells) b o→∃ us:List Value,us.length=ys.length*sz∧(∀ (j:Nat) (u:Value),us[j]? = some u→w.cell? ((⟨b,o,none⟩:Addr).add j)=some u) ∧
   (∀ (p:Nat) (c:AV) (u:Value),(ys.flatMap AV.cells)[p]? = some c→us[p]? = some u→RelV G w c u)∧∀ u∈us,u.oneCell'=true:=by
  intro b o hr
  obtain ⟨us,l,q1,q2⟩:=hr.list
  refine ⟨us,by rw [l,fW ha],q1,q2,fun u hu=>?_⟩
  obtain ⟨i,hi,rfl⟩:=List.getElem_of_mem hu
  have hi':i<(ys.flatMap AV.cells).length:=by omega
  exact ((q2 i _ _ (List.getElem?_eq_getElem hi') (List.getElem?_eq_getElem hi)).cell (TK ha _ (List.getElem_mem hi'))).1
 cases y<;>try (simp [lO] at hv;done)
 case lit xs full tk =>
  simp only [lO,Option.some.injEq] at hv
  subst hv
  cases hy with
  |nil ht hb=>exact ⟨_,_,[],rfl,by simp,fun h=>absurd rfl h,fun p c u h=>by simp at h,fun u h=>by simp at h⟩
  |lit ht hl hc =>
   rename_i b o sz' cap
   by_cases he:xs=[]
   ·subst he
    exact ⟨_,_,[],rfl,by simp,fun h=>absurd rfl h,fun p c u h=>by simp at h,fun u h=>by simp at h⟩
   ·have hsz:sz'=sz:=by
     cases xs with
     |nil=>exact absurd rfl he
     |cons y ys=>rw [←hl.size 0 y rfl];exact (lM (i:=0) ha rfl).1
    subst hsz
    obtain ⟨us,q1,q2,q3,q4⟩:=key (b:=b) (o:=o) fun p c hp=>by
     obtain ⟨i,j,x,e1,e2,e3⟩:=H8 ha hp
     obtain ⟨u,hu⟩:=Option.isSome_iff_exists.1 (hl.cells _ (hl.cellOf e1 e2))
     exact ⟨u,by rw [e3];exact hu,hc i x j c u e1 e2 (by rw [←hu])⟩
    exact ⟨_,_,us,rfl,q1,fun _=>⟨_,rfl,q2⟩,q3,q4⟩
 case ref id off len sz' =>
  have hsz:sz'=sz:=by simpa [zE] using hs
  subst hsz
  simp only [lO] at hv
  split at hv
  ·rename_i cs hcs
   split at hv
   ·rename_i hle
    simp only [Option.some.injEq] at hv
    subst hv
    cases hy with
    |ref hl hb hcap hn =>
     rename_i b base cap
     obtain ⟨f1,f2⟩:=xR h0 (n:=len) (cs:=cs.drop off) (by simp;omega) ha
     obtain ⟨us,q1,q2,q3,q4⟩:=key (b:=b) (o:=off) (by
      rw [f1]
      have:=(pR hS hl hcs).sub off (len*sz')
      rwa [Nat.zero_add] at this)
     refine ⟨base,cap,us,by rw [f2],q1,fun hne=>⟨_,hb fun e=>hne ?_,q2⟩,q3,q4⟩
     subst e
     rfl
   ·cases hv
  ·cases hv
end Go.Am
namespace Go.Am
variable {P:Program} {hh:String→Bool} {G:Gh} {w:World} {σ σ':St} {env:Env}
def Gh.withTok (G:Gh) (t b L:Nat) (p:Option Addr×Nat×Nat):Gh :=
 { G with lim:=fun i=>if i=b then some L else G.lim i,own:=fun i=>if i=b then some t else G.own i,tok:=fun i=>if i=t then some p else G.tok i }
theorem L7 (h:RelS P hh G w σ) {t sz n:Nat} {ex:Bool} (e:σ[t]? = some (.tok sz n ex)):G.loc t=none:=by
 cases hl:G.loc t with
 |none=>rfl
 |some b=>exact (h.blk _ _ _ hl e).elim
theorem NN (h:RelS P hh G w σ):G.lim w.heap.size=none:=by
 cases e:G.lim w.heap.size with
 |none=>rfl
 |some L=>have:=rC h e;omega
theorem N2 (h:RelS P hh G w σ) (t:Nat):G.own w.heap.size≠some t:=fun e=>by have:=(h.own _ _ e).1;omega
theorem RelS.newTok {t sz N c:Nat} {vs:Array Value} {T:TypeId} (h:RelS P hh G w σ) (hlen:σ.length≤σ'.length) (hsame:∀ i,i≠t→i<σ.length→σ'[i]? = σ[i]?)
  (ht:σ'[t]? = some (.tok sz N true)) (hloc:G.loc t=none) (hrt:∀ cs,G.res t≠some (some cs)) (hold:∀ b n c,G.tok t=some (b,n,c)→n<N) (hN:N*sz≤vs.size) (hc:c*sz≤vs.size) (hNc:N≤c) :
  RelS P hh (G.withTok t w.heap.size (N*sz) (some ⟨w.heap.size,0,none⟩,N,c)) (w.alloc (.cells vs T)) σ' ∧
   Evo G w (G.withTok t w.heap.size (N*sz) (some ⟨w.heap.size,0,none⟩,N,c)) (w.alloc (.cells vs T)):=by
 have hlf:=NN h
 have hof:=N2 h
 have h1:=h.alloc (.cells vs T)
 have he0:=lB h (.cells vs T)
 have he:Evo G w (G.withTok t w.heap.size (N*sz) (some ⟨w.heap.size,0,none⟩,N,c)) (w.alloc (.cells vs T)):=by
  refine ⟨fun _ _ e=>e,fun b L e=>⟨L,?_,Nat.le_refl _,fun k _=>A3 w _ _ (rC h e)⟩,fun u b n k e=>?_,fun b L u e1 e2=>?_,fun _ e=>e,rfl,rfl,rfl,rfl,rfl,by simp,fun _ _ e=>e⟩
  ·have:b≠w.heap.size:=fun e'=>by rw [e',hlf] at e;cases e
   simp [Gh.withTok,this,e]
  ·by_cases hu:u=t
   ·subst hu
    have:=hold _ _ _ e
    exact ⟨some ⟨w.heap.size,0,none⟩,N,c,by simp [Gh.withTok],by omega,fun e'=>by omega⟩
   ·exact ⟨b,n,k,by simp [Gh.withTok,hu,e],Nat.le_refl _,fun _=>⟨rfl,rfl⟩⟩
  ·have:b≠w.heap.size:=fun e'=>by rw [e',hlf] at e1;cases e1
   simpa [Gh.withTok,this] using e2
 refine ⟨⟨fun id b e=>Nat.lt_of_lt_of_le (h.lt id b e) hlen,fun id b x e1 e2=>?_,h.inj,fun id b e=>?_,fun b L e=>?_,fun u b n k e=>?_,fun b u e=>?_,fun r e=>?_,h1.base,h1.size,fun i r e=>?_⟩,he⟩
 ·have e1':G.loc id=some b:=e1
  have hne:id≠t:=fun e=>by rw [e,hloc] at e1';cases e1'
  rw [hsame id hne (h.lt _ _ e1')] at e2
  refine (h.blk id b x e1' e2).mono he ?_
  rw [eN,if_neg (by have:=(h.fresh _ _ e1').2.1;omega)]
 ·obtain ⟨q1,q2,q3,q4⟩:=h1.fresh id b e
  have:b≠w.heap.size:=by have:=(h.fresh id b e).2.1;omega
  exact ⟨q1,q2,by simp [Gh.withTok,this,q3],q4⟩
 ·by_cases hb:b=w.heap.size
  ·subst hb
   simp [Gh.withTok] at e
   subst e
   exact ⟨vs,T,(0,0),by rw [eN,if_pos rfl],hN,fun hlt=>absurd hlt (Nat.not_lt.2 h.size)⟩
  ·simp [Gh.withTok,hb] at e
   exact h1.lim b L e
 ·by_cases hu:u=t
  ·subst hu
   simp [Gh.withTok] at e
   obtain ⟨rfl,rfl,rfl⟩:=e
   exact ⟨sz,true,ht,hNc,by simp,fun _=>⟨w.heap.size,vs,T,rfl,by simp [Gh.withTok],by simp [Gh.withTok],h.size,by rw [eN,if_pos rfl],hc⟩⟩
  ·simp [Gh.withTok,hu] at e
   obtain ⟨sz',ex,q1,q2,q3,q4⟩:=h1.tok u b n k e
   refine ⟨sz',ex,?_,q2,q3,fun hx=>?_⟩
   ·rw [hsame u hu (List.getElem?_eq_some_iff.1 q1).1];exact q1
   ·obtain ⟨bb,vs',T',r1,r2,r3,r4,r5,r6⟩:=q4 hx
    have:bb≠w.heap.size:=fun e'=>by rw [e'] at r2;exact hof _ r2
    exact ⟨bb,vs',T',r1,by simp [Gh.withTok,this,r2],by simp [Gh.withTok,this,r3],r4,r5,r6⟩
 ·by_cases hb:b=w.heap.size
  ·subst hb
   simp [Gh.withTok] at e
   subst e
   exact ⟨by simp,(some ⟨w.heap.size,0,none⟩,N,c),by simp [Gh.withTok]⟩
  ·simp [Gh.withTok,hb] at e
   obtain ⟨q1,p,q2⟩:=h1.own b u e
   refine ⟨q1,?_⟩
   by_cases hu:u=t
   ·exact ⟨(some ⟨w.heap.size,0,none⟩,N,c),by simp [Gh.withTok,hu]⟩
   ·exact ⟨p,by simp [Gh.withTok,hu,q2]⟩
 ·obtain ⟨q1,q2,q3⟩:=h1.defs r e
  have:r≠w.heap.size:=by have:=(Array.getElem?_eq_some_iff.1 (h.defs _ e).1).1;omega
  exact ⟨q1,q2,by simp [Gh.withTok,this,q3]⟩
 ·obtain ⟨q1,q2,q3⟩:=h.res i r e
  refine ⟨q1,by omega,fun cs hc=>?_⟩
  have hi:i≠t:=fun hi=>by subst hi;subst hc;exact hrt _ e
  rw [hsame i hi q2]
  exact q3 cs hc
theorem RelS.growTok {t sz n c bb m:Nat} {vs vs':Array Value} {T:TypeId} (h:RelS P hh G w σ) (ht:∃ ex,σ[t]? = some (.tok sz n ex)) (hm:0<m) (hnc:n+m≤c)
  (htk:G.tok t=some (some ⟨bb,0,none⟩,n,c)) (hown:G.own bb=some t) (hlim:G.lim bb=some (n*sz)) (hB:G.B0≤bb) (hb:w.heap[bb]? = some (.cells vs T (0,0)))
  (hc:c*sz≤vs.size) (hs:vs'.size=vs.size) (hkeep:∀ k,k<n*sz→vs'[k]? = vs[k]?) :
  RelS P hh (G.withTok t bb ((n+m)*sz) (some ⟨bb,0,none⟩,n+m,c)) (w.setRow bb vs') (σ.set t (.tok sz (n+m) true)) ∧
   Evo G w (G.withTok t bb ((n+m)*sz) (some ⟨bb,0,none⟩,n+m,c)) (w.setRow bb vs'):=by
 obtain ⟨ex,ht⟩:=ht
 have hloc:=L7 h ht
 have hp:=zM w bb vs'
 have hrow:=setRow_heap w bb vs vs' T (0,0) hb
 have hmul:n*sz≤(n+m)*sz:=Nat.mul_le_mul_right _ (by omega)
 have hfit:(n+m)*sz≤vs'.size:=by rw [hs];exact Nat.le_trans (Nat.mul_le_mul_right _ hnc) hc
 have he:Evo G w (G.withTok t bb ((n+m)*sz) (some ⟨bb,0,none⟩,n+m,c)) (w.setRow bb vs'):=by
  refine ⟨fun _ _ e=>e,fun b L e=>?_,fun u b k l e=>?_,fun b L u e1 e2=>?_,fun _ e=>e,rfl,rfl,rfl,rfl,rfl,by simp,fun _ _ e=>e⟩
  ·by_cases hbb:b=bb
   ·subst hbb
    rw [hlim] at e
    cases e
    refine ⟨(n+m)*sz,by simp [Gh.withTok],hmul,fun k hk=>?_⟩
    rw [cell_of_row _ _ _ _ _ _ hrow,cell_of_row _ _ _ _ _ _ hb]
    exact hkeep k hk
   ·exact ⟨L,by simp [Gh.withTok,hbb,e],Nat.le_refl _,fun k _=>hp.cell hbb⟩
  ·by_cases hu:u=t
   ·subst hu
    rw [htk] at e
    cases e
    exact ⟨some ⟨bb,0,none⟩,n+m,c,by simp [Gh.withTok],by omega,fun e'=>by omega⟩
   ·exact ⟨b,k,l,by simp [Gh.withTok,hu,e],Nat.le_refl _,fun _=>⟨rfl,rfl⟩⟩
  ·by_cases hbb:b=bb
   ·subst hbb
    simp [Gh.withTok] at e2
    subst e2
    exact hown
   ·simpa [Gh.withTok,hbb] using e2
 refine ⟨⟨fun id b e=>by have:=h.lt id b e;simpa using this,fun id b x e1 e2=>?_,h.inj,fun id b e=>?_,fun b L e=>?_,fun u b k l e=>?_,fun b u e=>?_,fun r e=>?_,fun b hb'=>?_,(by have:=h.size;simpa using this:G.B0≤(w.setRow bb vs').heap.size),fun i r e=>?_⟩,he⟩
 ·have e1':G.loc id=some b:=e1
  have hne:id≠t:=fun e=>by rw [e,hloc] at e1';cases e1'
  rw [List.getElem?_set_ne (Ne.symm hne)] at e2
  refine (h.blk id b x e1' e2).mono he (hp.other _ fun e=>?_)
  have:=(h.fresh _ _ e1').2.2.1
  rw [e,hlim] at this
  cases this
 ·obtain ⟨q1,q2,q3,q4⟩:=h.fresh id b e
  have:b≠bb:=fun e'=>by rw [e',hlim] at q3;cases q3
  exact ⟨q1,by simpa using q2,by simp [Gh.withTok,this,q3],q4⟩
 ·by_cases hbb:b=bb
  ·subst hbb
   simp [Gh.withTok] at e
   subst e
   exact ⟨vs',T,(0,0),hrow,hfit,fun hlt=>absurd hlt (Nat.not_lt.2 hB)⟩
  ·simp [Gh.withTok,hbb] at e
   obtain ⟨vs1,T1,fr,q1,q2⟩:=h.lim b L e
   exact ⟨vs1,T1,fr,by rw [hp.other _ hbb];exact q1,q2⟩
 ·by_cases hu:u=t
  ·subst hu
   simp [Gh.withTok] at e
   obtain ⟨rfl,rfl,rfl⟩:=e
   refine ⟨sz,true,by rw [List.getElem?_set_self (List.getElem?_eq_some_iff.1 ht).1],hnc,by simp,fun _=>⟨bb,vs',T,rfl,by simp [Gh.withTok],by simp [Gh.withTok],hB,hrow,by rw [hs];exact hc⟩⟩
  ·simp [Gh.withTok,hu] at e
   obtain ⟨sz',ex',q1,q2,q3,q4⟩:=h.tok u b k l e
   refine ⟨sz',ex',by rw [List.getElem?_set_ne (Ne.symm hu)];exact q1,q2,q3,fun hx=>?_⟩
   obtain ⟨b2,vs2,T2,r1,r2,r3,r4,r5,r6⟩:=q4 hx
   have:b2≠bb:=fun e'=>by rw [e',hown] at r2;cases r2;exact hu rfl
   exact ⟨b2,vs2,T2,r1,by simp [Gh.withTok,this,r2],by simp [Gh.withTok,this,r3],r4,by rw [hp.other _ this];exact r5,r6⟩
 ·by_cases hbb:b=bb
  ·subst hbb
   simp [Gh.withTok] at e
   subst e
   exact ⟨by simpa using (h.own _ _ hown).1,(some ⟨b,0,none⟩,n+m,c),by simp [Gh.withTok]⟩
  ·simp [Gh.withTok,hbb] at e
   obtain ⟨q1,p,q2⟩:=h.own b u e
   refine ⟨by simpa using q1,?_⟩
   by_cases hu:u=t
   ·exact ⟨(some ⟨bb,0,none⟩,n+m,c),by simp [Gh.withTok,hu]⟩
   ·exact ⟨p,by simp [Gh.withTok,hu,q2]⟩
 ·obtain ⟨q1,q2,q3⟩:=h.defs r e
  have:r≠bb:=fun e'=>by rw [e',hlim] at q3;cases q3
  exact ⟨by rw [hp.other _ this];exact q1,q2,by simp [Gh.withTok,this,q3]⟩
 ·have hb2:b<G.B0:=hb'
  have:b≠bb:=by omega
  rw [hp.other _ this]
  exact h.base b hb2
 ·obtain ⟨q1,q2,q3⟩:=h.res i r e
  refine ⟨q1,by simpa using q2,fun cs hc=>?_⟩
  have hi:i≠t:=fun hi=>by subst hi;rw [q3 cs hc] at ht;cases ht
  rw [List.getElem?_set_ne (Ne.symm hi)]
  exact q3 cs hc
theorem yR {t ty e:TypeId} {i:TypeInfo} (ht:P.underlying t=some (.slice e)) (hi:P.info? e=some i)
  {g sLen sCap:Nat} {T:TypeId} {cur:Array Value} (hg:w.heap[g]? = some (.cells cur T (0,0)))
  {a:Addr} {m c:Nat} {news:List Value} (hl:news.length=m*i.size) (hnews:∀ (j:Nat) (u:Value),news[j]? = some u→w.cell? (a.add j)=some u) (h1:∀ u∈news,u.oneCell'=true)
  (hroom:sLen+m≤sCap) (hfit:sLen*i.size+news.length≤cur.size) :
  (Builtin.append_ #[t,t] ty #[.slice (some ⟨g,0,none⟩) sLen sCap,.slice (some a) m c]).run P w =
   .ok (.slice (some ⟨g,0,none⟩) (sLen+m) sCap) (w.setRow g (cur.toList.take (sLen*i.size)++news++cur.toList.drop (sLen*i.size+news.length)).toArray):=by
 have hf:=run_firstCells_some (P:=P) w i.size m a m c news hl hnews
 have hst:=run_storeCells_at P g (sLen*i.size) T news 0 cur w hg (by simpa using hfit) h1
 simp only [Nat.add_zero] at hst
 simp [Builtin.append_,run_underlying ht,sizeOf,typeInfo,hi,Builtin.lenOf,hroom,hf,Addr.add_lit,hst]
theorem sD {t ty e:TypeId} {i:TypeInfo} (ht:P.underlying t=some (.slice e)) (hi:P.info? e=some i) {b b2:Option Addr} {n c c2:Nat} (hc:n≤c) :
  (Builtin.append_ #[t,t] ty #[.slice b n c,.slice b2 0 c2]).run P w = .ok (.slice b n c) w:=by
 have hf:(Builtin.firstCells i.size 0 (.slice b2 0 c2)).run P w = .ok #[] w:=by
  cases b2<;>simp [Builtin.firstCells,loadCells,loadCellsFrom]
 cases b<;>simp [Builtin.append_,run_underlying ht,sizeOf,typeInfo,hi,Builtin.lenOf,hc,hf,storeCells]
theorem tN {t ty e:TypeId} {i:TypeInfo} {z:Value} (ht:P.underlying t=some (.slice e)) (hi:P.info? e=some i) (hz:i.zero=some z) (hzs:z.cells.size=i.size)
  {b:Option Addr} {n c:Nat} {olds:List Value} (hnc:n≤c) (hb:b=none→c=0) (hlo:olds.length=n*i.size) (ho:∀ a,b=some a→∀ (j:Nat) (u:Value),olds[j]? = some u→w.cell? (a.add j)=some u)
  {a:Addr} {m c2:Nat} {news:List Value} (hl:news.length=m*i.size) (hnews:∀ (j:Nat) (u:Value),news[j]? = some u→w.cell? (a.add j)=some u) (hm:0<m)
  (hg:c<n+m) (hby:(n+m)*i.bytes≤room) (hbig:n+m≤room) :
  ∃ cap vs,(Builtin.append_ #[t,t] ty #[.slice b n c,.slice (some a) m c2]).run P w = .ok (.slice (some ⟨w.heap.size,0,none⟩) (n+m) cap) (w.drew.alloc (.cells vs e)) ∧
   n+m≤cap∧vs.size=cap*i.size∧∀ k,k<(n+m)*i.size→vs[k]? = (olds++news)[k]?:=by
 have hr:room=140737488355328:=by decide
 rw [hr] at hby hbig
 have get:∀ (x:Array Value) (k:Nat),k<(olds++news).length→(olds.toArray++news.toArray++x)[k]? = (olds++news)[k]?:=by
  intro x k hk
  rw [Array.getElem?_append_left (by simp at hk ⊢;omega)]
  simp
 have hlen:(olds++news).length=(n+m)*i.size:=by rw [List.length_append,hlo,hl,Nat.add_mul]
 cases b with
 |none =>
  have hc0:=hb rfl
  subst hc0
  have hn0:n=0:=by omega
  subst hn0
  have ho0:olds=[]:=List.eq_nil_of_length_eq_zero (by simpa using hlo)
  subst ho0
  have hrun:=run_append_nil (P:=P) w t ty e i z ht hi hz a m c2 news hl hnews hm (by omega) (by rw [Nat.zero_add] at hby;omega)
  refine ⟨_,_,by rw [Nat.zero_add];exact hrun,by rw [Nat.zero_add];exact grownCap_ge _ _ _ _,?_,fun k hk=>?_⟩
  ·have:=grownCap_ge w m 0 e
   simp only [Array.size_append,List.size_toArray,size_zeroCells,hzs,hl,←Nat.add_mul]
   congr 1
   omega
  ·have:=get (Builtin.zeroCells z.cells (grownCap w m 0 e-m)) k (by rw [hlen];exact hk)
   simpa using this
 |some b =>
  have hrun:=run_append_grow (P:=P) w t ty e i z ht hi hz b n c olds hlo (ho b rfl) a m c2 news hl hnews (by omega) (by omega) (growslice_fits (by omega) (by omega))
  refine ⟨_,_,hrun,grownCap_ge _ _ _ _,?_,fun k hk=>get _ k (by rw [hlen];exact hk)⟩
  have:=grownCap_ge w (n+m) c e
  simp only [Array.size_append,List.size_toArray,size_zeroCells,hzs,hlo,hl,←Nat.add_mul]
  congr 1
  omega
theorem xQ {zs:List AV} {sz b t cap L:Nat} (ha:aL sz zs=true) (htk:G.tok t=some (some ⟨b,0,none⟩,zs.length,cap)) (hcap:zs.length≤cap) (hne:zs≠[])
  (hown:G.own b=some t) (hlim:G.lim b=some L) (hL:zs.length*sz≤L)
  (hcell:∀ (p:Nat) (c:AV),(zs.flatMap AV.cells)[p]? = some c→∃ u,w.cell? ⟨b,p,none⟩=some u∧RelV G w c u) :
  RelV G w (.lit zs false (some t)) (.slice (some ⟨b,0,none⟩) zs.length cap):=by
 refine .lit (sz:=sz) ⟨hcap,by simp,fun u e=>?_⟩ ⟨⟨L,hlim,by omega⟩,fun u e=>?_,fun i x e=>(lM ha e).1,fun k hk=>?_⟩ fun i x j c u e1 e2 e3=>?_
 ·cases e
  exact ⟨_,_,_,htk,Nat.le_refl _,fun _ _=>⟨rfl,rfl⟩⟩
 ·rw [hown] at e
  exact e
 ·rw [←fW ha] at hk
  obtain ⟨u,hu,_⟩:=hcell k _ (List.getElem?_eq_getElem hk)
  rw [Nat.zero_add,hu]
  rfl
 ·rw [Nat.zero_add] at e3
  obtain ⟨u',hu',hr⟩:=hcell _ _ (v8 ha e1 e2)
  rw [e3] at hu'
  cases hu'
  exact hr
end Go.Am
namespace Go.Am
variable {P:Program} {hh:String→Bool} {G:Gh} {w:World} {σ σ':St} {env:Env}
theorem k6 {xs:List AV} {full:Bool} {tk:Option Nat} {u:Value} (h:RelV G w (.lit xs full tk) u) :
  ∃ base cap,u = .slice base xs.length cap∧nL G full tk xs.length base cap∧(base=none→cap=0):=by
 cases h with
 |nil ht hb=>exact ⟨_,_,rfl,ht,hb⟩
 |lit ht hl hc=>exact ⟨_,_,rfl,ht,fun e=>by cases e⟩
theorem B8 {y:AV} {v:Value} (hy:RelV G w y v) (hv:lO σ y=some []):∃ b c,v = .slice b 0 c:=by
 cases y<;>try (simp [lO] at hv;done)
 case lit xs full tk =>
  simp only [lO,Option.some.injEq] at hv
  subst hv
  obtain ⟨b,c,e,_⟩:=k6 hy
  exact ⟨b,c,e⟩
 case ref id off len sz =>
  simp only [lO] at hv
  split at hv
  ·split at hv
   ·simp only [Option.some.injEq] at hv
    cases len with
    |zero=>cases hy with|ref h1 h2 h3=>exact ⟨_,_,rfl⟩
    |succ n=>simp [vY] at hv
   ·cases hv
  ·cases hv
theorem s7 {az bs:List AV} {us vs:List Value} (hl:us.length=az.length) (h1:∀ (p:Nat) (c:AV) (u:Value),az[p]? = some c→us[p]? = some u→RelV G w c u)
  (h2:∀ (p:Nat) (c:AV) (u:Value),bs[p]? = some c→vs[p]? = some u→RelV G w c u):∀ (p:Nat) (c:AV) (u:Value),(az++bs)[p]? = some c→(us++vs)[p]? = some u→RelV G w c u:=by
 intro p c u hc hu
 by_cases hp:p<az.length
 ·rw [List.getElem?_append_left hp] at hc
  rw [List.getElem?_append_left (by omega)] at hu
  exact h1 p c u hc hu
 ·rw [List.getElem?_append_right (by omega)] at hc
  rw [List.getElem?_append_right (by omega),hl] at hu
  exact h2 _ c u hc hu
theorem FU {t ty e:TypeId} {i:TypeInfo} {z:Value} {sz bytes:Nat} {x y r:AV} {u v:Value} (ht:P.underlying t=some (.slice e)) (hi:P.info? e=some i) (hz:i.zero=some z)
    (hzs:z.cells.size=i.size) (hsz:i.size=sz) (hby:i.bytes=bytes) (h0:0<sz) (hS:RelS P hh G w σ) (hx:RelV G w x u) (hy:RelV G w y v) (h:cO sz bytes σ x y=some (r,σ')) :
    ∃ w' G' q,(Builtin.append_ #[t,t] ty #[u,v]).run P w = .ok q w'∧RelV G' w' r q∧RelS P hh G' w' σ'∧Evo G w G' w':=by
  subst hby
  cases x<;>try (simp [cO] at h;done)
  case lit xs full tk =>
    obtain ⟨base,cap,rfl,htk,hbn⟩:=k6 hx
    cases hv:lO σ y with
    |none=>simp [cO,hv] at h
    |some ys =>
      simp only [cO,hv] at h
      split at h
      · rename_i hy0
        cases h
        have:ys=[]:=List.eq_nil_of_length_eq_zero hy0
        subst this
        obtain ⟨b2,c2,rfl⟩:=B8 hy hv
        exact ⟨w,G,_,sD ht hi htk.1,hx,hS,.refl _ _⟩
      · rename_i hy0
        split at h
        · rename_i hcond
          simp only [Bool.and_eq_true,decide_eq_true_eq] at hcond
          obtain ⟨⟨⟨⟨c1,c2⟩,c3⟩,c4⟩,c5⟩:=hcond
          obtain ⟨base',cap',olds,e1,ol,oc,orr,o1⟩:=oT (y:=.lit xs full tk) h0 hS hx rfl rfl c2
          cases e1
          obtain ⟨b2,cap2,news,rfl,nl,nc,nr,n1⟩:=oT h0 hS hy hv c1 c3
          obtain ⟨a2,rfl,hnews⟩:=nc (fun e=>by rw [e] at hy0;exact hy0 rfl)
          have hm:0<ys.length:=Nat.pos_of_ne_zero hy0
          have hall:aL sz (xs++ys)=true:=sG.2 ⟨c2,c3⟩
          have hne:xs++ys≠[]:=by intro e;rw [List.append_eq_nil_iff] at e;rw [e.2] at hy0;exact hy0 rfl
          have hlen:(xs++ys).length=xs.length+ys.length:=List.length_append
          have hflat:(xs++ys).flatMap AV.cells=xs.flatMap AV.cells++ys.flatMap AV.cells:=List.flatMap_append
          have hrel:=s7 (G:=G) (w:=w) (az:=xs.flatMap AV.cells) (bs:=ys.flatMap AV.cells) (us:=olds) (vs:=news) (by rw [ol,fW c2]) orr nr
          have hcat:(olds++news).length=(xs.length+ys.length)*sz:=by rw [List.length_append,ol,nl,Nat.add_mul]
          -- into a new block,under a token
          have grows:∀ (tn:Nat) (σ1:St),cap<xs.length+ys.length→σ.length≤σ1.length→(∀ i,i≠tn→i<σ.length→σ1[i]? = σ[i]?)→σ1[tn]? = some (.tok sz (xs.length+ys.length) true) →
              G.loc tn=none→(∀ cs,G.res tn≠some (some cs))→(∀ b n c,G.tok tn=some (b,n,c)→n<xs.length+ys.length) →
              ∃ w' G' q,(Builtin.append_ #[t,t] ty #[.slice base xs.length cap,.slice (some a2) ys.length cap2]).run P w = .ok q w'∧RelV G' w' (.lit (xs++ys) false (some tn)) q∧RelS P hh G' w' σ1∧Evo G w G' w':=by
            intro tn σ1 hg k1 k2 k3 k4 k4' k5
            obtain ⟨c',vs,hrun,hc',hvs,hget⟩:=tN (P:=P) (w:=w) (ty:=ty) (olds:=olds) (news:=news) ht hi hz hzs htk.1 hbn (by rw [ol,hsz])
              (fun a ha j uu hj=>by
                by_cases hxs:xs=[]
                · subst hxs
                  have:olds=[]:=List.eq_nil_of_length_eq_zero (by simpa using ol)
                  rw [this] at hj
                  simp at hj
                · obtain ⟨a',ha',q⟩:=oc hxs
                  rw [ha] at ha'
                  cases ha'
                  exact q j uu hj) (by rw [nl,hsz]) hnews hm hg c4 c5
            rw [hsz] at hvs hget
            obtain ⟨r1,r2⟩:=(hS.drew).newTok (σ':=σ1) (t:=tn) (sz:=sz) (N:=xs.length+ys.length) (c:=c') (vs:=vs) (T:=e) k1 k2 k3 k4 k4' k5
              (by rw [hvs];exact Nat.mul_le_mul_right _ hc') (by rw [hvs];exact Nat.le_refl _) hc'
            have he:Evo G w _ _:=(oV (G:=G) (w:=w)).trans r2
            refine ⟨_,_,_,hrun,?_,r1,he⟩
            have hres:=xQ (G:=G.withTok tn w.drew.heap.size ((xs.length+ys.length)*sz) (some ⟨w.drew.heap.size,0,none⟩,xs.length+ys.length,c')) (w:=w.drew.alloc (.cells vs e))
              (zs:=xs++ys) (b:=w.drew.heap.size) (t:=tn) (cap:=c') (L:=(xs.length+ys.length)*sz) hall (by rw [hlen];simp [Gh.withTok]) (by rw [hlen];exact hc') hne (by simp [Gh.withTok]) (by simp [Gh.withTok])
              (by rw [hlen];exact Nat.le_refl _) (fun p c hp=>by
                have hp':p<(xs.length+ys.length)*sz:=by rw [←hlen,←fW hall];exact (List.getElem?_eq_some_iff.1 hp).1
                refine ⟨(olds++news)[p]'(by omega),?_,RelV.mono he ?_⟩
                · rw [World.cell?_alloc_new,hget p hp']
                  exact List.getElem?_eq_getElem _
                · rw [hflat] at hp
                  exact hrel p c _ hp (List.getElem?_eq_getElem _))
            rw [hlen] at hres
            exact hres
          split at h
          · rename_i hfull
            cases h
            have hcap:cap=xs.length:=htk.2.1 hfull
            exact grows σ.length _ (by omega) (by simp) (fun i _ hi=>by rw [List.getElem?_append_left hi]) (by simp) (tJ hS (Nat.le_refl _)) (fun cs e=>by rw [H2 hS (Nat.le_refl _)] at e;cases e)
              (fun b n c e=>by obtain ⟨_,_,q,_⟩:=hS.tok _ _ _ _ e;have:=(List.getElem?_eq_some_iff.1 q).1;omega)
          · rename_i hfull
            split at h
            · rename_i t'
              split at h
              · rename_i sz' n ex hσ
                split at h
                · rename_i hq
                  obtain ⟨rfl,rfl⟩:=hq
                  cases h
                  obtain ⟨b,m,c,g1,g2,g3⟩:=htk.2.2 t' rfl
                  obtain ⟨sz2,ex2,s1,s2,s3,s4⟩:=hS.tok _ _ _ _ g1
                  rw [hσ] at s1
                  cases s1
                  obtain ⟨rfl,rfl⟩:=g3 (by simpa using hfull) rfl
                  by_cases hroom:xs.length+ys.length≤c
                  · have hex:ex=true:=by
                      cases ex with
                      |true=>rfl
                      |false=>have:=s3 rfl;omega
                    obtain ⟨bb,cur,T,rfl,p2,p3,p4,p5,p6⟩:=s4 hex
                    have hfit:xs.length*i.size+news.length≤cur.size:=by
                      rw [hsz,nl,←Nat.add_mul]
                      exact Nat.le_trans (Nat.mul_le_mul_right _ hroom) p6
                    have hrun:=yR (P:=P) (w:=w) (ty:=ty) (c:=cap2) ht hi p5 (by rw [nl,hsz]) hnews n1 hroom hfit
                    rw [hsz] at hrun hfit
                    obtain ⟨r1,r2⟩:=hS.growTok (m:=ys.length) (vs':=(cur.toList.take (xs.length*sz')++news++cur.toList.drop (xs.length*sz'+news.length)).toArray) ⟨_,hσ⟩ hm hroom g1 p2 p3 p4 p5 p6
                      (by simp;omega) (fun k hk=>by
                        simp only [List.getElem?_toArray]
                        rw [List.append_assoc,List.getElem?_append_left (by simp;omega),List.getElem?_take,if_pos hk]
                        simp)
                    refine ⟨_,_,_,hrun,?_,r1,r2⟩
                    have hrow:=setRow_heap w bb cur (cur.toList.take (xs.length*sz')++news++cur.toList.drop (xs.length*sz'+news.length)).toArray T (0,0) p5
                    have hres:=xQ (G:=G.withTok t' bb ((xs.length+ys.length)*sz') (some ⟨bb,0,none⟩,xs.length+ys.length,c))
                      (w:=w.setRow bb (cur.toList.take (xs.length*sz')++news++cur.toList.drop (xs.length*sz'+news.length)).toArray)
                      (zs:=xs++ys) (b:=bb) (t:=t') (cap:=c) (L:=(xs.length+ys.length)*sz') hall (by rw [hlen];simp [Gh.withTok]) (by rw [hlen];exact hroom) hne (by simp [Gh.withTok]) (by simp [Gh.withTok])
                      (by rw [hlen];exact Nat.le_refl _) (fun p c hp=>by
                        have hp':p<(xs.length+ys.length)*sz':=by rw [←hlen,←fW hall];exact (List.getElem?_eq_some_iff.1 hp).1
                        refine ⟨(olds++news)[p]'(by omega),?_,RelV.mono r2 ?_⟩
                        · rw [cell_of_row _ _ _ _ _ _ hrow]
                          simp only [List.getElem?_toArray]
                          have hmul:=Nat.add_mul xs.length ys.length sz'
                          by_cases hlt:p<xs.length*sz'
                          · rw [List.append_assoc,List.getElem?_append_left (by simp;omega),List.getElem?_take,if_pos hlt]
                            rw [List.getElem_append_left (by omega)]
                            have hxs:xs≠[]:=by intro e;rw [e] at hlt;simp at hlt
                            obtain ⟨a',ha',q⟩:=oc hxs
                            cases ha'
                            have hq:=q p _ (List.getElem?_eq_getElem (by omega))
                            rw [kB,Nat.zero_add,cell_of_row _ _ _ _ _ _ p5] at hq
                            simpa using hq
                          · rw [List.append_assoc,List.getElem?_append_right (by simp;omega),List.getElem?_append_left (by simp;omega)]
                            rw [List.getElem_append_right (by omega)]
                            simp only [List.length_take,Array.length_toList]
                            rw [←List.getElem?_eq_getElem]
                            congr 1
                            omega
                        · rw [hflat] at hp
                          exact hrel p c _ hp (List.getElem?_eq_getElem _))
                    rw [hlen] at hres
                    exact hres
                  · exact grows t' _ (by omega) (by simp) (fun i hi _=>List.getElem?_set_ne (Ne.symm hi)) (List.getElem?_set_self (List.getElem?_eq_some_iff.1 hσ).1) (L7 hS hσ) (fun cs e=>by have:=(hS.res _ _ e).2.2 cs rfl;rw [hσ] at this;cases this)
                      (fun b n c' e=>by rw [g1] at e;cases e;omega)
                · cases h
              · cases h
            · cases h
        · cases h
end Go.Am
namespace Go.Am
variable {P:Program} {hh:String→Bool} {G:Gh} {w:World} {σ σ':St} {env:Env}
theorem IF {t ty e:TypeId} {i:TypeInfo} {z:Value} {sz bytes:Nat} {x y r:AV} {u v:Value} (ht:P.underlying t=some (.slice e)) (hi:P.info? e=some i) (hz:i.zero=some z)
  (hzs:z.cells.size=i.size) (hsz:i.size=sz) (hby:i.bytes=bytes) (h0:0<sz) (hS:RelS P hh G w σ) (hx:RelV G w x u) (hy:RelV G w y v) (h:uQ sz bytes σ x y=some (r,σ')) :
  ∃ w' G' q,(Builtin.append_ #[t,t] ty #[u,v]).run P w = .ok q w'∧RelV G' w' r q∧RelS P hh G' w' σ'∧Evo G w G' w':=by
 subst hby
 cases x<;>try (simp [uQ] at h;done)
 case lit xs full tk =>
  obtain ⟨base,cap,rfl,htk,hbn⟩:=k6 hx
  cases hv:lO σ y with
  |none=>simp [uQ,hv] at h
  |some ys =>
   simp only [uQ,hv] at h
   split at h
   ·rename_i hy0
    cases h
    have:ys=[]:=List.eq_nil_of_length_eq_zero hy0
    subst this
    obtain ⟨b2,c2,rfl⟩:=B8 hy hv
    exact ⟨w,G,_,sD ht hi htk.1,hx,hS,.refl _ _⟩
   ·rename_i hy0
    split at h
    ·rename_i hcond
     cases h
     simp only [Bool.and_eq_true,decide_eq_true_eq] at hcond
     obtain ⟨⟨⟨⟨hfull,c1⟩,hall⟩,c4⟩,c5⟩:=hcond
     obtain ⟨c2,c3⟩:=sG.1 hall
     obtain ⟨base',cap',olds,e1,ol,oc,orr,o1⟩:=oT (y:=.lit xs full tk) h0 hS hx rfl rfl c2
     cases e1
     obtain ⟨b2,cap2,news,rfl,nl,nc,nr,n1⟩:=oT h0 hS hy hv c1 c3
     obtain ⟨a2,rfl,hnews⟩:=nc (fun e=>by rw [e] at hy0;exact hy0 rfl)
     have hm:0<ys.length:=Nat.pos_of_ne_zero hy0
     have hflat:(xs++ys).flatMap AV.cells=xs.flatMap AV.cells++ys.flatMap AV.cells:=List.flatMap_append
     have hrel:=s7 (G:=G) (w:=w) (az:=xs.flatMap AV.cells) (bs:=ys.flatMap AV.cells) (us:=olds) (vs:=news) (by rw [ol,fW c2]) orr nr
     have hcap:cap=xs.length:=htk.2.1 hfull
     obtain ⟨c',vs,hrun,hc',hvs,hget⟩:=tN (P:=P) (w:=w) (ty:=ty) (olds:=olds) (news:=news) (c2:=cap2) ht hi hz hzs htk.1 hbn (by rw [ol,hsz])
      (fun a ha j uu hj=>by
       by_cases hxs:xs=[]
       ·subst hxs
        have:olds=[]:=List.eq_nil_of_length_eq_zero (by simpa using ol)
        rw [this] at hj
        simp at hj
       ·obtain ⟨a',ha',q⟩:=oc hxs
        rw [ha] at ha'
        cases ha'
        exact q j uu hj) (by rw [nl,hsz]) hnews hm (by omega) c4 c5
     rw [hsz] at hvs hget
     have hfl:((xs++ys).flatMap AV.cells).length=(xs.length+ys.length)*sz:=by rw [fW hall,List.length_append]
     obtain ⟨r1,r2⟩:=sN (hS.drew) (cs:=(xs++ys).flatMap AV.cells) (vs:=vs) (T:=e) (by rw [hvs,hfl];exact Nat.mul_le_mul_right _ hc') (fun p c q hp hq=>by
      have hp':p<(xs.length+ys.length)*sz:=by rw [←hfl];exact (List.getElem?_eq_some_iff.1 hp).1
      rw [hget p hp'] at hq
      rw [hflat] at hp
      exact (hrel p c q hp hq).mono oV)
     exact ⟨_,_,_,hrun,.ref (b:=w.heap.size) (fB (G:=G)) (fun _=>rfl) hc' (fun e=>by cases e),r1,oV.trans r2⟩
    ·cases h
theorem RQ {σ:St} {id:Nat} {x:ABlk} (h:σ[id]? = some x):σ.set id x=σ:=by
 apply List.ext_getElem?
 intro i
 by_cases hi:i=id
 ·subst hi
  rw [List.getElem?_set_self (List.getElem?_eq_some_iff.1 h).1,h]
 ·rw [List.getElem?_set_ne (Ne.symm hi)]
theorem yO {sz:Nat}:∀ {ys:List AV} {n:Nat},aL sz ys=true→(ys.take n).flatMap AV.cells=(ys.flatMap AV.cells).take (Nat.min ys.length n*sz)
 |[],n,_=>by simp
 |y::ys,0,_=>by simp [Nat.min]
 |y::ys,n+1,h=>by
  obtain ⟨h1,h2⟩:=jD h
  have hm:Nat.min (ys.length+1) (n+1)=Nat.min ys.length n+1:=by show min _ _=min _ _+1;omega
  simp only [List.take_succ_cons,List.flatMap_cons,List.length_cons,hm]
  rw [yO h2,Nat.add_mul,Nat.one_mul,Nat.add_comm,←h1.1,List.take_length_add_append,h1.1]
theorem JK {dT sT ty e:TypeId} {sz:Nat} {x y r:AV} {u v:Value} (ht:P.underlying dT=some (.slice e)) (hs:fT P e=some sz)
  (hS:RelS P hh G w σ) (hx:RelV G w x u) (hy:RelV G w y v) (h:s8 sz σ x y=some (r,σ')) :
  ∃ w' G' q,(Builtin.copy_ #[dT,sT] ty #[u,v]).run P w = .ok q w'∧RelV G' w' r q∧RelS P hh G' w' σ'∧Evo G w G' w':=by
 obtain ⟨hrs,h0,_⟩:=fN hs w
 cases x<;>try (simp [s8] at h;done)
 case ref id off len sz' =>
  cases hv:lO σ y with
  |none=>simp [s8,hv] at h
  |some ys =>
   simp only [s8,hv] at h
   split at h
   ·rename_i hcond
    simp only [Bool.and_eq_true,decide_eq_true_eq] at hcond
    obtain ⟨⟨rfl,c1⟩,c2⟩:=hcond
    split at h
    ·rename_i cs hcs
     split at h
     ·rename_i cs' hset
      cases h
      cases hx with
      |ref hl hb hcap hn =>
       rename_i b base cap
       obtain ⟨b2,cap2,us,rfl,ul,uc,ur,u1⟩:=oT h0 hS hy hv c1 c2
       have hfirst:(Builtin.firstCells sz' (Nat.min ys.length len) (.slice b2 ys.length cap2)).run P w = .ok (us.take (Nat.min ys.length len*sz')).toArray w:=by
        have hle:Nat.min ys.length len*sz'≤us.length:=by rw [ul];exact Nat.mul_le_mul_right _ (Nat.min_le_left _ _)
        by_cases hne:ys=[]
        ·subst hne
         have:us=[]:=List.eq_nil_of_length_eq_zero (by simpa using ul)
         subst this
         cases b2<;>simp [Builtin.firstCells,loadCells,loadCellsFrom,Nat.min]
        ·obtain ⟨a,rfl,hcell⟩:=uc hne
         exact run_firstCells_some w _ _ a _ _ _ (by simp;omega) fun j q hj=>hcell j q (by rw [List.getElem?_take] at hj;split at hj<;>simp_all)
       have hrun0:∀ w',(match base with|some a=>(storeCells a (us.take (Nat.min ys.length len*sz'))).run P w = .ok () w'|none=>w'=w) →
         (Builtin.copy_ #[dT,sT] ty #[.slice base len cap,.slice b2 ys.length cap2]).run P w = .ok (goInt (Nat.min ys.length len)) w':=by
        intro w' hw'
        cases base with
        |none =>
         simp only at hw'
         subst hw'
         simp [Builtin.copy_,run_underlying ht,Builtin.lenOf,hrs,hfirst]
        |some a =>
         simp only at hw'
         simp [Builtin.copy_,run_underlying ht,Builtin.lenOf,hrs,hfirst,hw']
       by_cases hlen:len=0
       ·subst hlen
        have e0:Nat.min ys.length 0*sz'=0:=by simp [Nat.min]
        have hz:cs'=cs:=by
         obtain ⟨_,q2,_⟩:=pV hset
         simpa using q2
        subst hz
        have hσ:σ.set id (.cells cs')=σ:=by
         unfold aM at hcs
         split at hcs
         ·rename_i ds he;cases hcs;exact RQ he
         ·cases hcs
        refine ⟨w,G,_,hrun0 w ?_,?_,by rw [hσ];exact hS,.refl _ _⟩
        ·cases base with
         |none=>rfl
         |some a=>rw [e0];rfl
        ·exact .int _ _
       ·have hbs:=hb hlen
        subst hbs
        have hz:((ys.take len).flatMap AV.cells).length=Nat.min ys.length len*sz':=by
         rw [yO c2,List.length_take,fW c2]
         have:Nat.min ys.length len*sz'≤ys.length*sz':=Nat.mul_le_mul_right _ (Nat.min_le_left _ _)
         omega
        obtain ⟨w',e1,e2,e3⟩:=tC (P:=P) (us:=us.take (Nat.min ys.length len*sz')) hS hl hcs hset
         (by
          rw [hz,List.length_take,ul]
          have:Nat.min ys.length len*sz'≤ys.length*sz':=Nat.mul_le_mul_right _ (Nat.min_le_left _ _)
          omega)
         (fun p c q hp hq=>by
          rw [yO c2,List.getElem?_take] at hp
          rw [List.getElem?_take] at hq
          by_cases hlt:p<Nat.min ys.length len*sz'
          ·rw [if_pos hlt] at hp hq
           exact ur p c q hp hq
          ·rw [if_neg hlt] at hp
           cases hp)
         (fun q hq=>u1 q (List.mem_of_mem_take hq))
        exact ⟨w',G,_,hrun0 w' e1,.int _ _,e2,e3⟩
     ·cases h
    ·cases h
   ·cases h
theorem kZ {sk:SK} {a b:AV} {u v:Value} {r:Bool} (ha:RelV G w a u) (hb:RelV G w b v) (h:iB sk a b=some r) :
  (sk = .i∧∃ k x y,u = .int k x∧v = .int k y∧r=(x==y))∨(sk = .b∧∃ x y,u = .bool x∧v = .bool y∧r=(x==y))∨(sk = .s∧∃ x y,u = .string x∧v = .string y∧r=(x.toList==y.toList)):=by
 unfold iB at h
 split at h
 ·split at h
  ·rename_i hk
   subst hk
   cases h
   cases ha
   cases hb
   exact .inl ⟨rfl,_,_,_,rfl,rfl,rfl⟩
  ·cases h
 ·cases h
  cases ha
  cases hb
  exact .inr (.inl ⟨rfl,_,_,rfl,rfl,rfl⟩)
 ·cases h
  cases ha
  cases hb
  exact .inr (.inr ⟨rfl,_,_,rfl,rfl,rfl⟩)
 ·cases h
theorem aF4 (bs:ByteArray) (n i:Nat) (r:List UInt8) (h:bs.size-i=n):ByteArray.toList.loop bs i r=r.reverse++bs.data.toList.drop i:=by
 induction n generalizing i r with
 |zero =>
  rw [ByteArray.toList.loop]
  have:¬i<bs.size:=by omega
  rw [if_neg this,List.drop_eq_nil_of_le (by simp;show bs.size≤i;omega)]
  simp
 |succ n ih =>
  rw [ByteArray.toList.loop]
  have hi:i<bs.size:=by omega
  have hi':i<bs.data.toList.length:=by simpa using hi
  rw [if_pos hi,ih (i+1) _ (by omega),List.drop_eq_getElem_cons hi']
  have:bs.get! i=bs.data.toList[i]:=by
   simp [ByteArray.get!,getElem!_pos,hi]
  simp [this]
theorem w8 (bs:ByteArray):bs.toList=bs.data.toList:=by
 unfold ByteArray.toList
 rw [aF4 bs _ 0 [] rfl]
 simp
theorem GA (x y:ByteArray):(x==y)=(x.toList==y.toList):=by
 show ByteArray.beq x y=_
 rw [w8,w8]
 rcases x with ⟨⟨x⟩⟩
 rcases y with ⟨⟨y⟩⟩
 simp only [ByteArray.beq]
 rw [Bool.eq_iff_iff]
 simp
end Go.Am
namespace Go.Am
variable {P:Program} {hh:String→Bool} {G:Gh} {w:World} {σ σ':St} {env:Env}
def g8 (P:Program) (G:Gh) (w:World) (t:TypeId) (x:Value) (az:List AV):Prop :=
 match fS P t with
 |some true=>∃ vs,x = .agg vs∧vs.size=az.length∧∀ (i:Nat) (a:AV) (v:Value),az[i]? = some a→vs[i]? = some v→RelV G w a v
 |_=>∃ a,az=[a]∧RelV G w a x
theorem jN:∀ {ks:List SK} {az bs:List AV} {r:Bool},cB ks az bs=some r→az.length=ks.length∧bs.length=ks.length
 |[],[],[],_,_=>⟨rfl,rfl⟩
 |k::ks,a::az,b::bs,r,h=>by
  simp only [cB] at h
  split at h
  ·rename_i p q h1 h2
   obtain ⟨e1,e2⟩:=jN h2
   simp [e1,e2]
  ·cases h
 |[],_::_,_,_,h=>by simp [cB] at h
 |[],[],_::_,_,h=>by simp [cB] at h
 |_::_,[],_,_,h=>by simp [cB] at h
 |_::_,_::_,[],_,h=>by simp [cB] at h
theorem oA:∀ {k1 k2:List SK} {a1 b1 a2 b2:List AV} {r:Bool},a1.length=k1.length→b1.length=k1.length→cB (k1++k2) (a1++a2) (b1++b2)=some r →
  ∃ r1 r2,cB k1 a1 b1=some r1∧cB k2 a2 b2=some r2∧r=(r1&&r2)
 |[],k2,[],[],a2,b2,r,_,_,h=>⟨true,r,rfl,h,by simp⟩
 |k::k1,k2,a::a1,b::b1,a2,b2,r,hl,hl',h=>by
  simp only [List.cons_append,cB] at h
  cases hp:iB k a b with
  |none=>simp [hp] at h
  |some p =>
   cases hq:cB (k1++k2) (a1++a2) (b1++b2) with
   |none=>simp [hp,hq] at h
   |some q =>
    simp only [hp,hq,Option.some.injEq] at h
    obtain ⟨r1,r2,e1,e2,rfl⟩:=oA (by simpa using hl) (by simpa using hl') hq
    exact ⟨p&&r1,r2,by simp [cB,hp,e1],e2,by rw [←h,Bool.and_assoc]⟩
 |[],k2,a::a1,_,a2,b2,r,hl,_,h=>by simp at hl
 |[],k2,[],b::b1,a2,b2,r,_,hl,h=>by simp at hl
 |k::k1,k2,[],_,a2,b2,r,hl,_,h=>by simp at hl
 |k::k1,k2,a::a1,[],a2,b2,r,_,hl,h=>by simp at hl
theorem zA {t:TypeId} {i:TypeInfo} (h:P.info? t=some i) (w:World):(sizeOf t).run P w = .ok i.size w:=by simp [sizeOf,typeInfo,h]
theorem mQ {t:TypeId} {off:Nat} {b:Bool} {i:TypeInfo} {vs:Array Value} {az:List AV} (hi:P.info? t=some i) (ha:fS P t=some b) (hb:b=false→i.size=1) (hl:vs.size=az.length)
  (hr:∀ (i:Nat) (a:AV) (v:Value),az[i]? = some a→vs[i]? = some v→RelV G w a v) (hle:off+i.size≤az.length) :
  ∃ u,(part t vs off).run P w = .ok u w∧g8 P G w t u ((az.drop off).take i.size):=by
 cases b with
 |true =>
  refine ⟨.agg (vs.extract off (off+i.size)),by simp [part,lA ha,zA hi],?_⟩
  simp only [g8,ha]
  refine ⟨_,rfl,by simp;omega,fun j a v h1 h2=>?_⟩
  rw [List.getElem?_take] at h1
  split at h1
  ·rw [List.getElem?_drop] at h1
   refine hr _ a v h1 ?_
   rw [Array.getElem?_extract] at h2
   split at h2
   ·exact h2
   ·cases h2
  ·cases h1
 |false =>
  have hn:=hb rfl
  have h1:off<vs.size:=by omega
  refine ⟨vs[off],by simp [part,lA ha,Array.getElem?_eq_getElem h1],?_⟩
  simp only [g8,ha,hn]
  have h2:off<az.length:=by omega
  refine ⟨az[off],?_,hr off _ _ (List.getElem?_eq_getElem h2) (Array.getElem?_eq_getElem h1)⟩
  rw [List.drop_eq_getElem_cons h2,List.take_succ_cons,List.take_zero]
theorem tE {D:Nat} {t:TypeId} {ks:List SK} (h:plainT P D t=some ks):∃ b,fS P t=some b∧(b=false→ks.length=1):=by
 cases D with
 |zero=>simp [plainT] at h
 |succ D =>
  simp only [plainT] at h
  unfold fS
  cases hu:P.underlying t with
  |none=>simp [hu] at h
  |some d =>
   cases d<;>simp only [hu] at h<;>first|(cases h;done)|skip
   ·cases h;exact ⟨false,rfl,fun _=>rfl⟩
   ·cases h;exact ⟨false,rfl,fun _=>rfl⟩
   ·cases h;exact ⟨false,rfl,fun _=>rfl⟩
   ·exact ⟨true,rfl,fun e=>by cases e⟩
   ·exact ⟨true,rfl,fun e=>by cases e⟩
structure EqOk (P:Program) (D:Nat) (t:TypeId) (ks:List SK):Prop where
 eq:∀ (G:Gh) (w:World) (d:Nat),D≤d→∀ (x y:Value) (az bs:List AV) (r:Bool),g8 P G w t x az→g8 P G w t y bs→cB ks az bs=some r →
  (Op.equalIn d t x y).run P w = .ok r w
 key:∀ (G:Gh) (w:World) (d:Nat),D≤d→∀ (em:Bool) (x:Value) (az:List AV),g8 P G w t x az→az.length=ks.length→(Instr.checkKey em d t x).run P w = .ok () w
def lC (em:Bool) (d:Nat) (xs:Array Value):List Field→Sem Unit
 |[]=>pure ()
 |f::fs=>do
  if f.name≠ "_" then do
   let a ← part f.type xs f.offset
   Instr.checkKey em d f.type a
   lC em d xs fs
  else lC em d xs fs
structure FieldsOk (P:Program) (D:Nat) (fs:List Field) (n:Nat) (ks:List SK):Prop where
 eq:∀ (G:Gh) (w:World) (d:Nat),D≤d→∀ (xs ys:Array Value) (az bs:List AV) (r:Bool),xs.size=az.length→ys.size=bs.length→n+ks.length≤az.length→n+ks.length≤bs.length →
  (∀ (i:Nat) (a:AV) (v:Value),az[i]? = some a→xs[i]? = some v→RelV G w a v)→(∀ (i:Nat) (a:AV) (v:Value),bs[i]? = some a→ys[i]? = some v→RelV G w a v) →
  cB ks ((az.drop n).take ks.length) ((bs.drop n).take ks.length)=some r→(Op.eqFields d xs ys fs).run P w = .ok r w
 key:∀ (G:Gh) (w:World) (d:Nat),D≤d→∀ (em:Bool) (xs:Array Value) (az:List AV),xs.size=az.length→n+ks.length≤az.length →
  (∀ (i:Nat) (a:AV) (v:Value),az[i]? = some a→xs[i]? = some v→RelV G w a v)→(lC em d xs fs).run P w = .ok () w
theorem uV (em:Bool) (d:Nat) (t:TypeId) (xs:Array Value) {fs:Array Field} (ht:P.underlying t=some (.struct fs)) (w:World) :
  (Instr.checkKey em (d+1) t (.agg xs)).run P w=(lC em d xs fs.toList).run P w:=by
 simp only [Instr.checkKey,Sem.run_bind,run_underlying ht,Result.andThen_ok]
 rw [←Array.forIn_toList]
 generalize fs.toList=l
 clear ht
 induction l generalizing w with
 |nil=>simp [lC]
 |cons f l ih =>
  simp only [List.forIn_cons,lC,Sem.run_bind,Sem.run_ite]
  split
  ·generalize (part f.type xs f.offset).run P w=r1
   cases r1 with
   |ok a w1 =>
    simp only [Result.andThen_ok]
    generalize (Instr.checkKey em d f.type a).run P w1=r2
    cases r2 with
    |ok b w2=>simp only [Result.andThen_ok,Sem.run_pure];exact ih w2
    |halt x w2=>simp [Result.andThen]
   |halt x w1=>simp [Result.andThen]
  ·simp only [Sem.run_pure,Result.andThen_ok]
   exact ih w
def oB (em:Bool) (d:Nat) (e:TypeId) (c:Nat) (xs:Array Value):List Nat→Sem Unit
 |[]=>pure ()
 |i::is=>do
  let a ← part e xs (i*c)
  Instr.checkKey em d e a
  oB em d e c xs is
theorem vK (em:Bool) (d:Nat) {t e:TypeId} {n:Nat} {i:TypeInfo} (xs:Array Value) (hu:P.underlying t=some (.array n e)) (hi:P.info? e=some i) (w:World) :
  (Instr.checkKey em (d+1) t (.agg xs)).run P w=(oB em d e i.size xs (List.range n)).run P w:=by
 simp only [Instr.checkKey,Sem.run_bind,run_underlying hu,Result.andThen_ok]
 simp only [Std.Legacy.Range.forIn_eq_forIn_range',Std.Legacy.Range.size,Nat.sub_zero,Nat.add_one_sub_one,Nat.div_one,List.range_eq_range']
 generalize List.range' 0 n=is
 induction is generalizing w with
 |nil=>simp [oB]
 |cons j is ih =>
  simp only [List.forIn_cons,oB,Sem.run_bind,zA hi,Result.andThen_ok]
  generalize (part e xs (j*i.size)).run P w=r1
  cases r1 with
  |ok a w1 =>
   simp only [Result.andThen_ok]
   generalize (Instr.checkKey em d e a).run P w1=r2
   cases r2 with
   |ok b w2=>simp only [Result.andThen_ok,Sem.run_pure];exact ih w2
   |halt x w2=>simp [Result.andThen]
  |halt x w1=>simp [Result.andThen]
theorem IX {D d c:Nat} {e:TypeId} {ks:List SK} {i:TypeInfo} (hE:EqOk P D e ks) (hd:D≤d) (hi:P.info? e=some i) (hc:i.size=ks.length) (hag:∃ b,fS P e=some b∧(b=false→ks.length=1))
  {xs ys:Array Value} {az bs:List AV} (h1:xs.size=az.length) (h2:ys.size=bs.length) (h3:∀ (i:Nat) (a:AV) (v:Value),az[i]? = some a→xs[i]? = some v→RelV G w a v)
  (h4:∀ (i:Nat) (a:AV) (v:Value),bs[i]? = some a→ys[i]? = some v→RelV G w a v):∀ (k s:Nat) (r:Bool),(s+k)*ks.length≤az.length→(s+k)*ks.length≤bs.length →
  cB (List.replicate k ks).flatten ((az.drop (s*ks.length)).take (k*ks.length)) ((bs.drop (s*ks.length)).take (k*ks.length))=some r →
  (Op.eqItems d e ks.length xs ys (List.range' s k)).run P w = .ok r w
 |0,s,r,_,_,h=>by
  simp [cB] at h
  simp [Op.eqItems,h]
 |k+1,s,r,ha,hb,h=>by
  obtain ⟨b,hb1,hb2⟩:=hag
  have split:∀ l:List AV,(l.drop (s*ks.length)).take ((k+1)*ks.length)=(l.drop (s*ks.length)).take ks.length++(l.drop ((s+1)*ks.length)).take (k*ks.length):=by
   intro l
   rw [Nat.add_mul,Nat.one_mul,Nat.add_comm (k*ks.length),List.take_add,List.drop_drop,Nat.add_mul,Nat.one_mul]
  have hle:s*ks.length+ks.length≤(s+(k+1))*ks.length:=by
   rw [show s+(k+1)=(s+1)+k from by omega,Nat.add_mul (s+1),Nat.add_mul s,Nat.one_mul];omega
  rw [List.replicate_succ,List.flatten_cons,split az,split bs] at h
  obtain ⟨r1,r2,e1,e2,rfl⟩:=oA (by simp;omega) (by simp;omega) h
  obtain ⟨a,p1,c1⟩:=mQ (off:=s*ks.length) hi hb1 (fun e=>by rw [hc];exact hb2 e) h1 h3 (by rw [hc];omega)
  obtain ⟨b',p2,c2⟩:=mQ (off:=s*ks.length) hi hb1 (fun e=>by rw [hc];exact hb2 e) h2 h4 (by rw [hc];omega)
  rw [hc] at c1 c2
  have p3:=hE.eq G w d hd a b' _ _ r1 c1 c2 e1
  have ih:=IX (c:=c) hE hd hi hc ⟨b,hb1,hb2⟩ h1 h2 h3 h4 k (s+1) r2 (by rw [show s+1+k=s+(k+1) from by omega];exact ha) (by rw [show s+1+k=s+(k+1) from by omega];exact hb) e2
  simp only [List.range'_succ,Op.eqItems,Sem.run_bind,p1,p2,p3,Result.andThen_ok]
  cases r1
  ·simp
  ·simpa using ih
theorem DW {D d:Nat} {e:TypeId} {ks:List SK} {i:TypeInfo} (em:Bool) (hE:EqOk P D e ks) (hd:D≤d) (hi:P.info? e=some i) (hc:i.size=ks.length) (hag:∃ b,fS P e=some b∧(b=false→ks.length=1))
  {xs:Array Value} {az:List AV} (h1:xs.size=az.length) (h3:∀ (i:Nat) (a:AV) (v:Value),az[i]? = some a→xs[i]? = some v→RelV G w a v):∀ (k s:Nat),(s+k)*ks.length≤az.length →
  (oB em d e ks.length xs (List.range' s k)).run P w = .ok () w
 |0,s,_=>by simp [oB]
 |k+1,s,ha=>by
  obtain ⟨b,hb1,hb2⟩:=hag
  have hle:s*ks.length+ks.length≤(s+(k+1))*ks.length:=by
   rw [show s+(k+1)=(s+1)+k from by omega,Nat.add_mul (s+1),Nat.add_mul s,Nat.one_mul];omega
  obtain ⟨a,p1,c1⟩:=mQ (off:=s*ks.length) hi hb1 (fun e=>by rw [hc];exact hb2 e) h1 h3 (by rw [hc];omega)
  rw [hc] at c1
  have p2:=hE.key G w d hd em a _ c1 (by simp;omega)
  have ih:=DW em hE hd hi hc ⟨b,hb1,hb2⟩ h1 h3 k (s+1) (by rw [show s+1+k=s+(k+1) from by omega];exact ha)
  simp only [List.range'_succ,oB,Sem.run_bind,p1,p2,Result.andThen_ok]
  exact ih
theorem tS (n:Nat) (ks:List SK):(List.replicate n ks).flatten.length=n*ks.length:=by
 induction n with
 |zero=>simp
 |succ n ih=>rw [List.replicate_succ,List.flatten_cons,List.length_append,ih,Nat.add_mul];omega
theorem YW (D:Nat):(∀ t ks,plainT P D t=some ks→EqOk P D t ks)∧(∀ fs n ks,plainFields P D fs n=some ks→FieldsOk P D fs n ks):=by
 induction D with
 |zero=>exact ⟨fun t ks h=>by simp [plainT] at h,fun fs n ks h=>by simp [plainFields] at h⟩
 |succ D ih =>
  obtain ⟨ihA,ihB⟩:=ih
  constructor
  ·intro t ks h
   obtain ⟨ab,hab,_⟩:=tE h
   simp only [plainT] at h
   cases hu:P.underlying t with
   |none=>simp [hu] at h
   |some dd =>
    have scal:∀ {k:SK},ks=[k]→fS P t=some false→(∀ (k':IntKind),dd = .int k'→k = .i)→(dd = .bool→k = .b)→(dd = .string→k = .s)→(dd = .bool∨(∃ k',dd = .int k')∨dd = .string)→EqOk P (D+1) t ks:=by
     intro k hk hag q1 q2 q3 hdd
     subst hk
     constructor
     ·intro G w d hd x y az bs r hx hy he
      obtain ⟨d,rfl⟩:∃ e,d=e+1:=⟨d-1,by omega⟩
      simp only [g8,hag] at hx hy
      obtain ⟨a,rfl,ra⟩:=hx
      obtain ⟨b,rfl,rb⟩:=hy
      simp only [cB] at he
      cases hc:iB k a b with
      |none=>simp [hc] at he
      |some q =>
       simp only [hc,Bool.and_true,Option.some.injEq] at he
       subst he
       rcases hdd with rfl|⟨k',rfl⟩|rfl
       ·have:=q2 rfl;subst this
        rcases kZ ra rb hc with ⟨e,_⟩|⟨_,p1,p2,rfl,rfl,rfl⟩|⟨e,_⟩
        ·cases e
        ·exact run_equalIn_bool' w d t p1 p2 hu
        ·cases e
       ·have:=q1 k' rfl;subst this
        rcases kZ ra rb hc with ⟨_,kk,p1,p2,rfl,rfl,rfl⟩|⟨e,_⟩|⟨e,_⟩
        ·exact run_equalIn_int w d t kk k' p1 p2 hu
        ·cases e
        ·cases e
       ·have:=q3 rfl;subst this
        rcases kZ ra rb hc with ⟨e,_⟩|⟨e,_⟩|⟨_,p1,p2,rfl,rfl,rfl⟩
        ·cases e
        ·cases e
        ·exact run_equalIn_string w d t p1 p2 hu
     ·intro G w d hd em x az hx _
      obtain ⟨d,rfl⟩:∃ e,d=e+1:=⟨d-1,by omega⟩
      rcases hdd with rfl|⟨k',rfl⟩|rfl<;>simp [Instr.checkKey,run_underlying hu]
    cases dd<;>simp only [hu] at h<;>first|(cases h;done)|skip
    case bool=>cases h;exact scal rfl (by simp [fS,hu]) (fun _ e=>by cases e) (fun _=>rfl) (fun e=>by cases e) (.inl rfl)
    case int k=>cases h;exact scal rfl (by simp [fS,hu]) (fun _ _=>rfl) (fun e=>by cases e) (fun e=>by cases e) (.inr (.inl ⟨_,rfl⟩))
    case string=>cases h;exact scal rfl (by simp [fS,hu]) (fun _ e=>by cases e) (fun e=>by cases e) (fun _=>rfl) (.inr (.inr rfl))
    case array n e =>
     have hag:fS P t=some true:=by simp [fS,hu]
     cases hp:plainT P D e with
     |none=>simp [hp] at h
     |some k0 =>
      cases hi:P.info? e with
      |none=>simp [hp,hi] at h
      |some i =>
       simp only [hp,hi] at h
       split at h
       ·rename_i hc
        cases h
        have hE:=ihA e k0 hp
        have hpa:=tE hp
        constructor
        ·intro G w d hd x y az bs r hx hy he
         obtain ⟨d,rfl⟩:∃ e,d=e+1:=⟨d-1,by omega⟩
         simp only [g8,hag] at hx hy
         obtain ⟨xs,rfl,sx,rx⟩:=hx
         obtain ⟨ys,rfl,sy,ry⟩:=hy
         obtain ⟨l1,l2⟩:=jN he
         rw [tS] at l1 l2
         have hcc:P.cellsOf e=k0.length:=by simp [Program.cellsOf,hi,hc]
         rw [run_equalIn_array w d xs ys hu hi,hcc,List.range_eq_range']
         refine IX (c:=0) hE (by omega) hi hc hpa sx sy rx ry n 0 r (by rw [Nat.zero_add];omega) (by rw [Nat.zero_add];omega) ?_
         rw [Nat.zero_mul,List.drop_zero,List.drop_zero,List.take_of_length_le (by omega),List.take_of_length_le (by omega)]
         exact he
        ·intro G w d hd em x az hx hl
         obtain ⟨d,rfl⟩:∃ e,d=e+1:=⟨d-1,by omega⟩
         simp only [g8,hag] at hx
         obtain ⟨xs,rfl,sx,rx⟩:=hx
         rw [tS] at hl
         rw [vK em d xs hu hi,hc,List.range_eq_range']
         exact DW em hE (by omega) hi hc hpa sx rx n 0 (by rw [Nat.zero_add];omega)
       ·cases h
    case struct fs =>
     have hag:fS P t=some true:=by simp [fS,hu]
     split at h
     ·cases h
     ·rename_i hst
      have hst':P.stoodInHeld t=false:=by simpa using hst
      have hF:=ihB _ _ _ h
      have hfs:P.fieldsOf t=fs:=by simp [Program.fieldsOf,hu]
      constructor
      ·intro G w d hd x y az bs r hx hy he
       obtain ⟨d,rfl⟩:∃ e,d=e+1:=⟨d-1,by omega⟩
       simp only [g8,hag] at hx hy
       obtain ⟨xs,rfl,sx,rx⟩:=hx
       obtain ⟨ys,rfl,sy,ry⟩:=hy
       obtain ⟨l1,l2⟩:=jN he
       rw [run_equalIn_struct w d t xs ys (by rw [hfs];exact hu) hst',hfs]
       refine hF.eq G w d (by omega) xs ys az bs r sx sy (by omega) (by omega) rx ry ?_
       rw [List.drop_zero,List.drop_zero,List.take_of_length_le (by omega),List.take_of_length_le (by omega)]
       exact he
      ·intro G w d hd em x az hx hl
       obtain ⟨d,rfl⟩:∃ e,d=e+1:=⟨d-1,by omega⟩
       simp only [g8,hag] at hx
       obtain ⟨xs,rfl,sx,rx⟩:=hx
       rw [uV em d t xs hu]
       exact hF.key G w d (by omega) em xs az sx (by omega) rx
  ·intro fs n ks h
   cases fs with
   |nil =>
    simp [plainFields] at h
    subst h
    constructor
    ·intro G w d hd xs ys az bs r _ _ _ _ _ _ he
     simp [cB] at he
     simp [Op.eqFields,he]
    ·intro G w d hd em xs az _ _ _
     simp [lC]
   |cons f fs =>
    simp only [plainFields] at h
    split at h
    ·cases h
    ·rename_i hcond
     have hname:f.name≠ "_":=fun e=>hcond (.inl e)
     have hoff:f.offset=n:=by
      by_cases e:f.offset=n
      ·exact e
      ·exact absurd (.inr e) hcond
     cases hp:plainT P D f.type with
     |none=>simp [hp] at h
     |some k0 =>
      cases hi:P.info? f.type with
      |none=>simp [hp,hi] at h
      |some i =>
       simp only [hp,hi] at h
       split at h
       ·rename_i hc
        cases hr:plainFields P D fs (n+k0.length) with
        |none=>simp [hr] at h
        |some kr =>
         simp only [hr,Option.some.injEq] at h
         subst h
         have hE:=ihA _ _ hp
         have hF:=ihB _ _ _ hr
         obtain ⟨b,hb1,hb2⟩:=tE hp
         have hoff':f.offset=n:=hoff
         constructor
         ·intro G w d hd xs ys az bs r sx sy lx ly rx ry he
          simp only [List.length_append] at lx ly
          have split:∀ l:List AV,(l.drop n).take (k0++kr).length=(l.drop n).take k0.length++(l.drop (n+k0.length)).take kr.length:=by
           intro l
           rw [List.length_append,List.take_add,List.drop_drop]
          rw [split az,split bs] at he
          obtain ⟨r1,r2,e1,e2,rfl⟩:=oA (by simp;omega) (by simp;omega) he
          obtain ⟨a,p1,c1⟩:=mQ (off:=n) hi hb1 (fun e=>by rw [hc];exact hb2 e) sx rx (by rw [hc];omega)
          obtain ⟨b',p2,c2⟩:=mQ (off:=n) hi hb1 (fun e=>by rw [hc];exact hb2 e) sy ry (by rw [hc];omega)
          rw [hc] at c1 c2
          have p3:=hE.eq G w d (by omega) a b' _ _ r1 c1 c2 e1
          have p4:=hF.eq G w d (by omega) xs ys az bs r2 sx sy (by omega) (by omega) rx ry e2
          simp only [Op.eqFields,hname,ne_eq,not_false_eq_true,if_true,Sem.run_bind,hoff',p1,p2,p3,Result.andThen_ok]
          cases r1
          ·simp
          ·simpa using p4
         ·intro G w d hd em xs az sx lx rx
          simp only [List.length_append] at lx
          obtain ⟨a,p1,c1⟩:=mQ (off:=n) hi hb1 (fun e=>by rw [hc];exact hb2 e) sx rx (by rw [hc];omega)
          rw [hc] at c1
          have p3:=hE.key G w d (by omega) em a _ c1 (by simp;omega)
          have p4:=hF.key G w d (by omega) em xs az sx (by omega) rx
          simp only [lC,hname,ne_eq,not_false_eq_true,if_true,Sem.run_bind,hoff',p1,p3,Result.andThen_ok]
          exact p4
       ·cases h
end Go.Am
set_option linter.constructorNameAsVariable false
namespace Go.Am
variable {P:Program} {hh:String→Bool} {G:Gh} {w:World} {σ σ':St} {env:Env}
theorem xZ {t:TypeId} {sh:EqTy} (h:eqT P t=some sh) :
  (∃ k,sh = .one k∧plainT P tG t=some [k]∧fS P t=some false)∨(∃ ks,sh = .agg ks∧plainT P tG t=some ks∧fS P t=some true∧P.eqGuardType P.depth t=false):=by
 unfold eqT at h
 split at h
 ·rename_i k h1 h2;cases h;exact .inl ⟨k,rfl,h1,h2⟩
 ·rename_i ks h1 h2
  split at h
  ·cases h
  ·rename_i hg;cases h;exact .inr ⟨ks,rfl,h1,h2,by simpa using hg⟩
 ·cases h
theorem A0 {t:TypeId} {sh:EqTy} {x y:AV} {u v:Value} {r:Bool} (ht:eqT P t=some sh) (hx:RelV G w x u) (hy:RelV G w y v) (h:kR sh x y=some r) :
  ∃ ks az bs,plainT P tG t=some ks∧g8 P G w t u az∧g8 P G w t v bs∧cB ks az bs=some r:=by
 rcases xZ ht with ⟨k,rfl,h1,h2⟩|⟨ks,rfl,h1,h2,h3⟩
 ·simp only [kR] at h
  refine ⟨[k],[x],[y],h1,?_,?_,by simp [cB,h]⟩
  ·simp only [g8,h2];exact ⟨x,rfl,hx⟩
  ·simp only [g8,h2];exact ⟨y,rfl,hy⟩
 ·cases x<;>cases y<;>simp only [kR] at h<;>first|(cases h;done)|skip
  rename_i cs ds
  cases hx with
  |agg sx rx =>
   cases hy with
   |agg sy ry =>
    refine ⟨ks,cs,ds,h1,?_,?_,h⟩
    ·simp only [g8,h2];exact ⟨_,rfl,sx,rx⟩
    ·simp only [g8,h2];exact ⟨_,rfl,sy,ry⟩
theorem yY {t:TypeId} {sh:EqTy} {x y:AV} {u v:Value} {r:Bool} (ht:eqT P t=some sh) (hx:RelV G w x u) (hy:RelV G w y v) (h:kR sh x y=some r) :
  (Op.equal t u v).run P w = .ok r w:=by
 obtain ⟨ks,az,bs,h1,h2,h3,h4⟩:=A0 ht hx hy h
 exact ((YW tG).1 t ks h1).eq G w Op.maxDepth (by decide) u v az bs r h2 h3 h4
theorem LQ {t:TypeId} {sh:EqTy} {x y:AV} {u v:Value} {r:Bool} (neg:Bool) (xo yo:Operand) (ht:eqT P t=some sh) (hx:RelV G w x u) (hy:RelV G w y v) (h:kR sh x y=some r) :
  ((do eqGuard (if neg then .neq else .eql) t xo yo u v;binOp (if neg then .neq else .eql) t u v:Sem Value)).run P w = .ok (.bool (if neg then !r else r)) w:=by
 have he:=yY ht hx hy h
 rcases xZ ht with ⟨k,rfl,h1,h2⟩|⟨ks,rfl,h1,h2,h3⟩
 ·simp only [kR] at h
  rcases kZ hx hy h with ⟨rfl,kk,a,b,rfl,rfl,rfl⟩|⟨rfl,a,b,rfl,rfl,rfl⟩|⟨rfl,a,b,rfl,rfl,rfl⟩
  ·cases neg<;>simp [eqGuard,binOp,Op.intCmp,bne]
  ·cases neg<;>simp [eqGuard,binOp,he]
  ·cases neg<;>simp [eqGuard,binOp,Op.stringOp]
 ·cases x<;>cases y<;>simp only [kR] at h<;>first|(cases h;done)|skip
  cases hx with
  |agg sx rx =>
   cases hy with
   |agg sy ry =>
    cases neg<;>simp [eqGuard,binOp,he,h3]
def kJ (sh:EqTy) (k:AV):List (AV×AV)→Option (Option Nat)
 |[]=>some none
 |(k',_)::es =>
  match kR sh k k' with
  |some true=>some (some 0)
  |some false=>(kJ sh k es).map (Option.map (·+1))
  |none=>none
theorem A9 {sh:EqTy} {k:AV}:∀ {es:List (AV×AV)} {r:Option AV},findKey sh k es=some r →
  (kJ sh k es=some none∧r=none)∨∃ i k' v,kJ sh k es=some (some i)∧es[i]? = some (k',v)∧r=some v∧kR sh k k'=some true
 |[],r,h=>by simp [findKey] at h;exact .inl ⟨rfl,h.symm⟩
 |(k',v)::es,r,h=>by
  simp only [findKey] at h
  split at h
  ·rename_i he
   cases h
   exact .inr ⟨0,k',v,by simp [kJ,he],rfl,rfl,he⟩
  ·rename_i he
   rcases A9 h with ⟨h1,h2⟩|⟨i,k2,v2,h1,h2,h3,h4⟩
   ·exact .inl ⟨by simp [kJ,he,h1],h2⟩
   ·exact .inr ⟨i+1,k2,v2,by simp [kJ,he,h1],by simpa using h2,h3,h4⟩
  ·cases h
theorem D2 {sh:EqTy} {k v:AV}:∀ {es es':List (AV×AV)},oK sh k v es=some es' →
  (kJ sh k es=some none∧es'=es++[(k,v)])∨∃ i k' v',kJ sh k es=some (some i)∧es[i]? = some (k',v')∧es'=es.set i (k,v)∧kR sh k k'=some true
 |[],es',h=>by simp [oK] at h;exact .inl ⟨rfl,by simp [h]⟩
 |(k',v')::es,es',h=>by
  simp only [oK] at h
  split at h
  ·rename_i he
   cases h
   exact .inr ⟨0,k',v',by simp [kJ,he],rfl,rfl,he⟩
  ·rename_i he
   cases hs:oK sh k v es with
   |none=>simp [hs] at h
   |some es2 =>
    simp only [hs,Option.map_some,Option.some.injEq] at h
    subst h
    rcases D2 hs with ⟨h1,h2⟩|⟨i,k2,v2,h1,h2,h3,h4⟩
    ·exact .inl ⟨by simp [kJ,he,h1],by simp [h2]⟩
    ·exact .inr ⟨i+1,k2,v2,by simp [kJ,he,h1],by simpa using h2,by simp [h3],h4⟩
  ·cases h
theorem SL {t:TypeId} {k:SK} (h1:plainT P tG t=some [k]) (h2:fS P t=some false) :
  (k = .i∧∃ q,P.underlying t=some (.int q))∨(k = .b∧P.underlying t=some .bool)∨(k = .s∧P.underlying t=some .string):=by
 unfold fS at h2
 rw [show tG=59+1 from rfl] at h1
 simp only [plainT] at h1
 cases hu:P.underlying t with
 |none=>simp [hu] at h2
 |some d =>
  cases d<;>simp only [hu] at h1 h2<;>first|(cases h1;done)|(simp at h2;done)|skip
  ·cases h1;exact .inr (.inl ⟨rfl,rfl⟩)
  ·cases h1;exact .inl ⟨rfl,_,rfl⟩
  ·cases h1;exact .inr (.inr ⟨rfl,rfl⟩)
theorem RD {t:TypeId} (h2:fS P t=some true):(∃ fs,P.underlying t=some (.struct fs))∨∃ n e,P.underlying t=some (.array n e):=by
 unfold fS at h2
 cases hu:P.underlying t with
 |none=>simp [hu] at h2
 |some d=>cases d<;>simp_all
def mV (G:Gh) (w:World) (es:List (AV×AV)) (ents:List MapEntry):Prop :=
 ents.length=es.length∧∀ (i:Nat) (p:AV×AV) (e:MapEntry),es[i]? = some p→ents[i]? = some e→RelV G w p.1 e.key∧RelV G w p.2 e.val
theorem mV.tail {p:AV×AV} {es:List (AV×AV)} {e:MapEntry} {ents:List MapEntry} (h:mV G w (p::es) (e::ents)):mV G w es ents :=
 ⟨by simpa using h.1,fun i q f h1 h2=>h.2 (i+1) q f (by simpa using h1) (by simpa using h2)⟩
theorem tK {t:TypeId} {sh:EqTy} {k:AV} {kv:Value} (ht:eqT P t=some sh) (hk:RelV G w k kv):∀ {es:List (AV×AV)} {ents:List MapEntry} {r:Option Nat} (base:Nat),mV G w es ents →
  kJ sh k es=some r→(Instr.findAsking t kv ents base).run P w = .ok (r.bind fun i=>(ents[i]?).map fun e=>(base+i,e.val)) w
 |[],ents,r,base,hE,h=>by
  have:ents=[]:=List.eq_nil_of_length_eq_zero hE.1
  subst this
  simp [kJ] at h
  subst h
  simp [Instr.findAsking]
 |(k',v)::es,[],r,base,hE,h=>by simp [mV] at hE
 |(k',v)::es,e::ents,r,base,hE,h=>by
  obtain ⟨r1,r2⟩:=hE.2 0 _ _ rfl rfl
  simp only [kJ] at h
  split at h
  ·rename_i he
   cases h
   have:=yY ht hk r1 he
   simp [Instr.findAsking,this]
  ·rename_i he
   have hq:=yY ht hk r1 he
   cases hi:kJ sh k es with
   |none=>simp [hi] at h
   |some r' =>
    simp only [hi,Option.map_some,Option.some.injEq] at h
    subst h
    have ih:=tK ht hk (base+1) hE.tail hi
    simp only [Instr.findAsking,Sem.run_bind,hq,Result.andThen_ok,Bool.false_eq_true,if_false,ih]
    cases r' with
    |none=>rfl
    |some i=>simp [Nat.add_assoc,Nat.add_comm 1 i]
  ·cases h
theorem wD {t:TypeId} {k:SK} {a b:AV} {u v:Value} {r:Bool} {d:TypeDesc} (hd:(k = .i∧∃ q,d = .int q)∨(k = .b∧d = .bool)∨(k = .s∧d = .string)) (ha:RelV G w a u) (hb:RelV G w b v) (h:iB k a b=some r) :
  Instr.sameNow d u v=some r:=by
 rcases kZ ha hb h with ⟨rfl,kk,x,y,rfl,rfl,rfl⟩|⟨rfl,x,y,rfl,rfl,rfl⟩|⟨rfl,x,y,rfl,rfl,rfl⟩
 ·rcases hd with ⟨_,q,rfl⟩|⟨e,_⟩|⟨e,_⟩
  ·simp [Instr.sameNow]
  ·cases e
  ·cases e
 ·rcases hd with ⟨e,_⟩|⟨_,rfl⟩|⟨e,_⟩
  ·cases e
  ·simp [Instr.sameNow]
  ·cases e
 ·rcases hd with ⟨e,_⟩|⟨e,_⟩|⟨_,rfl⟩
  ·cases e
  ·cases e
  ·simp [Instr.sameNow,GA]
theorem y2 {d:TypeDesc} {k:SK} {x:AV} {kv:Value} (hd:(k = .i∧∃ q,d = .int q)∨(k = .b∧d = .bool)∨(k = .s∧d = .string)) (hk:RelV G w x kv) :
  ∀ {es:List (AV×AV)} {ents:List MapEntry} {r:Option Nat} (base:Nat),mV G w es ents→kJ (.one k) x es=some r →
  Instr.findNow d kv ents base=some (r.bind fun i=>(ents[i]?).map fun e=>(base+i,e.val))
 |[],ents,r,base,hE,h=>by
  have:ents=[]:=List.eq_nil_of_length_eq_zero hE.1
  subst this
  simp [kJ] at h
  subst h
  simp [Instr.findNow]
 |(k',v)::es,[],r,base,hE,h=>by simp [mV] at hE
 |(k',v)::es,e::ents,r,base,hE,h=>by
  obtain ⟨r1,r2⟩:=hE.2 0 _ _ rfl rfl
  simp only [kJ,kR] at h
  split at h
  ·rename_i he
   cases h
   simp [Instr.findNow,wD (t:=0) hd hk r1 he]
  ·rename_i he
   cases hi:kJ (.one k) x es with
   |none=>simp [hi] at h
   |some r' =>
    simp only [hi,Option.map_some,Option.some.injEq] at h
    subst h
    have ih:=y2 hd hk (base+1) hE.tail hi
    simp only [Instr.findNow,wD (t:=0) hd hk r1 he,ih]
    cases r' with
    |none=>rfl
    |some i=>simp [Nat.add_assoc,Nat.add_comm 1 i]
  ·cases h
theorem m6 {t:TypeId} {sh:EqTy} {k:AV} {kv:Value} {es:List (AV×AV)} {ents:List MapEntry} {r:Option Nat} (ht:eqT P t=some sh) (hk:RelV G w k kv) (hE:mV G w es ents)
  (h:kJ sh k es=some r):(Instr.findKey t kv ents).run P w = .ok (r.bind fun i=>(ents[i]?).map fun e=>(i,e.val)) w:=by
 rcases xZ ht with ⟨k0,rfl,h1,h2⟩|⟨ks,rfl,h1,h2,h3⟩
 ·obtain ⟨d,hu,hd⟩:∃ d,P.underlying t=some d∧((k0 = .i∧∃ q,d = .int q)∨(k0 = .b∧d = .bool)∨(k0 = .s∧d = .string)):=by
   rcases SL h1 h2 with ⟨e,q,hu⟩|⟨e,hu⟩|⟨e,hu⟩
   ·exact ⟨_,hu,.inl ⟨e,q,rfl⟩⟩
   ·exact ⟨_,hu,.inr (.inl ⟨e,rfl⟩)⟩
   ·exact ⟨_,hu,.inr (.inr ⟨e,rfl⟩)⟩
  have:=y2 hd hk 0 hE h
  simp only [Nat.zero_add] at this
  simp only [Instr.findKey,Sem.run_bind,run_underlying hu,Result.andThen_ok,this,Sem.run_pure]
 ·obtain ⟨d,hu,hd⟩:∃ d,P.underlying t=some d∧∀ a b,Instr.sameNow d a b=none:=by
   rcases RD h2 with ⟨fs,hu⟩|⟨n,e,hu⟩
   ·exact ⟨_,hu,fun a b=>by cases a<;>cases b<;>rfl⟩
   ·exact ⟨_,hu,fun a b=>by cases a<;>cases b<;>rfl⟩
  cases ents with
  |nil =>
   have:es=[]:=List.eq_nil_of_length_eq_zero hE.1.symm
   subst this
   simp [kJ] at h
   subst h
   simp [Instr.findKey,run_underlying hu,Instr.findNow]
  |cons e ents =>
   have:=tK (P:=P) ht hk 0 hE h
   simp only [Nat.zero_add] at this
   simp only [Instr.findKey,Sem.run_bind,run_underlying hu,Result.andThen_ok,Instr.findNow,hd]
   exact this
theorem qW {t:TypeId} {sh:EqTy} {k:AV} {kv:Value} (em:Bool) (ht:eqT P t=some sh) (hk:RelV G w k kv) (h:(kR sh k k).isSome=true):(Instr.checkKey em 10000 t kv).run P w = .ok () w:=by
 obtain ⟨r,hr⟩:=Option.isSome_iff_exists.1 h
 obtain ⟨ks,az,bs,h1,h2,h3,h4⟩:=A0 ht hk hk hr
 exact ((YW tG).1 t ks h1).key G w 10000 (by decide) em kv az h2 (jN h4).1
theorem jT {r:Nat} {es:Array MapEntry} {clock:Nat} (hb:w.heap[r]? = some (.map es clock)):(getObj r).run P w = .ok (.map es clock) w:=by simp [getObj,Sem.run,hb]
theorem AN {r:Nat} {es:Array MapEntry} {clock:Nat} (o:Obj) (hb:w.heap[r]? = some (.map es clock)):(setObj r o).run P w = .ok () { w with heap:=w.heap.setIfInBounds r o }:=by simp [setObj,Sem.run,hb]
theorem wT {t key elem:TypeId} {sh:EqTy} {zero:AV} {m k:AV} {r:Option AV} {mv kv:Value} (ok:Bool) (hu:P.underlying t=some (.map key elem)) (ht:eqT P key=some sh) (hz:G9 P elem=some zero)
  (hS:RelS P hh G w σ) (hm:RelV G w m mv) (hk:RelV G w k kv) (h:vC sh σ m k=some r) :
  ∃ q,(Instr.lookup t mv kv ok).run P w = .ok q w∧RelV G w (if ok then .tuple [r.getD zero,.bool r.isSome] else r.getD zero) q:=by
 obtain ⟨iz,zv,_,_,hzv,hzrun⟩:=BR hz
 have hzr:RelV G w zero zv:=tU hzv
 have res:∀ {a:AV} {u:Value} (b:Bool),RelV G w a u→RelV G w (if ok then .tuple [a,.bool b] else a) (if ok then .tuple #[u,.bool b] else u):=by
  intro a u b ha
  cases ok with
  |false=>exact ha
  |true =>
   refine .tuple (by simp) fun i x v h1 h2=>?_
   match i with
   |0=>simp at h1 h2;subst h1;subst h2;exact ha
   |1=>simp at h1 h2;subst h1;subst h2;exact .bool _
   |i+2=>simp at h1
 cases m<;>simp only [vC] at h<;>first|(cases h;done)|skip
 case nilMap =>
  cases hm
  split at h
  ·rename_i hc
   cases h
   refine ⟨_,?_,res false hzr⟩
   have h1:=qW (P:=P) true ht hk hc
   have h2:=m6 (P:=P) (es:=[]) (ents:=[]) (r:=none) ht hk ⟨rfl,fun i p e h=>by simp at h⟩ rfl
   simp only [Option.bind_none] at h2
   cases ok<;>simp [Instr.lookup,run_underlying hu,h1,h2,hzrun]
  ·cases h
 case map id =>
  cases hm with
  |map hl =>
   rename_i b
   cases hσ:σ[id]? with
   |none=>simp [hσ] at h
   |some blk =>
    cases blk<;>simp only [hσ] at h<;>first|(cases h;done)|skip
    rename_i es
    split at h
    ·rename_i hc
     obtain ⟨ents,hb,hlen,hborn,hrel⟩:=hS.blk _ _ _ hl hσ
     have hE:mV G w es ents.toList:=⟨by simpa using hlen,fun i p e h1 h2=>hrel i p e h1 (by simpa using h2)⟩
     have hck:∀ em,(Instr.checkKey em 10000 key kv).run P w = .ok () w:=fun em=>qW em ht hk hc
     rcases A9 h with ⟨h1,rfl⟩|⟨i,k',v,h1,h2,rfl,h4⟩
     ·refine ⟨_,?_,res false hzr⟩
      have h2:=m6 (P:=P) ht hk hE h1
      simp only [Option.bind_none] at h2
      cases ok<;>simp [Instr.lookup,run_underlying hu,jT hb,hck,h2,hzrun]
     ·have hi:i<ents.toList.length:=by have:=(List.getElem?_eq_some_iff.1 h2).1;simp;omega
      have he:=List.getElem?_eq_getElem hi
      refine ⟨_,?_,res true (hE.2 i _ _ h2 he).2⟩
      have h3:=m6 (P:=P) ht hk hE h1
      simp only [Option.bind_some,he,Option.map_some] at h3
      cases ok<;>simp [Instr.lookup,run_underlying hu,jT hb,hck,h3]
    ·cases h
theorem HV {sh:EqTy} {k k':AV} {u v:Value} (hk:RelV G w k u) (hk':RelV G w k' v) (h:kR sh k k'=some true) (n:Nat):Instr.sameBits (n+1) v u=true:=by
 have one:∀ {s:SK} {a b:AV} {x y:Value} (n:Nat),RelV G w a x→RelV G w b y→iB s a b=some true→Instr.sameBits n y x=true:=by
  intro s a b x y n ha hb he
  rcases kZ ha hb he with ⟨_,kk,p,q,rfl,rfl,e⟩|⟨_,p,q,rfl,rfl,e⟩|⟨_,p,q,rfl,rfl,e⟩
  ·have:p=q:=by simpa using e.symm
   subst this
   simp [Instr.sameBits]
  ·have:p=q:=by simpa using e.symm
   subst this
   simp [Instr.sameBits]
  ·have e':(q==p)=true:=by
    rw [GA]
    have:=e.symm
    simp only [beq_iff_eq] at this ⊢
    exact this.symm
   simp [Instr.sameBits,e']
 cases sh with
 |one s=>exact one _ hk hk' h
 |agg ks =>
  cases k<;>cases k'<;>simp only [kR] at h<;>first|(cases h;done)|skip
  rename_i cs ds
  cases hk with
  |agg sx rx =>
   rename_i xs
   cases hk' with
   |agg sy ry =>
    rename_i ys
    obtain ⟨l1,l2⟩:=jN h
    simp only [Instr.sameBits,Bool.and_eq_true,beq_iff_eq]
    refine ⟨by omega,?_⟩
    have key:∀ {ks:List SK} {cs ds:List AV} {xs ys:List Value},cB ks cs ds=some true→xs.length=cs.length→ys.length=ds.length →
      (∀ (i:Nat) (a:AV) (v:Value),cs[i]? = some a→xs[i]? = some v→RelV G w a v)→(∀ (i:Nat) (a:AV) (v:Value),ds[i]? = some a→ys[i]? = some v→RelV G w a v) →
      ((ys.zip xs).all fun (x,y)=>Instr.sameBits n x y)=true:=by
     intro ks
     induction ks with
     |nil =>
      intro cs ds xs ys he hx hy _ _
      cases cs<;>cases ds<;>simp [cB] at he
      have:ys=[]:=List.eq_nil_of_length_eq_zero hy
      subst this
      simp
     |cons s ks ih =>
      intro cs ds xs ys he hx hy r1 r2
      match cs,ds,xs,ys,hx,hy with
      |c::cs,d::ds,x::xs,y::ys,hx,hy =>
       simp only [cB] at he
       cases hc:iB s c d with
       |none=>simp [hc] at he
       |some p =>
        cases hq:cB ks cs ds with
        |none=>simp [hc,hq] at he
        |some q =>
         simp only [hc,hq,Option.some.injEq,Bool.and_eq_true] at he
         obtain ⟨rfl,rfl⟩:=he
         have h0:=one n (r1 0 c x rfl rfl) (r2 0 d y rfl rfl) hc
         have ht:=ih hq (by simpa using hx) (by simpa using hy) (fun i a v e1 e2=>r1 (i+1) a v (by simpa using e1) (by simpa using e2)) (fun i a v e1 e2=>r2 (i+1) a v (by simpa using e1) (by simpa using e2))
         simp only [List.zip_cons_cons,List.all_cons,Bool.and_eq_true]
         exact ⟨h0,ht⟩
      |[],d::ds,_,_,_,_=>simp [cB] at he
      |[],[],_,_,_,_=>simp [cB] at he
      |c::cs,[],_,_,_,_=>simp [cB] at he
    exact key h (by simpa using sx) (by simpa using sy) (fun i a v e1 e2=>rx i a v e1 (by simpa using e2)) (fun i a v e1 e2=>ry i a v e1 (by simpa using e2))
theorem FK {t key elem:TypeId} {sh:EqTy} {k x:AV} {id:Nat} {es es':List (AV×AV)} {mv kv xv:Value} (hu:P.underlying t=some (.map key elem)) (ht:eqT P key=some sh)
  (hS:RelS P hh G w σ) (hm:RelV G w (.map id) mv) (hk:RelV G w k kv) (hx:RelV G w x xv) (hc:(kR sh k k).isSome=true) (hσ:σ[id]? = some (.map es)) (h:oK sh k x es=some es') :
  ∃ w',(Instr.mapUpdate t mv kv xv).run P w = .ok () w'∧RelS P hh G w' (σ.set id (.map es'))∧Evo G w G w':=by
 cases hm with
 |map hl =>
  rename_i b
  obtain ⟨ents,hb,hlen,hborn,hrel⟩:=hS.blk _ _ _ hl hσ
  have hE:mV G w es ents.toList:=⟨by simpa using hlen,fun i p e h1 h2=>hrel i p e h1 (by simpa using h2)⟩
  have hck:∀ em,(Instr.checkKey em 10000 key kv).run P w = .ok () w:=fun em=>qW em ht hk hc
  have hbl:b<w.heap.size:=(Array.getElem?_eq_some_iff.1 hb).1
  rcases D2 h with ⟨h1,rfl⟩|⟨i,k',v',h1,h2,rfl,h4⟩
  ·have hf:=m6 (P:=P) ht hk hE h1
   simp only [Option.bind_none] at hf
   refine ⟨{ w with heap:=w.heap.setIfInBounds b (.map (ents.push { key:=kv,val:=xv,born:=es.length }) (es.length+1)) },by simp [Instr.mapUpdate,run_underlying hu,jT hb,hck,hf,AN _ hb],?_⟩
   have hp:=k8 w b (.map (ents.push { key:=kv,val:=xv,born:=es.length }) (es.length+1))
   refine hS.write hl hp hσ (fun _ _ _ e=>by cases e) ⟨ents.push { key:=kv,val:=xv,born:=es.length },?_,by simp [hlen],fun i e he=>?_,fun i p e h1 h2=>?_⟩
   ·simp [Array.getElem?_setIfInBounds_self,hbl]
   ·rw [Array.getElem?_push] at he
    split at he
    ·rename_i hi;cases he;simp;omega
    ·exact hborn i e he
   ·have hev:=oH hp (hS.fresh _ _ hl).2.2.1
    rw [Array.getElem?_push] at h2
    by_cases hi:i=es.length
    ·subst hi
     rw [if_pos hlen.symm] at h2
     cases h2
     rw [List.getElem?_append_right (Nat.le_refl _)] at h1
     simp at h1
     subst h1
     exact ⟨hk.mono hev,hx.mono hev⟩
    ·rw [if_neg (by omega)] at h2
     have hi2:i<es.length:=by have:=(Array.getElem?_eq_some_iff.1 h2).1;omega
     rw [List.getElem?_append_left hi2] at h1
     obtain ⟨q1,q2⟩:=hrel i p e h1 h2
     exact ⟨q1.mono hev,q2.mono hev⟩
  ·have hf:=m6 (P:=P) ht hk hE h1
   have hi:i<ents.size:=by have:=(List.getElem?_eq_some_iff.1 h2).1;omega
   have he:ents.toList[i]? = some ents[i]:=by simp [hi]
   simp only [Option.bind_some,he,Option.map_some] at hf
   have hsb:Instr.sameBits 10000 ents[i].key kv=true:=HV hk (hE.2 i _ _ h2 he).1 h4 9999
   have hks:(Instr.keyThatStays ents[i].key kv).run P w = .ok kv w:=by simp [Instr.keyThatStays,hsb]
   refine ⟨{ w with heap:=w.heap.setIfInBounds b (.map (ents.modify i fun e=>{ e with key:=kv,val:=xv }) es.length) },by simp [Instr.mapUpdate,run_underlying hu,jT hb,hck,hf,Array.getElem?_eq_getElem hi,hks,AN _ hb],?_⟩
   have hp:=k8 w b (.map (ents.modify i fun e=>{ e with key:=kv,val:=xv }) es.length)
   have hev:=oH hp (hS.fresh _ _ hl).2.2.1
   refine hS.write hl hp hσ (fun _ _ _ e=>by cases e) ⟨ents.modify i fun e=>{ e with key:=kv,val:=xv },?_,by simp [hlen],fun j e he'=>?_,fun j p e h1 h2'=>?_⟩
   ·simp [Array.getElem?_setIfInBounds_self,hbl]
   ·rw [Array.getElem?_modify] at he'
    split at he'
    ·cases hj:ents[j]? with
     |none=>simp [hj] at he'
     |some e0 =>
      simp only [hj,Option.map_some,Option.some.injEq] at he'
      subst he'
      exact hborn j e0 hj
    ·exact hborn j e he'
   ·by_cases hij:i=j
    ·subst hij
     rw [List.getElem?_set_self (List.getElem?_eq_some_iff.1 h2).1] at h1
     cases h1
     rw [Array.getElem?_modify,if_pos rfl] at h2'
     simp only [Array.getElem?_eq_getElem hi,Option.map_some,Option.some.injEq] at h2'
     subst h2'
     exact ⟨hk.mono hev,hx.mono hev⟩
    ·rw [List.getElem?_set_ne hij] at h1
     rw [Array.getElem?_modify,if_neg hij] at h2'
     obtain ⟨q1,q2⟩:=hrel j p e h1 h2'
     exact ⟨q1.mono hev,q2.mono hev⟩
end Go.Am
