/- A part of the proofs: an abstract machine, or what functions come to on it. -/
import Derived.Test.YtnioeddjaihmmaaOutQ1
import Derived.RangeFuncLeaves
import Derived.OrdersIn
import Derived.Laws.AppendOwn
import Derived.Laws.CopyRow
import Derived.Laws.Rows
import Derived.Below
import Derived.Laws.Entries
import Derived.DeepKeys3
set_option linter.unusedVariables false
set_option linter.unusedSimpArgs false
set_option linter.defProp false
namespace Go.Am.Room
def L29_0 : ACode := .seq (.reg [⟨some 30,.mnext (.t 29),none⟩,⟨some 31,.ext (.t 30) 0,none⟩])
 (.seq (.cond (.t 31) .skip
 (.jump (.exit 0)))
 (.block 1 (.seq (.reg [⟨some 32,.entry (.t 29),none⟩,⟨some 33,.ext (.t 32) 0,none⟩,⟨some 7,.alloc [.int .i64 0, .int .i64 0, .int .i64 0, .int .i64 0, .int .i64 0, .int .i64 0, .int .i64 0],none⟩,⟨none,.store 7 (.t 7) (.t 33),none⟩])
 (.dreg [⟨⟨some 34,.faddr (.t 4) 0,none⟩, 0, 0⟩,⟨⟨some 35,.load none (.t 34),none⟩, 0, 0⟩,⟨⟨some 36,.mov (.t 1),none⟩, 0, 0⟩,⟨⟨some 37,.iaddr (some 7) 1 (.t 7) (.t 36),none⟩, 0, 0⟩,⟨⟨some 38,.load none (.t 37),none⟩, 0, 0⟩,⟨⟨some 39,.min [.t 35,.t 38],none⟩, 0, 0⟩,⟨⟨some 40,.faddr (.t 4) 1,none⟩, 0, 0⟩,⟨⟨some 41,.load none (.t 40),none⟩, 0, 0⟩,⟨⟨some 42,.mov (.t 1),none⟩, 0, 0⟩,⟨⟨some 43,.iaddr (some 7) 1 (.t 7) (.t 42),none⟩, 0, 0⟩,⟨⟨some 44,.load none (.t 43),none⟩, 0, 0⟩,⟨⟨some 45,.max [.t 41,.t 44],none⟩, 0, 0⟩,⟨⟨some 46,.build [.int .i64 0, .int .i64 0] [(0, 1, (.t 39)), (1, 1, (.t 45))],none⟩, 0, 0⟩,⟨⟨none,.store 2 (.t 4) (.t 46),none⟩, 0, 1⟩]))))
def a29 : AFunc := ⟨48, [.cell 4 (some 2), .tmp 5],
 .seq (.reg [⟨some 2,.box 7 (.t 0),none⟩,⟨some 4,.alloc [.int .i64 0, .int .i64 0],none⟩,⟨some 5,.mov (.c (.int .i64 0)),none⟩])
 (.seq (.dreg [⟨⟨some 9,.load (some 7) (.t 2),none⟩, 0, 1⟩,⟨⟨some 10,.mov (.t 1),none⟩, 0, 0⟩,⟨⟨some 11,.faddr (.t 2) 0,none⟩, 0, 0⟩,⟨⟨some 12,.load none (.t 11),none⟩, 0, 0⟩,⟨⟨some 13,.len 1 (.t 12),none⟩, 0, 0⟩,⟨⟨some 14,.bin .sub (.t 13) (.c (.int .i64 1)),none⟩, 0, 0⟩,⟨⟨some 15,.mklit 1 [.t 10,.t 14],none⟩, 0, 0⟩,⟨⟨some 16,.call (.c (.func 71 [] [])) [.t 15],none⟩, 0, 1⟩,⟨⟨some 17,.call (.c (.func 70 [] [])) [(.t 9), (.c (.int .i64 (-1099511627776))), (.t 16)],none⟩, 1, 2⟩,⟨⟨some 8,.mov (.t 17),none⟩, 2, 2⟩,⟨⟨some 18,.ext (.t 8) 0,none⟩, 2, 2⟩,⟨⟨some 19,.ext (.t 8) 1,none⟩, 2, 2⟩,⟨⟨some 6,.mov (.t 18),none⟩, 2, 2⟩,⟨⟨some 5,.mov (.t 19),none⟩, 2, 2⟩])
 (.seq (.seq (.reg [⟨some 20,.mov (.t 5),none⟩,⟨some 21,.eql (.one .i) true (.t 20) (.c (.int .i64 0)),none⟩])
 (.cond (.t 21) (.seq (.reg [⟨some 22,.load (some 2) (.t 4),none⟩,⟨some 23,.mov (.t 5),none⟩,⟨none,.store 2 (.t 4) (.t 22),none⟩,⟨some 5,.mov (.t 23),none⟩])
 (.jump .ret))
 .skip))
 (.seq (.reg [⟨some 24,.build [.int .i64 0, .int .i64 0] [(0, 1, (.c (.int .i64 2)))],none⟩,⟨none,.store 2 (.t 4) (.t 24),none⟩])
 (.seq (.seq (.reg [⟨some 25,.mov (.t 6),none⟩,⟨some 26,.nilCheck (.t 25),none⟩,⟨some 27,.faddr (.t 26) 8,none⟩,⟨some 28,.load none (.t 27),none⟩,⟨some 29,.mrange (.t 28),none⟩])
 (.block 0 (.loop L29_0)))
 (.seq (.reg [⟨some 47,.load (some 2) (.t 4),none⟩,⟨none,.store 2 (.t 4) (.t 47),none⟩,⟨some 5,.mov (.c (.int .i64 0)),none⟩])
 (.jump .ret))))))⟩
def L31_0 : ACode := .seq (.reg [⟨some 49,.bin .lss (.t 48) (.t 47),none⟩])
 (.seq (.cond (.t 49) .skip
 (.jump (.exit 0)))
 (.seq (.block 1 (.seq (.reg [⟨some 50,.mov (.t 48),none⟩,⟨some 13,.mov (.t 50),none⟩])
 (.seq (.reg [⟨some 51,.mov (.t 9),none⟩,⟨some 52,.mov (.t 13),none⟩,⟨some 53,.mov (.t 1),none⟩,⟨some 54,.call (.c (.func 72 [] [])) [.t 51,.t 52,.t 53],none⟩,⟨some 14,.alloc [.int .i64 0, .int .i64 0],none⟩,⟨none,.store 2 (.t 14) (.t 54),none⟩])
 (.seq (.seq (.reg [⟨some 55,.faddr (.t 14) 1,none⟩,⟨some 56,.load none (.t 55),none⟩,⟨some 57,.faddr (.t 3) 3,none⟩,⟨some 58,.faddr (.t 57) 1,none⟩,⟨some 59,.load none (.t 58),none⟩,⟨some 60,.bin .add (.t 56) (.t 59),none⟩,⟨some 61,.faddr (.t 3) 2,none⟩,⟨some 62,.load none (.t 61),none⟩,⟨some 63,.bin .leq (.t 60) (.t 62),none⟩])
 (.cond (.t 63) (.reg [⟨some 64,.mov (.t 10),none⟩,⟨some 65,.mov (.t 13),none⟩,⟨some 66,.bin .shl (.c (.int .i64 1)) (.t 65),none⟩,⟨some 67,.bin .or (.t 64) (.t 66),none⟩,⟨some 10,.mov (.t 67),none⟩])
 .skip))
 (.seq (.reg [⟨some 68,.faddr (.t 14) 0,none⟩,⟨some 69,.load none (.t 68),none⟩,⟨some 70,.faddr (.t 3) 1,none⟩,⟨some 71,.load none (.t 70),none⟩,⟨some 72,.bin .lss (.t 69) (.t 71),none⟩])
 (.cond (.t 72) (.reg [⟨some 73,.mov (.t 11),none⟩,⟨some 74,.mov (.t 13),none⟩,⟨some 75,.bin .shl (.c (.int .i64 1)) (.t 74),none⟩,⟨some 76,.bin .or (.t 73) (.t 75),none⟩,⟨some 11,.mov (.t 76),none⟩])
 .skip))))))
 (.reg [⟨some 77,.bin .add (.t 48) (.c (.int .i64 1)),none⟩,⟨some 48,.mov (.t 77),none⟩])))
def L31_4 : ACode := .seq (.reg [⟨some 97,.bin .lss (.t 96) (.t 95),none⟩])
 (.seq (.cond (.t 97) .skip
 (.jump (.exit 4)))
 (.seq (.block 5 (.seq (.reg [⟨some 98,.iaddr none 1 (.t 94) (.t 96),none⟩,⟨some 99,.load none (.t 98),none⟩,⟨some 21,.mov (.t 99),none⟩])
 (.reg [⟨some 100,.mov (.t 19),none⟩,⟨some 101,.mov (.t 12),none⟩,⟨some 102,.mov (.t 21),none⟩,⟨some 103,.iaddr none 4 (.t 101) (.t 102),none⟩,⟨some 104,.faddr (.t 103) 3,none⟩,⟨some 105,.load none (.t 104),none⟩,⟨some 106,.bin .add (.t 100) (.t 105),none⟩,⟨some 19,.mov (.t 106),none⟩])))
 (.reg [⟨some 107,.bin .add (.t 96) (.c (.int .i64 1)),none⟩,⟨some 96,.mov (.t 107),none⟩])))
def L31_2 : ACode := .seq (.reg [⟨some 82,.bin .lss (.t 81) (.t 80),none⟩])
 (.seq (.cond (.t 82) .skip
 (.jump (.exit 2)))
 (.seq (.block 3 (.seq (.reg [⟨some 83,.mov (.t 81),none⟩,⟨some 16,.mov (.t 83),none⟩])
 (.seq (.reg [⟨some 84,.mov (.t 16),none⟩,⟨some 85,.mov (.t 12),none⟩,⟨some 86,.len 1 (.t 85),none⟩,⟨some 87,.call (.c (.func 78 [] [])) [.t 84,.t 86],none⟩,⟨some 88,.mov (.t 16),none⟩,⟨some 89,.mov (.t 11),none⟩,⟨some 90,.bin .and (.t 88) (.t 89),none⟩,⟨some 91,.mov (.t 12),none⟩,⟨some 92,.len 1 (.t 91),none⟩,⟨some 93,.call (.c (.func 78 [] [])) [.t 90,.t 92],none⟩,⟨some 17,.mov (.t 87),none⟩,⟨some 18,.mov (.t 93),none⟩,⟨some 19,.mov (.c (.int .i64 0)),none⟩])
 (.seq (.seq (.reg [⟨some 94,.mov (.t 17),none⟩,⟨some 95,.len 1 (.t 94),none⟩,⟨some 96,.mov (.c (.int .i64 0)),none⟩])
 (.block 4 (.loop L31_4)))
 (.seq (.seq (.reg [⟨some 108,.mov (.t 16),none⟩,⟨some 109,.mov (.t 10),none⟩,⟨some 110,.bin .andNot (.t 108) (.t 109),none⟩,⟨some 111,.eql (.one .i) true (.t 110) (.c (.int .i64 0)),none⟩,⟨some 112,.mov (.t 111),none⟩,⟨some 113,.mov (.t 19),(some (112, false))⟩,⟨some 114,.mov (.t 2),(some (112, false))⟩,⟨some 115,.bin .lss (.t 113) (.t 114),(some (112, false))⟩,⟨some 116,.pick (.t 112) (.c (.bool true)) (.t 115),none⟩])
 (.cond (.t 116) (.jump (.exit 3))
 .skip))
 (.seq (.reg [⟨some 117,.mov (.t 18),none⟩,⟨some 118,.len 1 (.t 117),none⟩,⟨some 119,.mov (.t 7),none⟩,⟨some 120,.len 1 (.t 119),none⟩,⟨some 121,.bin .lss (.t 118) (.t 120),none⟩,⟨some 122,.mov (.t 121),none⟩,⟨some 123,.mov (.t 18),(some (122, false))⟩,⟨some 124,.len 1 (.t 123),(some (122, false))⟩,⟨some 125,.mov (.t 7),(some (122, false))⟩,⟨some 126,.len 1 (.t 125),(some (122, false))⟩,⟨some 127,.eql (.one .i) false (.t 124) (.t 126),(some (122, false))⟩,⟨some 128,.mov (.t 127),(some (122, false))⟩,⟨some 129,.mov (.t 17),(some (128, true))⟩,⟨some 130,.len 1 (.t 129),(some (128, true))⟩,⟨some 131,.mov (.t 6),(some (128, true))⟩,⟨some 132,.len 1 (.t 131),(some (128, true))⟩,⟨some 133,.bin .lss (.t 130) (.t 132),(some (128, true))⟩,⟨some 134,.mov (.t 133),(some (128, true))⟩,⟨some 135,.mov (.t 17),(some (134, false))⟩,⟨some 136,.len 1 (.t 135),(some (134, false))⟩,⟨some 137,.mov (.t 6),(some (134, false))⟩,⟨some 138,.len 1 (.t 137),(some (134, false))⟩,⟨some 139,.eql (.one .i) false (.t 136) (.t 138),(some (134, false))⟩,⟨some 140,.mov (.t 139),(some (134, false))⟩,⟨some 141,.mov (.t 17),(some (140, true))⟩,⟨some 142,.mov (.t 6),(some (140, true))⟩,⟨some 143,.call (.c (.func 84 [] [])) [.t 141,.t 142],(some (140, true))⟩,⟨some 144,.bin .lss (.t 143) (.c (.int .i64 0)),(some (140, true))⟩,⟨some 145,.pick (.t 140) (.t 144) (.c (.bool false)),(some (134, false))⟩,⟨some 146,.pick (.t 134) (.c (.bool true)) (.t 145),(some (128, true))⟩,⟨some 147,.pick (.t 128) (.t 146) (.c (.bool false)),(some (122, false))⟩,⟨some 148,.pick (.t 122) (.c (.bool true)) (.t 147),none⟩,⟨some 22,.mov (.t 148),none⟩])
 (.seq (.reg [⟨some 149,.mov (.t 15),none⟩,⟨some 150,.not (.t 149),none⟩,⟨some 151,.mov (.t 150),none⟩,⟨some 152,.mov (.t 22),(some (151, false))⟩,⟨some 153,.pick (.t 151) (.c (.bool true)) (.t 152),none⟩])
 (.cond (.t 153) (.reg [⟨some 154,.mov (.t 17),none⟩,⟨some 155,.mov (.t 18),none⟩,⟨some 6,.mov (.t 154),none⟩,⟨some 7,.mov (.t 155),none⟩,⟨some 15,.mov (.c (.bool true)),none⟩])
 .skip))))))))
 (.reg [⟨some 156,.bin .add (.t 81) (.c (.int .i64 1)),none⟩,⟨some 81,.mov (.t 156),none⟩])))
def a31 : AFunc := ⟨161, [.tmp 6, .tmp 7, .tmp 8],
 .seq (.reg [⟨some 3,.box 7 (.t 0),none⟩,⟨some 6,.mov (.c (.lit [] true none)),none⟩,⟨some 7,.mov (.c (.lit [] true none)),none⟩,⟨some 8,.mov (.c (.int .i64 0)),none⟩])
 (.seq (.dreg [⟨⟨some 24,.load (some 7) (.t 3),none⟩, 0, 1⟩,⟨⟨some 25,.mov (.t 1),none⟩, 0, 0⟩,⟨⟨some 26,.faddr (.t 3) 0,none⟩, 0, 0⟩,⟨⟨some 27,.load none (.t 26),none⟩, 0, 0⟩,⟨⟨some 28,.len 1 (.t 27),none⟩, 0, 0⟩,⟨⟨some 29,.mov (.t 2),none⟩, 0, 0⟩,⟨⟨some 30,.mklit 1 [(.t 25), (.t 28), (.t 29), (.c (.int .i64 400))],none⟩, 0, 0⟩,⟨⟨some 31,.call (.c (.func 71 [] [])) [.t 30],none⟩, 0, 1⟩,⟨⟨some 32,.call (.c (.func 70 [] [])) [(.t 24), (.c (.int .i64 (-1099511627776))), (.t 31)],none⟩, 1, 2⟩,⟨⟨some 23,.mov (.t 32),none⟩, 2, 2⟩,⟨⟨some 33,.ext (.t 23) 0,none⟩, 2, 2⟩,⟨⟨some 34,.ext (.t 23) 1,none⟩, 2, 2⟩,⟨⟨some 9,.mov (.t 33),none⟩, 2, 2⟩,⟨⟨some 8,.mov (.t 34),none⟩, 2, 2⟩])
 (.seq (.seq (.reg [⟨some 35,.mov (.t 8),none⟩,⟨some 36,.eql (.one .i) true (.t 35) (.c (.int .i64 0)),none⟩])
 (.cond (.t 36) (.seq (.reg [⟨some 37,.mov (.t 8),none⟩,⟨some 6,.mov (.c (.lit [] true none)),none⟩,⟨some 7,.mov (.c (.lit [] true none)),none⟩,⟨some 8,.mov (.t 37),none⟩])
 (.jump .ret))
 .skip))
 (.seq (.reg [⟨some 10,.mov (.c (.int .i64 0)),none⟩,⟨some 11,.mov (.c (.int .i64 0)),none⟩])
 (.seq (.reg [⟨some 38,.faddr (.t 3) 5,none⟩,⟨some 39,.load none (.t 38),none⟩,⟨some 40,.len 1 (.t 39),none⟩,⟨some 41,.mkslice [.str ⟨#[]⟩, .int .i64 0, .int .i64 0, .int .i64 0] 40 (.t 40) (.t 40),none⟩,⟨some 12,.mov (.t 41),none⟩])
 (.seq (.reg [⟨some 42,.mov (.t 12),none⟩,⟨some 43,.faddr (.t 3) 5,none⟩,⟨some 44,.load none (.t 43),none⟩,⟨some 45,.copy 4 (.t 42) (.t 44),none⟩])
 (.seq (.seq (.reg [⟨some 46,.mov (.t 12),none⟩,⟨some 47,.len 1 (.t 46),none⟩,⟨some 48,.mov (.c (.int .i64 0)),none⟩])
 (.block 0 (.loop L31_0)))
 (.seq (.reg [⟨some 15,.mov (.c (.bool false)),none⟩])
 (.seq (.seq (.reg [⟨some 78,.mov (.t 12),none⟩,⟨some 79,.len 1 (.t 78),none⟩,⟨some 80,.bin .shl (.c (.int .i64 1)) (.t 79),none⟩,⟨some 81,.mov (.c (.int .i64 0)),none⟩])
 (.block 2 (.loop L31_2)))
 (.seq (.seq (.reg [⟨some 157,.mov (.t 15),none⟩,⟨some 158,.not (.t 157),none⟩])
 (.cond (.t 158) (.seq (.reg [⟨some 6,.mov (.c (.lit [] true none)),none⟩,⟨some 7,.mov (.c (.lit [] true none)),none⟩,⟨some 8,.mov (.c (.int .i64 9)),none⟩])
 (.jump .ret))
 .skip))
 (.seq (.reg [⟨some 159,.mov (.t 6),none⟩,⟨some 160,.mov (.t 7),none⟩,⟨some 6,.mov (.t 159),none⟩,⟨some 7,.mov (.t 160),none⟩,⟨some 8,.mov (.c (.int .i64 0)),none⟩])
 (.jump .ret)))))))))))⟩
def L33_0 : ACode := .seq (.reg [⟨some 21,.bin .lss (.t 20) (.t 19),none⟩])
 (.seq (.cond (.t 21) .skip
 (.jump (.exit 0)))
 (.seq (.block 1 (.seq (.reg [⟨some 22,.mov (.t 20),none⟩,⟨some 5,.mov (.t 22),none⟩])
 (.seq (.reg [⟨some 23,.mov (.t 5),none⟩,⟨some 24,.faddr (.t 1) 6,none⟩,⟨some 25,.load none (.t 24),none⟩,⟨some 26,.len 1 (.t 25),none⟩,⟨some 27,.call (.c (.func 78 [] [])) [.t 23,.t 26],none⟩,⟨some 6,.mov (.t 27),none⟩])
 (.seq (.seq (.reg [⟨some 28,.mov (.t 4),none⟩,⟨some 29,.mov (.t 28),none⟩,⟨some 30,.mov (.t 6),(some (29, true))⟩,⟨some 31,.len 1 (.t 30),(some (29, true))⟩,⟨some 32,.mov (.t 2),(some (29, true))⟩,⟨some 33,.len 1 (.t 32),(some (29, true))⟩,⟨some 34,.bin .gtr (.t 31) (.t 33),(some (29, true))⟩,⟨some 35,.mov (.t 34),(some (29, true))⟩,⟨some 36,.mov (.t 6),(some (35, false))⟩,⟨some 37,.len 1 (.t 36),(some (35, false))⟩,⟨some 38,.mov (.t 2),(some (35, false))⟩,⟨some 39,.len 1 (.t 38),(some (35, false))⟩,⟨some 40,.eql (.one .i) false (.t 37) (.t 39),(some (35, false))⟩,⟨some 41,.mov (.t 40),(some (35, false))⟩,⟨some 42,.mov (.t 6),(some (41, true))⟩,⟨some 43,.mov (.t 2),(some (41, true))⟩,⟨some 44,.call (.c (.func 84 [] [])) [.t 42,.t 43],(some (41, true))⟩,⟨some 45,.bin .gtr (.t 44) (.c (.int .i64 0)),(some (41, true))⟩,⟨some 46,.pick (.t 41) (.t 45) (.c (.bool false)),(some (35, false))⟩,⟨some 47,.pick (.t 35) (.c (.bool true)) (.t 46),(some (29, true))⟩,⟨some 48,.pick (.t 29) (.t 47) (.c (.bool false)),none⟩])
 (.cond (.t 48) (.jump (.exit 1))
 .skip))
 (.seq (.reg [⟨some 49,.load (some 7) (.t 1),none⟩,⟨some 50,.mov (.t 5),none⟩,⟨some 51,.call (.c (.func 86 [] [])) [.t 49,.t 50],none⟩,⟨some 52,.nilCheck (.t 51),none⟩,⟨some 53,.faddr (.t 52) 8,none⟩,⟨some 54,.load none (.t 53),none⟩,⟨some 55,.len 2 (.t 54),none⟩,⟨some 56,.bin .gtr (.t 55) (.c (.int .i64 0)),none⟩])
 (.cond (.t 56) (.reg [⟨some 57,.mov (.t 6),none⟩,⟨some 2,.mov (.t 57),none⟩,⟨some 4,.mov (.c (.bool true)),none⟩])
 .skip))))))
 (.reg [⟨some 58,.bin .add (.t 20) (.c (.int .i64 1)),none⟩,⟨some 20,.mov (.t 58),none⟩])))
def a33 : AFunc := ⟨60, [.tmp 2, .tmp 3],
 .seq (.reg [⟨some 1,.box 7 (.t 0),none⟩,⟨some 2,.mov (.c (.lit [] true none)),none⟩,⟨some 3,.mov (.c (.int .i64 0)),none⟩])
 (.seq (.seq (.reg [⟨some 8,.load (some 7) (.t 1),none⟩,⟨some 9,.call (.c (.func 15 [] [])) [.t 8],none⟩,⟨some 7,.mov (.t 9),none⟩,⟨some 10,.ext (.t 7) 0,none⟩,⟨some 11,.ext (.t 7) 1,none⟩,⟨some 12,.ext (.t 7) 2,none⟩,⟨some 3,.mov (.t 12),none⟩])
 (.seq (.reg [⟨some 13,.mov (.t 3),none⟩,⟨some 14,.eql (.one .i) true (.t 13) (.c (.int .i64 0)),none⟩])
 (.cond (.t 14) (.seq (.reg [⟨some 15,.mov (.t 3),none⟩,⟨some 2,.mov (.c (.lit [] true none)),none⟩,⟨some 3,.mov (.t 15),none⟩])
 (.jump .ret))
 .skip)))
 (.seq (.reg [⟨some 4,.mov (.c (.bool false)),none⟩])
 (.seq (.seq (.reg [⟨some 16,.faddr (.t 1) 6,none⟩,⟨some 17,.load none (.t 16),none⟩,⟨some 18,.len 1 (.t 17),none⟩,⟨some 19,.bin .shl (.c (.int .i64 1)) (.t 18),none⟩,⟨some 20,.mov (.c (.int .i64 0)),none⟩])
 (.block 0 (.loop L33_0)))
 (.seq (.reg [⟨some 59,.mov (.t 2),none⟩,⟨some 2,.mov (.t 59),none⟩,⟨some 3,.mov (.c (.int .i64 0)),none⟩])
 (.jump .ret)))))⟩
def a35 : AFunc := ⟨18, [.cell 2 (some 7)],
 .seq (.reg [⟨some 2,.alloc [.lit [] true none, .int .i64 0, .int .i64 0, .int .i64 0, .int .i64 0, .lit [] true none, .lit [] true none],none⟩])
 (.seq (.reg [⟨some 3,.call (.c (.func 37 [] [])) [(.c (.int .i64 1)), (.c (.int .i64 1))],none⟩,⟨some 4,.call (.c (.func 37 [] [])) [(.c (.int .i64 0)), (.c (.int .i64 1))],none⟩,⟨some 5,.call (.c (.func 37 [] [])) [(.c (.int .i64 0)), (.c (.int .i64 0))],none⟩,⟨some 6,.call (.c (.func 37 [] [])) [(.c (.int .i64 1)), (.c (.int .i64 2))],none⟩,⟨some 7,.call (.c (.func 37 [] [])) [(.c (.int .i64 0)), (.c (.int .i64 1))],none⟩,⟨some 8,.mklit 2 [.t 3,.t 4,.t 5,.t 6,.t 7],none⟩,⟨some 9,.call (.c (.func 37 [] [])) [(.c (.int .i64 2)), (.c (.int .i64 3))],none⟩,⟨some 10,.build [.str ⟨#[]⟩, .int .i64 0, .int .i64 0, .int .i64 0] [(0, 1, (.c (.str ⟨#[104, 105, 108, 108]⟩))), (3, 1, (.c (.int .i64 30)))],none⟩,⟨some 11,.call (.c (.func 37 [] [])) [(.c (.int .i64 1)), (.c (.int .i64 2))],none⟩,⟨some 12,.build [.str ⟨#[]⟩, .int .i64 0, .int .i64 0, .int .i64 0] [(0, 1, (.c (.str ⟨#[98, 97, 110, 107]⟩))), (1, 2, (.t 11)), (3, 1, (.c (.int .i64 20)))],none⟩,⟨some 13,.call (.c (.func 37 [] [])) [(.c (.int .i64 0)), (.c (.int .i64 1))],none⟩,⟨some 14,.build [.str ⟨#[]⟩, .int .i64 0, .int .i64 0, .int .i64 0] [(0, 1, (.c (.str ⟨#[98, 101, 110, 100]⟩))), (1, 2, (.t 13)), (3, 1, (.c (.int .i64 25)))],none⟩,⟨some 15,.mklit 4 [.t 10,.t 12,.t 14],none⟩,⟨some 16,.mov (.t 0),none⟩,⟨some 17,.build [.lit [] true none, .int .i64 0, .int .i64 0, .int .i64 0, .int .i64 0, .lit [] true none, .lit [] true none] [(0, 1, (.t 8)), (1, 1, (.c (.int .i64 6))), (2, 1, (.c (.int .i64 11))), (3, 2, (.t 9)), (5, 1, (.t 15)), (6, 1, (.t 16))],none⟩,⟨none,.store 7 (.t 2) (.t 17),none⟩])
 (.jump .ret))⟩
def a36 : AFunc := ⟨11, [.cell 6 (some 3)],
 .seq (.reg [⟨some 6,.alloc [.int .i64 0, .int .i64 0, .int .i64 0],none⟩])
 (.seq (.reg [⟨some 7,.mov (.t 0),none⟩,⟨some 8,.mov (.t 1),none⟩,⟨some 9,.mov (.t 2),none⟩,⟨some 10,.build [.int .i64 0, .int .i64 0, .int .i64 0] [(0, 1, (.t 7)), (1, 1, (.t 8)), (2, 1, (.t 9))],none⟩,⟨none,.store 3 (.t 6) (.t 10),none⟩])
 (.jump .ret))⟩
def a37 : AFunc := ⟨8, [.cell 4 (some 2)],
 .seq (.reg [⟨some 4,.alloc [.int .i64 0, .int .i64 0],none⟩])
 (.seq (.reg [⟨some 5,.mov (.t 0),none⟩,⟨some 6,.mov (.t 1),none⟩,⟨some 7,.build [.int .i64 0, .int .i64 0] [(0, 1, (.t 5)), (1, 1, (.t 6))],none⟩,⟨none,.store 2 (.t 4) (.t 7),none⟩])
 (.jump .ret))⟩
def a38 : AFunc := ⟨14, [.tmp 2],
 .seq (.reg [⟨some 1,.box 7 (.t 0),none⟩,⟨some 2,.mov (.c (.bool false)),none⟩])
 (.seq (.reg [⟨some 7,.load (some 7) (.t 1),none⟩,⟨some 8,.call (.c (.func 16 [] [])) [.t 7],none⟩,⟨some 6,.mov (.t 8),none⟩,⟨some 9,.ext (.t 6) 0,none⟩,⟨some 10,.ext (.t 6) 1,none⟩,⟨some 11,.ext (.t 6) 2,none⟩,⟨some 3,.mov (.t 9),none⟩,⟨some 4,.mov (.t 10),none⟩,⟨some 5,.mov (.t 11),none⟩])
 (.seq (.reg [⟨some 12,.mov (.t 5),none⟩,⟨some 13,.eql (.one .i) false (.t 12) (.c (.int .i64 0)),none⟩,⟨some 2,.mov (.t 13),none⟩])
 (.jump .ret)))⟩
def L39_0 : ACode := .seq (.seq (.reg [⟨some 13,.mov (.t 9),none⟩,⟨some 14,.faddr (.t 2) 0,none⟩,⟨some 15,.load none (.t 14),none⟩,⟨some 16,.len 1 (.t 15),none⟩,⟨some 17,.bin .lss (.t 13) (.t 16),none⟩])
 (.cond (.t 17) .skip
 (.jump (.exit 0))))
 (.seq (.block 1 (.dreg [⟨⟨some 20,.mov (.t 7),none⟩, 0, 2⟩,⟨⟨some 21,.faddr (.t 2) 0,none⟩, 0, 1⟩,⟨⟨some 22,.load none (.t 21),none⟩, 0, 1⟩,⟨⟨some 23,.mov (.t 9),none⟩, 0, 1⟩,⟨⟨some 24,.iaddr none 2 (.t 22) (.t 23),none⟩, 0, 1⟩,⟨⟨some 25,.load (some 2) (.t 24),none⟩, 0, 1⟩,⟨⟨some 26,.mov (.t 1),none⟩, 0, 0⟩,⟨⟨some 27,.mov (.t 9),none⟩, 0, 0⟩,⟨⟨some 28,.call (.c (.func 41 [] [])) [.t 26,.t 27],none⟩, 0, 1⟩,⟨⟨some 29,.call (.c (.func 40 [] [])) [.t 25,.t 28],none⟩, 1, 2⟩,⟨⟨some 30,.mklit 1 [.t 29],none⟩, 2, 2⟩,⟨⟨some 31,.append 1 8 (.t 20) (.t 30),none⟩, 2, 3⟩,⟨⟨some 7,.mov (.t 31),none⟩, 3, 3⟩]))
 (.reg [⟨some 18,.mov (.t 9),none⟩,⟨some 19,.bin .add (.t 18) (.c (.int .i64 1)),none⟩,⟨some 9,.mov (.t 19),none⟩]))
def L39_2 : ACode := .seq (.seq (.reg [⟨some 32,.mov (.t 10),none⟩,⟨some 33,.faddr (.t 2) 5,none⟩,⟨some 34,.load none (.t 33),none⟩,⟨some 35,.len 1 (.t 34),none⟩,⟨some 36,.bin .lss (.t 32) (.t 35),none⟩])
 (.cond (.t 36) .skip
 (.jump (.exit 2))))
 (.seq (.block 3 (.dreg [⟨⟨some 39,.mov (.t 8),none⟩, 0, 2⟩,⟨⟨some 40,.faddr (.t 2) 5,none⟩, 0, 1⟩,⟨⟨some 41,.load none (.t 40),none⟩, 0, 1⟩,⟨⟨some 42,.mov (.t 10),none⟩, 0, 1⟩,⟨⟨some 43,.iaddr none 4 (.t 41) (.t 42),none⟩, 0, 1⟩,⟨⟨some 44,.faddr (.t 43) 1,none⟩, 0, 1⟩,⟨⟨some 45,.load (some 2) (.t 44),none⟩, 0, 1⟩,⟨⟨some 46,.mov (.t 1),none⟩, 0, 0⟩,⟨⟨some 47,.mov (.t 10),none⟩, 0, 0⟩,⟨⟨some 48,.bin .add (.c (.int .i64 7)) (.t 47),none⟩, 0, 0⟩,⟨⟨some 49,.call (.c (.func 41 [] [])) [.t 46,.t 48],none⟩, 0, 1⟩,⟨⟨some 50,.call (.c (.func 40 [] [])) [.t 45,.t 49],none⟩, 1, 2⟩,⟨⟨some 51,.mklit 1 [.t 50],none⟩, 2, 2⟩,⟨⟨some 52,.append 1 8 (.t 39) (.t 51),none⟩, 2, 3⟩,⟨⟨some 8,.mov (.t 52),none⟩, 3, 3⟩]))
 (.reg [⟨some 37,.mov (.t 10),none⟩,⟨some 38,.bin .add (.t 37) (.c (.int .i64 1)),none⟩,⟨some 10,.mov (.t 38),none⟩]))
def L39_4 : ACode := .seq (.seq (.reg [⟨some 58,.mov (.t 11),none⟩,⟨some 59,.faddr (.t 2) 6,none⟩,⟨some 60,.load none (.t 59),none⟩,⟨some 61,.len 1 (.t 60),none⟩,⟨some 62,.bin .lss (.t 58) (.t 61),none⟩])
 (.cond (.t 62) .skip
 (.jump (.exit 4))))
 (.seq (.block 5 (.seq (.reg [⟨some 65,.faddr (.t 2) 6,none⟩,⟨some 66,.load none (.t 65),none⟩,⟨some 67,.mov (.t 11),none⟩,⟨some 68,.iaddr none 3 (.t 66) (.t 67),none⟩,⟨some 69,.load (some 3) (.t 68),none⟩,⟨some 12,.alloc [.int .i64 0, .int .i64 0, .int .i64 0],none⟩,⟨none,.store 3 (.t 12) (.t 69),none⟩])
 (.seq (.dreg [⟨⟨some 70,.mov (.t 7),none⟩, 0, 0⟩,⟨⟨some 71,.mov (.t 8),none⟩, 0, 0⟩,⟨⟨some 72,.faddr (.t 12) 0,none⟩, 0, 0⟩,⟨⟨some 73,.load none (.t 72),none⟩, 0, 0⟩,⟨⟨some 74,.iaddr none 1 (.t 71) (.t 73),none⟩, 0, 0⟩,⟨⟨some 75,.load none (.t 74),none⟩, 0, 0⟩,⟨⟨some 76,.faddr (.t 12) 1,none⟩, 0, 0⟩,⟨⟨some 77,.load none (.t 76),none⟩, 0, 0⟩,⟨⟨some 78,.call (.c (.func 43 [] [])) [.t 70,.t 75,.t 77],none⟩, 0, 1⟩,⟨⟨some 79,.faddr (.t 12) 2,none⟩, 1, 1⟩,⟨⟨none,.store 1 (.t 79) (.t 78),none⟩, 1, 2⟩])
 (.reg [⟨some 80,.faddr (.t 2) 6,none⟩,⟨some 81,.load none (.t 80),none⟩,⟨some 82,.mov (.t 11),none⟩,⟨some 83,.load (some 3) (.t 12),none⟩,⟨some 84,.iaddr none 3 (.t 81) (.t 82),none⟩,⟨none,.store 3 (.t 84) (.t 83),none⟩]))))
 (.reg [⟨some 63,.mov (.t 11),none⟩,⟨some 64,.bin .add (.t 63) (.c (.int .i64 1)),none⟩,⟨some 11,.mov (.t 64),none⟩]))
def a39 : AFunc := ⟨88, [.cell 4 (some 7), .tmp 5, .tmp 6],
 .seq (.reg [⟨some 2,.box 7 (.t 0),none⟩,⟨some 4,.alloc [.lit [] true none, .int .i64 0, .int .i64 0, .int .i64 0, .int .i64 0, .lit [] true none, .lit [] true none],none⟩,⟨some 5,.mov (.c (.lit [] true none)),none⟩,⟨some 6,.mov (.c (.lit [] true none)),none⟩])
 (.seq (.reg [⟨some 7,.mov (.c (.lit [] true none)),none⟩,⟨some 8,.mov (.c (.lit [] true none)),none⟩])
 (.seq (.seq (.reg [⟨some 9,.mov (.c (.int .i64 0)),none⟩])
 (.block 0 (.loop L39_0)))
 (.seq (.seq (.reg [⟨some 10,.mov (.c (.int .i64 0)),none⟩])
 (.block 2 (.loop L39_2)))
 (.seq (.reg [⟨some 53,.mklit 3 [],none⟩,⟨some 54,.faddr (.t 2) 6,none⟩,⟨some 55,.load none (.t 54),none⟩,⟨some 56,.apref 3 24 (.t 53) (.t 55),none⟩,⟨some 57,.faddr (.t 2) 6,none⟩,⟨none,.store 1 (.t 57) (.t 56),none⟩])
 (.seq (.seq (.reg [⟨some 11,.mov (.c (.int .i64 0)),none⟩])
 (.block 4 (.loop L39_4)))
 (.seq (.reg [⟨some 85,.load (some 7) (.t 2),none⟩,⟨some 86,.mov (.t 7),none⟩,⟨some 87,.mov (.t 8),none⟩,⟨none,.store 7 (.t 4) (.t 85),none⟩,⟨some 5,.mov (.t 86),none⟩,⟨some 6,.mov (.t 87),none⟩])
 (.jump .ret)))))))⟩
def a40 : AFunc := ⟨16, [.tmp 4],
 .seq (.reg [⟨some 2,.box 2 (.t 0),none⟩,⟨some 4,.mov (.c (.int .i64 0)),none⟩])
 (.seq (.dreg [⟨⟨some 5,.faddr (.t 2) 0,none⟩, 0, 0⟩,⟨⟨some 6,.load none (.t 5),none⟩, 0, 0⟩,⟨⟨some 7,.mov (.t 1),none⟩, 0, 0⟩,⟨⟨some 8,.faddr (.t 2) 1,none⟩, 0, 0⟩,⟨⟨some 9,.load none (.t 8),none⟩, 0, 0⟩,⟨⟨some 10,.faddr (.t 2) 0,none⟩, 0, 0⟩,⟨⟨some 11,.load none (.t 10),none⟩, 0, 0⟩,⟨⟨some 12,.bin .sub (.t 9) (.t 11),none⟩, 0, 0⟩,⟨⟨some 13,.bin .add (.t 12) (.c (.int .i64 1)),none⟩, 0, 0⟩,⟨⟨some 14,.bin .rem (.t 7) (.t 13),none⟩, 0, 0⟩,⟨⟨some 15,.bin .add (.t 6) (.t 14),none⟩, 0, 0⟩,⟨⟨some 4,.mov (.t 15),none⟩, 0, 0⟩])
 (.jump .ret))⟩
def a41 : AFunc := ⟨16, [.tmp 4],
 .seq (.reg [⟨some 4,.mov (.c (.int .i64 0)),none⟩])
 (.seq (.seq (.reg [⟨some 5,.mov (.t 0),none⟩,⟨some 6,.len 1 (.t 5),none⟩,⟨some 7,.eql (.one .i) false (.t 6) (.c (.int .i64 0)),none⟩])
 (.cond (.t 7) (.seq (.reg [⟨some 4,.mov (.c (.int .i64 0)),none⟩])
 (.jump .ret))
 .skip))
 (.seq (.reg [⟨some 8,.mov (.t 0),none⟩,⟨some 9,.mov (.t 1),none⟩,⟨some 10,.mov (.t 0),none⟩,⟨some 11,.len 1 (.t 10),none⟩,⟨some 12,.bin .rem (.t 9) (.t 11),none⟩,⟨some 13,.iaddr none 1 (.t 8) (.t 12),none⟩,⟨some 14,.load none (.t 13),none⟩,⟨some 15,.conv .i64 (.t 14),none⟩,⟨some 4,.mov (.t 15),none⟩])
 (.jump .ret)))⟩
def a42 : AFunc := ⟨11, [.tmp 4],
 .seq (.reg [⟨some 3,.box 2 (.t 1),none⟩,⟨some 4,.mov (.c (.bool false)),none⟩])
 (.seq (.reg [⟨some 5,.mov (.t 0),none⟩,⟨some 6,.faddr (.t 3) 0,none⟩,⟨some 7,.load none (.t 6),none⟩,⟨some 8,.faddr (.t 3) 1,none⟩,⟨some 9,.load none (.t 8),none⟩,⟨some 10,.call (.c (.func 66 [] [])) [.t 5,.t 7,.t 9],none⟩,⟨some 4,.mov (.t 10),none⟩])
 (.jump .ret))⟩
def L43_0 : ACode := .seq (.seq (.reg [⟨some 10,.mov (.t 8),none⟩,⟨some 11,.mov (.t 2),none⟩,⟨some 12,.bin .lss (.t 10) (.t 11),none⟩])
 (.cond (.t 12) .skip
 (.jump (.exit 0))))
 (.seq (.block 1 (.reg [⟨some 15,.mov (.t 7),none⟩,⟨some 16,.bin .add (.t 15) (.c (.int .i64 1)),none⟩,⟨some 17,.mov (.t 0),none⟩,⟨some 18,.mov (.t 8),none⟩,⟨some 19,.iaddr none 1 (.t 17) (.t 18),none⟩,⟨some 20,.load none (.t 19),none⟩,⟨some 21,.bin .add (.t 16) (.t 20),none⟩,⟨some 7,.mov (.t 21),none⟩]))
 (.reg [⟨some 13,.mov (.t 8),none⟩,⟨some 14,.bin .add (.t 13) (.c (.int .i64 1)),none⟩,⟨some 8,.mov (.t 14),none⟩]))
def a43 : AFunc := ⟨23, [.tmp 6],
 .seq (.reg [⟨some 6,.mov (.c (.int .i64 0)),none⟩])
 (.seq (.reg [⟨some 7,.mov (.c (.int .i64 0)),none⟩])
 (.seq (.seq (.reg [⟨some 9,.mov (.t 1),none⟩,⟨some 8,.mov (.t 9),none⟩])
 (.block 0 (.loop L43_0)))
 (.seq (.reg [⟨some 22,.mov (.t 7),none⟩,⟨some 6,.mov (.t 22),none⟩])
 (.jump .ret))))⟩
def L44_0 : ACode := .seq (.seq (.reg [⟨some 7,.mov (.t 6),none⟩,⟨some 8,.mov (.t 0),none⟩,⟨some 9,.len 1 (.t 8),none⟩,⟨some 10,.bin .lss (.t 7) (.t 9),none⟩])
 (.cond (.t 10) .skip
 (.jump (.exit 0))))
 (.seq (.block 1 (.reg [⟨some 13,.mov (.t 5),none⟩,⟨some 14,.mov (.t 13),none⟩,⟨some 15,.mov (.t 0),(some (14, false))⟩,⟨some 16,.mov (.t 6),(some (14, false))⟩,⟨some 17,.iaddr none 1 (.t 15) (.t 16),(some (14, false))⟩,⟨some 18,.load none (.t 17),(some (14, false))⟩,⟨some 19,.mov (.t 1),(some (14, false))⟩,⟨some 20,.eql (.one .i) false (.t 18) (.t 19),(some (14, false))⟩,⟨some 21,.pick (.t 14) (.c (.bool true)) (.t 20),none⟩,⟨some 5,.mov (.t 21),none⟩]))
 (.reg [⟨some 11,.mov (.t 6),none⟩,⟨some 12,.bin .add (.t 11) (.c (.int .i64 1)),none⟩,⟨some 6,.mov (.t 12),none⟩]))
def a44 : AFunc := ⟨23, [.tmp 4],
 .seq (.reg [⟨some 4,.mov (.c (.bool false)),none⟩])
 (.seq (.reg [⟨some 5,.mov (.c (.bool false)),none⟩])
 (.seq (.seq (.reg [⟨some 6,.mov (.c (.int .i64 0)),none⟩])
 (.block 0 (.loop L44_0)))
 (.seq (.reg [⟨some 22,.mov (.t 5),none⟩,⟨some 4,.mov (.t 22),none⟩])
 (.jump .ret))))⟩
def a45 : AFunc := ⟨11, [.tmp 2],
 .seq (.reg [⟨some 1,.box 7 (.t 0),none⟩,⟨some 2,.mov (.c (.bool false)),none⟩])
 (.seq (.reg [⟨some 3,.load (some 7) (.t 1),none⟩,⟨some 4,.call (.c (.func 38 [] [])) [.t 3],none⟩,⟨some 5,.mov (.t 4),none⟩,⟨some 6,.load (some 7) (.t 1),(some (5, true))⟩,⟨some 7,.call (.c (.func 49 [] [])) [(.t 6), (.c (.lit [] true none))],(some (5, true))⟩,⟨some 8,.len 1 (.t 7),(some (5, true))⟩,⟨some 9,.bin .gtr (.t 8) (.c (.int .i64 0)),(some (5, true))⟩,⟨some 10,.pick (.t 5) (.t 9) (.c (.bool false)),none⟩,⟨some 2,.mov (.t 10),none⟩])
 (.jump .ret))⟩
def L46_0 : ACode := .seq (.seq (.reg [⟨some 7,.mov (.t 6),none⟩,⟨some 8,.mov (.t 0),none⟩,⟨some 9,.len 1 (.t 8),none⟩,⟨some 10,.bin .lss (.t 7) (.t 9),none⟩])
 (.cond (.t 10) .skip
 (.jump (.exit 0))))
 (.seq (.block 1 (.seq (.seq (.reg [⟨some 13,.mov (.t 0),none⟩,⟨some 14,.mov (.t 6),none⟩,⟨some 15,.iaddr none 1 (.t 13) (.t 14),none⟩,⟨some 16,.load none (.t 15),none⟩,⟨some 17,.mov (.t 5),none⟩,⟨some 18,.bin .leq (.t 16) (.t 17),none⟩,⟨some 19,.mov (.t 18),none⟩,⟨some 20,.mov (.t 0),(some (19, false))⟩,⟨some 21,.mov (.t 6),(some (19, false))⟩,⟨some 22,.iaddr none 1 (.t 20) (.t 21),(some (19, false))⟩,⟨some 23,.load none (.t 22),(some (19, false))⟩,⟨some 24,.mov (.t 1),(some (19, false))⟩,⟨some 25,.bin .geq (.t 23) (.t 24),(some (19, false))⟩,⟨some 26,.pick (.t 19) (.c (.bool true)) (.t 25),none⟩])
 (.cond (.t 26) (.seq (.reg [⟨some 4,.mov (.c (.bool false)),none⟩])
 (.jump .ret))
 .skip))
 (.reg [⟨some 27,.mov (.t 0),none⟩,⟨some 28,.mov (.t 6),none⟩,⟨some 29,.iaddr none 1 (.t 27) (.t 28),none⟩,⟨some 30,.load none (.t 29),none⟩,⟨some 5,.mov (.t 30),none⟩])))
 (.reg [⟨some 11,.mov (.t 6),none⟩,⟨some 12,.bin .add (.t 11) (.c (.int .i64 1)),none⟩,⟨some 6,.mov (.t 12),none⟩]))
def a46 : AFunc := ⟨31, [.tmp 4],
 .seq (.reg [⟨some 4,.mov (.c (.bool false)),none⟩])
 (.seq (.reg [⟨some 5,.mov (.c (.int .i64 (-1))),none⟩])
 (.seq (.seq (.reg [⟨some 6,.mov (.c (.int .i64 0)),none⟩])
 (.block 0 (.loop L46_0)))
 (.seq (.reg [⟨some 4,.mov (.c (.bool true)),none⟩])
 (.jump .ret))))⟩
def L47_0 : ACode := .seq (.seq (.reg [⟨some 7,.mov (.t 6),none⟩,⟨some 8,.mov (.t 1),none⟩,⟨some 9,.len 1 (.t 8),none⟩,⟨some 10,.bin .lss (.t 7) (.t 9),none⟩])
 (.cond (.t 10) .skip
 (.jump (.exit 0))))
 (.seq (.block 1 (.dreg [⟨⟨some 13,.mov (.t 5),none⟩, 0, 0⟩,⟨⟨some 14,.faddr (.t 2) 5,none⟩, 0, 0⟩,⟨⟨some 15,.load none (.t 14),none⟩, 0, 0⟩,⟨⟨some 16,.mov (.t 1),none⟩, 0, 0⟩,⟨⟨some 17,.mov (.t 6),none⟩, 0, 0⟩,⟨⟨some 18,.iaddr none 1 (.t 16) (.t 17),none⟩, 0, 0⟩,⟨⟨some 19,.load none (.t 18),none⟩, 0, 0⟩,⟨⟨some 20,.iaddr none 4 (.t 15) (.t 19),none⟩, 0, 0⟩,⟨⟨some 21,.faddr (.t 20) 3,none⟩, 0, 0⟩,⟨⟨some 22,.load none (.t 21),none⟩, 0, 0⟩,⟨⟨some 23,.bin .add (.t 13) (.t 22),none⟩, 0, 0⟩,⟨⟨some 5,.mov (.t 23),none⟩, 0, 0⟩]))
 (.reg [⟨some 11,.mov (.t 6),none⟩,⟨some 12,.bin .add (.t 11) (.c (.int .i64 1)),none⟩,⟨some 6,.mov (.t 12),none⟩]))
def a47 : AFunc := ⟨25, [.tmp 4],
 .seq (.reg [⟨some 2,.box 7 (.t 0),none⟩,⟨some 4,.mov (.c (.int .i64 0)),none⟩])
 (.seq (.reg [⟨some 5,.mov (.c (.int .i64 0)),none⟩])
 (.seq (.seq (.reg [⟨some 6,.mov (.c (.int .i64 0)),none⟩])
 (.block 0 (.loop L47_0)))
 (.seq (.reg [⟨some 24,.mov (.t 5),none⟩,⟨some 4,.mov (.t 24),none⟩])
 (.jump .ret))))⟩
def L48_0 : ACode := .seq (.seq (.reg [⟨some 24,.mov (.t 9),none⟩,⟨some 25,.faddr (.t 7) 1,none⟩,⟨some 26,.load none (.t 25),none⟩,⟨some 27,.len 1 (.t 26),none⟩,⟨some 28,.bin .lss (.t 24) (.t 27),none⟩])
 (.cond (.t 28) .skip
 (.jump (.exit 0))))
 (.seq (.block 1 (.dreg [⟨⟨some 31,.mov (.t 8),none⟩, 0, 1⟩,⟨⟨some 32,.faddr (.t 7) 1,none⟩, 0, 1⟩,⟨⟨some 33,.load none (.t 32),none⟩, 0, 1⟩,⟨⟨some 34,.mov (.t 9),none⟩, 0, 1⟩,⟨⟨some 35,.iaddr none 1 (.t 33) (.t 34),none⟩, 0, 1⟩,⟨⟨some 36,.load none (.t 35),none⟩, 0, 1⟩,⟨⟨some 37,.mov (.t 1),none⟩, 0, 0⟩,⟨⟨some 38,.mov (.t 9),none⟩, 0, 0⟩,⟨⟨some 39,.bin .add (.c (.int .i64 2)) (.t 38),none⟩, 0, 0⟩,⟨⟨some 40,.call (.c (.func 41 [] [])) [.t 37,.t 39],none⟩, 0, 1⟩,⟨⟨some 41,.faddr (.t 7) 1,none⟩, 0, 1⟩,⟨⟨some 42,.load none (.t 41),none⟩, 0, 1⟩,⟨⟨some 43,.mov (.t 9),none⟩, 0, 1⟩,⟨⟨some 44,.iaddr none 1 (.t 42) (.t 43),none⟩, 0, 1⟩,⟨⟨some 45,.load none (.t 44),none⟩, 0, 1⟩,⟨⟨some 46,.len 1 (.t 45),none⟩, 0, 1⟩,⟨⟨some 47,.bin .rem (.t 40) (.t 46),none⟩, 1, 1⟩,⟨⟨some 48,.iaddr none 1 (.t 36) (.t 47),none⟩, 1, 1⟩,⟨⟨some 49,.load none (.t 48),none⟩, 1, 1⟩,⟨⟨some 50,.mklit 1 [.t 49],none⟩, 1, 1⟩,⟨⟨some 51,.append 1 8 (.t 31) (.t 50),none⟩, 1, 2⟩,⟨⟨some 8,.mov (.t 51),none⟩, 2, 2⟩]))
 (.reg [⟨some 29,.mov (.t 9),none⟩,⟨some 30,.bin .add (.t 29) (.c (.int .i64 1)),none⟩,⟨some 9,.mov (.t 30),none⟩]))
def a48 : AFunc := ⟨55, [.tmp 4, .tmp 5],
 .seq (.reg [⟨some 2,.box 7 (.t 0),none⟩,⟨some 4,.mov (.c (.lit [] true none)),none⟩,⟨some 5,.mov (.c (.lit [] true none)),none⟩])
 (.seq (.reg [⟨some 10,.load (some 7) (.t 2),none⟩,⟨some 11,.call (.c (.func 49 [] [])) [(.t 10), (.c (.lit [] true none))],none⟩,⟨some 6,.mov (.t 11),none⟩])
 (.seq (.reg [⟨some 12,.mov (.t 6),none⟩,⟨some 13,.mov (.t 1),none⟩,⟨some 14,.call (.c (.func 41 [] [])) [(.t 13), (.c (.int .i64 0))],none⟩,⟨some 15,.mov (.t 1),none⟩,⟨some 16,.call (.c (.func 41 [] [])) [(.t 15), (.c (.int .i64 1))],none⟩,⟨some 17,.bin .mul (.c (.int .i64 251)) (.t 16),none⟩,⟨some 18,.bin .add (.t 14) (.t 17),none⟩,⟨some 19,.mov (.t 6),none⟩,⟨some 20,.len 1 (.t 19),none⟩,⟨some 21,.bin .rem (.t 18) (.t 20),none⟩,⟨some 22,.iaddr none 2 (.t 12) (.t 21),none⟩,⟨some 23,.load (some 2) (.t 22),none⟩,⟨some 7,.alloc [.lit [] true none, .lit [] true none],none⟩,⟨none,.store 2 (.t 7) (.t 23),none⟩])
 (.seq (.reg [⟨some 8,.mov (.c (.lit [] true none)),none⟩])
 (.seq (.seq (.reg [⟨some 9,.mov (.c (.int .i64 0)),none⟩])
 (.block 0 (.loop L48_0)))
 (.seq (.reg [⟨some 52,.faddr (.t 7) 0,none⟩,⟨some 53,.load none (.t 52),none⟩,⟨some 54,.mov (.t 8),none⟩,⟨some 4,.mov (.t 53),none⟩,⟨some 5,.mov (.t 54),none⟩])
 (.jump .ret))))))⟩
def L49_2 : ACode := .seq (.seq (.reg [⟨some 25,.mov (.t 10),none⟩,⟨some 26,.faddr (.t 2) 5,none⟩,⟨some 27,.load none (.t 26),none⟩,⟨some 28,.len 1 (.t 27),none⟩,⟨some 29,.bin .lss (.t 25) (.t 28),none⟩,⟨some 30,.mov (.t 29),none⟩,⟨some 31,.mov (.t 9),(some (30, true))⟩,⟨some 32,.pick (.t 30) (.t 31) (.c (.bool false)),none⟩])
 (.cond (.t 32) .skip
 (.jump (.exit 2))))
 (.seq (.block 3 (.seq (.dreg [⟨⟨some 35,.load (some 7) (.t 2),none⟩, 0, 0⟩,⟨⟨some 36,.mov (.t 10),none⟩, 0, 0⟩,⟨⟨some 37,.mov (.t 5),none⟩, 0, 0⟩,⟨⟨some 38,.mov (.t 7),none⟩, 0, 0⟩,⟨⟨some 39,.iaddr none 1 (.t 37) (.t 38),none⟩, 0, 0⟩,⟨⟨some 40,.load none (.t 39),none⟩, 0, 0⟩,⟨⟨some 41,.mov (.t 1),none⟩, 0, 0⟩,⟨⟨some 42,.call (.c (.func 88 [] [])) [.t 35,.t 36,.t 40,.t 41],none⟩, 0, 1⟩,⟨⟨some 11,.mov (.t 42),none⟩, 1, 1⟩])
 (.seq (.reg [⟨some 43,.mov (.t 11),none⟩,⟨some 44,.len 1 (.t 43),none⟩,⟨some 45,.bin .gtr (.t 44) (.c (.int .i64 0)),none⟩,⟨some 9,.mov (.t 45),none⟩])
 (.reg [⟨some 46,.mklit 1 [],none⟩,⟨some 47,.faddr (.t 8) 1,none⟩,⟨some 48,.load none (.t 47),none⟩,⟨some 49,.append 1 24 (.t 46) (.t 48),none⟩,⟨some 50,.mov (.t 11),none⟩,⟨some 51,.mklit 1 [.t 50],none⟩,⟨some 52,.append 1 24 (.t 49) (.t 51),none⟩,⟨some 53,.faddr (.t 8) 1,none⟩,⟨none,.store 1 (.t 53) (.t 52),none⟩]))))
 (.reg [⟨some 33,.mov (.t 10),none⟩,⟨some 34,.bin .add (.t 33) (.c (.int .i64 1)),none⟩,⟨some 10,.mov (.t 34),none⟩]))
def L49_0 : ACode := .seq (.seq (.reg [⟨some 14,.mov (.t 7),none⟩,⟨some 15,.mov (.t 5),none⟩,⟨some 16,.len 1 (.t 15),none⟩,⟨some 17,.bin .lss (.t 14) (.t 16),none⟩])
 (.cond (.t 17) .skip
 (.jump (.exit 0))))
 (.seq (.block 1 (.seq (.reg [⟨some 20,.mov (.t 5),none⟩,⟨some 21,.mov (.t 7),none⟩,⟨some 22,.iaddr none 1 (.t 20) (.t 21),none⟩,⟨some 23,.load none (.t 22),none⟩,⟨some 24,.build [.lit [] true none, .lit [] true none] [(0, 1, (.t 23))],none⟩,⟨some 8,.alloc [.lit [] true none, .lit [] true none],none⟩,⟨none,.store 2 (.t 8) (.t 24),none⟩])
 (.seq (.reg [⟨some 9,.mov (.c (.bool true)),none⟩])
 (.seq (.seq (.reg [⟨some 10,.mov (.c (.int .i64 0)),none⟩])
 (.block 2 (.loop L49_2)))
 (.seq (.reg [⟨some 54,.mov (.t 9),none⟩])
 (.cond (.t 54) (.reg [⟨some 55,.mov (.t 6),none⟩,⟨some 56,.load (some 2) (.t 8),none⟩,⟨some 57,.mklit 2 [.t 56],none⟩,⟨some 58,.append 2 48 (.t 55) (.t 57),none⟩,⟨some 6,.mov (.t 58),none⟩])
 .skip))))))
 (.reg [⟨some 18,.mov (.t 7),none⟩,⟨some 19,.bin .add (.t 18) (.c (.int .i64 1)),none⟩,⟨some 7,.mov (.t 19),none⟩]))
def a49 : AFunc := ⟨60, [.tmp 4],
 .seq (.reg [⟨some 2,.box 7 (.t 0),none⟩,⟨some 4,.mov (.c (.lit [] true none)),none⟩])
 (.seq (.reg [⟨some 12,.load (some 7) (.t 2),none⟩,⟨some 13,.call (.c (.func 87 [] [])) [.t 12],none⟩,⟨some 5,.mov (.t 13),none⟩])
 (.seq (.reg [⟨some 6,.mov (.c (.lit [] true none)),none⟩])
 (.seq (.seq (.reg [⟨some 7,.mov (.c (.int .i64 0)),none⟩])
 (.block 0 (.loop L49_0)))
 (.seq (.reg [⟨some 59,.mov (.t 6),none⟩,⟨some 4,.mov (.t 59),none⟩])
 (.jump .ret)))))⟩
def L50_0 : ACode := .seq (.seq (.reg [⟨some 6,.mov (.t 5),none⟩,⟨some 7,.mov (.t 1),none⟩,⟨some 8,.bin .lss (.t 6) (.t 7),none⟩])
 (.cond (.t 8) .skip
 (.jump (.exit 0))))
 (.seq (.block 1 (.reg [⟨some 11,.mov (.t 0),none⟩,⟨some 12,.bin .quo (.t 11) (.c (.int .i64 2)),none⟩,⟨some 0,.mov (.t 12),none⟩]))
 (.reg [⟨some 9,.mov (.t 5),none⟩,⟨some 10,.bin .add (.t 9) (.c (.int .i64 1)),none⟩,⟨some 5,.mov (.t 10),none⟩]))
def a50 : AFunc := ⟨16, [.tmp 4],
 .seq (.reg [⟨some 4,.mov (.c (.bool false)),none⟩])
 (.seq (.seq (.reg [⟨some 5,.mov (.c (.int .i64 0)),none⟩])
 (.block 0 (.loop L50_0)))
 (.seq (.reg [⟨some 13,.mov (.t 0),none⟩,⟨some 14,.bin .rem (.t 13) (.c (.int .i64 2)),none⟩,⟨some 15,.eql (.one .i) false (.t 14) (.c (.int .i64 1)),none⟩,⟨some 4,.mov (.t 15),none⟩])
 (.jump .ret)))⟩
def L51_0 : ACode := .seq (.seq (.reg [⟨some 18,.mov (.t 12),none⟩,⟨some 19,.mov (.t 2),none⟩,⟨some 20,.len 1 (.t 19),none⟩,⟨some 21,.bin .lss (.t 18) (.t 20),none⟩])
 (.cond (.t 21) .skip
 (.jump (.exit 0))))
 (.seq (.block 1 (.dreg [⟨⟨some 24,.mov (.t 11),none⟩, 0, 0⟩,⟨⟨some 25,.mov (.t 24),none⟩, 0, 0⟩,⟨⟨some 26,.load (some 7) (.t 5),(some (25, true))⟩, 0, 0⟩,⟨⟨some 27,.mov (.t 1),(some (25, true))⟩, 0, 0⟩,⟨⟨some 28,.mov (.t 2),(some (25, true))⟩, 0, 0⟩,⟨⟨some 29,.mov (.t 12),(some (25, true))⟩, 0, 0⟩,⟨⟨some 30,.iaddr none 1 (.t 28) (.t 29),(some (25, true))⟩, 0, 0⟩,⟨⟨some 31,.load none (.t 30),(some (25, true))⟩, 0, 0⟩,⟨⟨some 32,.mov (.t 3),(some (25, true))⟩, 0, 0⟩,⟨⟨some 33,.call (.c (.func 82 [] [])) [.t 26,.t 27,.t 31,.t 32],(some (25, true))⟩, 0, 1⟩,⟨⟨some 34,.pick (.t 25) (.t 33) (.c (.bool false)),none⟩, 1, 1⟩,⟨⟨some 11,.mov (.t 34),none⟩, 1, 1⟩]))
 (.reg [⟨some 22,.mov (.t 12),none⟩,⟨some 23,.bin .add (.t 22) (.c (.int .i64 1)),none⟩,⟨some 12,.mov (.t 23),none⟩]))
def a51 : AFunc := ⟨36, [.tmp 10],
 .seq (.reg [⟨some 5,.box 7 (.t 0),none⟩,⟨some 10,.mov (.c (.bool false)),none⟩])
 (.seq (.reg [⟨some 13,.load (some 7) (.t 5),none⟩,⟨some 14,.mov (.t 2),none⟩,⟨some 15,.call (.c (.func 47 [] [])) [.t 13,.t 14],none⟩,⟨some 16,.mov (.t 4),none⟩,⟨some 17,.bin .geq (.t 15) (.t 16),none⟩,⟨some 11,.mov (.t 17),none⟩])
 (.seq (.seq (.reg [⟨some 12,.mov (.c (.int .i64 0)),none⟩])
 (.block 0 (.loop L51_0)))
 (.seq (.reg [⟨some 35,.mov (.t 11),none⟩,⟨some 10,.mov (.t 35),none⟩])
 (.jump .ret))))⟩
def L52_0 : ACode := .seq (.seq (.reg [⟨some 11,.mov (.t 10),none⟩,⟨some 12,.mov (.t 2),none⟩,⟨some 13,.len 1 (.t 12),none⟩,⟨some 14,.bin .lss (.t 11) (.t 13),none⟩])
 (.cond (.t 14) .skip
 (.jump (.exit 0))))
 (.seq (.block 1 (.seq (.dreg [⟨⟨some 17,.load (some 7) (.t 4),none⟩, 0, 0⟩,⟨⟨some 18,.mov (.t 1),none⟩, 0, 0⟩,⟨⟨some 19,.mov (.t 2),none⟩, 0, 0⟩,⟨⟨some 20,.mov (.t 10),none⟩, 0, 0⟩,⟨⟨some 21,.iaddr none 1 (.t 19) (.t 20),none⟩, 0, 0⟩,⟨⟨some 22,.load none (.t 21),none⟩, 0, 0⟩,⟨⟨some 23,.mov (.t 3),none⟩, 0, 0⟩,⟨⟨some 24,.call (.c (.func 89 [] [])) [.t 17,.t 18,.t 22,.t 23],none⟩, 0, 1⟩,⟨⟨some 25,.not (.t 24),none⟩, 1, 1⟩])
 (.cond (.t 25) (.reg [⟨some 26,.mov (.t 9),none⟩,⟨some 27,.mov (.t 2),none⟩,⟨some 28,.mov (.t 10),none⟩,⟨some 29,.iaddr none 1 (.t 27) (.t 28),none⟩,⟨some 30,.load none (.t 29),none⟩,⟨some 31,.mklit 1 [.t 30],none⟩,⟨some 32,.append 1 8 (.t 26) (.t 31),none⟩,⟨some 9,.mov (.t 32),none⟩])
 .skip)))
 (.reg [⟨some 15,.mov (.t 10),none⟩,⟨some 16,.bin .add (.t 15) (.c (.int .i64 1)),none⟩,⟨some 10,.mov (.t 16),none⟩]))
def a52 : AFunc := ⟨34, [.tmp 8],
 .seq (.reg [⟨some 4,.box 7 (.t 0),none⟩,⟨some 8,.mov (.c (.lit [] true none)),none⟩])
 (.seq (.reg [⟨some 9,.mov (.c (.lit [] true none)),none⟩])
 (.seq (.seq (.reg [⟨some 10,.mov (.c (.int .i64 0)),none⟩])
 (.block 0 (.loop L52_0)))
 (.seq (.reg [⟨some 33,.mov (.t 9),none⟩,⟨some 8,.mov (.t 33),none⟩])
 (.jump .ret))))⟩
def a53 : AFunc := ⟨18, [.tmp 4],
 .seq (.reg [⟨some 4,.mov (.c (.bool false)),none⟩])
 (.seq (.seq (.reg [⟨some 5,.mov (.t 0),none⟩,⟨some 6,.len 1 (.t 5),none⟩,⟨some 7,.mov (.t 1),none⟩,⟨some 8,.len 1 (.t 7),none⟩,⟨some 9,.eql (.one .i) true (.t 6) (.t 8),none⟩])
 (.cond (.t 9) (.seq (.reg [⟨some 10,.mov (.t 0),none⟩,⟨some 11,.len 1 (.t 10),none⟩,⟨some 12,.mov (.t 1),none⟩,⟨some 13,.len 1 (.t 12),none⟩,⟨some 14,.bin .lss (.t 11) (.t 13),none⟩,⟨some 4,.mov (.t 14),none⟩])
 (.jump .ret))
 .skip))
 (.seq (.reg [⟨some 15,.mov (.t 0),none⟩,⟨some 16,.mov (.t 1),none⟩,⟨some 17,.call (.c (.func 79 [] [])) [.t 15,.t 16],none⟩,⟨some 4,.mov (.t 17),none⟩])
 (.jump .ret)))⟩
def a54 : AFunc := ⟨17, [.tmp 4],
 .seq (.reg [⟨some 2,.box 2 (.t 0),none⟩,⟨some 3,.box 2 (.t 1),none⟩,⟨some 4,.mov (.c (.bool false)),none⟩])
 (.seq (.reg [⟨some 5,.faddr (.t 2) 0,none⟩,⟨some 6,.load none (.t 5),none⟩,⟨some 7,.faddr (.t 3) 0,none⟩,⟨some 8,.load none (.t 7),none⟩,⟨some 9,.bin .geq (.t 6) (.t 8),none⟩,⟨some 10,.mov (.t 9),none⟩,⟨some 11,.faddr (.t 2) 1,(some (10, true))⟩,⟨some 12,.load none (.t 11),(some (10, true))⟩,⟨some 13,.faddr (.t 3) 1,(some (10, true))⟩,⟨some 14,.load none (.t 13),(some (10, true))⟩,⟨some 15,.bin .leq (.t 12) (.t 14),(some (10, true))⟩,⟨some 16,.pick (.t 10) (.t 15) (.c (.bool false)),none⟩,⟨some 4,.mov (.t 16),none⟩])
 (.jump .ret))⟩
def a55 : AFunc := ⟨10, [.tmp 6],
 .seq (.reg [⟨some 3,.box 1 (.t 0),none⟩,⟨some 4,.box 1 (.t 1),none⟩,⟨some 6,.mov (.c (.bool false)),none⟩])
 (.seq (.reg [⟨some 7,.mov (.t 2),none⟩,⟨some 8,.mkfun 91 [] [.t 3,.t 4],none⟩,⟨some 9,.call (.c (.func 90 [] [])) [.t 7,.t 8],none⟩,⟨some 6,.mov (.t 9),none⟩])
 (.jump .ret))⟩
def L56_0 : ACode := .seq (.reg [⟨some 12,.bin .lss (.t 11) (.t 10),none⟩])
 (.seq (.cond (.t 12) .skip
 (.jump (.exit 0)))
 (.seq (.block 1 (.seq (.reg [⟨some 13,.mov (.t 11),none⟩,⟨some 14,.iaddr none 2 (.t 9) (.t 11),none⟩,⟨some 15,.load (some 2) (.t 14),none⟩,⟨some 7,.alloc [.int .i64 0, .int .i64 0],none⟩,⟨some 6,.mov (.t 13),none⟩,⟨none,.store 2 (.t 7) (.t 15),none⟩])
 (.seq (.reg [⟨some 16,.mov (.t 1),none⟩,⟨some 17,.mov (.t 6),none⟩,⟨some 18,.load (some 2) (.t 7),none⟩,⟨some 19,.call (.t 16) [.t 17,.t 18],none⟩,⟨some 8,.mov (.t 19),none⟩])
 (.seq (.reg [⟨some 20,.mov (.t 8),none⟩,⟨some 21,.eql (.one .i) true (.t 20) (.c (.int .i64 0)),none⟩])
 (.cond (.t 21) (.seq (.reg [⟨some 22,.mov (.t 6),none⟩,⟨some 23,.mov (.t 8),none⟩,⟨some 4,.mov (.t 22),none⟩,⟨some 5,.mov (.t 23),none⟩])
 (.jump .ret))
 .skip)))))
 (.reg [⟨some 24,.bin .add (.t 11) (.c (.int .i64 1)),none⟩,⟨some 11,.mov (.t 24),none⟩])))
def a56 : AFunc := ⟨25, [.tmp 4, .tmp 5],
 .seq (.reg [⟨some 4,.mov (.c (.int .i64 0)),none⟩,⟨some 5,.mov (.c (.int .i64 0)),none⟩])
 (.seq (.seq (.reg [⟨some 9,.mov (.t 0),none⟩,⟨some 10,.len 1 (.t 9),none⟩,⟨some 11,.mov (.c (.int .i64 0)),none⟩])
 (.block 0 (.loop L56_0)))
 (.seq (.reg [⟨some 4,.mov (.c (.int .i64 0)),none⟩,⟨some 5,.mov (.c (.int .i64 0)),none⟩])
 (.jump .ret)))⟩
def a57 : AFunc := ⟨7, [.tmp 4],
 .seq (.reg [⟨some 3,.box 2 (.t 1),none⟩,⟨some 4,.mov (.c (.int .i64 0)),none⟩])
 (.seq (.reg [⟨some 5,.load (some 2) (.t 3),none⟩,⟨some 6,.call (.c (.func 58 [] [])) [(.t 5), (.c (.int .i64 0)), (.c (.int .i64 2))],none⟩,⟨some 4,.mov (.t 6),none⟩])
 (.jump .ret))⟩
def a58 : AFunc := ⟨22, [.tmp 6],
 .seq (.reg [⟨some 3,.box 2 (.t 0),none⟩,⟨some 6,.mov (.c (.int .i64 0)),none⟩])
 (.seq (.block 0 (.seq (.reg [⟨some 8,.mov (.t 1),none⟩,⟨some 9,.mov (.t 2),none⟩,⟨some 10,.faddr (.t 3) 0,none⟩,⟨some 11,.load none (.t 10),none⟩,⟨some 12,.faddr (.t 3) 1,none⟩,⟨some 13,.load none (.t 12),none⟩,⟨some 14,.mklit 1 [.t 11,.t 13],none⟩,⟨some 15,.call (.c (.func 55 [] [])) [.t 8,.t 9,.t 14],none⟩,⟨some 7,.mov (.t 15),none⟩])
 (.cond (.t 7) (.seq (.reg [⟨some 6,.mov (.c (.int .i64 7)),none⟩])
 (.jump .ret))
 (.seq (.reg [⟨some 17,.faddr (.t 3) 0,none⟩,⟨some 18,.load none (.t 17),none⟩,⟨some 19,.faddr (.t 3) 1,none⟩,⟨some 20,.load none (.t 19),none⟩,⟨some 21,.bin .gtr (.t 18) (.t 20),none⟩,⟨some 16,.mov (.t 21),none⟩])
 (.cond (.t 16) (.seq (.reg [⟨some 6,.mov (.c (.int .i64 2)),none⟩])
 (.jump .ret))
 .skip)))))
 (.seq (.reg [⟨some 6,.mov (.c (.int .i64 0)),none⟩])
 (.jump .ret)))⟩
def L59_0 : ACode := .seq (.reg [⟨some 12,.bin .lss (.t 11) (.t 10),none⟩])
 (.seq (.cond (.t 12) .skip
 (.jump (.exit 0)))
 (.seq (.block 1 (.seq (.reg [⟨some 13,.mov (.t 11),none⟩,⟨some 14,.iaddr none 4 (.t 9) (.t 11),none⟩,⟨some 15,.load (some 4) (.t 14),none⟩,⟨some 7,.alloc [.str ⟨#[]⟩, .int .i64 0, .int .i64 0, .int .i64 0],none⟩,⟨some 6,.mov (.t 13),none⟩,⟨none,.store 4 (.t 7) (.t 15),none⟩])
 (.seq (.reg [⟨some 16,.mov (.t 1),none⟩,⟨some 17,.mov (.t 6),none⟩,⟨some 18,.load (some 4) (.t 7),none⟩,⟨some 19,.call (.t 16) [.t 17,.t 18],none⟩,⟨some 8,.mov (.t 19),none⟩])
 (.seq (.reg [⟨some 20,.mov (.t 8),none⟩,⟨some 21,.eql (.one .i) true (.t 20) (.c (.int .i64 0)),none⟩])
 (.cond (.t 21) (.seq (.reg [⟨some 22,.mov (.t 6),none⟩,⟨some 23,.mov (.t 8),none⟩,⟨some 4,.mov (.t 22),none⟩,⟨some 5,.mov (.t 23),none⟩])
 (.jump .ret))
 .skip)))))
 (.reg [⟨some 24,.bin .add (.t 11) (.c (.int .i64 1)),none⟩,⟨some 11,.mov (.t 24),none⟩])))
def a59 : AFunc := ⟨25, [.tmp 4, .tmp 5],
 .seq (.reg [⟨some 4,.mov (.c (.int .i64 0)),none⟩,⟨some 5,.mov (.c (.int .i64 0)),none⟩])
 (.seq (.seq (.reg [⟨some 9,.mov (.t 0),none⟩,⟨some 10,.len 1 (.t 9),none⟩,⟨some 11,.mov (.c (.int .i64 0)),none⟩])
 (.block 0 (.loop L59_0)))
 (.seq (.reg [⟨some 4,.mov (.c (.int .i64 0)),none⟩,⟨some 5,.mov (.c (.int .i64 0)),none⟩])
 (.jump .ret)))⟩
def a60 : AFunc := ⟨32, [.tmp 5],
 .seq (.reg [⟨some 4,.box 4 (.t 1),none⟩,⟨some 5,.mov (.c (.int .i64 0)),none⟩])
 (.seq (.reg [⟨some 7,.faddr (.t 4) 1,none⟩,⟨some 8,.load (some 2) (.t 7),none⟩,⟨some 9,.faddr (.t 2) 0,none⟩,⟨some 10,.load none (.t 9),none⟩,⟨some 11,.len 1 (.t 10),none⟩,⟨some 12,.bin .sub (.t 11) (.c (.int .i64 1)),none⟩,⟨some 13,.call (.c (.func 58 [] [])) [(.t 8), (.c (.int .i64 0)), (.t 12)],none⟩,⟨some 6,.mov (.t 13),none⟩])
 (.seq (.block 0 (.seq (.reg [⟨some 15,.faddr (.t 4) 0,none⟩,⟨some 16,.load none (.t 15),none⟩,⟨some 17,.call (.c (.func 61 [] [])) [.t 16],none⟩,⟨some 18,.not (.t 17),none⟩,⟨some 14,.mov (.t 18),none⟩])
 (.cond (.t 14) (.seq (.reg [⟨some 5,.mov (.c (.int .i64 6)),none⟩])
 (.jump .ret))
 (.seq (.reg [⟨some 20,.faddr (.t 2) 5,none⟩,⟨some 21,.load none (.t 20),none⟩,⟨some 22,.mov (.t 0),none⟩,⟨some 23,.slicev 4 (.t 21) none (some (.t 22)) none,none⟩,⟨some 24,.mkfun 63 [] [.t 4],none⟩,⟨some 25,.call (.c (.func 62 [] [])) [.t 23,.t 24],none⟩,⟨some 19,.mov (.t 25),none⟩])
 (.cond (.t 19) (.seq (.reg [⟨some 5,.mov (.c (.int .i64 5)),none⟩])
 (.jump .ret))
 (.seq (.reg [⟨some 27,.faddr (.t 4) 3,none⟩,⟨some 28,.load none (.t 27),none⟩,⟨some 29,.mklit 1 [.t 28],none⟩,⟨some 30,.call (.c (.func 55 [] [])) [(.c (.int .i64 1)), (.c (.int .i64 99)), (.t 29)],none⟩,⟨some 26,.mov (.t 30),none⟩])
 (.cond (.t 26) (.seq (.reg [⟨some 5,.mov (.c (.int .i64 7)),none⟩])
 (.jump .ret))
 .skip)))))))
 (.seq (.reg [⟨some 31,.mov (.t 6),none⟩,⟨some 5,.mov (.t 31),none⟩])
 (.jump .ret))))⟩
def L61_0 : ACode := .seq (.reg [⟨some 8,.snext (.t 7),none⟩,⟨some 9,.ext (.t 8) 0,none⟩])
 (.seq (.cond (.t 9) .skip
 (.jump (.exit 0)))
 (.block 1 (.seq (.reg [⟨some 10,.ext (.t 8) 1,none⟩,⟨some 11,.ext (.t 8) 2,none⟩,⟨some 3,.mov (.t 10),none⟩,⟨some 4,.mov (.t 11),none⟩])
 (.seq (.reg [⟨some 12,.mov (.t 4),none⟩,⟨some 13,.bin .geq (.t 12) (.c (.int .i32 97)),none⟩,⟨some 14,.mov (.t 13),none⟩,⟨some 15,.mov (.t 4),(some (14, true))⟩,⟨some 16,.bin .leq (.t 15) (.c (.int .i32 122)),(some (14, true))⟩,⟨some 17,.pick (.t 14) (.t 16) (.c (.bool false)),none⟩,⟨some 5,.mov (.t 17),none⟩])
 (.seq (.reg [⟨some 18,.mov (.t 5),none⟩,⟨some 19,.not (.t 18),none⟩,⟨some 20,.mov (.t 19),none⟩,⟨some 21,.mov (.t 3),(some (20, true))⟩,⟨some 22,.eql (.one .i) false (.t 21) (.c (.int .i64 0)),(some (20, true))⟩,⟨some 23,.mov (.t 22),(some (20, true))⟩,⟨some 24,.mov (.t 4),(some (23, false))⟩,⟨some 25,.eql (.one .i) true (.t 24) (.c (.int .i32 46)),(some (23, false))⟩,⟨some 26,.mov (.t 25),(some (23, false))⟩,⟨some 27,.mov (.t 4),(some (26, true))⟩,⟨some 28,.bin .lss (.t 27) (.c (.int .i32 48)),(some (26, true))⟩,⟨some 29,.mov (.t 28),(some (26, true))⟩,⟨some 30,.mov (.t 4),(some (29, false))⟩,⟨some 31,.bin .gtr (.t 30) (.c (.int .i32 57)),(some (29, false))⟩,⟨some 32,.pick (.t 29) (.c (.bool true)) (.t 31),(some (26, true))⟩,⟨some 33,.pick (.t 26) (.t 32) (.c (.bool false)),(some (23, false))⟩,⟨some 34,.pick (.t 23) (.c (.bool true)) (.t 33),(some (20, true))⟩,⟨some 35,.pick (.t 20) (.t 34) (.c (.bool false)),none⟩])
 (.cond (.t 35) (.seq (.reg [⟨some 2,.mov (.c (.bool false)),none⟩])
 (.jump .ret))
 .skip))))))
def a61 : AFunc := ⟨41, [.tmp 2],
 .seq (.reg [⟨some 2,.mov (.c (.bool false)),none⟩])
 (.seq (.seq (.reg [⟨some 6,.mov (.t 0),none⟩,⟨some 7,.srange (.t 6),none⟩])
 (.block 0 (.loop L61_0)))
 (.seq (.reg [⟨some 36,.mov (.t 0),none⟩,⟨some 37,.len 0 (.t 36),none⟩,⟨some 38,.mklit 1 [.t 37],none⟩,⟨some 39,.call (.c (.func 92 [] [])) [(.c (.int .i64 1)), (.c (.int .i64 16)), (.t 38)],none⟩,⟨some 40,.not (.t 39),none⟩,⟨some 2,.mov (.t 40),none⟩])
 (.jump .ret)))⟩
def a62 : AFunc := ⟨9, [.tmp 4],
 .seq (.reg [⟨some 4,.mov (.c (.bool false)),none⟩])
 (.seq (.reg [⟨some 5,.mov (.t 0),none⟩,⟨some 6,.mov (.t 1),none⟩,⟨some 7,.call (.c (.func 93 [] [])) [.t 5,.t 6],none⟩,⟨some 8,.bin .geq (.t 7) (.c (.int .i64 0)),none⟩,⟨some 4,.mov (.t 8),none⟩])
 (.jump .ret))⟩
def a63 : AFunc := ⟨9, [.tmp 3],
 .seq (.reg [⟨some 2,.box 4 (.t 0),none⟩,⟨some 3,.mov (.c (.bool false)),none⟩])
 (.seq (.reg [⟨some 4,.faddr (.t 2) 0,none⟩,⟨some 5,.load none (.t 4),none⟩,⟨some 6,.faddr (.t 1) 0,none⟩,⟨some 7,.load none (.t 6),none⟩,⟨some 8,.eql (.one .s) false (.t 5) (.t 7),none⟩,⟨some 3,.mov (.t 8),none⟩])
 (.jump .ret))⟩
def L64_0 : ACode := .seq (.reg [⟨some 12,.bin .lss (.t 11) (.t 10),none⟩])
 (.seq (.cond (.t 12) .skip
 (.jump (.exit 0)))
 (.seq (.block 1 (.seq (.reg [⟨some 13,.mov (.t 11),none⟩,⟨some 14,.iaddr none 3 (.t 9) (.t 11),none⟩,⟨some 15,.load (some 3) (.t 14),none⟩,⟨some 7,.alloc [.int .i64 0, .int .i64 0, .int .i64 0],none⟩,⟨some 6,.mov (.t 13),none⟩,⟨none,.store 3 (.t 7) (.t 15),none⟩])
 (.seq (.reg [⟨some 16,.mov (.t 1),none⟩,⟨some 17,.mov (.t 6),none⟩,⟨some 18,.load (some 3) (.t 7),none⟩,⟨some 19,.call (.t 16) [.t 17,.t 18],none⟩,⟨some 8,.mov (.t 19),none⟩])
 (.seq (.reg [⟨some 20,.mov (.t 8),none⟩,⟨some 21,.eql (.one .i) true (.t 20) (.c (.int .i64 0)),none⟩])
 (.cond (.t 21) (.seq (.reg [⟨some 22,.mov (.t 6),none⟩,⟨some 23,.mov (.t 8),none⟩,⟨some 4,.mov (.t 22),none⟩,⟨some 5,.mov (.t 23),none⟩])
 (.jump .ret))
 .skip)))))
 (.reg [⟨some 24,.bin .add (.t 11) (.c (.int .i64 1)),none⟩,⟨some 11,.mov (.t 24),none⟩])))
def a64 : AFunc := ⟨25, [.tmp 4, .tmp 5],
 .seq (.reg [⟨some 4,.mov (.c (.int .i64 0)),none⟩,⟨some 5,.mov (.c (.int .i64 0)),none⟩])
 (.seq (.seq (.reg [⟨some 9,.mov (.t 0),none⟩,⟨some 10,.len 1 (.t 9),none⟩,⟨some 11,.mov (.c (.int .i64 0)),none⟩])
 (.block 0 (.loop L64_0)))
 (.seq (.reg [⟨some 4,.mov (.c (.int .i64 0)),none⟩,⟨some 5,.mov (.c (.int .i64 0)),none⟩])
 (.jump .ret)))⟩
def a65 : AFunc := ⟨29, [.tmp 5],
 .seq (.reg [⟨some 4,.box 3 (.t 1),none⟩,⟨some 5,.mov (.c (.int .i64 0)),none⟩])
 (.seq (.block 0 (.seq (.reg [⟨some 7,.faddr (.t 2) 5,none⟩,⟨some 8,.load none (.t 7),none⟩,⟨some 9,.len 1 (.t 8),none⟩,⟨some 10,.bin .sub (.t 9) (.c (.int .i64 1)),none⟩,⟨some 11,.faddr (.t 4) 0,none⟩,⟨some 12,.load none (.t 11),none⟩,⟨some 13,.mklit 1 [.t 12],none⟩,⟨some 14,.call (.c (.func 55 [] [])) [(.c (.int .i64 0)), (.t 10), (.t 13)],none⟩,⟨some 6,.mov (.t 14),none⟩])
 (.cond (.t 6) (.seq (.reg [⟨some 5,.mov (.c (.int .i64 4)),none⟩])
 (.jump .ret))
 (.seq (.reg [⟨some 16,.faddr (.t 2) 0,none⟩,⟨some 17,.load none (.t 16),none⟩,⟨some 18,.len 1 (.t 17),none⟩,⟨some 19,.faddr (.t 4) 1,none⟩,⟨some 20,.load none (.t 19),none⟩,⟨some 21,.mklit 1 [.t 20],none⟩,⟨some 22,.call (.c (.func 55 [] [])) [(.c (.int .i64 0)), (.t 18), (.t 21)],none⟩,⟨some 23,.mov (.t 22),none⟩,⟨some 24,.faddr (.t 4) 2,(some (23, false))⟩,⟨some 25,.load none (.t 24),(some (23, false))⟩,⟨some 26,.mklit 1 [.t 25],(some (23, false))⟩,⟨some 27,.call (.c (.func 55 [] [])) [(.c (.int .i64 0)), (.c (.int .i64 30)), (.t 26)],(some (23, false))⟩,⟨some 28,.pick (.t 23) (.c (.bool true)) (.t 27),none⟩,⟨some 15,.mov (.t 28),none⟩])
 (.cond (.t 15) (.seq (.reg [⟨some 5,.mov (.c (.int .i64 7)),none⟩])
 (.jump .ret))
 .skip)))))
 (.seq (.reg [⟨some 5,.mov (.c (.int .i64 0)),none⟩])
 (.jump .ret)))⟩
def a66 : AFunc := ⟨15, [.tmp 6],
 .seq (.reg [⟨some 6,.mov (.c (.bool false)),none⟩])
 (.seq (.reg [⟨some 7,.mov (.t 0),none⟩,⟨some 8,.mov (.t 1),none⟩,⟨some 9,.bin .geq (.t 7) (.t 8),none⟩,⟨some 10,.mov (.t 9),none⟩,⟨some 11,.mov (.t 0),(some (10, true))⟩,⟨some 12,.mov (.t 2),(some (10, true))⟩,⟨some 13,.bin .leq (.t 11) (.t 12),(some (10, true))⟩,⟨some 14,.pick (.t 10) (.t 13) (.c (.bool false)),none⟩,⟨some 6,.mov (.t 14),none⟩])
 (.jump .ret))⟩
def a67 : AFunc := ⟨26, [.tmp 6],
 .seq (.reg [⟨some 3,.box 2 (.t 0),none⟩,⟨some 6,.mov (.c (.int .i64 0)),none⟩])
 (.seq (.seq (.reg [⟨some 7,.faddr (.t 3) 0,none⟩,⟨some 8,.load none (.t 7),none⟩,⟨some 9,.mov (.t 1),none⟩,⟨some 10,.mov (.t 2),none⟩,⟨some 11,.call (.c (.func 66 [] [])) [.t 8,.t 9,.t 10],none⟩,⟨some 12,.not (.t 11),none⟩,⟨some 13,.mov (.t 12),none⟩,⟨some 14,.faddr (.t 3) 1,(some (13, false))⟩,⟨some 15,.load none (.t 14),(some (13, false))⟩,⟨some 16,.mov (.t 1),(some (13, false))⟩,⟨some 17,.mov (.t 2),(some (13, false))⟩,⟨some 18,.call (.c (.func 66 [] [])) [.t 15,.t 16,.t 17],(some (13, false))⟩,⟨some 19,.not (.t 18),(some (13, false))⟩,⟨some 20,.pick (.t 13) (.c (.bool true)) (.t 19),none⟩])
 (.cond (.t 20) (.seq (.reg [⟨some 6,.mov (.c (.int .i64 7)),none⟩])
 (.jump .ret))
 .skip))
 (.seq (.seq (.reg [⟨some 21,.faddr (.t 3) 1,none⟩,⟨some 22,.load none (.t 21),none⟩,⟨some 23,.faddr (.t 3) 0,none⟩,⟨some 24,.load none (.t 23),none⟩,⟨some 25,.bin .lss (.t 22) (.t 24),none⟩])
 (.cond (.t 25) (.seq (.reg [⟨some 6,.mov (.c (.int .i64 2)),none⟩])
 (.jump .ret))
 .skip))
 (.seq (.reg [⟨some 6,.mov (.c (.int .i64 0)),none⟩])
 (.jump .ret))))⟩
def a68 : AFunc := ⟨14, [.tmp 4],
 .seq (.reg [⟨some 4,.mov (.c (.int .i64 0)),none⟩])
 (.seq (.reg [⟨some 5,.mov (.c (.int .i64 0)),none⟩])
 (.seq (.seq (.reg [⟨some 6,.mov (.t 1),none⟩,⟨some 7,.mov (.t 0),none⟩,⟨some 8,.call (.c (.func 94 [] [])) [.t 6,.t 7],none⟩,⟨some 9,.bin .geq (.t 8) (.c (.int .i64 0)),none⟩])
 (.cond (.t 9) (.reg [⟨some 5,.mov (.c (.int .i64 5)),none⟩])
 .skip))
 (.seq (.seq (.reg [⟨some 10,.mov (.t 0),none⟩,⟨some 11,.call (.c (.func 95 [] [])) [.t 10],none⟩,⟨some 12,.not (.t 11),none⟩])
 (.cond (.t 12) (.reg [⟨some 5,.mov (.c (.int .i64 6)),none⟩])
 .skip))
 (.seq (.reg [⟨some 13,.mov (.t 5),none⟩,⟨some 4,.mov (.t 13),none⟩])
 (.jump .ret)))))⟩
def a69 : AFunc := ⟨6, [.tmp 2],
 .seq (.reg [⟨some 1,.box 7 (.t 0),none⟩,⟨some 2,.mov (.c (.int .i64 0)),none⟩])
 (.seq (.reg [⟨some 3,.faddr (.t 1) 0,none⟩,⟨some 4,.load none (.t 3),none⟩,⟨some 5,.len 1 (.t 4),none⟩,⟨some 2,.mov (.t 5),none⟩])
 (.jump .ret))⟩
def a70 : AFunc := ⟨47, [.tmp 6, .tmp 7],
 .seq (.reg [⟨some 3,.box 7 (.t 0),none⟩,⟨some 6,.mov (.c (.nilPtr)),none⟩,⟨some 7,.mov (.c (.int .i64 0)),none⟩])
 (.seq (.seq (.reg [⟨some 14,.load (some 7) (.t 3),none⟩,⟨some 15,.call (.c (.func 15 [] [])) [.t 14],none⟩,⟨some 13,.mov (.t 15),none⟩,⟨some 16,.ext (.t 13) 0,none⟩,⟨some 17,.ext (.t 13) 1,none⟩,⟨some 18,.ext (.t 13) 2,none⟩,⟨some 8,.mov (.t 16),none⟩,⟨some 9,.mov (.t 17),none⟩,⟨some 10,.mov (.t 18),none⟩])
 (.seq (.reg [⟨some 19,.mov (.t 10),none⟩,⟨some 20,.eql (.one .i) true (.t 19) (.c (.int .i64 0)),none⟩])
 (.cond (.t 20) (.seq (.reg [⟨some 21,.mov (.t 10),none⟩,⟨some 6,.mov (.c (.nilPtr)),none⟩,⟨some 7,.mov (.t 21),none⟩])
 (.jump .ret))
 .skip)))
 (.seq (.seq (.reg [⟨some 22,.mov (.t 1),none⟩,⟨some 23,.eql (.one .i) true (.t 22) (.c (.int .i64 (-1099511627776))),none⟩,⟨some 24,.mov (.t 23),none⟩,⟨some 25,.faddr (.t 3) 5,(some (24, true))⟩,⟨some 26,.load none (.t 25),(some (24, true))⟩,⟨some 27,.len 1 (.t 26),(some (24, true))⟩,⟨some 28,.bin .sub (.t 27) (.c (.int .i64 1)),(some (24, true))⟩,⟨some 29,.mov (.t 1),(some (24, true))⟩,⟨some 30,.mklit 1 [.t 29],(some (24, true))⟩,⟨some 31,.call (.c (.func 55 [] [])) [(.c (.int .i64 0)), (.t 28), (.t 30)],(some (24, true))⟩,⟨some 32,.pick (.t 24) (.t 31) (.c (.bool false)),none⟩])
 (.cond (.t 32) (.seq (.reg [⟨some 6,.mov (.c (.nilPtr)),none⟩,⟨some 7,.mov (.c (.int .i64 4)),none⟩])
 (.jump .ret))
 .skip))
 (.seq (.seq (.reg [⟨some 33,.mov (.t 2),none⟩,⟨some 34,.call (.t 33) [],none⟩,⟨some 11,.mov (.t 34),none⟩])
 (.seq (.reg [⟨some 35,.mov (.t 11),none⟩,⟨some 36,.eql (.one .i) true (.t 35) (.c (.int .i64 0)),none⟩])
 (.cond (.t 36) (.seq (.reg [⟨some 37,.mov (.t 11),none⟩,⟨some 6,.mov (.c (.nilPtr)),none⟩,⟨some 7,.mov (.t 37),none⟩])
 (.jump .ret))
 .skip)))
 (.seq (.reg [⟨some 38,.load (some 7) (.t 3),none⟩,⟨some 39,.call (.c (.func 86 [] [])) [(.t 38), (.c (.int .i64 0))],none⟩,⟨some 12,.mov (.t 39),none⟩])
 (.seq (.seq (.reg [⟨some 40,.mov (.t 12),none⟩,⟨some 41,.nilCheck (.t 40),none⟩,⟨some 42,.faddr (.t 41) 8,none⟩,⟨some 43,.load none (.t 42),none⟩,⟨some 44,.len 2 (.t 43),none⟩,⟨some 45,.eql (.one .i) false (.t 44) (.c (.int .i64 0)),none⟩])
 (.cond (.t 45) (.seq (.reg [⟨some 6,.mov (.c (.nilPtr)),none⟩,⟨some 7,.mov (.c (.int .i64 8)),none⟩])
 (.jump .ret))
 .skip))
 (.seq (.reg [⟨some 46,.mov (.t 12),none⟩,⟨some 6,.mov (.t 46),none⟩,⟨some 7,.mov (.c (.int .i64 0)),none⟩])
 (.jump .ret)))))))⟩
def a71 : AFunc := ⟨4, [.tmp 2],
 .seq (.reg [⟨some 1,.box 1 (.t 0),none⟩,⟨some 2,.mov (.c (.nilFunc)),none⟩])
 (.seq (.reg [⟨some 3,.mkfun 96 [] [.t 1],none⟩,⟨some 2,.mov (.t 3),none⟩])
 (.jump .ret))⟩
def L72_2 : ACode := .seq (.reg [⟨some 35,.bin .lss (.t 34) (.t 33),none⟩])
 (.seq (.cond (.t 35) .skip
 (.jump (.exit 2)))
 (.seq (.block 3 (.seq (.reg [⟨some 36,.iaddr none 1 (.t 32) (.t 34),none⟩,⟨some 37,.load none (.t 36),none⟩,⟨some 10,.mov (.t 37),none⟩])
 (.seq (.reg [⟨some 38,.mov (.t 0),none⟩,⟨some 39,.load (some 7) (.t 7),none⟩,⟨some 40,.mov (.t 10),none⟩,⟨some 41,.mov (.t 2),none⟩,⟨some 42,.call (.c (.func 97 [] [])) [.t 38,.t 39,.t 40,.t 41],none⟩,⟨some 11,.mov (.t 42),none⟩])
 (.reg [⟨some 43,.faddr (.t 6) 0,none⟩,⟨some 44,.load none (.t 43),none⟩,⟨some 45,.mov (.t 11),none⟩,⟨some 46,.min [.t 44,.t 45],none⟩,⟨some 47,.faddr (.t 6) 1,none⟩,⟨some 48,.load none (.t 47),none⟩,⟨some 49,.mov (.t 11),none⟩,⟨some 50,.max [.t 48,.t 49],none⟩,⟨some 51,.build [.int .i64 0, .int .i64 0] [(0, 1, (.t 46)), (1, 1, (.t 50))],none⟩,⟨none,.store 2 (.t 6) (.t 51),none⟩]))))
 (.reg [⟨some 52,.bin .add (.t 34) (.c (.int .i64 1)),none⟩,⟨some 34,.mov (.t 52),none⟩])))
def L72_0 : ACode := .seq (.reg [⟨some 18,.mnext (.t 17),none⟩,⟨some 19,.ext (.t 18) 0,none⟩])
 (.seq (.cond (.t 19) .skip
 (.jump (.exit 0)))
 (.block 1 (.seq (.reg [⟨some 20,.entry (.t 17),none⟩,⟨some 21,.ext (.t 20) 0,none⟩,⟨some 22,.ext (.t 20) 1,none⟩,⟨some 7,.alloc [.int .i64 0, .int .i64 0, .int .i64 0, .int .i64 0, .int .i64 0, .int .i64 0, .int .i64 0],none⟩,⟨some 8,.alloc [.int .i64 0, .int .i64 0, .int .i64 0, .int .i64 0],none⟩,⟨none,.store 7 (.t 7) (.t 21),none⟩,⟨none,.store 4 (.t 8) (.t 22),none⟩])
 (.seq (.dreg [⟨⟨some 23,.mov (.t 1),none⟩, 0, 0⟩,⟨⟨some 24,.iaddr (some 4) 1 (.t 8) (.t 23),none⟩, 0, 0⟩,⟨⟨some 25,.load none (.t 24),none⟩, 0, 0⟩,⟨⟨some 26,.mov (.t 0),none⟩, 0, 0⟩,⟨⟨some 27,.nilCheck (.t 26),none⟩, 0, 0⟩,⟨⟨some 28,.faddr (.t 27) 0,none⟩, 0, 0⟩,⟨⟨some 29,.faddr (.t 28) 0,none⟩, 0, 0⟩,⟨⟨some 30,.load none (.t 29),none⟩, 0, 0⟩,⟨⟨some 31,.len 1 (.t 30),none⟩, 0, 0⟩,⟨⟨some 32,.call (.c (.func 78 [] [])) [.t 25,.t 31],none⟩, 0, 1⟩,⟨⟨some 33,.len 1 (.t 32),none⟩, 1, 1⟩,⟨⟨some 34,.mov (.c (.int .i64 0)),none⟩, 0, 1⟩])
 (.block 2 (.loop L72_2))))))
def a72 : AFunc := ⟨54, [.cell 6 (some 2)],
 .seq (.reg [⟨some 6,.alloc [.int .i64 0, .int .i64 0],none⟩])
 (.seq (.reg [⟨some 12,.build [.int .i64 0, .int .i64 0] [(0, 1, (.c (.int .i64 31))), (1, 1, (.c (.int .i64 (-1))))],none⟩,⟨none,.store 2 (.t 6) (.t 12),none⟩])
 (.seq (.seq (.reg [⟨some 13,.mov (.t 0),none⟩,⟨some 14,.nilCheck (.t 13),none⟩,⟨some 15,.faddr (.t 14) 8,none⟩,⟨some 16,.load none (.t 15),none⟩,⟨some 17,.mrange (.t 16),none⟩])
 (.block 0 (.loop L72_0)))
 (.seq (.reg [⟨some 53,.load (some 2) (.t 6),none⟩,⟨none,.store 2 (.t 6) (.t 53),none⟩])
 (.jump .ret))))⟩
def L76_2 : ACode := .seq (.seq (.reg [⟨some 35,.mov (.t 10),none⟩,⟨some 36,.mov (.t 0),none⟩,⟨some 37,.mov (.t 9),none⟩,⟨some 38,.iaddr none 2 (.t 36) (.t 37),none⟩,⟨some 39,.faddr (.t 38) 1,none⟩,⟨some 40,.load none (.t 39),none⟩,⟨some 41,.mov (.t 1),none⟩,⟨some 42,.iaddr none 1 (.t 40) (.t 41),none⟩,⟨some 43,.load none (.t 42),none⟩,⟨some 44,.len 1 (.t 43),none⟩,⟨some 45,.bin .lss (.t 35) (.t 44),none⟩])
 (.cond (.t 45) .skip
 (.jump (.exit 2))))
 (.seq (.block 3 (.dreg [⟨⟨some 48,.load (some 2) (.t 8),none⟩, 0, 1⟩,⟨⟨some 49,.mov (.t 0),none⟩, 0, 0⟩,⟨⟨some 50,.mov (.t 9),none⟩, 0, 0⟩,⟨⟨some 51,.iaddr none 2 (.t 49) (.t 50),none⟩, 0, 0⟩,⟨⟨some 52,.faddr (.t 51) 0,none⟩, 0, 0⟩,⟨⟨some 53,.load none (.t 52),none⟩, 0, 0⟩,⟨⟨some 54,.mov (.t 0),none⟩, 0, 0⟩,⟨⟨some 55,.mov (.t 9),none⟩, 0, 0⟩,⟨⟨some 56,.iaddr none 2 (.t 54) (.t 55),none⟩, 0, 0⟩,⟨⟨some 57,.faddr (.t 56) 1,none⟩, 0, 0⟩,⟨⟨some 58,.load none (.t 57),none⟩, 0, 0⟩,⟨⟨some 59,.mov (.t 1),none⟩, 0, 0⟩,⟨⟨some 60,.iaddr none 1 (.t 58) (.t 59),none⟩, 0, 0⟩,⟨⟨some 61,.load none (.t 60),none⟩, 0, 0⟩,⟨⟨some 62,.mov (.t 10),none⟩, 0, 0⟩,⟨⟨some 63,.iaddr none 1 (.t 61) (.t 62),none⟩, 0, 0⟩,⟨⟨some 64,.load none (.t 63),none⟩, 0, 0⟩,⟨⟨some 65,.mov (.t 2),none⟩, 0, 0⟩,⟨⟨some 66,.call (.c (.func 43 [] [])) [.t 53,.t 64,.t 65],none⟩, 0, 1⟩,⟨⟨some 67,.call (.c (.func 83 [] [])) [.t 48,.t 66],none⟩, 1, 2⟩,⟨⟨none,.store 2 (.t 8) (.t 67),none⟩, 2, 3⟩]))
 (.reg [⟨some 46,.mov (.t 10),none⟩,⟨some 47,.bin .add (.t 46) (.c (.int .i64 1)),none⟩,⟨some 10,.mov (.t 47),none⟩]))
def L76_0 : ACode := .seq (.seq (.reg [⟨some 29,.mov (.t 9),none⟩,⟨some 30,.mov (.t 0),none⟩,⟨some 31,.len 1 (.t 30),none⟩,⟨some 32,.bin .lss (.t 29) (.t 31),none⟩])
 (.cond (.t 32) .skip
 (.jump (.exit 0))))
 (.seq (.block 1 (.seq (.reg [⟨some 10,.mov (.c (.int .i64 0)),none⟩])
 (.block 2 (.loop L76_2))))
 (.reg [⟨some 33,.mov (.t 9),none⟩,⟨some 34,.bin .add (.t 33) (.c (.int .i64 1)),none⟩,⟨some 9,.mov (.t 34),none⟩]))
def a76 : AFunc := ⟨69, [.cell 6 (some 2)],
 .seq (.reg [⟨some 6,.alloc [.int .i64 0, .int .i64 0],none⟩])
 (.seq (.dreg [⟨⟨some 11,.mov (.t 0),none⟩, 0, 0⟩,⟨⟨some 12,.iaddr none 2 (.t 11) (.c (.int .i64 0)),none⟩, 0, 0⟩,⟨⟨some 13,.faddr (.t 12) 0,none⟩, 0, 0⟩,⟨⟨some 14,.load none (.t 13),none⟩, 0, 0⟩,⟨⟨some 15,.mov (.t 0),none⟩, 0, 0⟩,⟨⟨some 16,.iaddr none 2 (.t 15) (.c (.int .i64 0)),none⟩, 0, 0⟩,⟨⟨some 17,.faddr (.t 16) 1,none⟩, 0, 0⟩,⟨⟨some 18,.load none (.t 17),none⟩, 0, 0⟩,⟨⟨some 19,.mov (.t 1),none⟩, 0, 0⟩,⟨⟨some 20,.iaddr none 1 (.t 18) (.t 19),none⟩, 0, 0⟩,⟨⟨some 21,.load none (.t 20),none⟩, 0, 0⟩,⟨⟨some 22,.iaddr none 1 (.t 21) (.c (.int .i64 0)),none⟩, 0, 0⟩,⟨⟨some 23,.load none (.t 22),none⟩, 0, 0⟩,⟨⟨some 24,.mov (.t 2),none⟩, 0, 0⟩,⟨⟨some 25,.call (.c (.func 43 [] [])) [.t 14,.t 23,.t 24],none⟩, 0, 1⟩,⟨⟨some 7,.mov (.t 25),none⟩, 1, 1⟩])
 (.seq (.reg [⟨some 26,.mov (.t 7),none⟩,⟨some 27,.mov (.t 7),none⟩,⟨some 28,.build [.int .i64 0, .int .i64 0] [(0, 1, (.t 26)), (1, 1, (.t 27))],none⟩,⟨some 8,.alloc [.int .i64 0, .int .i64 0],none⟩,⟨none,.store 2 (.t 8) (.t 28),none⟩])
 (.seq (.seq (.reg [⟨some 9,.mov (.c (.int .i64 0)),none⟩])
 (.block 0 (.loop L76_0)))
 (.seq (.reg [⟨some 68,.load (some 2) (.t 8),none⟩,⟨none,.store 2 (.t 6) (.t 68),none⟩])
 (.jump .ret)))))⟩
def a77 : AFunc := ⟨1, [.tmp 0],
 .seq (.reg [⟨some 0,.mov (.c (.int .i64 0)),none⟩])
 (.seq (.reg [⟨some 0,.mov (.c (.int .i64 0)),none⟩])
 (.jump .ret))⟩
def L78_0 : ACode := .seq (.reg [⟨some 8,.bin .lss (.t 7) (.t 6),none⟩])
 (.seq (.cond (.t 8) .skip
 (.jump (.exit 0)))
 (.seq (.block 1 (.seq (.reg [⟨some 9,.mov (.t 7),none⟩,⟨some 5,.mov (.t 9),none⟩])
 (.seq (.reg [⟨some 10,.mov (.t 0),none⟩,⟨some 11,.mov (.t 5),none⟩,⟨some 12,.bin .shr (.t 10) (.t 11),none⟩,⟨some 13,.bin .and (.t 12) (.c (.int .i64 1)),none⟩,⟨some 14,.eql (.one .i) false (.t 13) (.c (.int .i64 1)),none⟩])
 (.cond (.t 14) (.reg [⟨some 15,.mov (.t 4),none⟩,⟨some 16,.mov (.t 5),none⟩,⟨some 17,.mklit 1 [.t 16],none⟩,⟨some 18,.append 1 8 (.t 15) (.t 17),none⟩,⟨some 4,.mov (.t 18),none⟩])
 .skip))))
 (.reg [⟨some 19,.bin .add (.t 7) (.c (.int .i64 1)),none⟩,⟨some 7,.mov (.t 19),none⟩])))
def a78 : AFunc := ⟨21, [.tmp 4],
 .seq (.reg [⟨some 4,.mov (.c (.lit [] true none)),none⟩])
 (.seq (.seq (.reg [⟨some 6,.mov (.t 1),none⟩,⟨some 7,.mov (.c (.int .i64 0)),none⟩])
 (.block 0 (.loop L78_0)))
 (.seq (.reg [⟨some 20,.mov (.t 4),none⟩,⟨some 4,.mov (.t 20),none⟩])
 (.jump .ret)))⟩
def L79_0 : ACode := .seq (.seq (.dreg [⟨⟨some 6,.mov (.t 5),none⟩, 0, 0⟩,⟨⟨some 7,.mov (.t 0),none⟩, 0, 0⟩,⟨⟨some 8,.len 1 (.t 7),none⟩, 0, 0⟩,⟨⟨some 9,.bin .lss (.t 6) (.t 8),none⟩, 0, 0⟩,⟨⟨some 10,.mov (.t 9),none⟩, 0, 0⟩,⟨⟨some 11,.mov (.t 5),(some (10, true))⟩, 0, 0⟩,⟨⟨some 12,.mov (.t 1),(some (10, true))⟩, 0, 0⟩,⟨⟨some 13,.len 1 (.t 12),(some (10, true))⟩, 0, 0⟩,⟨⟨some 14,.bin .lss (.t 11) (.t 13),(some (10, true))⟩, 0, 0⟩,⟨⟨some 15,.pick (.t 10) (.t 14) (.c (.bool false)),none⟩, 0, 0⟩,⟨⟨some 16,.mov (.t 15),none⟩, 0, 0⟩,⟨⟨some 17,.mov (.t 0),(some (16, true))⟩, 0, 0⟩,⟨⟨some 18,.mov (.t 5),(some (16, true))⟩, 0, 0⟩,⟨⟨some 19,.iaddr none 1 (.t 17) (.t 18),(some (16, true))⟩, 0, 0⟩,⟨⟨some 20,.load none (.t 19),(some (16, true))⟩, 0, 0⟩,⟨⟨some 21,.mov (.t 1),(some (16, true))⟩, 0, 0⟩,⟨⟨some 22,.mov (.t 5),(some (16, true))⟩, 0, 0⟩,⟨⟨some 23,.iaddr none 1 (.t 21) (.t 22),(some (16, true))⟩, 0, 0⟩,⟨⟨some 24,.load none (.t 23),(some (16, true))⟩, 0, 0⟩,⟨⟨some 25,.eql (.one .i) false (.t 20) (.t 24),(some (16, true))⟩, 0, 0⟩,⟨⟨some 26,.pick (.t 16) (.t 25) (.c (.bool false)),none⟩, 0, 0⟩])
 (.cond (.t 26) .skip
 (.jump (.exit 0))))
 (.block 1 (.reg [⟨some 27,.mov (.t 5),none⟩,⟨some 28,.bin .add (.t 27) (.c (.int .i64 1)),none⟩,⟨some 5,.mov (.t 28),none⟩]))
def a79 : AFunc := ⟨48, [.tmp 4],
 .seq (.reg [⟨some 4,.mov (.c (.bool false)),none⟩])
 (.seq (.reg [⟨some 5,.mov (.c (.int .i64 0)),none⟩])
 (.seq (.block 0 (.loop L79_0))
 (.seq (.seq (.reg [⟨some 29,.mov (.t 5),none⟩,⟨some 30,.mov (.t 1),none⟩,⟨some 31,.len 1 (.t 30),none⟩,⟨some 32,.eql (.one .i) false (.t 29) (.t 31),none⟩])
 (.cond (.t 32) (.seq (.reg [⟨some 4,.mov (.c (.bool false)),none⟩])
 (.jump .ret))
 .skip))
 (.seq (.dreg [⟨⟨some 33,.mov (.t 5),none⟩, 0, 0⟩,⟨⟨some 34,.mov (.t 0),none⟩, 0, 0⟩,⟨⟨some 35,.len 1 (.t 34),none⟩, 0, 0⟩,⟨⟨some 36,.eql (.one .i) false (.t 33) (.t 35),none⟩, 0, 0⟩,⟨⟨some 37,.mov (.t 36),none⟩, 0, 0⟩,⟨⟨some 38,.mov (.t 0),(some (37, false))⟩, 0, 0⟩,⟨⟨some 39,.mov (.t 5),(some (37, false))⟩, 0, 0⟩,⟨⟨some 40,.iaddr none 1 (.t 38) (.t 39),(some (37, false))⟩, 0, 0⟩,⟨⟨some 41,.load none (.t 40),(some (37, false))⟩, 0, 0⟩,⟨⟨some 42,.mov (.t 1),(some (37, false))⟩, 0, 0⟩,⟨⟨some 43,.mov (.t 5),(some (37, false))⟩, 0, 0⟩,⟨⟨some 44,.iaddr none 1 (.t 42) (.t 43),(some (37, false))⟩, 0, 0⟩,⟨⟨some 45,.load none (.t 44),(some (37, false))⟩, 0, 0⟩,⟨⟨some 46,.bin .lss (.t 41) (.t 45),(some (37, false))⟩, 0, 0⟩,⟨⟨some 47,.pick (.t 37) (.c (.bool true)) (.t 46),none⟩, 0, 0⟩,⟨⟨some 4,.mov (.t 47),none⟩, 0, 0⟩])
 (.jump .ret)))))⟩
def L80_0 : ACode := .seq (.reg [⟨some 23,.bin .lss (.t 22) (.t 21),none⟩])
 (.seq (.cond (.t 23) .skip
 (.jump (.exit 0)))
 (.seq (.block 1 (.seq (.reg [⟨some 24,.iaddr none 1 (.t 20) (.t 22),none⟩,⟨some 25,.load (some 1) (.t 24),none⟩,⟨some 10,.alloc [.nilFunc],none⟩,⟨none,.store 1 (.t 10) (.t 25),none⟩])
 (.seq (.reg [⟨some 26,.faddr (.t 10) 0,none⟩,⟨some 27,.load none (.t 26),none⟩,⟨some 28,.mov (.t 0),none⟩,⟨some 29,.load (some 2) (.t 7),none⟩,⟨some 30,.call (.t 27) [.t 28,.t 29],none⟩])
 (.block 2 (.seq (.reg [⟨some 32,.eql (.one .i) false (.t 30) (.c (.int .i64 2)),none⟩,⟨some 31,.mov (.t 32),none⟩])
 (.cond (.t 31) (.seq (.reg [⟨some 6,.mov (.c (.int .i64 2)),none⟩])
 (.jump .ret))
 (.seq (.reg [⟨some 34,.eql (.one .i) false (.t 30) (.c (.int .i64 0)),none⟩,⟨some 33,.mov (.t 34),none⟩])
 (.cond (.t 33) (.reg [⟨some 8,.mov (.c (.bool false)),none⟩])
 .skip))))))))
 (.reg [⟨some 35,.bin .add (.t 22) (.c (.int .i64 1)),none⟩,⟨some 22,.mov (.t 35),none⟩])))
def L80_5 : ACode := .seq (.reg [⟨some 59,.bin .lss (.t 58) (.t 57),none⟩])
 (.seq (.cond (.t 59) .skip
 (.jump (.exit 5)))
 (.seq (.block 6 (.seq (.reg [⟨some 60,.iaddr none 1 (.t 56) (.t 58),none⟩,⟨some 61,.load none (.t 60),none⟩,⟨some 14,.mov (.t 61),none⟩])
 (.seq (.reg [⟨some 62,.mov (.t 0),none⟩,⟨some 63,.load (some 7) (.t 11),none⟩,⟨some 64,.mov (.t 14),none⟩,⟨some 65,.mov (.t 2),none⟩,⟨some 66,.call (.c (.func 97 [] [])) [.t 62,.t 63,.t 64,.t 65],none⟩,⟨some 15,.mov (.t 66),none⟩])
 (.seq (.dreg [⟨⟨some 67,.mov (.t 15),none⟩, 0, 0⟩,⟨⟨some 68,.mov (.t 0),none⟩, 0, 0⟩,⟨⟨some 69,.nilCheck (.t 68),none⟩, 0, 0⟩,⟨⟨some 70,.faddr (.t 69) 0,none⟩, 0, 0⟩,⟨⟨some 71,.faddr (.t 70) 1,none⟩, 0, 0⟩,⟨⟨some 72,.load none (.t 71),none⟩, 0, 0⟩,⟨⟨some 73,.bin .geq (.t 67) (.t 72),none⟩, 0, 0⟩,⟨⟨some 74,.mov (.t 73),none⟩, 0, 0⟩,⟨⟨some 75,.mov (.t 15),(some (74, true))⟩, 0, 0⟩,⟨⟨some 76,.mov (.t 0),(some (74, true))⟩, 0, 0⟩,⟨⟨some 77,.nilCheck (.t 76),(some (74, true))⟩, 0, 0⟩,⟨⟨some 78,.faddr (.t 77) 0,(some (74, true))⟩, 0, 0⟩,⟨⟨some 79,.faddr (.t 78) 3,(some (74, true))⟩, 0, 0⟩,⟨⟨some 80,.faddr (.t 79) 0,(some (74, true))⟩, 0, 0⟩,⟨⟨some 81,.load none (.t 80),(some (74, true))⟩, 0, 0⟩,⟨⟨some 82,.bin .add (.t 75) (.t 81),(some (74, true))⟩, 0, 0⟩,⟨⟨some 83,.mov (.t 0),(some (74, true))⟩, 0, 0⟩,⟨⟨some 84,.nilCheck (.t 83),(some (74, true))⟩, 0, 0⟩,⟨⟨some 85,.faddr (.t 84) 0,(some (74, true))⟩, 0, 0⟩,⟨⟨some 86,.faddr (.t 85) 2,(some (74, true))⟩, 0, 0⟩,⟨⟨some 87,.load none (.t 86),(some (74, true))⟩, 0, 0⟩,⟨⟨some 88,.bin .leq (.t 82) (.t 87),(some (74, true))⟩, 0, 0⟩,⟨⟨some 89,.pick (.t 74) (.t 88) (.c (.bool false)),none⟩, 0, 0⟩])
 (.cond (.t 89) (.seq (.reg [⟨some 6,.mov (.c (.int .i64 0)),none⟩])
 (.jump .ret))
 .skip)))))
 (.reg [⟨some 90,.bin .add (.t 58) (.c (.int .i64 1)),none⟩,⟨some 58,.mov (.t 90),none⟩])))
def L80_3 : ACode := .seq (.reg [⟨some 42,.mnext (.t 41),none⟩,⟨some 43,.ext (.t 42) 0,none⟩])
 (.seq (.cond (.t 43) .skip
 (.jump (.exit 3)))
 (.block 4 (.seq (.reg [⟨some 44,.entry (.t 41),none⟩,⟨some 45,.ext (.t 44) 0,none⟩,⟨some 46,.ext (.t 44) 1,none⟩,⟨some 11,.alloc [.int .i64 0, .int .i64 0, .int .i64 0, .int .i64 0, .int .i64 0, .int .i64 0, .int .i64 0],none⟩,⟨some 12,.alloc [.int .i64 0, .int .i64 0, .int .i64 0, .int .i64 0],none⟩,⟨none,.store 7 (.t 11) (.t 45),none⟩,⟨none,.store 4 (.t 12) (.t 46),none⟩])
 (.seq (.dreg [⟨⟨some 47,.mov (.t 1),none⟩, 0, 0⟩,⟨⟨some 48,.iaddr (some 4) 1 (.t 12) (.t 47),none⟩, 0, 0⟩,⟨⟨some 49,.load none (.t 48),none⟩, 0, 0⟩,⟨⟨some 50,.mov (.t 0),none⟩, 0, 0⟩,⟨⟨some 51,.nilCheck (.t 50),none⟩, 0, 0⟩,⟨⟨some 52,.faddr (.t 51) 0,none⟩, 0, 0⟩,⟨⟨some 53,.faddr (.t 52) 0,none⟩, 0, 0⟩,⟨⟨some 54,.load none (.t 53),none⟩, 0, 0⟩,⟨⟨some 55,.len 1 (.t 54),none⟩, 0, 0⟩,⟨⟨some 56,.call (.c (.func 78 [] [])) [.t 49,.t 55],none⟩, 0, 1⟩,⟨⟨some 57,.len 1 (.t 56),none⟩, 1, 1⟩,⟨⟨some 58,.mov (.c (.int .i64 0)),none⟩, 0, 1⟩])
 (.block 5 (.loop L80_5))))))
def a80 : AFunc := ⟨91, [.tmp 6],
 .seq (.reg [⟨some 6,.mov (.c (.int .i64 0)),none⟩])
 (.seq (.reg [⟨some 16,.mov (.t 0),none⟩,⟨some 17,.mov (.t 1),none⟩,⟨some 18,.mov (.t 2),none⟩,⟨some 19,.call (.c (.func 72 [] [])) [.t 16,.t 17,.t 18],none⟩,⟨some 7,.alloc [.int .i64 0, .int .i64 0],none⟩,⟨none,.store 2 (.t 7) (.t 19),none⟩,⟨some 8,.mov (.c (.bool true)),none⟩])
 (.seq (.seq (.reg [⟨some 20,.call (.c (.func 98 [] [])) [],none⟩,⟨some 21,.len 1 (.t 20),none⟩,⟨some 22,.mov (.c (.int .i64 0)),none⟩])
 (.block 0 (.loop L80_0)))
 (.seq (.seq (.reg [⟨some 36,.mov (.t 8),none⟩])
 (.cond (.t 36) (.seq (.reg [⟨some 6,.mov (.c (.int .i64 1)),none⟩])
 (.jump .ret))
 .skip))
 (.seq (.seq (.reg [⟨some 37,.mov (.t 0),none⟩,⟨some 38,.nilCheck (.t 37),none⟩,⟨some 39,.faddr (.t 38) 8,none⟩,⟨some 40,.load none (.t 39),none⟩,⟨some 41,.mrange (.t 40),none⟩])
 (.block 3 (.loop L80_3)))
 (.seq (.reg [⟨some 6,.mov (.c (.int .i64 2)),none⟩])
 (.jump .ret))))))⟩
def a82 : AFunc := ⟨21, [.tmp 8],
 .seq (.reg [⟨some 4,.box 7 (.t 0),none⟩,⟨some 8,.mov (.c (.bool false)),none⟩])
 (.seq (.dreg [⟨⟨some 9,.mov (.t 1),none⟩, 0, 0⟩,⟨⟨some 10,.mov (.t 2),none⟩, 0, 0⟩,⟨⟨some 11,.mov (.t 3),none⟩, 0, 0⟩,⟨⟨some 12,.call (.c (.func 76 [] [])) [.t 9,.t 10,.t 11],none⟩, 0, 1⟩,⟨⟨some 13,.field (.t 12) 1 none,none⟩, 1, 1⟩,⟨⟨some 14,.faddr (.t 4) 3,none⟩, 0, 1⟩,⟨⟨some 15,.faddr (.t 14) 1,none⟩, 0, 1⟩,⟨⟨some 16,.load none (.t 15),none⟩, 0, 1⟩,⟨⟨some 17,.bin .add (.t 13) (.t 16),none⟩, 1, 1⟩,⟨⟨some 18,.faddr (.t 4) 2,none⟩, 0, 1⟩,⟨⟨some 19,.load none (.t 18),none⟩, 0, 1⟩,⟨⟨some 20,.bin .leq (.t 17) (.t 19),none⟩, 1, 1⟩,⟨⟨some 8,.mov (.t 20),none⟩, 1, 1⟩])
 (.jump .ret))⟩
def a83 : AFunc := ⟨14, [.cell 4 (some 2)],
 .seq (.reg [⟨some 2,.box 2 (.t 0),none⟩,⟨some 4,.alloc [.int .i64 0, .int .i64 0],none⟩])
 (.seq (.reg [⟨some 5,.faddr (.t 2) 0,none⟩,⟨some 6,.load none (.t 5),none⟩,⟨some 7,.mov (.t 1),none⟩,⟨some 8,.min [.t 6,.t 7],none⟩,⟨some 9,.faddr (.t 2) 1,none⟩,⟨some 10,.load none (.t 9),none⟩,⟨some 11,.mov (.t 1),none⟩,⟨some 12,.max [.t 10,.t 11],none⟩,⟨some 13,.build [.int .i64 0, .int .i64 0] [(0, 1, (.t 8)), (1, 1, (.t 12))],none⟩,⟨none,.store 2 (.t 4) (.t 13),none⟩])
 (.jump .ret))⟩
def L84_0 : ACode := .seq (.reg [⟨some 12,.bin .lss (.t 11) (.t 10),none⟩])
 (.seq (.cond (.t 12) .skip
 (.jump (.exit 0)))
 (.seq (.block 1 (.seq (.reg [⟨some 13,.mov (.t 11),none⟩,⟨some 14,.iaddr none 1 (.t 9) (.t 11),none⟩,⟨some 15,.load none (.t 14),none⟩,⟨some 5,.mov (.t 13),none⟩,⟨some 6,.mov (.t 15),none⟩])
 (.seq (.seq (.reg [⟨some 16,.mov (.t 5),none⟩,⟨some 17,.mov (.t 1),none⟩,⟨some 18,.len 1 (.t 17),none⟩,⟨some 19,.bin .geq (.t 16) (.t 18),none⟩])
 (.cond (.t 19) (.seq (.reg [⟨some 4,.mov (.c (.int .i64 1)),none⟩])
 (.jump .ret))
 .skip))
 (.seq (.reg [⟨some 20,.mov (.t 1),none⟩,⟨some 21,.mov (.t 5),none⟩,⟨some 22,.iaddr none 1 (.t 20) (.t 21),none⟩,⟨some 23,.load none (.t 22),none⟩,⟨some 7,.mov (.t 23),none⟩])
 (.seq (.reg [⟨some 24,.mov (.t 6),none⟩,⟨some 25,.mov (.t 7),none⟩,⟨some 26,.call (.c (.func 100 [] [])) [.t 24,.t 25],none⟩,⟨some 8,.mov (.t 26),none⟩])
 (.seq (.reg [⟨some 27,.mov (.t 8),none⟩,⟨some 28,.eql (.one .i) true (.t 27) (.c (.int .i64 0)),none⟩])
 (.cond (.t 28) (.seq (.reg [⟨some 29,.mov (.t 8),none⟩,⟨some 4,.mov (.t 29),none⟩])
 (.jump .ret))
 .skip)))))))
 (.reg [⟨some 30,.bin .add (.t 11) (.c (.int .i64 1)),none⟩,⟨some 11,.mov (.t 30),none⟩])))
def a84 : AFunc := ⟨36, [.tmp 4],
 .seq (.reg [⟨some 4,.mov (.c (.int .i64 0)),none⟩])
 (.seq (.seq (.reg [⟨some 9,.mov (.t 0),none⟩,⟨some 10,.len 1 (.t 9),none⟩,⟨some 11,.mov (.c (.int .i64 0)),none⟩])
 (.block 0 (.loop L84_0)))
 (.seq (.seq (.reg [⟨some 31,.mov (.t 0),none⟩,⟨some 32,.len 1 (.t 31),none⟩,⟨some 33,.mov (.t 1),none⟩,⟨some 34,.len 1 (.t 33),none⟩,⟨some 35,.bin .lss (.t 32) (.t 34),none⟩])
 (.cond (.t 35) (.seq (.reg [⟨some 4,.mov (.c (.int .i64 (-1))),none⟩])
 (.jump .ret))
 .skip))
 (.seq (.reg [⟨some 4,.mov (.c (.int .i64 0)),none⟩])
 (.jump .ret))))⟩
def F86_0 : ACode := .block 1 (.seq (.reg [⟨some 18,.load none (.t 5),none⟩,⟨some 19,.load (some 7) (.t 6),none⟩,⟨some 20,.call (.c (.func 102 [] [])) [.t 18,.t 19],none⟩,⟨some 17,.mov (.t 20),none⟩,⟨some 21,.ext (.t 17) 0,none⟩,⟨some 22,.ext (.t 17) 1,none⟩,⟨some 7,.alloc [.int .i64 0, .int .i64 0, .int .i64 0, .int .i64 0],none⟩,⟨none,.store 4 (.t 7) (.t 21),none⟩,⟨some 8,.mov (.t 22),none⟩])
 (.seq (.reg [⟨some 23,.mov (.t 8),none⟩])
 (.cond (.t 23) (.dreg [⟨⟨some 24,.load none (.t 5),none⟩, 0, 0⟩,⟨⟨some 25,.nilCheck (.t 24),none⟩, 0, 0⟩,⟨⟨some 26,.faddr (.t 25) 8,none⟩, 0, 0⟩,⟨⟨some 27,.load none (.t 26),none⟩, 0, 0⟩,⟨⟨some 28,.load (some 7) (.t 6),none⟩, 0, 0⟩,⟨⟨some 29,.load (some 4) (.t 7),none⟩, 0, 0⟩,⟨⟨none,.mapset (.agg [.i, .i, .i, .i, .i, .i, .i]) (.t 27) (.t 28) (.t 29),none⟩, 0, 1⟩])
 .skip)))
def a86 : AFunc := ⟨31, [.tmp 4],
 .seq (.reg [⟨some 2,.box 7 (.t 0),none⟩,⟨some 4,.mov (.c (.nilPtr)),none⟩])
 (.seq (.reg [⟨some 9,.load (some 7) (.t 2),none⟩,⟨some 10,.mov (.t 1),none⟩,⟨some 11,.mkmap,none⟩,⟨some 12,.build [.lit [] true none, .int .i64 0, .int .i64 0, .int .i64 0, .int .i64 0, .lit [] true none, .lit [] true none, .int .i64 0, .nilMap] [(0, 7, (.t 9)), (7, 1, (.t 10)), (8, 1, (.t 11))],none⟩,⟨some 13,.box 9 (.t 12),none⟩,⟨some 5,.alloc [.nilPtr],none⟩,⟨none,.store 1 (.t 5) (.t 13),none⟩])
 (.seq (.seq (.reg [⟨some 14,.load none (.t 5),none⟩,⟨some 15,.call (.c (.func 101 [] [])) [.t 14],none⟩])
 (.block 0 (.rangeFunc (.t 15) [16] (.reg [⟨some 6,.alloc [.int .i64 0, .int .i64 0, .int .i64 0, .int .i64 0, .int .i64 0, .int .i64 0, .int .i64 0],none⟩,⟨none,.store 7 (.t 6) (.t 16),none⟩])
 (F86_0))))
 (.seq (.reg [⟨some 30,.load none (.t 5),none⟩,⟨some 4,.mov (.t 30),none⟩])
 (.jump .ret))))⟩
def L87_4 : ACode := .seq (.seq (.reg [⟨some 28,.mov (.t 7),none⟩,⟨some 29,.faddr (.t 1) 0,none⟩,⟨some 30,.load none (.t 29),none⟩,⟨some 31,.mov (.t 4),none⟩,⟨some 32,.iaddr none 2 (.t 30) (.t 31),none⟩,⟨some 33,.faddr (.t 32) 1,none⟩,⟨some 34,.load none (.t 33),none⟩,⟨some 35,.bin .leq (.t 28) (.t 34),none⟩])
 (.cond (.t 35) .skip
 (.jump (.exit 4))))
 (.seq (.block 5 (.reg [⟨some 38,.mov (.t 5),none⟩,⟨some 39,.mklit 1 [],none⟩,⟨some 40,.mov (.t 3),none⟩,⟨some 41,.mov (.t 6),none⟩,⟨some 42,.iaddr none 1 (.t 40) (.t 41),none⟩,⟨some 43,.load none (.t 42),none⟩,⟨some 44,.append 1 8 (.t 39) (.t 43),none⟩,⟨some 45,.mov (.t 7),none⟩,⟨some 46,.mklit 1 [.t 45],none⟩,⟨some 47,.append 1 8 (.t 44) (.t 46),none⟩,⟨some 48,.mklit 1 [.t 47],none⟩,⟨some 49,.append 1 24 (.t 38) (.t 48),none⟩,⟨some 5,.mov (.t 49),none⟩]))
 (.reg [⟨some 36,.mov (.t 7),none⟩,⟨some 37,.bin .add (.t 36) (.c (.int .i64 1)),none⟩,⟨some 7,.mov (.t 37),none⟩]))
def L87_2 : ACode := .seq (.seq (.reg [⟨some 16,.mov (.t 6),none⟩,⟨some 17,.mov (.t 3),none⟩,⟨some 18,.len 1 (.t 17),none⟩,⟨some 19,.bin .lss (.t 16) (.t 18),none⟩])
 (.cond (.t 19) .skip
 (.jump (.exit 2))))
 (.seq (.block 3 (.seq (.reg [⟨some 22,.faddr (.t 1) 0,none⟩,⟨some 23,.load none (.t 22),none⟩,⟨some 24,.mov (.t 4),none⟩,⟨some 25,.iaddr none 2 (.t 23) (.t 24),none⟩,⟨some 26,.faddr (.t 25) 0,none⟩,⟨some 27,.load none (.t 26),none⟩,⟨some 7,.mov (.t 27),none⟩])
 (.block 4 (.loop L87_4))))
 (.reg [⟨some 20,.mov (.t 6),none⟩,⟨some 21,.bin .add (.t 20) (.c (.int .i64 1)),none⟩,⟨some 6,.mov (.t 21),none⟩]))
def L87_0 : ACode := .seq (.seq (.reg [⟨some 9,.mov (.t 4),none⟩,⟨some 10,.faddr (.t 1) 0,none⟩,⟨some 11,.load none (.t 10),none⟩,⟨some 12,.len 1 (.t 11),none⟩,⟨some 13,.bin .lss (.t 9) (.t 12),none⟩])
 (.cond (.t 13) .skip
 (.jump (.exit 0))))
 (.seq (.block 1 (.seq (.reg [⟨some 5,.mov (.c (.lit [] true none)),none⟩])
 (.seq (.seq (.reg [⟨some 6,.mov (.c (.int .i64 0)),none⟩])
 (.block 2 (.loop L87_2)))
 (.reg [⟨some 50,.mov (.t 5),none⟩,⟨some 3,.mov (.t 50),none⟩]))))
 (.reg [⟨some 14,.mov (.t 4),none⟩,⟨some 15,.bin .add (.t 14) (.c (.int .i64 1)),none⟩,⟨some 4,.mov (.t 15),none⟩]))
def a87 : AFunc := ⟨52, [.tmp 2],
 .seq (.reg [⟨some 1,.box 7 (.t 0),none⟩,⟨some 2,.mov (.c (.lit [] true none)),none⟩])
 (.seq (.reg [⟨some 8,.mklit 1 [(.c (.lit [] true none))],none⟩,⟨some 3,.mov (.t 8),none⟩])
 (.seq (.seq (.reg [⟨some 4,.mov (.c (.int .i64 0)),none⟩])
 (.block 0 (.loop L87_0)))
 (.seq (.reg [⟨some 51,.mov (.t 3),none⟩,⟨some 2,.mov (.t 51),none⟩])
 (.jump .ret))))⟩
def L88_2 : ACode := .seq (.seq (.reg [⟨some 32,.mov (.t 12),none⟩,⟨some 33,.faddr (.t 4) 6,none⟩,⟨some 34,.load none (.t 33),none⟩,⟨some 35,.len 1 (.t 34),none⟩,⟨some 36,.bin .lss (.t 32) (.t 35),none⟩])
 (.cond (.t 36) .skip
 (.jump (.exit 2))))
 (.seq (.block 3 (.seq (.reg [⟨some 39,.faddr (.t 4) 6,none⟩,⟨some 40,.load none (.t 39),none⟩,⟨some 41,.mov (.t 12),none⟩,⟨some 42,.iaddr none 3 (.t 40) (.t 41),none⟩,⟨some 43,.load (some 3) (.t 42),none⟩,⟨some 13,.alloc [.int .i64 0, .int .i64 0, .int .i64 0],none⟩,⟨none,.store 3 (.t 13) (.t 43),none⟩])
 (.seq (.reg [⟨some 44,.faddr (.t 13) 0,none⟩,⟨some 45,.load none (.t 44),none⟩,⟨some 46,.mov (.t 1),none⟩,⟨some 47,.eql (.one .i) false (.t 45) (.t 46),none⟩,⟨some 48,.mov (.t 47),none⟩,⟨some 49,.mov (.t 3),(some (48, true))⟩,⟨some 50,.mov (.t 12),(some (48, true))⟩,⟨some 51,.call (.c (.func 44 [] [])) [.t 49,.t 50],(some (48, true))⟩,⟨some 52,.not (.t 51),(some (48, true))⟩,⟨some 53,.pick (.t 48) (.t 52) (.c (.bool false)),none⟩])
 (.cond (.t 53) (.dreg [⟨⟨some 54,.mov (.t 11),none⟩, 0, 0⟩,⟨⟨some 55,.mov (.t 54),none⟩, 0, 0⟩,⟨⟨some 56,.mov (.t 2),(some (55, true))⟩, 0, 0⟩,⟨⟨some 57,.mov (.t 10),(some (55, true))⟩, 0, 0⟩,⟨⟨some 58,.faddr (.t 13) 1,(some (55, true))⟩, 0, 0⟩,⟨⟨some 59,.load none (.t 58),(some (55, true))⟩, 0, 0⟩,⟨⟨some 60,.call (.c (.func 43 [] [])) [.t 56,.t 57,.t 59],(some (55, true))⟩, 0, 1⟩,⟨⟨some 61,.faddr (.t 13) 2,(some (55, true))⟩, 0, 1⟩,⟨⟨some 62,.load none (.t 61),(some (55, true))⟩, 0, 1⟩,⟨⟨some 63,.eql (.one .i) false (.t 60) (.t 62),(some (55, true))⟩, 1, 1⟩,⟨⟨some 64,.pick (.t 55) (.t 63) (.c (.bool false)),none⟩, 1, 1⟩,⟨⟨some 11,.mov (.t 64),none⟩, 1, 1⟩])
 .skip))))
 (.reg [⟨some 37,.mov (.t 12),none⟩,⟨some 38,.bin .add (.t 37) (.c (.int .i64 1)),none⟩,⟨some 12,.mov (.t 38),none⟩]))
def L88_0 : ACode := .seq (.seq (.reg [⟨some 21,.mov (.t 10),none⟩,⟨some 22,.faddr (.t 4) 5,none⟩,⟨some 23,.load none (.t 22),none⟩,⟨some 24,.mov (.t 1),none⟩,⟨some 25,.iaddr none 4 (.t 23) (.t 24),none⟩,⟨some 26,.faddr (.t 25) 1,none⟩,⟨some 27,.faddr (.t 26) 1,none⟩,⟨some 28,.load none (.t 27),none⟩,⟨some 29,.bin .leq (.t 21) (.t 28),none⟩])
 (.cond (.t 29) .skip
 (.jump (.exit 0))))
 (.seq (.block 1 (.seq (.reg [⟨some 11,.mov (.c (.bool true)),none⟩])
 (.seq (.seq (.reg [⟨some 12,.mov (.c (.int .i64 0)),none⟩])
 (.block 2 (.loop L88_2)))
 (.seq (.reg [⟨some 65,.mov (.t 11),none⟩])
 (.cond (.t 65) (.reg [⟨some 66,.mov (.t 9),none⟩,⟨some 67,.mov (.t 10),none⟩,⟨some 68,.mklit 1 [.t 67],none⟩,⟨some 69,.append 1 8 (.t 66) (.t 68),none⟩,⟨some 9,.mov (.t 69),none⟩])
 .skip)))))
 (.reg [⟨some 30,.mov (.t 10),none⟩,⟨some 31,.bin .add (.t 30) (.c (.int .i64 1)),none⟩,⟨some 10,.mov (.t 31),none⟩]))
def a88 : AFunc := ⟨71, [.tmp 8],
 .seq (.reg [⟨some 4,.box 7 (.t 0),none⟩,⟨some 8,.mov (.c (.lit [] true none)),none⟩])
 (.seq (.reg [⟨some 9,.mov (.c (.lit [] true none)),none⟩])
 (.seq (.seq (.reg [⟨some 14,.faddr (.t 4) 5,none⟩,⟨some 15,.load none (.t 14),none⟩,⟨some 16,.mov (.t 1),none⟩,⟨some 17,.iaddr none 4 (.t 15) (.t 16),none⟩,⟨some 18,.faddr (.t 17) 1,none⟩,⟨some 19,.faddr (.t 18) 0,none⟩,⟨some 20,.load none (.t 19),none⟩,⟨some 10,.mov (.t 20),none⟩])
 (.block 0 (.loop L88_0)))
 (.seq (.reg [⟨some 70,.mov (.t 9),none⟩,⟨some 8,.mov (.t 70),none⟩])
 (.jump .ret))))⟩
def a89 : AFunc := ⟨17, [.tmp 8],
 .seq (.reg [⟨some 4,.box 7 (.t 0),none⟩,⟨some 8,.mov (.c (.bool false)),none⟩])
 (.seq (.dreg [⟨⟨some 9,.mov (.t 1),none⟩, 0, 0⟩,⟨⟨some 10,.mov (.t 2),none⟩, 0, 0⟩,⟨⟨some 11,.mov (.t 3),none⟩, 0, 0⟩,⟨⟨some 12,.call (.c (.func 76 [] [])) [.t 9,.t 10,.t 11],none⟩, 0, 1⟩,⟨⟨some 13,.field (.t 12) 0 none,none⟩, 1, 1⟩,⟨⟨some 14,.faddr (.t 4) 1,none⟩, 0, 1⟩,⟨⟨some 15,.load none (.t 14),none⟩, 0, 1⟩,⟨⟨some 16,.bin .geq (.t 13) (.t 15),none⟩, 1, 1⟩,⟨⟨some 8,.mov (.t 16),none⟩, 1, 1⟩])
 (.jump .ret))⟩
def a90 : AFunc := ⟨9, [.tmp 4],
 .seq (.reg [⟨some 4,.mov (.c (.bool false)),none⟩])
 (.seq (.reg [⟨some 5,.mov (.t 0),none⟩,⟨some 6,.mov (.t 1),none⟩,⟨some 7,.call (.c (.func 103 [] [])) [.t 5,.t 6],none⟩,⟨some 8,.bin .geq (.t 7) (.c (.int .i64 0)),none⟩,⟨some 4,.mov (.t 8),none⟩])
 (.jump .ret))⟩
def a91 : AFunc := ⟨13, [.tmp 4],
 .seq (.reg [⟨some 4,.mov (.c (.bool false)),none⟩])
 (.seq (.reg [⟨some 5,.mov (.t 0),none⟩,⟨some 6,.load none (.t 1),none⟩,⟨some 7,.bin .lss (.t 5) (.t 6),none⟩,⟨some 8,.mov (.t 7),none⟩,⟨some 9,.mov (.t 0),(some (8, false))⟩,⟨some 10,.load none (.t 2),(some (8, false))⟩,⟨some 11,.bin .gtr (.t 9) (.t 10),(some (8, false))⟩,⟨some 12,.pick (.t 8) (.c (.bool true)) (.t 11),none⟩,⟨some 4,.mov (.t 12),none⟩])
 (.jump .ret))⟩
def a92 : AFunc := ⟨10, [.tmp 6],
 .seq (.reg [⟨some 3,.box 1 (.t 0),none⟩,⟨some 4,.box 1 (.t 1),none⟩,⟨some 6,.mov (.c (.bool false)),none⟩])
 (.seq (.reg [⟨some 7,.mov (.t 2),none⟩,⟨some 8,.mkfun 104 [] [.t 3,.t 4],none⟩,⟨some 9,.call (.c (.func 90 [] [])) [.t 7,.t 8],none⟩,⟨some 6,.mov (.t 9),none⟩])
 (.jump .ret))⟩
def L93_0 : ACode := .seq (.reg [⟨some 9,.bin .lss (.t 8) (.t 7),none⟩])
 (.seq (.cond (.t 9) .skip
 (.jump (.exit 0)))
 (.seq (.block 1 (.seq (.reg [⟨some 10,.mov (.t 8),none⟩,⟨some 5,.mov (.t 10),none⟩])
 (.seq (.reg [⟨some 11,.mov (.t 1),none⟩,⟨some 12,.mov (.t 0),none⟩,⟨some 13,.mov (.t 5),none⟩,⟨some 14,.iaddr none 4 (.t 12) (.t 13),none⟩,⟨some 15,.load (some 4) (.t 14),none⟩,⟨some 16,.call (.t 11) [.t 15],none⟩])
 (.cond (.t 16) (.seq (.reg [⟨some 17,.mov (.t 5),none⟩,⟨some 4,.mov (.t 17),none⟩])
 (.jump .ret))
 .skip))))
 (.reg [⟨some 18,.bin .add (.t 8) (.c (.int .i64 1)),none⟩,⟨some 8,.mov (.t 18),none⟩])))
def a93 : AFunc := ⟨19, [.tmp 4],
 .seq (.reg [⟨some 4,.mov (.c (.int .i64 0)),none⟩])
 (.seq (.seq (.reg [⟨some 6,.mov (.t 0),none⟩,⟨some 7,.len 1 (.t 6),none⟩,⟨some 8,.mov (.c (.int .i64 0)),none⟩])
 (.block 0 (.loop L93_0)))
 (.seq (.reg [⟨some 4,.mov (.c (.int .i64 (-1))),none⟩])
 (.jump .ret)))⟩
def L94_0 : ACode := .seq (.seq (.reg [⟨some 6,.mov (.t 5),none⟩,⟨some 7,.mov (.t 0),none⟩,⟨some 8,.len 1 (.t 7),none⟩,⟨some 9,.bin .lss (.t 6) (.t 8),none⟩,⟨some 10,.mov (.t 9),none⟩,⟨some 11,.mov (.t 0),(some (10, true))⟩,⟨some 12,.mov (.t 5),(some (10, true))⟩,⟨some 13,.iaddr none 1 (.t 11) (.t 12),(some (10, true))⟩,⟨some 14,.load none (.t 13),(some (10, true))⟩,⟨some 15,.mov (.t 1),(some (10, true))⟩,⟨some 16,.eql (.one .s) true (.t 14) (.t 15),(some (10, true))⟩,⟨some 17,.pick (.t 10) (.t 16) (.c (.bool false)),none⟩])
 (.cond (.t 17) .skip
 (.jump (.exit 0))))
 (.block 1 (.reg [⟨some 18,.mov (.t 5),none⟩,⟨some 19,.bin .add (.t 18) (.c (.int .i64 1)),none⟩,⟨some 5,.mov (.t 19),none⟩]))
def a94 : AFunc := ⟨25, [.tmp 4],
 .seq (.reg [⟨some 4,.mov (.c (.int .i64 0)),none⟩])
 (.seq (.reg [⟨some 5,.mov (.c (.int .i64 0)),none⟩])
 (.seq (.block 0 (.loop L94_0))
 (.seq (.seq (.reg [⟨some 20,.mov (.t 5),none⟩,⟨some 21,.mov (.t 0),none⟩,⟨some 22,.len 1 (.t 21),none⟩,⟨some 23,.eql (.one .i) false (.t 20) (.t 22),none⟩])
 (.cond (.t 23) (.seq (.reg [⟨some 4,.mov (.c (.int .i64 (-1))),none⟩])
 (.jump .ret))
 .skip))
 (.seq (.reg [⟨some 24,.mov (.t 5),none⟩,⟨some 4,.mov (.t 24),none⟩])
 (.jump .ret)))))⟩
def L95_0 : ACode := .seq (.seq (.reg [⟨some 9,.mov (.t 4),none⟩,⟨some 10,.mov (.t 0),none⟩,⟨some 11,.len 0 (.t 10),none⟩,⟨some 12,.bin .lss (.t 9) (.t 11),none⟩])
 (.cond (.t 12) .skip
 (.jump (.exit 0))))
 (.seq (.block 1 (.seq (.reg [⟨some 15,.mov (.t 4),none⟩,⟨some 16,.bin .gtr (.t 15) (.c (.int .i64 0)),none⟩,⟨some 17,.mov (.t 16),none⟩,⟨some 18,.mov (.t 0),(some (17, true))⟩,⟨some 19,.mov (.t 4),(some (17, true))⟩,⟨some 20,.sindex (.t 18) (.t 19),(some (17, true))⟩,⟨some 21,.eql (.one .i) false (.t 20) (.c (.int .u8 46)),(some (17, true))⟩,⟨some 22,.mov (.t 21),(some (17, true))⟩,⟨some 23,.mov (.t 0),(some (22, false))⟩,⟨some 24,.mov (.t 4),(some (22, false))⟩,⟨some 25,.sindex (.t 23) (.t 24),(some (22, false))⟩,⟨some 26,.conv .i64 (.t 25),(some (22, false))⟩,⟨some 27,.call (.c (.func 66 [] [])) [(.t 26), (.c (.int .i64 48)), (.c (.int .i64 57))],(some (22, false))⟩,⟨some 28,.pick (.t 22) (.c (.bool true)) (.t 27),(some (17, true))⟩,⟨some 29,.pick (.t 17) (.t 28) (.c (.bool false)),none⟩,⟨some 5,.mov (.t 29),none⟩])
 (.reg [⟨some 30,.mov (.t 3),none⟩,⟨some 31,.mov (.t 30),none⟩,⟨some 32,.mov (.t 0),(some (31, true))⟩,⟨some 33,.mov (.t 4),(some (31, true))⟩,⟨some 34,.sindex (.t 32) (.t 33),(some (31, true))⟩,⟨some 35,.conv .i64 (.t 34),(some (31, true))⟩,⟨some 36,.call (.c (.func 66 [] [])) [(.t 35), (.c (.int .i64 97)), (.c (.int .i64 122))],(some (31, true))⟩,⟨some 37,.mov (.t 36),(some (31, true))⟩,⟨some 38,.mov (.t 5),(some (37, false))⟩,⟨some 39,.pick (.t 37) (.c (.bool true)) (.t 38),(some (31, true))⟩,⟨some 40,.pick (.t 31) (.t 39) (.c (.bool false)),none⟩,⟨some 3,.mov (.t 40),none⟩])))
 (.reg [⟨some 13,.mov (.t 4),none⟩,⟨some 14,.bin .add (.t 13) (.c (.int .i64 1)),none⟩,⟨some 4,.mov (.t 14),none⟩]))
def a95 : AFunc := ⟨42, [.tmp 2],
 .seq (.reg [⟨some 2,.mov (.c (.bool false)),none⟩])
 (.seq (.reg [⟨some 6,.mov (.t 0),none⟩,⟨some 7,.len 0 (.t 6),none⟩,⟨some 8,.call (.c (.func 66 [] [])) [(.t 7), (.c (.int .i64 1)), (.c (.int .i64 16))],none⟩,⟨some 3,.mov (.t 8),none⟩])
 (.seq (.seq (.reg [⟨some 4,.mov (.c (.int .i64 0)),none⟩])
 (.block 0 (.loop L95_0)))
 (.seq (.reg [⟨some 41,.mov (.t 3),none⟩,⟨some 2,.mov (.t 41),none⟩])
 (.jump .ret))))⟩
def L96_0 : ACode := .seq (.seq (.reg [⟨some 3,.mov (.t 2),none⟩,⟨some 4,.bin .add (.t 3) (.c (.int .i64 1)),none⟩,⟨some 5,.load none (.t 0),none⟩,⟨some 6,.len 1 (.t 5),none⟩,⟨some 7,.bin .lss (.t 4) (.t 6),none⟩])
 (.cond (.t 7) .skip
 (.jump (.exit 0))))
 (.seq (.block 1 (.seq (.dreg [⟨⟨some 10,.load none (.t 0),none⟩, 0, 0⟩,⟨⟨some 11,.mov (.t 2),none⟩, 0, 0⟩,⟨⟨some 12,.bin .add (.t 11) (.c (.int .i64 1)),none⟩, 0, 0⟩,⟨⟨some 13,.iaddr none 1 (.t 10) (.t 12),none⟩, 0, 0⟩,⟨⟨some 14,.load none (.t 13),none⟩, 0, 0⟩,⟨⟨some 15,.load none (.t 0),none⟩, 0, 0⟩,⟨⟨some 16,.mov (.t 2),none⟩, 0, 0⟩,⟨⟨some 17,.iaddr none 1 (.t 15) (.t 16),none⟩, 0, 0⟩,⟨⟨some 18,.load none (.t 17),none⟩, 0, 0⟩,⟨⟨some 19,.mklit 1 [.t 18],none⟩, 0, 0⟩,⟨⟨some 20,.call (.c (.func 55 [] [])) [(.c (.int .i64 0)), (.t 14), (.t 19)],none⟩, 0, 1⟩])
 (.cond (.t 20) (.seq (.reg [⟨some 1,.mov (.c (.int .i64 7)),none⟩])
 (.jump .ret))
 .skip)))
 (.reg [⟨some 8,.mov (.t 2),none⟩,⟨some 9,.bin .add (.t 8) (.c (.int .i64 2)),none⟩,⟨some 2,.mov (.t 9),none⟩]))
def a96 : AFunc := ⟨21, [.tmp 1],
 .seq (.reg [⟨some 1,.mov (.c (.int .i64 0)),none⟩])
 (.seq (.seq (.reg [⟨some 2,.mov (.c (.int .i64 0)),none⟩])
 (.block 0 (.loop L96_0)))
 (.seq (.reg [⟨some 1,.mov (.c (.int .i64 0)),none⟩])
 (.jump .ret)))⟩
def L97_0 : ACode := .seq (.reg [⟨some 18,.bin .lss (.t 17) (.t 16),none⟩])
 (.seq (.cond (.t 18) .skip
 (.jump (.exit 0)))
 (.seq (.block 1 (.seq (.reg [⟨some 19,.iaddr none 1 (.t 15) (.t 17),none⟩,⟨some 20,.load none (.t 19),none⟩,⟨some 10,.mov (.t 20),none⟩])
 (.reg [⟨some 21,.mov (.t 8),none⟩,⟨some 22,.mov (.t 10),none⟩,⟨some 23,.bin .add (.c (.int .i64 1)) (.t 22),none⟩,⟨some 24,.bin .add (.t 21) (.t 23),none⟩,⟨some 8,.mov (.t 24),none⟩])))
 (.reg [⟨some 25,.bin .add (.t 17) (.c (.int .i64 1)),none⟩,⟨some 17,.mov (.t 25),none⟩])))
def a97 : AFunc := ⟨27, [.tmp 8],
 .seq (.reg [⟨some 5,.box 7 (.t 1),none⟩,⟨some 8,.mov (.c (.int .i64 0)),none⟩])
 (.seq (.seq (.reg [⟨some 11,.mov (.t 2),none⟩,⟨some 12,.mov (.t 3),none⟩,⟨some 13,.min [.t 11,.t 12],none⟩,⟨some 14,.mov (.t 3),none⟩,⟨some 15,.slicea 7 1 (.t 5) (some (.t 13)) (some (.t 14)),none⟩,⟨some 16,.len 1 (.t 15),none⟩,⟨some 17,.mov (.c (.int .i64 0)),none⟩])
 (.block 0 (.loop L97_0)))
 (.seq (.reg [⟨some 26,.mov (.t 8),none⟩,⟨some 8,.mov (.t 26),none⟩])
 (.jump .ret)))⟩
def a98 : AFunc := ⟨4, [.tmp 0],
 .seq (.reg [⟨some 0,.mov (.c (.lit [] true none)),none⟩])
 (.seq (.reg [⟨some 1,.build [.nilFunc] [(0, 1, (.c (.func 105 [] [])))],none⟩,⟨some 2,.build [.nilFunc] [(0, 1, (.c (.func 107 [] [])))],none⟩,⟨some 3,.mklit 1 [.t 1,.t 2],none⟩,⟨some 0,.mov (.t 3),none⟩])
 (.jump .ret))⟩
def a100 : AFunc := ⟨20, [.tmp 4],
 .seq (.reg [⟨some 4,.mov (.c (.int .i64 0)),none⟩])
 (.seq (.reg [⟨some 7,.mov (.t 0),none⟩,⟨some 8,.call (.c (.func 108 [] [])) [.t 7],none⟩,⟨some 5,.mov (.t 8),none⟩])
 (.seq (.reg [⟨some 9,.mov (.t 1),none⟩,⟨some 10,.call (.c (.func 108 [] [])) [.t 9],none⟩,⟨some 6,.mov (.t 10),none⟩])
 (.seq (.seq (.reg [⟨some 11,.mov (.t 5),none⟩])
 (.cond (.t 11) (.seq (.seq (.reg [⟨some 12,.mov (.t 6),none⟩])
 (.cond (.t 12) (.seq (.reg [⟨some 4,.mov (.c (.int .i64 0)),none⟩])
 (.jump .ret))
 .skip))
 (.seq (.reg [⟨some 4,.mov (.c (.int .i64 (-1))),none⟩])
 (.jump .ret)))
 .skip))
 (.seq (.seq (.reg [⟨some 13,.mov (.t 6),none⟩])
 (.cond (.t 13) (.seq (.reg [⟨some 4,.mov (.c (.int .i64 1)),none⟩])
 (.jump .ret))
 .skip))
 (.seq (.seq (.reg [⟨some 14,.mov (.t 0),none⟩,⟨some 15,.mov (.t 1),none⟩,⟨some 16,.bin .lss (.t 14) (.t 15),none⟩])
 (.cond (.t 16) (.seq (.reg [⟨some 4,.mov (.c (.int .i64 (-1))),none⟩])
 (.jump .ret))
 .skip))
 (.seq (.seq (.reg [⟨some 17,.mov (.t 0),none⟩,⟨some 18,.mov (.t 1),none⟩,⟨some 19,.bin .gtr (.t 17) (.t 18),none⟩])
 (.cond (.t 19) (.seq (.reg [⟨some 4,.mov (.c (.int .i64 1)),none⟩])
 (.jump .ret))
 .skip))
 (.seq (.reg [⟨some 4,.mov (.c (.int .i64 0)),none⟩])
 (.jump .ret))))))))⟩
def a101 : AFunc := ⟨4, [.tmp 2],
 .seq (.reg [⟨some 1,.box 1 (.t 0),none⟩,⟨some 2,.mov (.c (.nilFunc)),none⟩])
 (.seq (.reg [⟨some 3,.mkfun 109 [] [.t 1],none⟩,⟨some 2,.mov (.t 3),none⟩])
 (.jump .ret))⟩
def L102_4 : ACode := .seq (.reg [⟨some 43,.bin .lss (.t 42) (.t 41),none⟩])
 (.seq (.cond (.t 43) .skip
 (.jump (.exit 4)))
 (.seq (.block 5 (.seq (.reg [⟨some 44,.mov (.t 42),none⟩,⟨some 45,.iaddr none 3 (.t 40) (.t 42),none⟩,⟨some 46,.load (some 3) (.t 45),none⟩,⟨some 11,.alloc [.int .i64 0, .int .i64 0, .int .i64 0],none⟩,⟨some 10,.mov (.t 44),none⟩,⟨none,.store 3 (.t 11) (.t 46),none⟩])
 (.seq (.dreg [⟨⟨some 47,.mov (.t 7),none⟩, 0, 1⟩,⟨⟨some 48,.faddr (.t 11) 1,none⟩, 0, 1⟩,⟨⟨some 49,.load none (.t 48),none⟩, 0, 1⟩,⟨⟨some 50,.mov (.t 6),none⟩, 0, 0⟩,⟨⟨some 51,.load (some 7) (.t 3),none⟩, 0, 0⟩,⟨⟨some 52,.mov (.t 9),none⟩, 0, 0⟩,⟨⟨some 53,.faddr (.t 11) 1,none⟩, 0, 0⟩,⟨⟨some 54,.load none (.t 53),none⟩, 0, 0⟩,⟨⟨some 55,.call (.t 50) [.t 51,.t 52,.t 54],none⟩, 0, 1⟩,⟨⟨some 56,.build [.int .i64 0, .int .i64 0, .int .i64 0] [(0, 1, (.t 47)), (1, 1, (.t 49)), (2, 1, (.t 55))],none⟩, 1, 1⟩,⟨⟨some 12,.alloc [.int .i64 0, .int .i64 0, .int .i64 0],none⟩, 0, 1⟩,⟨⟨none,.store 3 (.t 12) (.t 56),none⟩, 1, 2⟩])
 (.seq (.reg [⟨some 57,.faddr (.t 11) 0,none⟩,⟨some 58,.load none (.t 57),none⟩,⟨some 59,.mov (.t 7),none⟩,⟨some 60,.eql (.one .i) false (.t 58) (.t 59),none⟩,⟨some 61,.mov (.t 60),none⟩,⟨some 62,.mov (.t 0),(some (61, true))⟩,⟨some 63,.nilCheck (.t 62),(some (61, true))⟩,⟨some 64,.faddr (.t 63) 7,(some (61, true))⟩,⟨some 65,.load none (.t 64),(some (61, true))⟩,⟨some 66,.mov (.t 10),(some (61, true))⟩,⟨some 67,.bin .shr (.t 65) (.t 66),(some (61, true))⟩,⟨some 68,.bin .and (.t 67) (.c (.int .i64 1)),(some (61, true))⟩,⟨some 69,.eql (.one .i) false (.t 68) (.c (.int .i64 0)),(some (61, true))⟩,⟨some 70,.pick (.t 61) (.t 69) (.c (.bool false)),none⟩,⟨some 71,.mov (.t 70),none⟩,⟨some 72,.load (some 3) (.t 11),(some (71, true))⟩,⟨some 73,.load (some 3) (.t 12),(some (71, true))⟩,⟨some 74,.eql (.agg [.i, .i, .i]) true (.t 72) (.t 73),(some (71, true))⟩,⟨some 75,.pick (.t 71) (.t 74) (.c (.bool false)),none⟩])
 (.cond (.t 75) (.jump (.exit 3))
 .skip)))))
 (.reg [⟨some 76,.bin .add (.t 42) (.c (.int .i64 1)),none⟩,⟨some 42,.mov (.t 76),none⟩])))
def L102_2 : ACode := .seq (.seq (.reg [⟨some 29,.mov (.t 9),none⟩,⟨some 30,.faddr (.t 8) 1,none⟩,⟨some 31,.faddr (.t 30) 1,none⟩,⟨some 32,.load none (.t 31),none⟩,⟨some 33,.bin .leq (.t 29) (.t 32),none⟩])
 (.cond (.t 33) .skip
 (.jump (.exit 2))))
 (.seq (.block 3 (.seq (.seq (.reg [⟨some 36,.mov (.t 0),none⟩,⟨some 37,.nilCheck (.t 36),none⟩,⟨some 38,.faddr (.t 37) 0,none⟩,⟨some 39,.faddr (.t 38) 6,none⟩,⟨some 40,.load none (.t 39),none⟩,⟨some 41,.len 1 (.t 40),none⟩,⟨some 42,.mov (.c (.int .i64 0)),none⟩])
 (.block 4 (.loop L102_4)))
 (.dreg [⟨⟨some 77,.mov (.t 7),none⟩, 0, 0⟩,⟨⟨some 78,.iaddr (some 4) 1 (.t 4) (.t 77),none⟩, 0, 0⟩,⟨⟨some 79,.load none (.t 78),none⟩, 0, 0⟩,⟨⟨some 80,.mov (.t 9),none⟩, 0, 0⟩,⟨⟨some 81,.bin .shl (.c (.int .i64 1)) (.t 80),none⟩, 0, 0⟩,⟨⟨some 82,.bin .or (.t 79) (.t 81),none⟩, 0, 0⟩,⟨⟨some 83,.iaddr (some 4) 1 (.t 4) (.t 77),none⟩, 0, 0⟩,⟨⟨none,.store 1 (.t 83) (.t 82),none⟩, 0, 1⟩])))
 (.reg [⟨some 34,.mov (.t 9),none⟩,⟨some 35,.bin .add (.t 34) (.c (.int .i64 1)),none⟩,⟨some 9,.mov (.t 35),none⟩]))
def L102_0 : ACode := .seq (.reg [⟨some 22,.bin .lss (.t 21) (.t 20),none⟩])
 (.seq (.cond (.t 22) .skip
 (.jump (.exit 0)))
 (.seq (.block 1 (.seq (.reg [⟨some 23,.mov (.t 21),none⟩,⟨some 24,.iaddr none 4 (.t 19) (.t 21),none⟩,⟨some 25,.load (some 4) (.t 24),none⟩,⟨some 8,.alloc [.str ⟨#[]⟩, .int .i64 0, .int .i64 0, .int .i64 0],none⟩,⟨some 7,.mov (.t 23),none⟩,⟨none,.store 4 (.t 8) (.t 25),none⟩])
 (.scope (.seq .skip
 (.seq (.seq (.reg [⟨some 26,.faddr (.t 8) 1,none⟩,⟨some 27,.faddr (.t 26) 0,none⟩,⟨some 28,.load none (.t 27),none⟩,⟨some 9,.mov (.t 28),none⟩])
 (.block 2 (.loop L102_2)))
 (.seq (.reg [⟨some 84,.mov (.t 7),none⟩,⟨some 85,.iaddr (some 4) 1 (.t 4) (.t 84),none⟩,⟨some 86,.load none (.t 85),none⟩,⟨some 87,.eql (.one .i) false (.t 86) (.c (.int .i64 0)),none⟩])
 (.cond (.t 87) (.seq (.reg [⟨some 88,.load (some 4) (.t 4),none⟩,⟨none,.store 4 (.t 4) (.t 88),none⟩,⟨some 5,.mov (.c (.bool false)),none⟩])
 (.jump .ret))
 .skip)))))))
 (.reg [⟨some 89,.bin .add (.t 21) (.c (.int .i64 1)),none⟩,⟨some 21,.mov (.t 89),none⟩])))
def a102 : AFunc := ⟨91, [.cell 4 (some 4), .tmp 5],
 .seq (.reg [⟨some 3,.box 7 (.t 1),none⟩,⟨some 4,.alloc [.int .i64 0, .int .i64 0, .int .i64 0, .int .i64 0],none⟩,⟨some 5,.mov (.c (.bool false)),none⟩])
 (.seq (.reg [⟨some 13,.mov (.t 0),none⟩,⟨some 14,.mkfun 97 [.t 13] [],none⟩,⟨some 6,.mov (.t 14),none⟩])
 (.seq (.seq (.reg [⟨some 15,.mov (.t 0),none⟩,⟨some 16,.nilCheck (.t 15),none⟩,⟨some 17,.faddr (.t 16) 0,none⟩,⟨some 18,.faddr (.t 17) 5,none⟩,⟨some 19,.load none (.t 18),none⟩,⟨some 20,.len 1 (.t 19),none⟩,⟨some 21,.mov (.c (.int .i64 0)),none⟩])
 (.block 0 (.loop L102_0)))
 (.seq (.reg [⟨some 90,.load (some 4) (.t 4),none⟩,⟨none,.store 4 (.t 4) (.t 90),none⟩,⟨some 5,.mov (.c (.bool true)),none⟩])
 (.jump .ret))))⟩
def L103_0 : ACode := .seq (.reg [⟨some 9,.bin .lss (.t 8) (.t 7),none⟩])
 (.seq (.cond (.t 9) .skip
 (.jump (.exit 0)))
 (.seq (.block 1 (.seq (.reg [⟨some 10,.mov (.t 8),none⟩,⟨some 5,.mov (.t 10),none⟩])
 (.seq (.reg [⟨some 11,.mov (.t 1),none⟩,⟨some 12,.mov (.t 0),none⟩,⟨some 13,.mov (.t 5),none⟩,⟨some 14,.iaddr none 1 (.t 12) (.t 13),none⟩,⟨some 15,.load none (.t 14),none⟩,⟨some 16,.call (.t 11) [.t 15],none⟩])
 (.cond (.t 16) (.seq (.reg [⟨some 17,.mov (.t 5),none⟩,⟨some 4,.mov (.t 17),none⟩])
 (.jump .ret))
 .skip))))
 (.reg [⟨some 18,.bin .add (.t 8) (.c (.int .i64 1)),none⟩,⟨some 8,.mov (.t 18),none⟩])))
def a103 : AFunc := ⟨19, [.tmp 4],
 .seq (.reg [⟨some 4,.mov (.c (.int .i64 0)),none⟩])
 (.seq (.seq (.reg [⟨some 6,.mov (.t 0),none⟩,⟨some 7,.len 1 (.t 6),none⟩,⟨some 8,.mov (.c (.int .i64 0)),none⟩])
 (.block 0 (.loop L103_0)))
 (.seq (.reg [⟨some 4,.mov (.c (.int .i64 (-1))),none⟩])
 (.jump .ret)))⟩
def a104 : AFunc := ⟨13, [.tmp 4],
 .seq (.reg [⟨some 4,.mov (.c (.bool false)),none⟩])
 (.seq (.reg [⟨some 5,.mov (.t 0),none⟩,⟨some 6,.load none (.t 1),none⟩,⟨some 7,.bin .lss (.t 5) (.t 6),none⟩,⟨some 8,.mov (.t 7),none⟩,⟨some 9,.mov (.t 0),(some (8, false))⟩,⟨some 10,.load none (.t 2),(some (8, false))⟩,⟨some 11,.bin .gtr (.t 9) (.t 10),(some (8, false))⟩,⟨some 12,.pick (.t 8) (.c (.bool true)) (.t 11),none⟩,⟨some 4,.mov (.t 12),none⟩])
 (.jump .ret))⟩
def a105 : AFunc := ⟨22, [.tmp 4],
 .seq (.reg [⟨some 3,.box 2 (.t 1),none⟩,⟨some 4,.mov (.c (.int .i64 0)),none⟩])
 (.seq (.dreg [⟨⟨some 5,.faddr (.t 3) 0,none⟩, 0, 0⟩,⟨⟨some 6,.load none (.t 5),none⟩, 0, 0⟩,⟨⟨some 7,.mov (.t 0),none⟩, 0, 0⟩,⟨⟨some 8,.nilCheck (.t 7),none⟩, 0, 0⟩,⟨⟨some 9,.faddr (.t 8) 0,none⟩, 0, 0⟩,⟨⟨some 10,.faddr (.t 9) 1,none⟩, 0, 0⟩,⟨⟨some 11,.load none (.t 10),none⟩, 0, 0⟩,⟨⟨some 12,.bin .geq (.t 6) (.t 11),none⟩, 0, 0⟩,⟨⟨some 13,.faddr (.t 3) 1,none⟩, 0, 0⟩,⟨⟨some 14,.load none (.t 13),none⟩, 0, 0⟩,⟨⟨some 15,.mov (.t 0),none⟩, 0, 0⟩,⟨⟨some 16,.nilCheck (.t 15),none⟩, 0, 0⟩,⟨⟨some 17,.faddr (.t 16) 0,none⟩, 0, 0⟩,⟨⟨some 18,.faddr (.t 17) 1,none⟩, 0, 0⟩,⟨⟨some 19,.load none (.t 18),none⟩, 0, 0⟩,⟨⟨some 20,.bin .lss (.t 14) (.t 19),none⟩, 0, 0⟩,⟨⟨some 21,.call (.c (.func 106 [] [])) [.t 12,.t 20],none⟩, 0, 1⟩,⟨⟨some 4,.mov (.t 21),none⟩, 1, 1⟩])
 (.jump .ret))⟩
def a106 : AFunc := ⟨9, [.tmp 4],
 .seq (.reg [⟨some 4,.mov (.c (.int .i64 0)),none⟩])
 (.seq (.block 0 (.seq (.reg [⟨some 6,.mov (.t 0),none⟩,⟨some 5,.mov (.t 6),none⟩])
 (.cond (.t 5) (.seq (.reg [⟨some 4,.mov (.c (.int .i64 1)),none⟩])
 (.jump .ret))
 (.seq (.reg [⟨some 8,.mov (.t 1),none⟩,⟨some 7,.mov (.t 8),none⟩])
 (.cond (.t 7) (.seq (.reg [⟨some 4,.mov (.c (.int .i64 2)),none⟩])
 (.jump .ret))
 .skip)))))
 (.seq (.reg [⟨some 4,.mov (.c (.int .i64 0)),none⟩])
 (.jump .ret)))⟩
def a107 : AFunc := ⟨36, [.tmp 4],
 .seq (.reg [⟨some 3,.box 2 (.t 1),none⟩,⟨some 4,.mov (.c (.int .i64 0)),none⟩])
 (.seq (.dreg [⟨⟨some 5,.faddr (.t 3) 1,none⟩, 0, 0⟩,⟨⟨some 6,.load none (.t 5),none⟩, 0, 0⟩,⟨⟨some 7,.mov (.t 0),none⟩, 0, 0⟩,⟨⟨some 8,.nilCheck (.t 7),none⟩, 0, 0⟩,⟨⟨some 9,.faddr (.t 8) 0,none⟩, 0, 0⟩,⟨⟨some 10,.faddr (.t 9) 3,none⟩, 0, 0⟩,⟨⟨some 11,.faddr (.t 10) 1,none⟩, 0, 0⟩,⟨⟨some 12,.load none (.t 11),none⟩, 0, 0⟩,⟨⟨some 13,.bin .add (.t 6) (.t 12),none⟩, 0, 0⟩,⟨⟨some 14,.mov (.t 0),none⟩, 0, 0⟩,⟨⟨some 15,.nilCheck (.t 14),none⟩, 0, 0⟩,⟨⟨some 16,.faddr (.t 15) 0,none⟩, 0, 0⟩,⟨⟨some 17,.faddr (.t 16) 2,none⟩, 0, 0⟩,⟨⟨some 18,.load none (.t 17),none⟩, 0, 0⟩,⟨⟨some 19,.bin .leq (.t 13) (.t 18),none⟩, 0, 0⟩,⟨⟨some 20,.faddr (.t 3) 0,none⟩, 0, 0⟩,⟨⟨some 21,.load none (.t 20),none⟩, 0, 0⟩,⟨⟨some 22,.mov (.t 0),none⟩, 0, 0⟩,⟨⟨some 23,.nilCheck (.t 22),none⟩, 0, 0⟩,⟨⟨some 24,.faddr (.t 23) 0,none⟩, 0, 0⟩,⟨⟨some 25,.faddr (.t 24) 3,none⟩, 0, 0⟩,⟨⟨some 26,.faddr (.t 25) 0,none⟩, 0, 0⟩,⟨⟨some 27,.load none (.t 26),none⟩, 0, 0⟩,⟨⟨some 28,.bin .add (.t 21) (.t 27),none⟩, 0, 0⟩,⟨⟨some 29,.mov (.t 0),none⟩, 0, 0⟩,⟨⟨some 30,.nilCheck (.t 29),none⟩, 0, 0⟩,⟨⟨some 31,.faddr (.t 30) 0,none⟩, 0, 0⟩,⟨⟨some 32,.faddr (.t 31) 2,none⟩, 0, 0⟩,⟨⟨some 33,.load none (.t 32),none⟩, 0, 0⟩,⟨⟨some 34,.bin .gtr (.t 28) (.t 33),none⟩, 0, 0⟩,⟨⟨some 35,.call (.c (.func 106 [] [])) [.t 19,.t 34],none⟩, 0, 1⟩,⟨⟨some 4,.mov (.t 35),none⟩, 1, 1⟩])
 (.jump .ret))⟩
def a108 : AFunc := ⟨6, [.tmp 2],
 .seq (.reg [⟨some 2,.mov (.c (.bool false)),none⟩])
 (.seq (.reg [⟨some 3,.mov (.t 0),none⟩,⟨some 4,.mov (.t 0),none⟩,⟨some 5,.eql (.one .i) true (.t 3) (.t 4),none⟩,⟨some 2,.mov (.t 5),none⟩])
 (.jump .ret))⟩
def a109 : AFunc := ⟨10, [],
 .seq (.reg [⟨some 2,.box 1 (.t 0),none⟩])
 (.seq (.reg [⟨some 3,.alloc [.int .i64 0, .int .i64 0, .int .i64 0, .int .i64 0, .int .i64 0, .int .i64 0, .int .i64 0],none⟩,⟨some 4,.alloc [.int .i64 0, .int .i64 0, .int .i64 0, .int .i64 0, .int .i64 0, .int .i64 0, .int .i64 0],none⟩])
 (.seq (.reg [⟨some 5,.alloc [.bool false],none⟩,⟨none,.store 1 (.t 5) (.c (.bool true)),none⟩])
 (.seq (.reg [⟨some 6,.alloc [.nilFunc],none⟩])
 (.seq (.reg [⟨some 7,.mkfun 110 [] [.t 1,.t 5,.t 3,.t 4,.t 2,.t 6],none⟩,⟨none,.store 1 (.t 6) (.t 7),none⟩])
 (.reg [⟨some 8,.load none (.t 6),none⟩,⟨some 9,.call (.t 8) [(.c (.int .i64 0))],none⟩])))))⟩
def L110_0 : ACode := .seq (.seq (.reg [⟨some 38,.mov (.t 9),none⟩,⟨some 39,.load none (.t 1),none⟩,⟨some 40,.nilCheck (.t 39),none⟩,⟨some 41,.faddr (.t 40) 0,none⟩,⟨some 42,.faddr (.t 41) 0,none⟩,⟨some 43,.load none (.t 42),none⟩,⟨some 44,.mov (.t 0),none⟩,⟨some 45,.iaddr none 2 (.t 43) (.t 44),none⟩,⟨some 46,.faddr (.t 45) 1,none⟩,⟨some 47,.load none (.t 46),none⟩,⟨some 48,.bin .leq (.t 38) (.t 47),none⟩])
 (.cond (.t 48) .skip
 (.jump (.exit 0))))
 (.seq (.block 1 (.seq (.reg [⟨some 51,.mov (.t 0),none⟩,⟨some 52,.mov (.t 9),none⟩,⟨some 53,.iaddr (some 7) 1 (.t 3) (.t 51),none⟩,⟨none,.store 1 (.t 53) (.t 52),none⟩])
 (.seq (.reg [⟨some 54,.load none (.t 6),none⟩,⟨some 55,.mov (.t 0),none⟩,⟨some 56,.bin .add (.t 55) (.c (.int .i64 1)),none⟩,⟨some 57,.call (.t 54) [.t 56],none⟩,⟨some 58,.not (.t 57),none⟩])
 (.cond (.t 58) (.seq (.reg [⟨some 8,.mov (.c (.bool false)),none⟩])
 (.jump .ret))
 .skip))))
 (.reg [⟨some 49,.mov (.t 9),none⟩,⟨some 50,.bin .add (.t 49) (.c (.int .i64 1)),none⟩,⟨some 9,.mov (.t 50),none⟩]))
def a110 : AFunc := ⟨61, [.tmp 8],
 .seq (.reg [⟨some 8,.mov (.c (.bool false)),none⟩])
 (.seq (.seq (.reg [⟨some 10,.mov (.t 0),none⟩,⟨some 11,.load none (.t 1),none⟩,⟨some 12,.nilCheck (.t 11),none⟩,⟨some 13,.faddr (.t 12) 0,none⟩,⟨some 14,.faddr (.t 13) 0,none⟩,⟨some 15,.load none (.t 14),none⟩,⟨some 16,.len 1 (.t 15),none⟩,⟨some 17,.eql (.one .i) false (.t 10) (.t 16),none⟩])
 (.cond (.t 17) (.seq (.seq (.reg [⟨some 18,.load none (.t 2),none⟩,⟨some 19,.not (.t 18),none⟩,⟨some 20,.mov (.t 19),none⟩,⟨some 21,.load (some 7) (.t 3),(some (20, true))⟩,⟨some 22,.load (some 7) (.t 4),(some (20, true))⟩,⟨some 23,.eql (.agg [.i, .i, .i, .i, .i, .i, .i]) false (.t 21) (.t 22),(some (20, true))⟩,⟨some 24,.pick (.t 20) (.t 23) (.c (.bool false)),none⟩])
 (.cond (.t 24) (.seq (.reg [⟨some 8,.mov (.c (.bool true)),none⟩])
 (.jump .ret))
 .skip))
 (.seq (.dreg [⟨⟨some 25,.load (some 7) (.t 3),none⟩, 0, 1⟩,⟨⟨none,.store 1 (.t 2) (.c (.bool false)),none⟩, 0, 1⟩,⟨⟨none,.store 7 (.t 4) (.t 25),none⟩, 1, 2⟩])
 (.seq (.reg [⟨some 26,.load none (.t 5),none⟩,⟨some 27,.load (some 7) (.t 3),none⟩,⟨some 28,.call (.t 26) [.t 27],none⟩,⟨some 8,.mov (.t 28),none⟩])
 (.jump .ret))))
 .skip))
 (.seq (.seq (.reg [⟨some 29,.load none (.t 1),none⟩,⟨some 30,.nilCheck (.t 29),none⟩,⟨some 31,.faddr (.t 30) 0,none⟩,⟨some 32,.faddr (.t 31) 0,none⟩,⟨some 33,.load none (.t 32),none⟩,⟨some 34,.mov (.t 0),none⟩,⟨some 35,.iaddr none 2 (.t 33) (.t 34),none⟩,⟨some 36,.faddr (.t 35) 0,none⟩,⟨some 37,.load none (.t 36),none⟩,⟨some 9,.mov (.t 37),none⟩])
 (.block 0 (.loop L110_0)))
 (.seq (.reg [⟨some 59,.mov (.t 0),none⟩,⟨some 60,.iaddr (some 7) 1 (.t 3) (.t 59),none⟩,⟨none,.store 1 (.t 60) (.c (.int .i64 0)),none⟩])
 (.seq (.reg [⟨some 8,.mov (.c (.bool true)),none⟩])
 (.jump .ret)))))⟩
def T (f : FuncId) : Option AFunc := cond (Nat.ble f 56) (cond (Nat.ble f 29) (cond (Nat.ble f 12) (cond (Nat.ble f 6) (cond (Nat.ble f 3) (cond (Nat.ble f 2) (cond (Nat.beq f 2) (some a2) none) (cond (Nat.beq f 3) (some a3) none)) (cond (Nat.ble f 4) (cond (Nat.beq f 4) (some a4) none) (cond (Nat.ble f 5) (cond (Nat.beq f 5) (some a5) none) (cond (Nat.beq f 6) (some a6) none)))) (cond (Nat.ble f 9) (cond (Nat.ble f 7) (cond (Nat.beq f 7) (some a7) none) (cond (Nat.ble f 8) (cond (Nat.beq f 8) (some a8) none) (cond (Nat.beq f 9) (some a9) none))) (cond (Nat.ble f 10) (cond (Nat.beq f 10) (some a10) none) (cond (Nat.ble f 11) (cond (Nat.beq f 11) (some a11) none) (cond (Nat.beq f 12) (some a12) none))))) (cond (Nat.ble f 19) (cond (Nat.ble f 15) (cond (Nat.ble f 13) (cond (Nat.beq f 13) (some a13) none) (cond (Nat.ble f 14) (cond (Nat.beq f 14) (some a14) none) (cond (Nat.beq f 15) (some a15) none))) (cond (Nat.ble f 16) (cond (Nat.beq f 16) (some a16) none) (cond (Nat.ble f 17) (cond (Nat.beq f 17) (some a17) none) (cond (Nat.beq f 19) (some a19) none)))) (cond (Nat.ble f 23) (cond (Nat.ble f 21) (cond (Nat.beq f 21) (some a21) none) (cond (Nat.ble f 22) (cond (Nat.beq f 22) (some a22) none) (cond (Nat.beq f 23) (some a23) none))) (cond (Nat.ble f 25) (cond (Nat.beq f 25) (some a25) none) (cond (Nat.ble f 27) (cond (Nat.beq f 27) (some a27) none) (cond (Nat.beq f 29) (some a29) none)))))) (cond (Nat.ble f 44) (cond (Nat.ble f 38) (cond (Nat.ble f 35) (cond (Nat.ble f 31) (cond (Nat.beq f 31) (some a31) none) (cond (Nat.ble f 33) (cond (Nat.beq f 33) (some a33) none) (cond (Nat.beq f 35) (some a35) none))) (cond (Nat.ble f 36) (cond (Nat.beq f 36) (some a36) none) (cond (Nat.ble f 37) (cond (Nat.beq f 37) (some a37) none) (cond (Nat.beq f 38) (some a38) none)))) (cond (Nat.ble f 41) (cond (Nat.ble f 39) (cond (Nat.beq f 39) (some a39) none) (cond (Nat.ble f 40) (cond (Nat.beq f 40) (some a40) none) (cond (Nat.beq f 41) (some a41) none))) (cond (Nat.ble f 42) (cond (Nat.beq f 42) (some a42) none) (cond (Nat.ble f 43) (cond (Nat.beq f 43) (some a43) none) (cond (Nat.beq f 44) (some a44) none))))) (cond (Nat.ble f 50) (cond (Nat.ble f 47) (cond (Nat.ble f 45) (cond (Nat.beq f 45) (some a45) none) (cond (Nat.ble f 46) (cond (Nat.beq f 46) (some a46) none) (cond (Nat.beq f 47) (some a47) none))) (cond (Nat.ble f 48) (cond (Nat.beq f 48) (some a48) none) (cond (Nat.ble f 49) (cond (Nat.beq f 49) (some a49) none) (cond (Nat.beq f 50) (some a50) none)))) (cond (Nat.ble f 53) (cond (Nat.ble f 51) (cond (Nat.beq f 51) (some a51) none) (cond (Nat.ble f 52) (cond (Nat.beq f 52) (some a52) none) (cond (Nat.beq f 53) (some a53) none))) (cond (Nat.ble f 54) (cond (Nat.beq f 54) (some a54) none) (cond (Nat.ble f 55) (cond (Nat.beq f 55) (some a55) none) (cond (Nat.beq f 56) (some a56) none))))))) (cond (Nat.ble f 84) (cond (Nat.ble f 68) (cond (Nat.ble f 62) (cond (Nat.ble f 59) (cond (Nat.ble f 57) (cond (Nat.beq f 57) (some a57) none) (cond (Nat.ble f 58) (cond (Nat.beq f 58) (some a58) none) (cond (Nat.beq f 59) (some a59) none))) (cond (Nat.ble f 60) (cond (Nat.beq f 60) (some a60) none) (cond (Nat.ble f 61) (cond (Nat.beq f 61) (some a61) none) (cond (Nat.beq f 62) (some a62) none)))) (cond (Nat.ble f 65) (cond (Nat.ble f 63) (cond (Nat.beq f 63) (some a63) none) (cond (Nat.ble f 64) (cond (Nat.beq f 64) (some a64) none) (cond (Nat.beq f 65) (some a65) none))) (cond (Nat.ble f 66) (cond (Nat.beq f 66) (some a66) none) (cond (Nat.ble f 67) (cond (Nat.beq f 67) (some a67) none) (cond (Nat.beq f 68) (some a68) none))))) (cond (Nat.ble f 77) (cond (Nat.ble f 71) (cond (Nat.ble f 69) (cond (Nat.beq f 69) (some a69) none) (cond (Nat.ble f 70) (cond (Nat.beq f 70) (some a70) none) (cond (Nat.beq f 71) (some a71) none))) (cond (Nat.ble f 72) (cond (Nat.beq f 72) (some a72) none) (cond (Nat.ble f 76) (cond (Nat.beq f 76) (some a76) none) (cond (Nat.beq f 77) (some a77) none)))) (cond (Nat.ble f 80) (cond (Nat.ble f 78) (cond (Nat.beq f 78) (some a78) none) (cond (Nat.ble f 79) (cond (Nat.beq f 79) (some a79) none) (cond (Nat.beq f 80) (some a80) none))) (cond (Nat.ble f 82) (cond (Nat.beq f 82) (some a82) none) (cond (Nat.ble f 83) (cond (Nat.beq f 83) (some a83) none) (cond (Nat.beq f 84) (some a84) none)))))) (cond (Nat.ble f 97) (cond (Nat.ble f 91) (cond (Nat.ble f 88) (cond (Nat.ble f 86) (cond (Nat.beq f 86) (some a86) none) (cond (Nat.ble f 87) (cond (Nat.beq f 87) (some a87) none) (cond (Nat.beq f 88) (some a88) none))) (cond (Nat.ble f 89) (cond (Nat.beq f 89) (some a89) none) (cond (Nat.ble f 90) (cond (Nat.beq f 90) (some a90) none) (cond (Nat.beq f 91) (some a91) none)))) (cond (Nat.ble f 94) (cond (Nat.ble f 92) (cond (Nat.beq f 92) (some a92) none) (cond (Nat.ble f 93) (cond (Nat.beq f 93) (some a93) none) (cond (Nat.beq f 94) (some a94) none))) (cond (Nat.ble f 95) (cond (Nat.beq f 95) (some a95) none) (cond (Nat.ble f 96) (cond (Nat.beq f 96) (some a96) none) (cond (Nat.beq f 97) (some a97) none))))) (cond (Nat.ble f 104) (cond (Nat.ble f 101) (cond (Nat.ble f 98) (cond (Nat.beq f 98) (some a98) none) (cond (Nat.ble f 100) (cond (Nat.beq f 100) (some a100) none) (cond (Nat.beq f 101) (some a101) none))) (cond (Nat.ble f 102) (cond (Nat.beq f 102) (some a102) none) (cond (Nat.ble f 103) (cond (Nat.beq f 103) (some a103) none) (cond (Nat.beq f 104) (some a104) none)))) (cond (Nat.ble f 107) (cond (Nat.ble f 105) (cond (Nat.beq f 105) (some a105) none) (cond (Nat.ble f 106) (cond (Nat.beq f 106) (some a106) none) (cond (Nat.beq f 107) (some a107) none))) (cond (Nat.ble f 108) (cond (Nat.beq f 108) (some a108) none) (cond (Nat.ble f 109) (cond (Nat.beq f 109) (some a109) none) (cond (Nat.beq f 110) (some a110) none)))))))
end Go.Am.Room
namespace Go.Am
def ofScalar : Value → Option AV
 | .bool b => some (.bool b)
 | .int k n => some (.int k n)
 | .string s => some (.str s)
 | .pointer none => some .nilPtr
 | .slice none 0 0 => some (.lit [] true none)
 | .map none => some .nilMap
 | .nilFunc => some .nilFunc
 | _ => none
def ofScalars : List Value → Option (List AV)
 | [] => some []
 | v :: vs => match ofScalar v, ofScalars vs with | some a, some b => some (a :: b) | _, _ => none
def ofValue : Value → Option AV
 | .agg cs => match ofScalars cs.toList with | some l => some (.agg l) | none => none
 | .tuple vs => if vs.size = 0 then some (.tuple []) else none
 | v => ofScalar v
def opd : Operand → Option AOpd
 | .tmp t => some (.t t)
 | .const v => match ofValue v with | some a => some (.c a) | none => none
 | .func f => some (.c (.func f [] []))
 | .global _ => none
def opds : List Operand → Option (List AOpd)
 | [] => some []
 | x :: xs => match opd x, opds xs with | some a, some b => some (a :: b) | _, _ => none
def optOpd : Option Operand → Option (Option AOpd)
 | none => some none
 | some x => match opd x with | some a => some (some a) | none => none
section
variable (P : Program) (h : String → Bool)
def isAggT (t : TypeId) : Option Bool :=
 match P.underlying t with
 | some (.struct _) | some (.array _ _) => some true
 | some _ => some false
 | none => none
def sizeT (t : TypeId) : Option Nat :=
 match P.info? t with
 | some i => if i.size = 0 then none else some i.size
 | none => none
def shapeT (t : TypeId) : Option (Option Nat) :=
 match isAggT P t, sizeT P t with
 | some true, some n => some (some n)
 | some false, some 1 => some none
 | _, _ => none
def zeroT (t : TypeId) : Option AV :=
 match P.info? t with
 | some i => match i.zero with | some v => ofValue v | none => none
 | none => none
def zeroCellsT (t : TypeId) : Option (List AV) :=
 match zeroT P t, sizeT P t with
 | some z, some n => if z.cells.length = n ∧ z.cells.all (·.cell) = true then some z.cells else none
 | _, _ => none
mutual
def plainT : Nat → TypeId → Option (List SK)
 | 0, _ => none
 | d + 1, t =>
  match P.underlying t with
  | some .bool => some [.b]
  | some (.int _) => some [.i]
  | some .string => some [.s]
  | some (.struct fs) => if P.stoodInHeld t then none else plainFields d fs.toList 0
  | some (.array n e) =>
   match plainT d e, P.info? e with
   | some ks, some i => if i.size = ks.length then some (List.replicate n ks).flatten else none
   | _, _ => none
  | _ => none
def plainFields : Nat → List Field → Nat → Option (List SK)
 | 0, _, _ => none
 | _ + 1, [], _ => some []
 | d + 1, f :: fs, n =>
  if f.name = "_" ∨ f.offset ≠ n then none else
  match plainT d f.type, P.info? f.type with
  | some ks, some i => if i.size = ks.length then (match plainFields d fs (n + ks.length) with | some r => some (ks ++ r) | none => none) else none
  | _, _ => none
end
def depthT : Nat := 60
def eqT (t : TypeId) : Option EqTy :=
 match plainT P depthT t, isAggT P t with
 | some [k], some false => some (.one k)
 | some ks, some true => if P.eqGuardType P.depth t then none else some (.agg ks)
 | _, _ => none
def fieldT (s : TypeId) (f : Nat) : Option Field :=
 match P.underlying s with
 | some (.struct fs) =>
  match fs[f]? with
  | some f => match sizeT P f.type with | some _ => some f | none => none
  | none => none
 | _ => none
def fieldsOk (t : TypeId) : Bool :=
 match P.underlying t with
 | some (.struct fs) => fs.toList.all fun f => (P.info? f.type).isSome
 | some (.array _ e) => (P.info? e).isSome
 | _ => false
def partsBuild (t : TypeId) : List (Nat × Operand) → Option (List (Nat × Nat × AOpd))
 | [] => some []
 | (i, x) :: rest =>
  let place : Option (Nat × Nat) := match P.underlying t with
   | some (.struct fs) => match fs[i]? with | some f => (match sizeT P f.type with | some n => some (f.offset, n) | none => none) | none => none
   | some (.array n e) => if i < n then (match sizeT P e with | some m => some (i * m, m) | none => none) else none
   | _ => none
  match place, opd x, partsBuild t rest with
  | some (off, n), some a, some r => some ((off, n, a) :: r)
  | _, _, _ => none
def partsList : Nat → List (Nat × Operand) → Option (List AOpd)
 | _, [] => some []
 | k, (i, x) :: rest => if i = k then (match opd x, partsList (k + 1) rest with | some a, some b => some (a :: b) | _, _ => none) else none
def elemSlice (t : TypeId) : Option (TypeId × Nat) :=
 match P.underlying t with
 | some (.slice e) => match sizeT P e with | some n => some (e, n) | none => none
 | _ => none
def compCall (pos : String) (c : Call) : Option AOp :=
 match c.callee, opds c.args.toList with
 | .value f, some args => match opd f with | some g => some (.call g args) | none => none
 | .builtin .len, some [x] =>
  match c.argTypes[0]? with
  | some t =>
   match P.underlying t with
   | some .string => some (.len 0 x)
   | some (.slice _) => some (.len 1 x)
   | some (.map _ _) => some (.len 2 x)
   | some (.array n _) => some (.mov (.c (.int .i64 n)))
   | _ => none
  | none => none
 | .builtin .append, some [x, y] =>
  match c.argTypes[0]?, c.argTypes[1]? with
  | some t, some u =>
   match elemSlice P t, elemSlice P u, P.info? (match P.underlying t with | some (.slice e) => e | _ => 0) with
   | some (e, sz), some (e', _), some i => if t = u ∧ e = e' ∧ 0 < i.bytes then (match zeroCellsT P e with | some _ => some (if h pos then .apref sz i.bytes x y else .append sz i.bytes x y) | none => none) else none
   | _, _, _ => none
  | _, _ => none
 | .builtin .copy, some [x, y] =>
  match c.argTypes[0]?, c.argTypes[1]? with
  | some t, some u =>
   match elemSlice P t, elemSlice P u with
   | some (e, sz), some (e', _) => if e = e' then some (.copy sz x y) else none
   | _, _ => none
  | _, _ => none
 | .builtin .min, some xs => some (.min xs)
 | .builtin .max, some xs => some (.max xs)
 | _, _ => none
def compOp (pos : String) : Op → Option AOp
 | .move x | .assign x => match opd x with | some a => some (.mov a) | none => none
 | .pick c a b => match opd c, opd a, opd b with | some c, some a, some b => some (.pick c a b) | _, _, _ => none
 | .alloc t => match zeroCellsT P t with | some z => some (.alloc z) | none => none
 | .box t x => match opd x, shapeT P t, sizeT P t with | some a, some _, some n => some (.box n a) | _, _, _ => none
 | .build t parts =>
  match zeroCellsT P t, fieldsOk P t, partsBuild P t parts.toList with
  | some z, true, some ps => some (.build z ps)
  | _, _, _ => none
 | .buildSlice t n parts =>
  match elemSlice P t, partsList 0 parts.toList with
  | some (e, sz), some xs => if xs.length = n ∧ n * sz ≤ 2 ^ 24 then (match zeroCellsT P e with | some _ => some (if (h pos && n != 0) = true then .mkref sz xs else .mklit sz xs) | none => none) else none
  | _, _ => none
 | .load t a => match shapeT P t, opd a with | some sh, some x => some (.load sh x) | _, _ => none
 | .store t a x => match sizeT P t, opd a, opd x with | some n, some a, some x => some (.store n a x) | _, _, _ => none
 | .nilCheck x => match opd x with | some a => some (.nilCheck a) | none => none
 | .binOp op t x y _ =>
  match opd x, opd y with
  | some a, some b =>
   match op with
   | .eql => match eqT P t with | some sh => some (.eql sh false a b) | none => none
   | .neq => match eqT P t with | some sh => some (.eql sh true a b) | none => none
   | op =>
    match P.underlying t with
    | some (.int _) => some (.bin op a b)
    | _ => none
  | _, _ => none
 | .unOp op _ x =>
  match op, opd x with
  | .not, some a => some (.not a)
  | .neg, some a => some (.neg a)
  | _, _ => none
 | .convert s d x =>
  match P.underlying s, P.underlying d, opd x with
  | some (.int _), some (.int k), some a => some (.conv k a)
  | _, _, _ => none
 | .makeFunc fn first cap =>
  match fn, opds first.toList, opds cap.toList with
  | .func f, some a, some b => some (.mkfun f a b)
  | _, _, _ => none
 | .makeMap t none => match P.underlying t with | some (.map _ _) => some .mkmap | _ => none
 | .makeSlice t l c =>
  match elemSlice P t, opd l, opd c with
  | some (e, _), some l, some c =>
   match zeroCellsT P e, P.info? e with
   | some z, some i => if 0 < i.bytes then some (.mkslice z i.bytes l c) else none
   | _, _ => none
  | _, _, _ => none
 | .slice t x lo hi mx =>
  match opd x, optOpd lo, optOpd hi, optOpd mx with
  | some x, some lo, some hi, some mx =>
   match P.underlying t with
   | some (.slice e) => match sizeT P e with | some sz => some (.slicev sz x lo hi mx) | none => none
   | some (.array n e) => match sizeT P e, mx with | some sz, none => some (.slicea n sz x lo hi) | _, _ => none
   | _ => none
  | _, _, _, _ => none
 | .fieldAddr t x f => match fieldT P t f, opd x with | some f, some a => some (.faddr a f.offset) | _, _ => none
 | .field t x f =>
  match fieldT P t f, opd x with
  | some f, some a => match shapeT P f.type with | some sh => some (.field a f.offset sh) | none => none
  | _, _ => none
 | .indexAddr t x i =>
  match opd x, opd i with
  | some x, some i =>
   match P.underlying t with
   | some (.array n e) => match sizeT P e with | some sz => some (.iaddr (some n) sz x i) | none => none
   | some (.slice e) => match sizeT P e with | some sz => some (.iaddr none sz x i) | none => none
   | _ => none
  | _, _ => none
 | .index t x i =>
  match opd x, opd i with
  | some x, some i =>
   match P.underlying t with
   | some .string => some (.sindex x i)
   | some (.array n e) => match sizeT P e, shapeT P e with | some sz, some sh => some (.index n sz sh x i) | _, _ => none
   | _ => none
  | _, _ => none
 | .lookup t m k ok =>
  match opd m, opd k with
  | some m, some k =>
   match P.underlying t with
   | some (.map key elem) => (match eqT P key, zeroT P elem with | some sh, some z => some (.lookup sh ok z m k) | _, _ => none)
   | _ => none
  | _, _ => none
 | .mapUpdate t m k v =>
  match opd m, opd k, opd v with
  | some m, some k, some v =>
   match P.underlying t with
   | some (.map key _) => (match eqT P key with | some sh => some (.mapset sh m k v) | none => none)
   | _ => none
  | _, _, _ => none
 | .range t x =>
  match opd x with
  | some x =>
   match P.underlying t with
   | some .string => some (.srange x)
   | some (.map _ _) => some (.mrange x)
   | _ => none
  | none => none
 | .next x s => match opd x with | some a => if s then some (.snext a) else some (.mnext a) | none => none
 | .entry x => match opd x with | some a => some (.entry a) | none => none
 | .extract x i => match opd x with | some a => some (.ext a i) | none => none
 | .call c => compCall P h pos c
 | _ => none
def compOper (n : Nat) (ops : Array Oper) (o : Oper) : Option AOper :=
 let d : Bool := match o.dst with | some d => decide (d < n) | none => true
 let g : Option (Option (Nat × Bool)) := match o.guard with
  | none => some none
  | some (j, want) => match (ops[j]?).bind (·.dst) with | some t => some (some (t, want)) | none => none
 match compOp P h o.pos o.op, g with
 | some op, some g => if d then some { dst := o.dst, op, guard := g } else none
 | _, _ => none
def compOpers (n : Nat) (ops : Array Oper) : List Oper → Option (List AOper)
 | [] => some []
 | o :: os => match compOper P h n ops o, compOpers n ops os with | some a, some b => some (a :: b) | _, _ => none
def AOpd.tmps : AOpd → List Nat
 | .t n => [n]
 | .c _ => []
def AOp.tmps : AOp → List Nat
 | .mov x | .box _ x | .load _ x | .nilCheck x | .not x | .neg x | .conv _ x | .faddr x _ | .field x _ _ | .srange x | .snext x | .mrange x | .mnext x | .entry x | .ext x _ | .len _ x => x.tmps
 | .pick c a b | .mapset _ c a b => c.tmps ++ a.tmps ++ b.tmps
 | .alloc _ | .mkmap => []
 | .build _ ps => ps.flatMap fun p => p.2.2.tmps
 | .mklit _ xs | .mkref _ xs | .min xs | .max xs => xs.flatMap AOpd.tmps
 | .store _ a b | .bin _ a b | .eql _ _ a b | .append _ _ a b | .apref _ _ a b | .copy _ a b | .mkslice _ _ a b | .iaddr _ _ a b | .index _ _ _ a b | .sindex a b | .lookup _ _ _ a b => a.tmps ++ b.tmps
 | .mkfun _ a b => a.flatMap AOpd.tmps ++ b.flatMap AOpd.tmps
 | .slicev _ x l h m => x.tmps ++ (l.toList ++ h.toList ++ m.toList).flatMap AOpd.tmps
 | .slicea _ _ x l h => x.tmps ++ (l.toList ++ h.toList).flatMap AOpd.tmps
 | .call f xs => f.tmps ++ xs.flatMap AOpd.tmps
def AOper.tmps (o : AOper) : List Nat := o.op.tmps ++ (match o.guard with | some (t, _) => [t] | none => [])
def actPlaces (os : List AOper) : List Nat := (os.zipIdx.filter fun p => p.1.op.acts).map (·.2)
def rankIn (md : Region.Mode) (ops : Array Oper) (i : Nat) : Nat :=
 match ops[i]? with
 | none => 0
 | some o =>
  let j := o.after.toList.foldl (fun m e => if Region.binds md e && decide (m < e.on) then e.on else m) i
  if j = i then i * (ops.size + 1) else j * (ops.size + 1) + 1 + i
def edgesIn (md : Region.Mode) (ops : Array Oper) : Bool :=
 (List.range ops.size).all fun i => ((ops[i]?).map fun o => o.after.toList.all fun e => !Region.binds md e || (decide (e.on < ops.size) && decide (rankIn md ops e.on < rankIn md ops i))).getD false
def edgesOk (ops : Array Oper) : Bool := edgesIn .any ops && edgesIn .text ops && edgesIn .gc ops
def noRF : Code → Bool
 | .seq a b | .cond _ a b => noRF a && noRF b
 | .block _ b | .loop b | .scope b => noRF b
 | .rangeFunc .. => false
 | _ => true
def drawOk (before : Array Nat) (os : List AOper) : Bool :=
 let ps := os.zipIdx
 let acts := actPlaces os
 (ps.all fun (o, i) => ps.all fun (o', j) => i == j || !(o.dst.isSome && o.dst == o'.dst)) &&
 (ps.all fun (o, i) => o.tmps.all fun t => ps.all fun (o', j) => o'.dst != some t || (decide (j < i) && (before.getD i 0).testBit j) || (decide (i < j) && (before.getD j 0).testBit i)) &&
 (acts.all fun i => acts.all fun j => !(decide (i < j)) || (before.getD j 0).testBit i)
def windows (before : Array Nat) (os : List AOper) : List ADOper :=
 let acts := actPlaces os
 os.zipIdx.map fun (o, i) =>
  { o, lo := (acts.filter fun a => (before.getD i 0).testBit a).length, hi := (acts.takeWhile fun a => !(before.getD a 0).testBit i).length }
def comp (n : Nat) : Code → Option ACode
 | .skip | .label _ => some .skip
 | .region _ ops draw =>
  match compOpers P h n ops ops.toList with
  | some os => if draw then (if edgesOk ops && drawOk (Region.before ops) os then some (.dreg (windows (Region.before ops) os)) else none) else some (.reg os)
  | none => none
 | .seq a b => match comp n a, comp n b with | some x, some y => some (.seq x y) | _, _ => none
 | .cond c a b => match opd c, comp n a, comp n b with | some c, some x, some y => some (.cond c x y) | _, _, _ => none
 | .block id b => match comp n b with | some x => some (.block id x) | none => none
 | .loop b => match comp n b with | some x => some (.loop x) | none => none
 | .rangeFunc f ps a b => match opd f, comp n a, comp n b with | some f, some x, some y => if ps.toList.all (fun p => decide (p < n)) && noRF a && noRF b then some (.rangeFunc f ps.toList x y) else none | _, _, _ => none
 | .exit id => some (.jump (.exit id))
 | .ret => some (.jump .ret)
 | .scope b => match comp n b with | some x => some (.scope x) | none => none
 | .goto _ | .refuse _ => none
def compRes : List ResultVar → Option (List ARes)
 | [] => some []
 | .tmp t :: rs => match compRes rs with | some l => some (.tmp t :: l) | none => none
 | .cell a t :: rs => match shapeT P t, compRes rs with | some sh, some l => some (.cell a sh :: l) | _, _ => none
def compFunc (fn : Func) : Option AFunc :=
 match fn.body with
 | none => none
 | some c =>
  match comp P h fn.ntmps c, compRes P fn.results.toList with
  | some b, some rs => if fn.name == "runtime.NumGoroutine" then none else some { ntmps := fn.ntmps, results := rs, body := b }
  | _, _ => none
end
end Go.Am
namespace Go.Am
structure Gh where
 loc : Nat → Option Nat
 lim : Nat → Option Nat
 tok : Nat → Option (Option Addr × Nat × Nat)
 own : Nat → Option Nat
 defs : Nat → Prop
 B0 : Nat
 h0 : Array Obj
 /-- blocks that have no place, and get none; and what they hold -/
 res : Nat → Option (Option (List AV))
structure LitAt (G : Gh) (w : World) (xs : List AV) (tk : Option Nat) (b off sz : Nat) : Prop where
 lim : ∃ L, G.lim b = some L ∧ off + xs.length * sz ≤ L
 own : ∀ t, G.own b = some t → tk = some t
 size : ∀ (i : Nat) (x : AV), xs[i]? = some x → x.cells.length = sz
 cells : ∀ k, k < xs.length * sz → (w.cell? ⟨b, off + k, none⟩).isSome = true
def tkOk (G : Gh) (full : Bool) (tk : Option Nat) (n : Nat) (base : Option Addr) (cap : Nat) : Prop :=
 n ≤ cap ∧ (full = true → cap = n) ∧
 ∀ t, tk = some t → ∃ b m c, G.tok t = some (b, m, c) ∧ n ≤ m ∧ (full = false → m = n → b = base ∧ c = cap)
inductive RelV (G : Gh) (w : World) : AV → Value → Prop where
 | undef (v : Value) : RelV G w .undef v
 | int (k : IntKind) (n : Int) : RelV G w (.int k n) (.int k n)
 | bool (b : Bool) : RelV G w (.bool b) (.bool b)
 | str (s : ByteArray) : RelV G w (.str s) (.string s)
 | func {f first cap first' cap'} (h1 : first'.size = first.length) (h2 : cap'.size = cap.length)
   (h3 : ∀ (i : Nat) (a : AV) (v : Value), first[i]? = some a → first'[i]? = some v → RelV G w a v) (h4 : ∀ (i : Nat) (a : AV) (v : Value), cap[i]? = some a → cap'[i]? = some v → RelV G w a v) :
   RelV G w (.func f first cap) (.func (.func f) first' cap')
 | nilFunc : RelV G w .nilFunc .nilFunc
 | yield {id b} (h : G.loc id = some b) : RelV G w (.yield id) (.func (.yield b) #[] #[])
 | ptr {id off b} (h : G.loc id = some b) : RelV G w (.ptr id off) (.pointer (some ⟨b, off, none⟩))
 | nilPtr : RelV G w .nilPtr (.pointer none)
 | lptr {xs i off tk b o sz} (ht : ∀ t, tk = some t → ∃ p, G.tok t = some p) (hi : i < xs.length) (hl : LitAt G w xs tk b o sz)
   (hc : ∀ (i : Nat) (x : AV) (j : Nat) (c : AV) (u : Value), xs[i]? = some x → x.cells[j]? = some c → w.cell? ⟨b, o + (i * sz + j), none⟩ = some u → RelV G w c u) :
   RelV G w (.lptr xs i off tk) (.pointer (some ⟨b, o + i * sz + off, none⟩))
 | nil {full tk base cap} (ht : tkOk G full tk 0 base cap) (hb : base = none → cap = 0) : RelV G w (.lit [] full tk) (.slice base 0 cap)
 | lit {xs full tk b o sz cap} (ht : tkOk G full tk xs.length (some ⟨b, o, none⟩) cap) (hl : LitAt G w xs tk b o sz)
   (hc : ∀ (i : Nat) (x : AV) (j : Nat) (c : AV) (u : Value), xs[i]? = some x → x.cells[j]? = some c → w.cell? ⟨b, o + (i * sz + j), none⟩ = some u → RelV G w c u) :
   RelV G w (.lit xs full tk) (.slice (some ⟨b, o, none⟩) xs.length cap)
 | ref {id off len sz b base cap} (h : G.loc id = some b) (hb : len ≠ 0 → base = some ⟨b, off, none⟩) (hc : len ≤ cap) (hn : base = none → cap = 0) :
   RelV G w (.ref id off len sz) (.slice base len cap)
 | map {id b} (h : G.loc id = some b) : RelV G w (.map id) (.map (some b))
 | nilMap : RelV G w .nilMap (.map none)
 | agg {cs vs} (h : vs.size = cs.length) (hc : ∀ (i : Nat) (a : AV) (v : Value), cs[i]? = some a → vs[i]? = some v → RelV G w a v) : RelV G w (.agg cs) (.agg vs)
 | tuple {cs vs} (h : vs.size = cs.length) (hc : ∀ (i : Nat) (a : AV) (v : Value), cs[i]? = some a → vs[i]? = some v → RelV G w a v) : RelV G w (.tuple cs) (.tuple vs)
def lsOf : LS → LoopState
 | .ready => .ready
 | .busy => .busy
 | .done => .done
def jumpOf : AJump → Code
 | .ret => .ret
 | .exit id => .exit id
def RelE (G : Gh) (w : World) (n : Nat) (env : Env) (tmps : Array Value) : Prop :=
 tmps.size = n ∧ ∀ t, RelV G w (Env.get env t) (tmps.getD t Go.undef)
def RelBlk (P : Program) (h : String → Bool) (G : Gh) (w : World) : ABlk → Nat → Prop
 | .cells cs, b => ∃ vs T, w.heap[b]? = some (.cells vs T (0, 0)) ∧ cs.length ≤ vs.size ∧ ∀ (i : Nat) (a : AV) (v : Value), cs[i]? = some a → vs[i]? = some v → RelV G w a v
 | .map es, b => ∃ ents, w.heap[b]? = some (.map ents es.length) ∧ ents.size = es.length ∧
   (∀ (i : Nat) (e : MapEntry), ents[i]? = some e → e.born = i) ∧ ∀ (i : Nat) (p : AV × AV) (e : MapEntry), es[i]? = some p → ents[i]? = some e → RelV G w p.1 e.key ∧ RelV G w p.2 e.val
 | .tok _ _ _, _ => False
 | .siter s pos, b => w.heap[b]? = some (.stringIter s pos)
 | .miter m n left last, b => ∃ bm seen stepped, G.loc m = some bm ∧ w.heap[b]? = some (.mapIter (some bm) n seen stepped) ∧
   left = (List.range n).filter (fun i => !seen.contains i) ∧ seen.back? = last ∧ (seen.isEmpty = false → stepped = n)
 | .loop st pend env ps a c, b => ∃ l n, w.heap[b]? = some (.loop l) ∧ l.state = lsOf st ∧ l.pending = pend.map jumpOf ∧ l.params.toList = ps ∧
   comp P h n l.assign = some a ∧ comp P h n l.body = some c ∧ (∀ p ∈ ps, p < n) ∧ RelE G w n env l.tmps ∧ noRF l.assign = true ∧ noRF l.body = true
 | .dead, _ => True
def marker : Obj := .deferred none
structure RelS (P : Program) (h : String → Bool) (G : Gh) (w : World) (σ : St) : Prop where
 lt : ∀ id b, G.loc id = some b → id < σ.length
 blk : ∀ id b x, G.loc id = some b → σ[id]? = some x → RelBlk P h G w x b
 inj : ∀ i j b, G.loc i = some b → G.loc j = some b → i = j
 fresh : ∀ id b, G.loc id = some b → G.B0 ≤ b ∧ b < w.heap.size ∧ G.lim b = none ∧ ¬ G.defs b
 lim : ∀ b L, G.lim b = some L → ∃ vs T fr, w.heap[b]? = some (.cells vs T fr) ∧ L ≤ vs.size ∧ (b < G.B0 → G.h0[G.B0 + b]? = some marker)
 tok : ∀ t b n c, G.tok t = some (b, n, c) → ∃ sz ex, σ[t]? = some (.tok sz n ex) ∧ n ≤ c ∧ (ex = false → c = n) ∧
  (ex = true → ∃ bb vs T, b = some ⟨bb, 0, none⟩ ∧ G.own bb = some t ∧ G.lim bb = some (n * sz) ∧ G.B0 ≤ bb ∧
   w.heap[bb]? = some (.cells vs T (0, 0)) ∧ c * sz ≤ vs.size)
 own : ∀ b t, G.own b = some t → b < w.heap.size ∧ ∃ p, G.tok t = some p
 defs : ∀ r, G.defs r → w.heap[r]? = some (.deferred (some [])) ∧ G.B0 ≤ r ∧ G.lim r = none
 base : ∀ b, b < G.B0 → w.heap[b]? = G.h0[b]?
 size : G.B0 ≤ w.heap.size
 res : ∀ id r, G.res id = some r → G.loc id = none ∧ id < σ.length ∧ ∀ cs, r = some cs → σ[id]? = some (.cells cs)
structure Evo (G : Gh) (w : World) (G' : Gh) (w' : World) : Prop where
 loc : ∀ id b, G.loc id = some b → G'.loc id = some b
 lim : ∀ b L, G.lim b = some L → ∃ L', G'.lim b = some L' ∧ L ≤ L' ∧ ∀ k, k < L → w'.cell? ⟨b, k, none⟩ = w.cell? ⟨b, k, none⟩
 tok : ∀ t b n c, G.tok t = some (b, n, c) → ∃ b' n' c', G'.tok t = some (b', n', c') ∧ n ≤ n' ∧ (n' = n → b' = b ∧ c' = c)
 own : ∀ b L t, G.lim b = some L → G'.own b = some t → G.own b = some t
 defs : ∀ r, G.defs r → G'.defs r
 B0 : G'.B0 = G.B0
 h0 : G'.h0 = G.h0
 os : w'.os = w.os
 tape : w'.tape = w.tape
 output : w'.output = w.output
 size : w.heap.size ≤ w'.heap.size
 res : ∀ id r, G.res id = some r → G'.res id = some r
theorem Evo.refl (G : Gh) (w : World) : Evo G w G w :=
 ⟨fun _ _ h => h, fun b L h => ⟨L, h, Nat.le_refl _, fun _ _ => rfl⟩, fun t b n c h => ⟨b, n, c, h, Nat.le_refl _, fun _ => ⟨rfl, rfl⟩⟩,
  fun _ _ _ _ h => h, fun _ h => h, rfl, rfl, rfl, rfl, rfl, Nat.le_refl _, fun _ _ h => h⟩
theorem Evo.trans {G1 w1 G2 w2 G3 w3} (h : Evo G1 w1 G2 w2) (k : Evo G2 w2 G3 w3) : Evo G1 w1 G3 w3 where
 loc id b e := k.loc _ _ (h.loc _ _ e)
 lim b L e := by
  obtain ⟨L2, e2, l2, c2⟩ := h.lim _ _ e
  obtain ⟨L3, e3, l3, c3⟩ := k.lim _ _ e2
  exact ⟨L3, e3, Nat.le_trans l2 l3, fun i hi => (c3 i (Nat.lt_of_lt_of_le hi l2)).trans (c2 i hi)⟩
 tok t b n c e := by
  obtain ⟨b2, n2, c2, e2, l2, q2⟩ := h.tok _ _ _ _ e
  obtain ⟨b3, n3, c3, e3, l3, q3⟩ := k.tok _ _ _ _ e2
  refine ⟨b3, n3, c3, e3, Nat.le_trans l2 l3, fun hn => ?_⟩
  have : n2 = n := by omega
  obtain ⟨a1, a2⟩ := q2 this
  obtain ⟨a3, a4⟩ := q3 (by omega)
  exact ⟨a3.trans a1, a4.trans a2⟩
 own b L t e e3 := by
  obtain ⟨L2, e2, _, _⟩ := h.lim _ _ e
  exact h.own _ _ _ e (k.own _ _ _ e2 e3)
 defs r e := k.defs _ (h.defs _ e)
 B0 := k.B0.trans h.B0
 h0 := k.h0.trans h.h0
 os := k.os.trans h.os
 tape := k.tape.trans h.tape
 output := k.output.trans h.output
 size := Nat.le_trans h.size k.size
 res id r e := k.res _ _ (h.res _ _ e)
theorem tkOk.mono {G w G' w' full tk n base cap} (he : Evo G w G' w') (h : tkOk G full tk n base cap) : tkOk G' full tk n base cap := by
 obtain ⟨h1, h2, h3⟩ := h
 refine ⟨h1, h2, fun t ht => ?_⟩
 obtain ⟨b, m, c, e1, e2, e3⟩ := h3 t ht
 obtain ⟨b', m', c', e1', l, q⟩ := he.tok _ _ _ _ e1
 refine ⟨b', m', c', e1', Nat.le_trans e2 l, fun hf hm => ?_⟩
 have : m = n := by omega
 obtain ⟨q1, q2⟩ := q (by omega)
 obtain ⟨r1, r2⟩ := e3 hf this
 exact ⟨q1.trans r1, q2.trans r2⟩
theorem LitAt.cellOf {G w xs tk b o sz} (h : LitAt G w xs tk b o sz) {i : Nat} {x : AV} {j : Nat} {c : AV} (hx : xs[i]? = some x) (hc : x.cells[j]? = some c) :
  i * sz + j < xs.length * sz := by
 have hi : i < xs.length := (List.getElem?_eq_some_iff.1 hx).1
 have hj : j < sz := by rw [← h.size i x hx]; exact (List.getElem?_eq_some_iff.1 hc).1
 calc i * sz + j < i * sz + sz := by omega
  _ = (i + 1) * sz := by rw [Nat.add_mul]; omega
  _ ≤ xs.length * sz := Nat.mul_le_mul_right _ hi
theorem LitAt.mono {G w G' w' xs tk b o sz} (he : Evo G w G' w') (h : LitAt G w xs tk b o sz) : LitAt G' w' xs tk b o sz := by
 obtain ⟨L, hL, hle⟩ := h.lim
 obtain ⟨L', hL', hle', hcell⟩ := he.lim _ _ hL
 refine ⟨⟨L', hL', by omega⟩, fun t ht => h.own t (he.own _ _ _ hL ht), h.size, fun k hk => ?_⟩
 rw [hcell _ (by omega)]
 exact h.cells k hk
theorem LitAt.same {G w G' w' xs tk b o sz} (he : Evo G w G' w') (h : LitAt G w xs tk b o sz) {i : Nat} {x : AV} {j : Nat} {c : AV} {u : Value} (hx : xs[i]? = some x) (hc : x.cells[j]? = some c)
  (hu : w'.cell? ⟨b, o + (i * sz + j), none⟩ = some u) : w.cell? ⟨b, o + (i * sz + j), none⟩ = some u := by
 obtain ⟨L, hL, hle⟩ := h.lim
 obtain ⟨L', hL', hle', hcell⟩ := he.lim _ _ hL
 have := h.cellOf hx hc
 rw [← hcell _ (by omega)]
 exact hu
theorem RelV.mono {G w G' w' a v} (he : Evo G w G' w') (h : RelV G w a v) : RelV G' w' a v := by
 induction h with
 | undef v => exact .undef v
 | int k n => exact .int k n
 | bool b => exact .bool b
 | str s => exact .str s
 | func h1 h2 _ _ h3 h4 => exact .func h1 h2 h3 h4
 | nilFunc => exact .nilFunc
 | yield h => exact .yield (he.loc _ _ h)
 | ptr h => exact .ptr (he.loc _ _ h)
 | nilPtr => exact .nilPtr
 | lptr ht hi hl _ ih =>
  refine .lptr (fun t e => ?_) hi (hl.mono he) fun i x j c u hx hc hu => ih i x j c u hx hc (hl.same he hx hc hu)
  obtain ⟨⟨b, n, c⟩, hp⟩ := ht t e
  obtain ⟨b', n', c', e', _⟩ := he.tok _ _ _ _ hp
  exact ⟨_, e'⟩
 | nil ht hb => exact .nil (ht.mono he) hb
 | lit ht hl _ ih => exact .lit (ht.mono he) (hl.mono he) fun i x j c u hx hc hu => ih i x j c u hx hc (hl.same he hx hc hu)
 | ref h hb hc hn => exact .ref (he.loc _ _ h) hb hc hn
 | map h => exact .map (he.loc _ _ h)
 | nilMap => exact .nilMap
 | agg h _ ih => exact .agg h ih
 | tuple h _ ih => exact .tuple h ih
theorem RelE.mono {G w G' w' n env tmps} (he : Evo G w G' w') (h : RelE G w n env tmps) : RelE G' w' n env tmps :=
 ⟨h.1, fun t => (h.2 t).mono he⟩
theorem RelBlk.mono {P h G w G' w' x b} (he : Evo G w G' w') (hb : w'.heap[b]? = w.heap[b]?) (hx : RelBlk P h G w x b) : RelBlk P h G' w' x b := by
 cases x with
 | cells cs =>
  obtain ⟨vs, T, e, l, r⟩ := hx
  exact ⟨vs, T, hb.trans e, l, fun i a v h1 h2 => (r i a v h1 h2).mono he⟩
 | map es =>
  obtain ⟨ents, e, l, q, r⟩ := hx
  exact ⟨ents, hb.trans e, l, q, fun i p e h1 h2 => ⟨(r i p e h1 h2).1.mono he, (r i p e h1 h2).2.mono he⟩⟩
 | tok _ _ _ => exact hx
 | siter s pos => exact hb.trans hx
 | miter m n left last =>
  obtain ⟨bm, seen, stepped, h1, h2, h3⟩ := hx
  exact ⟨bm, seen, stepped, he.loc _ _ h1, hb.trans h2, h3⟩
 | loop st pend env ps a c =>
  obtain ⟨l, n, h1, h2, h3, h4, h5, h6, h7, h8, h9⟩ := hx
  exact ⟨l, n, hb.trans h1, h2, h3, h4, h5, h6, h7, h8.mono he, h9⟩
 | dead => trivial
variable {P : Program} {hh : String → Bool} {G : Gh} {w : World} {σ : St}
theorem RelV.cell {a : AV} {v : Value} (h : RelV G w a v) (hc : a.cell = true) : v.oneCell' = true ∧ v.cells = #[v] := by
 cases h <;> first | (simp [AV.cell] at hc; done) | exact ⟨rfl, rfl⟩
theorem RelV.cells {a : AV} {v : Value} (h : RelV G w a v) (hc : a.cells.all (·.cell) = true) :
  v.cells.size = a.cells.length ∧ (∀ (i : Nat) (x : AV) (u : Value), a.cells[i]? = some x → v.cells[i]? = some u → RelV G w x u) ∧ ∀ u ∈ v.cells.toList, u.oneCell' = true := by
 have one : ∀ {a : AV} {v : Value}, RelV G w a v → a.cells = [a] → a.cell = true →
   v.cells.size = a.cells.length ∧ (∀ (i : Nat) (x : AV) (u : Value), a.cells[i]? = some x → v.cells[i]? = some u → RelV G w x u) ∧ ∀ u ∈ v.cells.toList, u.oneCell' = true := by
  intro a v h hs hc
  obtain ⟨h1, h2⟩ := h.cell hc
  refine ⟨by rw [h2, hs]; rfl, fun i x u hx hu => ?_, fun u hu => ?_⟩
  ·rw [hs] at hx
   rw [h2] at hu
   cases i with
   | zero => simp at hx hu; subst hx; subst hu; exact h
   | succ i => simp at hx
  ·rw [h2] at hu
   simp at hu
   subst hu
   exact h1
 cases h with
 | agg hs hr =>
  refine ⟨hs, hr, fun u hu => ?_⟩
  obtain ⟨i, hi, rfl⟩ := List.getElem_of_mem hu
  simp only [AV.cells, List.all_eq_true] at hc
  simp only [Value.cells, Array.length_toList] at hi
  have hi' : i < (_ : List AV).length := hs ▸ hi
  have hx := hr i _ _ (List.getElem?_eq_getElem hi') (Array.getElem?_eq_getElem hi)
  simpa [Value.cells] using (hx.cell (hc _ (List.getElem_mem hi'))).1
 | tuple hs hr => simp [AV.cells, AV.cell] at hc
 | undef v => simp [AV.cells, AV.cell] at hc
 | int => exact one (.int _ _) rfl rfl
 | bool => exact one (.bool _) rfl rfl
 | str => exact one (.str _) rfl rfl
 | func h1 h2 h3 h4 => exact one (.func h1 h2 h3 h4) rfl rfl
 | nilFunc => exact one .nilFunc rfl rfl
 | yield h => exact one (.yield h) rfl rfl
 | ptr h => exact one (.ptr h) rfl rfl
 | nilPtr => exact one .nilPtr rfl rfl
 | lptr h1 h2 h3 h4 => exact one (.lptr h1 h2 h3 h4) rfl rfl
 | nil h hb => exact one (.nil h hb) rfl rfl
 | lit h1 h2 h3 => exact one (.lit h1 h2 h3) rfl rfl
 | ref h1 h2 h3 h4 => exact one (.ref h1 h2 h3 h4) rfl rfl
 | map h => exact one (.map h) rfl rfl
 | nilMap => exact one .nilMap rfl rfl
theorem alloc_heap (w : World) (o : Obj) (k : Nat) : (w.alloc o).heap[k]? = if k = w.heap.size then some o else w.heap[k]? := by
 show (w.heap.push o)[k]? = _
 rw [Array.getElem?_push]
theorem alloc_cell (w : World) (o : Obj) (a : Addr) (h : a.block < w.heap.size) : (w.alloc o).cell? a = w.cell? a := World.cell?_alloc_lt w o a h
theorem lim_lt (h : RelS P hh G w σ) {b L : Nat} (e : G.lim b = some L) : b < w.heap.size := by
 obtain ⟨vs, T, fr, hb, _⟩ := h.lim _ _ e
 exact (Array.getElem?_eq_some_iff.1 hb).1
theorem evo_drew : Evo G w G w.drew :=
 ⟨fun _ _ h => h, fun b L h => ⟨L, h, Nat.le_refl _, fun _ _ => rfl⟩, fun t b n c h => ⟨b, n, c, h, Nat.le_refl _, fun _ => ⟨rfl, rfl⟩⟩,
  fun _ _ _ _ h => h, fun _ h => h, rfl, rfl, rfl, rfl, rfl, Nat.le_refl _, fun _ _ h => h⟩
theorem RelS.drew (h : RelS P hh G w σ) : RelS P hh G w.drew σ where
 lt := h.lt
 blk id b x e1 e2 := (h.blk id b x e1 e2).mono evo_drew rfl
 inj := h.inj
 fresh := h.fresh
 lim := h.lim
 tok := h.tok
 own := h.own
 defs := h.defs
 base := h.base
 size := h.size
 res := h.res
theorem evo_alloc (h : RelS P hh G w σ) (o : Obj) : Evo G w G (w.alloc o) where
 loc _ _ h := h
 lim b L e := ⟨L, e, Nat.le_refl _, fun k _ => alloc_cell w o _ (lim_lt h e)⟩
 tok t b n c h := ⟨b, n, c, h, Nat.le_refl _, fun _ => ⟨rfl, rfl⟩⟩
 own _ _ _ _ h := h
 defs _ h := h
 B0 := rfl
 h0 := rfl
 os := rfl
 tape := rfl
 output := rfl
 size := by simp
 res _ _ h := h
theorem RelS.alloc (h : RelS P hh G w σ) (o : Obj) : RelS P hh G (w.alloc o) σ where
 lt := h.lt
 blk id b x e1 e2 := (h.blk id b x e1 e2).mono (evo_alloc h o) (by rw [alloc_heap, if_neg]; have := (h.fresh _ _ e1).2.1; omega)
 inj := h.inj
 fresh id b e := by
  obtain ⟨a, b, c⟩ := h.fresh id b e
  exact ⟨a, by simp; omega, c⟩
 lim b L e := by
  obtain ⟨vs, T, fr, hb, l⟩ := h.lim _ _ e
  exact ⟨vs, T, fr, by rw [alloc_heap, if_neg (by have := lim_lt h e; omega)]; exact hb, l⟩
 tok t b n c e := by
  obtain ⟨sz, ex, h1, h2, h3, h4⟩ := h.tok _ _ _ _ e
  refine ⟨sz, ex, h1, h2, h3, fun hx => ?_⟩
  obtain ⟨bb, vs, T, q1, q2, q3, q4, q5, q6⟩ := h4 hx
  exact ⟨bb, vs, T, q1, q2, q3, q4, by rw [alloc_heap, if_neg (by have := lim_lt h q3; omega)]; exact q5, q6⟩
 own b t e := by
  obtain ⟨h1, h2⟩ := h.own b t e
  exact ⟨by simp; omega, h2⟩
 defs r e := by
  obtain ⟨h1, h2, h3⟩ := h.defs r e
  refine ⟨?_, h2, h3⟩
  rw [alloc_heap, if_neg]
  ·exact h1
  ·have := (Array.getElem?_eq_some_iff.1 h1).1; omega
 base b hb := by rw [alloc_heap, if_neg (by have := h.size; omega)]; exact h.base b hb
 size := by have := h.size; simp; omega
 res := h.res
def Gh.withLoc (G : Gh) (id b : Nat) : Gh := { G with loc := fun i => if i = id then some b else G.loc i }
theorem evo_withLoc {id b : Nat} (hid : G.loc id = none) : Evo G w (G.withLoc id b) w where
 loc i c e := by
  have : i ≠ id := fun h => by rw [h, hid] at e; cases e
  simp [Gh.withLoc, this, e]
 lim b L e := ⟨L, e, Nat.le_refl _, fun _ _ => rfl⟩
 tok t b n c h := ⟨b, n, c, h, Nat.le_refl _, fun _ => ⟨rfl, rfl⟩⟩
 own _ _ _ _ h := h
 defs _ h := h
 B0 := rfl
 h0 := rfl
 os := rfl
 tape := rfl
 output := rfl
 size := Nat.le_refl _
 res _ _ h := h
theorem RelS.withLoc {id b : Nat} {x : ABlk} (h : RelS P hh G w σ) (hres : G.res id = none) (hid : G.loc id = none) (hx : σ[id]? = some x) (hr : RelBlk P hh (G.withLoc id b) w x b)
  (h1 : G.B0 ≤ b) (h2 : b < w.heap.size) (h3 : G.lim b = none) (h4 : ¬ G.defs b) (h5 : ∀ i, G.loc i ≠ some b) : RelS P hh (G.withLoc id b) w σ where
 lt i c e := by
  by_cases hi : i = id
  ·subst hi; exact (List.getElem?_eq_some_iff.1 hx).1
  ·simp [Gh.withLoc, hi] at e; exact h.lt i c e
 blk i c y e1 e2 := by
  by_cases hi : i = id
  ·subst hi
   simp [Gh.withLoc] at e1
   subst e1
   rw [hx] at e2
   cases e2
   exact hr
  ·simp [Gh.withLoc, hi] at e1
   exact (h.blk i c y e1 e2).mono (evo_withLoc hid) rfl
 inj i j c e1 e2 := by
  by_cases hi : i = id <;> by_cases hj : j = id
  ·rw [hi, hj]
  ·simp [Gh.withLoc, hi] at e1
   simp [Gh.withLoc, hj] at e2
   subst e1
   exact absurd e2 (h5 j)
  ·simp [Gh.withLoc, hi] at e1
   simp [Gh.withLoc, hj] at e2
   subst e2
   exact absurd e1 (h5 i)
  ·simp [Gh.withLoc, hi] at e1
   simp [Gh.withLoc, hj] at e2
   exact h.inj i j c e1 e2
 fresh i c e := by
  by_cases hi : i = id
  ·simp [Gh.withLoc, hi] at e; subst e; exact ⟨h1, h2, h3, h4⟩
  ·simp [Gh.withLoc, hi] at e; exact h.fresh i c e
 lim := h.lim
 tok := h.tok
 own := h.own
 defs := h.defs
 base := h.base
 size := h.size
 res i r e := by
  have hi : i ≠ id := fun hi => by subst hi; rw [show (G.withLoc i b).res i = G.res i from rfl, hres] at e; cases e
  have := h.res i r e
  simpa [Gh.withLoc, hi] using this
theorem RelS.more (h : RelS P hh G w σ) (τ : St) : RelS P hh G w (σ ++ τ) where
 lt i c e := by have := h.lt i c e; simp; omega
 blk i c y e1 e2 := h.blk i c y e1 (by rw [List.getElem?_append_left (h.lt i c e1)] at e2; exact e2)
 inj := h.inj
 fresh := h.fresh
 lim := h.lim
 tok t b n c e := by
  obtain ⟨sz, ex, h1, rest⟩ := h.tok t b n c e
  exact ⟨sz, ex, by rw [List.getElem?_append_left (List.getElem?_eq_some_iff.1 h1).1]; exact h1, rest⟩
 own := h.own
 defs := h.defs
 base := h.base
 size := h.size
 res i r e := by
  obtain ⟨q1, q2, q3⟩ := h.res i r e
  exact ⟨q1, by simp; omega, fun cs hc => by rw [List.getElem?_append_left q2]; exact q3 cs hc⟩
theorem loc_none (h : RelS P hh G w σ) {id : Nat} (hid : σ.length ≤ id) : G.loc id = none := by
 cases e : G.loc id with
 | none => rfl
 | some b => have := h.lt _ _ e; omega
theorem res_none (h : RelS P hh G w σ) {id : Nat} (hid : σ.length ≤ id) : G.res id = none := by
 cases e : G.res id with
 | none => rfl
 | some b => have := (h.res _ _ e).2.1; omega
theorem loc_ne (h : RelS P hh G w σ) {b : Nat} (hb : w.heap.size ≤ b) (i : Nat) : G.loc i ≠ some b := fun e => by
 have := (h.fresh _ _ e).2.1; omega
theorem RelS.new {x : ABlk} {o : Obj} (h : RelS P hh G w σ) (hr : RelBlk P hh (G.withLoc σ.length w.heap.size) (w.alloc o) x w.heap.size) :
  RelS P hh (G.withLoc σ.length w.heap.size) (w.alloc o) (σ ++ [x]) ∧ Evo G w (G.withLoc σ.length w.heap.size) (w.alloc o) := by
 have h1 := (h.alloc o).more [x]
 have hl : G.loc σ.length = none := loc_none h (Nat.le_refl _)
 refine ⟨h1.withLoc (res_none h (Nat.le_refl _)) hl (by simp) hr h.size (by simp) ?_ ?_ (fun i => loc_ne h (Nat.le_refl _) i), (evo_alloc h o).trans (evo_withLoc hl)⟩
 ·cases e : G.lim w.heap.size with
  | none => rfl
  | some L => have := lim_lt h e; omega
 ·intro e
  have := (Array.getElem?_eq_some_iff.1 (h.defs _ e).1).1
  omega
theorem RelS.place {x : ABlk} {o : Obj} {id : Nat} (h : RelS P hh G w σ) (hres : G.res id = none) (hid : G.loc id = none) (hx : σ[id]? = some x) (hr : RelBlk P hh (G.withLoc id w.heap.size) (w.alloc o) x w.heap.size) :
  RelS P hh (G.withLoc id w.heap.size) (w.alloc o) σ ∧ Evo G w (G.withLoc id w.heap.size) (w.alloc o) := by
 refine ⟨(h.alloc o).withLoc hres hid hx hr h.size (by simp) ?_ ?_ (fun i => loc_ne h (Nat.le_refl _) i), (evo_alloc h o).trans (evo_withLoc hid)⟩
 ·cases e : G.lim w.heap.size with
  | none => rfl
  | some L => have := lim_lt h e; omega
 ·intro e
  have := (Array.getElem?_eq_some_iff.1 (h.defs _ e).1).1
  omega
def Gh.withLim (G : Gh) (b n : Nat) : Gh := { G with lim := fun i => if i = b then some n else G.lim i }
theorem RelS.newLit (h : RelS P hh G w σ) (cs : Array Value) (T : TypeId) :
  RelS P hh (G.withLim w.heap.size cs.size) (w.alloc (.cells cs T)) σ ∧ Evo G w (G.withLim w.heap.size cs.size) (w.alloc (.cells cs T)) := by
 have hn : G.lim w.heap.size = none := by
  cases e : G.lim w.heap.size with
  | none => rfl
  | some L => have := lim_lt h e; omega
 have ho : ∀ t, G.own w.heap.size ≠ some t := fun t e => by have := (h.own _ _ e).1; omega
 have he0 : Evo G (w.alloc (.cells cs T)) (G.withLim w.heap.size cs.size) (w.alloc (.cells cs T)) := by
  refine ⟨fun _ _ h => h, fun b L e => ⟨L, ?_, Nat.le_refl _, fun _ _ => rfl⟩, fun t b n c h => ⟨b, n, c, h, Nat.le_refl _, fun _ => ⟨rfl, rfl⟩⟩,
   fun _ _ _ _ h => h, fun _ h => h, rfl, rfl, rfl, rfl, rfl, Nat.le_refl _, fun _ _ h => h⟩
  have : b ≠ w.heap.size := fun e' => by rw [e', hn] at e; cases e
  simp [Gh.withLim, this, e]
 have h1 := h.alloc (.cells cs T)
 refine ⟨⟨h.lt, fun id b x e1 e2 => (h1.blk id b x e1 e2).mono he0 rfl, h.inj, fun id b e => ?_, fun b L e => ?_, fun t b n c e => ?_, h1.own, fun r e => ?_, h1.base, h1.size, h1.res⟩,
  (evo_alloc h _).trans he0⟩
 ·obtain ⟨q1, q2, q3, q4⟩ := h1.fresh id b e
  have : b ≠ w.heap.size := by have := (h.fresh id b e).2.1; omega
  exact ⟨q1, q2, by simp [Gh.withLim, this, q3], q4⟩
 ·by_cases hb : b = w.heap.size
  ·subst hb
   simp [Gh.withLim] at e
   subst e
   exact ⟨cs, T, (0, 0), by rw [alloc_heap, if_pos rfl], Nat.le_refl _, fun hlt => absurd hlt (Nat.not_lt.2 h.size)⟩
  ·simp [Gh.withLim, hb] at e
   exact h1.lim b L e
 ·obtain ⟨sz, ex, q1, q2, q3, q4⟩ := h1.tok t b n c e
  refine ⟨sz, ex, q1, q2, q3, fun hx => ?_⟩
  obtain ⟨bb, vs, T', r1, r2, r3, r4, r5, r6⟩ := q4 hx
  have : bb ≠ w.heap.size := fun e' => by rw [e'] at r2; exact ho _ r2
  exact ⟨bb, vs, T', r1, r2, by simp [Gh.withLim, this, r3], r4, r5, r6⟩
 ·obtain ⟨q1, q2, q3⟩ := h1.defs r e
  have : r ≠ w.heap.size := by have := (Array.getElem?_eq_some_iff.1 (h.defs _ e).1).1; omega
  exact ⟨q1, q2, by simp [Gh.withLim, this, q3]⟩
structure Part (b : Nat) (w w' : World) : Prop where
 os : w'.os = w.os
 tape : w'.tape = w.tape
 output : w'.output = w.output
 size : w'.heap.size = w.heap.size
 other : ∀ k, k ≠ b → w'.heap[k]? = w.heap[k]?
theorem Part.cell {b : Nat} {w w' : World} (h : Part b w w') {a : Addr} (ha : a.block ≠ b) : w'.cell? a = w.cell? a := by
 simp [World.cell?, h.other _ ha]
theorem evo_part {b : Nat} {w w' : World} (hp : Part b w w') (hb : G.lim b = none) : Evo G w G w' where
 loc _ _ h := h
 lim c L e := ⟨L, e, Nat.le_refl _, fun k _ => hp.cell (fun e' => by simp at e'; rw [e', hb] at e; cases e)⟩
 tok t b n c h := ⟨b, n, c, h, Nat.le_refl _, fun _ => ⟨rfl, rfl⟩⟩
 own _ _ _ _ h := h
 defs _ h := h
 B0 := rfl
 h0 := rfl
 os := hp.os
 tape := hp.tape
 output := hp.output
 size := Nat.le_of_eq hp.size.symm
 res _ _ h := h
theorem RelS.write {b id : Nat} {w' : World} {x y : ABlk} (h : RelS P hh G w σ) (hl : G.loc id = some b) (hp : Part b w w') (hx : σ[id]? = some x) (ht : ∀ a b c, x ≠ .tok a b c)
  (hr : RelBlk P hh G w' y b) : RelS P hh G w' (σ.set id y) ∧ Evo G w G w' := by
 obtain ⟨f1, f2, f3, f4⟩ := h.fresh _ _ hl
 have he := evo_part hp f3
 refine ⟨⟨fun i c e => by have := h.lt i c e; simpa using this, fun i c z e1 e2 => ?_, h.inj, fun i c e => ?_, fun c L e => ?_, fun t c n k e => ?_, fun c t e => ?_, fun r e => ?_, fun c hc => ?_, ?_, fun i r e => ?_⟩, he⟩
 ·by_cases hi : i = id
  ·subst hi
   rw [hl] at e1
   cases e1
   rw [List.getElem?_set_self (h.lt _ _ hl)] at e2
   cases e2
   exact hr
  ·rw [List.getElem?_set_ne (fun e => hi e.symm)] at e2
   refine (h.blk i c z e1 e2).mono he (hp.other _ fun e => hi ?_)
   subst e
   exact h.inj _ _ _ e1 hl
 ·obtain ⟨a, b, c⟩ := h.fresh i c e
  exact ⟨a, by rw [hp.size]; exact b, c⟩
 ·obtain ⟨vs, T, fr, q, l⟩ := h.lim c L e
  refine ⟨vs, T, fr, ?_, l⟩
  rw [hp.other _ fun e' => by rw [e', f3] at e; cases e]
  exact q
 ·obtain ⟨sz, ex, q1, q2, q3, q4⟩ := h.tok t c n k e
  refine ⟨sz, ex, ?_, q2, q3, fun hx' => ?_⟩
  ·rw [List.getElem?_set_ne]
   ·exact q1
   ·intro e'
    subst e'
    rw [hx] at q1
    cases q1
    exact ht _ _ _ rfl
  ·obtain ⟨bb, vs, T, r1, r2, r3, r4, r5, r6⟩ := q4 hx'
   refine ⟨bb, vs, T, r1, r2, r3, r4, ?_, r6⟩
   rw [hp.other _ fun e' => by rw [e', f3] at r3; cases r3]
   exact r5
 ·obtain ⟨q1, q2⟩ := h.own c t e
  exact ⟨by rw [hp.size]; exact q1, q2⟩
 ·obtain ⟨q1, q2, q3⟩ := h.defs r e
  refine ⟨?_, q2, q3⟩
  rw [hp.other _ fun e' => by rw [e'] at e; exact f4 e]
  exact q1
 ·rw [hp.other _ (by omega)]
  exact h.base c hc
 ·rw [hp.size]; exact h.size
 ·obtain ⟨q1, q2, q3⟩ := h.res i r e
  have hi : i ≠ id := fun hi => by subst hi; rw [hl] at q1; cases q1
  exact ⟨q1, by simpa using q2, fun cs hc => by rw [List.getElem?_set_ne (Ne.symm hi)]; exact q3 cs hc⟩
theorem part_setRow (w : World) (g : Nat) (cs : Array Value) : Part g w (w.setRow g cs) :=
 ⟨rfl, rfl, rfl, by simp, fun k hk => setRow_other w g k cs fun e => hk (e ▸ rfl)⟩
theorem part_setObj (w : World) (g : Nat) (o : Obj) : Part g w { w with heap := w.heap.setIfInBounds g o } :=
 ⟨rfl, rfl, rfl, by simp, fun k hk => by simp [Array.getElem?_setIfInBounds_ne (Ne.symm hk)]⟩
end Go.Am
namespace Go.Am
variable {P : Program} {hh : String → Bool} {G : Gh} {w : World} {σ : St} {env : Env}
theorem ofScalar_rel {v : Value} {a : AV} (h : ofScalar v = some a) : RelV G w a v := by
 unfold ofScalar at h
 split at h <;> first | cases h | skip
 ·exact .bool _
 ·exact .int _ _
 ·exact .str _
 ·exact .nilPtr
 ·exact .nil ⟨Nat.le_refl _, fun _ => rfl, fun t e => by cases e⟩ fun _ => rfl
 ·exact .nilMap
 ·exact .nilFunc
theorem ofScalars_rel : ∀ {vs : List Value} {az : List AV}, ofScalars vs = some az → vs.length = az.length ∧ ∀ (i : Nat) (a : AV) (v : Value), az[i]? = some a → vs[i]? = some v → RelV G w a v
 | [], az, h => by simp [ofScalars] at h; subst h; exact ⟨rfl, fun i a v h => by simp at h⟩
 | v :: vs, az, h => by
  simp only [ofScalars] at h
  split at h
  ·rename_i a b h1 h2
   cases h
   obtain ⟨l, r⟩ := ofScalars_rel h2
   refine ⟨by simp [l], fun i x u hx hu => ?_⟩
   cases i with
   | zero => simp at hx hu; subst hx; subst hu; exact ofScalar_rel h1
   | succ i => simp at hx hu; exact r i x u hx hu
  ·cases h
theorem ofValue_rel {v : Value} {a : AV} (h : ofValue v = some a) : RelV G w a v := by
 unfold ofValue at h
 split at h
 ·rename_i cs
  split at h
  ·rename_i l hl
   cases h
   obtain ⟨q, r⟩ := ofScalars_rel hl
   exact .agg (by simpa using q) fun i a v h1 h2 => r i a v h1 (by simpa using h2)
  ·cases h
 ·rename_i vs
  split at h
  ·rename_i hs
   cases h
   exact .tuple (by simpa using hs) fun i a v h1 _ => by simp at h1
  ·cases h
 ·exact ofScalar_rel h
theorem ev_rel {n : Nat} {a : Act} {x : Operand} {x' : AOpd} (hx : opd x = some x') (hE : RelE G w n env a.tmps) : RelV G w (x'.ev env) (a.eval x) := by
 cases x with
 | tmp t => simp [opd] at hx; subst hx; exact hE.2 t
 | const v =>
  simp only [opd] at hx
  split at hx
  ·rename_i b hb; cases hx; exact ofValue_rel hb
  ·cases hx
 | global g => simp [opd] at hx
 | func f => simp [opd] at hx; subst hx; exact .func rfl rfl (fun i a v h => by simp at h) (fun i a v h => by simp at h)
theorem evs_rel {n : Nat} {a : Act} : ∀ {xs : List Operand} {ys : List AOpd}, opds xs = some ys → RelE G w n env a.tmps →
  xs.length = ys.length ∧ ∀ (i : Nat) (y : AV) (v : Value), (ys.map (·.ev env))[i]? = some y → (xs.map a.eval)[i]? = some v → RelV G w y v
 | [], ys, h, _ => by simp [opds] at h; subst h; exact ⟨rfl, fun i a v h => by simp at h⟩
 | x :: xs, ys, h, hE => by
  simp only [opds] at h
  split at h
  ·rename_i a b h1 h2
   cases h
   obtain ⟨l, r⟩ := evs_rel h2 hE
   refine ⟨by simp [l], fun i y u hy hu => ?_⟩
   cases i with
   | zero => simp at hy hu; subst hy; subst hu; exact ev_rel h1 hE
   | succ i => simp only [List.map_cons, List.getElem?_cons_succ] at hy hu; exact r i y u hy hu
  ·cases h
theorem run_sizeOf {t : TypeId} {n : Nat} (h : sizeT P t = some n) (w : World) : (sizeOf t).run P w = .ok n w ∧ 0 < n ∧ ∃ i, P.info? t = some i ∧ i.size = n := by
 unfold sizeT at h
 split at h
 ·rename_i i hi
  split at h
  ·cases h
  ·cases h
   exact ⟨by simp [sizeOf, typeInfo, hi], by omega, i, hi, rfl⟩
 ·cases h
theorem run_isAgg {t : TypeId} {b : Bool} (h : isAggT P t = some b) (w : World) : (isAgg t).run P w = .ok b w := by
 unfold isAggT at h
 unfold isAgg
 split at h
 ·rename_i hu; cases h; simp [run_underlying hu]
 ·rename_i hu; cases h; simp [run_underlying hu]
 ·rename_i d h1 h2 hu
  cases h
  rw [Sem.run_bind, run_underlying hu]
  cases d <;> simp_all
 ·cases h
theorem shapeT_cases {t : TypeId} {sh : Option Nat} (h : shapeT P t = some sh) :
  (sh = none ∧ isAggT P t = some false ∧ sizeT P t = some 1) ∨ (∃ n, sh = some n ∧ isAggT P t = some true ∧ sizeT P t = some n) := by
 unfold shapeT at h
 split at h
 ·rename_i n h1 h2; cases h; exact .inr ⟨n, rfl, h1, h2⟩
 ·rename_i h1 h2; cases h; exact .inl ⟨rfl, h1, h2⟩
 ·cases h
theorem add_off (b o i : Nat) : (⟨b, o, none⟩ : Addr).add i = ⟨b, o + i, none⟩ := by unfold Addr.add; split <;> simp_all
def Reads (G : Gh) (w : World) (cs : List AV) (b o : Nat) : Prop :=
 ∀ (i : Nat) (c : AV), cs[i]? = some c → ∃ u, w.cell? ⟨b, o + i, none⟩ = some u ∧ RelV G w c u
theorem Reads.list {cs : List AV} {b o : Nat} (h : Reads G w cs b o) :
  ∃ vs : List Value, vs.length = cs.length ∧ (∀ (j : Nat) (v : Value), vs[j]? = some v → w.cell? ((⟨b, o, none⟩ : Addr).add j) = some v) ∧
   ∀ (i : Nat) (c : AV) (v : Value), cs[i]? = some c → vs[i]? = some v → RelV G w c v := by
 induction cs generalizing o with
 | nil => exact ⟨[], rfl, fun j v h => by simp at h, fun i c v h => by simp at h⟩
 | cons c cs ih =>
  obtain ⟨u, hu, hr⟩ := h 0 c rfl
  obtain ⟨vs, l, h1, h2⟩ := ih (o := o + 1) fun i d hd => by
   obtain ⟨u, q, r⟩ := h (i + 1) d (by simpa using hd)
   exact ⟨u, by rw [show o + 1 + i = o + (i + 1) from by omega]; exact q, r⟩
  refine ⟨u :: vs, by simp [l], fun j v hj => ?_, fun i d v hd hv => ?_⟩
  ·cases j with
   | zero => simp at hj; subst hj; rw [add_off]; exact hu
   | succ j => simp at hj; have := h1 j v hj; rw [add_off] at this ⊢; rw [show o + (j + 1) = o + 1 + j from by omega]; exact this
  ·cases i with
   | zero => simp at hd hv; subst hd; subst hv; exact hr
   | succ i => simp at hd hv; exact h2 i d v hd hv
theorem Reads.sub {cs : List AV} {b o : Nat} (h : Reads G w cs b o) (k n : Nat) : Reads G w ((cs.drop k).take n) b (o + k) := by
 intro i c hc
 rw [List.getElem?_take] at hc
 split at hc
 ·rw [List.getElem?_drop] at hc
  obtain ⟨u, q, r⟩ := h _ _ hc
  exact ⟨u, by rw [Nat.add_assoc]; exact q, r⟩
 ·cases hc
theorem load_shaped {t : TypeId} {sh : Option Nat} {cs : List AV} {b o off : Nat} {v : AV} (ht : shapeT P t = some sh) (hr : Reads G w cs b o) (hv : shaped sh cs off = some v) :
  ∃ u, (loadVar t ⟨b, o + off, none⟩).run P w = .ok u w ∧ RelV G w v u := by
 rcases shapeT_cases ht with ⟨rfl, h1, h2⟩ | ⟨n, rfl, h1, h2⟩
 ·simp only [shaped] at hv
  obtain ⟨u, hu, r⟩ := hr _ _ hv
  refine ⟨u, ?_, r⟩
  simp [loadVar, run_isAgg h1, run_load, hu]
 ·simp only [shaped] at hv
  split at hv
  ·rename_i hle
   cases hv
   obtain ⟨vs, l, h3, h4⟩ := (hr.sub off n).list
   have hl : vs.length = n := by rw [l]; simp; omega
   have hrun := run_loadCells_list (P := P) w ⟨b, o + off, none⟩ vs h3
   rw [hl] at hrun
   obtain ⟨hs, _⟩ := run_sizeOf h2 w
   refine ⟨.agg vs.toArray, ?_, .agg (by simp [l]) fun i a v e1 e2 => h4 i a v e1 (by simpa using e2)⟩
   simp [loadVar, run_isAgg h1, hs, hrun]
  ·cases hv
theorem cellsAt_reads {id : Nat} {cs : List AV} {b : Nat} (h : RelS P hh G w σ) (hl : G.loc id = some b) (hc : cellsAt σ id = some cs) : Reads G w cs b 0 := by
 unfold cellsAt at hc
 split at hc
 ·rename_i ds he
  cases hc
  obtain ⟨vs, T, e, l, r⟩ := h.blk _ _ _ hl he
  intro i c hi
  have h1 : i < vs.size := by have := (List.getElem?_eq_some_iff.1 hi).1; omega
  refine ⟨vs[i], ?_, r i c _ hi (Array.getElem?_eq_getElem h1)⟩
  rw [Nat.zero_add, cell_of_row w b i vs T (0, 0) e]
  exact Array.getElem?_eq_getElem h1
 ·cases hc
theorem lit_reads {xs : List AV} {tk : Option Nat} {b o sz i : Nat} {x : AV} (hl : LitAt G w xs tk b o sz)
  (hc : ∀ (i : Nat) (x : AV) (j : Nat) (c : AV) (u : Value), xs[i]? = some x → x.cells[j]? = some c → w.cell? ⟨b, o + (i * sz + j), none⟩ = some u → RelV G w c u)
  (hx : xs[i]? = some x) : Reads G w x.cells b (o + i * sz) := by
 intro j c hj
 have h1 := hl.cells _ (hl.cellOf hx hj)
 obtain ⟨u, hu⟩ := Option.isSome_iff_exists.1 h1
 exact ⟨u, by rw [Nat.add_assoc]; exact hu, hc i x j c u hx hj hu⟩
theorem loadAV_sound {t : TypeId} {sh : Option Nat} {x v : AV} {u : Value} (hS : RelS P hh G w σ) (ht : shapeT P t = some sh) (hx : RelV G w x u) (h : loadAV sh σ x = some v) :
  ∃ a r, u = .pointer (some a) ∧ (loadVar t a).run P w = .ok r w ∧ RelV G w v r := by
 unfold loadAV at h
 split at h
 ·rename_i id off
  split at h
  ·rename_i cs hcs
   cases hx with
   | ptr hl =>
    obtain ⟨r, h1, h2⟩ := load_shaped ht (cellsAt_reads hS hl hcs) h
    rw [Nat.zero_add] at h1
    exact ⟨_, r, rfl, h1, h2⟩
  ·cases h
 ·rename_i xs i off tk
  split at h
  ·rename_i y hy
   cases hx with
   | lptr h1 h2 h3 h4 =>
    obtain ⟨r, q1, q2⟩ := load_shaped ht (lit_reads h3 h4 hy) h
    exact ⟨_, r, rfl, q1, q2⟩
  ·cases h
 ·cases h
theorem setCells_spec {cs vs cs' : List AV} {off : Nat} (h : setCells cs off vs = some cs') :
  off + vs.length ≤ cs.length ∧ cs' = cs.take off ++ vs ++ cs.drop (off + vs.length) ∧ cs'.length = cs.length := by
 unfold setCells at h
 split at h
 ·rename_i hl
  cases h
  exact ⟨hl, rfl, by simp; omega⟩
 ·cases h
theorem seg_rel {cs vs : List AV} {cur us : List Value} {off : Nat} (hl : us.length = vs.length) (hle : off + vs.length ≤ cs.length) (hcur : cs.length ≤ cur.length)
  (h1 : ∀ (i : Nat) (a : AV) (v : Value), cs[i]? = some a → cur[i]? = some v → RelV G w a v) (h2 : ∀ (i : Nat) (a : AV) (v : Value), vs[i]? = some a → us[i]? = some v → RelV G w a v) :
  ∀ (i : Nat) (a : AV) (v : Value), (cs.take off ++ vs ++ cs.drop (off + vs.length))[i]? = some a → (cur.take off ++ us ++ cur.drop (off + us.length))[i]? = some v → RelV G w a v := by
 intro i a v ha hv
 by_cases c1 : i < off
 ·rw [List.append_assoc, List.getElem?_append_left (by simp; omega), List.getElem?_take, if_pos c1] at ha hv
  exact h1 i a v ha hv
 ·by_cases c2 : i < off + vs.length
  ·rw [List.append_assoc, List.getElem?_append_right (by simp; omega), List.getElem?_append_left (by simp; omega)] at ha hv
   simp only [List.length_take] at ha hv
   rw [show min off cs.length = off from by omega] at ha
   rw [show min off cur.length = off from by omega] at hv
   exact h2 _ a v ha hv
  ·rw [List.getElem?_append_right (by simp; omega)] at ha hv
   simp only [List.length_append, List.length_take, List.getElem?_drop] at ha hv
   rw [show off + vs.length + (i - (min off cs.length + vs.length)) = i from by omega] at ha
   rw [show off + us.length + (i - (min off cur.length + us.length)) = i from by omega] at hv
   exact h1 i a v ha hv
theorem setCells_sound {id b off : Nat} {cs cs' vs : List AV} {us : List Value} (hS : RelS P hh G w σ) (hl : G.loc id = some b) (hc : cellsAt σ id = some cs) (hset : setCells cs off vs = some cs')
  (hlen : us.length = vs.length) (hr : ∀ (i : Nat) (a : AV) (v : Value), vs[i]? = some a → us[i]? = some v → RelV G w a v) (h1 : ∀ u ∈ us, u.oneCell' = true) :
  ∃ w', (storeCells ⟨b, off, none⟩ us).run P w = .ok () w' ∧ RelS P hh G w' (σ.set id (.cells cs')) ∧ Evo G w G w' := by
 unfold cellsAt at hc
 split at hc
 ·rename_i ds he
  cases hc
  obtain ⟨cur, T, e, l, r⟩ := hS.blk _ _ _ hl he
  obtain ⟨q1, q2, q3⟩ := setCells_spec hset
  have hrun := run_storeCells_at P b off T us 0 cur w e (by omega) h1
  rw [Nat.add_zero] at hrun
  refine ⟨_, hrun, ?_⟩
  have hp := part_setRow w b (cur.toList.take off ++ us ++ cur.toList.drop (off + us.length)).toArray
  have hev := evo_part hp (hS.fresh _ _ hl).2.2.1
  refine hS.write hl hp he (fun _ _ _ h => by cases h) ⟨_, T, setRow_heap w b cur _ T _ e, ?_, fun i a v ha hv => ?_⟩
  ·simp; omega
  ·refine RelV.mono hev ?_
   rw [q2] at ha
   exact seg_rel (cs := _) (cur := cur.toList) hlen q1 (by simpa using l) (fun i a v h3 h4 => r i a v h3 (by simpa using h4)) hr i a v ha (by simpa using hv)
 ·cases hc
theorem storeAV_sound {t : TypeId} {n : Nat} {x y : AV} {u v : Value} {σ' : St} (hS : RelS P hh G w σ) (ht : sizeT P t = some n) (hx : RelV G w x u) (hy : RelV G w y v) (h : storeAV n σ x y = some σ') :
  ∃ a w', u = .pointer (some a) ∧ (storeVar t a v).run P w = .ok () w' ∧ RelS P hh G w' σ' ∧ Evo G w G w' := by
 unfold storeAV at h
 split at h
 ·rename_i id off
  split at h
  ·rename_i hcond
   simp only [Bool.and_eq_true, beq_iff_eq] at hcond
   split at h
   ·rename_i cs hcs
    split at h
    ·rename_i cs' hset
     cases h
     cases hx with
     | ptr hl =>
      obtain ⟨k1, k2, k3⟩ := hy.cells hcond.2
      obtain ⟨w', e1, e2, e3⟩ := setCells_sound (us := v.cells.toList) hS hl hcs hset (by simpa using k1) (fun i a v h3 h4 => k2 i a v h3 (by simpa using h4)) k3
      refine ⟨_, w', rfl, ?_, e2, e3⟩
      obtain ⟨hs, _⟩ := run_sizeOf ht w
      have hne : ¬ v.cells.size ≠ n := by rw [k1, hcond.1]; simp
      simp only [storeVar, Sem.run_bind, hs, Result.andThen_ok, hne, if_false]
      exact e1
    ·cases h
   ·cases h
  ·cases h
 ·cases h
end Go.Am
namespace Go.Am
variable {P : Program} {hh : String → Bool} {G : Gh} {w : World} {σ σ' : St} {env : Env}
def OpRes (P : Program) (hh : String → Bool) (G : Gh) (w : World) (v : AV) (σ' : St) (r : Result Next) : Prop :=
 ∃ nx w' G', r = .ok nx w' ∧ ((∃ u, nx = .value u ∧ RelV G' w' v u) ∨ (nx = .skip ∧ v = .tuple [])) ∧ RelS P hh G' w' σ' ∧ Evo G w G' w'
theorem OpRes.val {v : AV} {u : Value} (hS : RelS P hh G w σ) (h : RelV G w v u) : OpRes P hh G w v σ (.ok (.value u) w) :=
 ⟨_, w, G, rfl, .inl ⟨u, rfl, h⟩, hS, .refl _ _⟩
theorem zeroT_spec {t : TypeId} {z : AV} (h : zeroT P t = some z) : ∃ i v, P.info? t = some i ∧ i.zero = some v ∧ ofValue v = some z ∧ ∀ w, (zeroValue t).run P w = .ok v w := by
 unfold zeroT at h
 split at h
 ·rename_i i hi
  split at h
  ·rename_i v hv
   exact ⟨i, v, hi, hv, h, fun w => by simp [zeroValue, typeInfo, hi, hv]⟩
  ·cases h
 ·cases h
theorem zeroCellsT_spec {t : TypeId} {z : List AV} (h : zeroCellsT P t = some z) :
  ∃ i v, P.info? t = some i ∧ i.zero = some v ∧ i.size = z.length ∧ 0 < z.length ∧ (∀ w, (zeroValue t).run P w = .ok v w) ∧ v.cells.size = z.length ∧ z.all (·.cell) = true ∧
   ∀ G w, (∀ (i : Nat) (x : AV) (u : Value), z[i]? = some x → v.cells[i]? = some u → RelV G w x u) ∧ ∀ u ∈ v.cells.toList, u.oneCell' = true := by
 unfold zeroCellsT at h
 split at h
 ·rename_i y n h1 h2
  split at h
  ·rename_i hc
   cases h
   obtain ⟨i, v, hi, hz, hv, hrun⟩ := zeroT_spec h1
   obtain ⟨_, hn, j, hj, hjs⟩ := run_sizeOf (P := P) h2 default
   rw [hi] at hj
   cases hj
   have hr : ∀ G w, RelV G w y v := fun G w => ofValue_rel hv
   have hcells := fun G w => (hr G w).cells hc.2
   refine ⟨i, v, hi, hz, by rw [hjs, hc.1], by rw [hc.1]; exact hn, hrun, (hcells ⟨fun _ => none, fun _ => none, fun _ => none, fun _ => none, fun _ => False, 0, #[], fun _ => none⟩ default).1, hc.2, fun G w => ⟨(hcells G w).2.1, (hcells G w).2.2⟩⟩
  ·cases h
 ·cases h
theorem alloc_run {t : TypeId} {z : List AV} (h : zeroCellsT P t = some z) (w : World) :
  ∃ vs : Array Value, (Instr.alloc t true (.tuple #[])).run P w = .ok (.pointer (some ⟨w.heap.size, 0, none⟩)) (w.alloc (.cells vs t)) ∧ vs.size = z.length ∧
   ∀ G w, (∀ (i : Nat) (x : AV) (u : Value), z[i]? = some x → vs[i]? = some u → RelV G w x u) := by
 obtain ⟨i, v, hi, hz, hs, h0, hrun, hsz, hcell, hr⟩ := zeroCellsT_spec h
 exact ⟨v.cells, by simp [Instr.alloc, hrun, newVar, newRow], hsz, fun G w => (hr G w).1⟩
theorem cells_blk {cs : List AV} {vs : Array Value} {T : TypeId} (hl : cs.length ≤ vs.size) (hr : ∀ (i : Nat) (x : AV) (u : Value), cs[i]? = some x → vs[i]? = some u → RelV G (w.alloc (.cells vs T)) x u) :
  RelBlk P hh G (w.alloc (.cells vs T)) (.cells cs) w.heap.size :=
 ⟨vs, T, by rw [alloc_heap, if_pos rfl], hl, hr⟩
theorem newCells {cs : List AV} {vs : Array Value} {T : TypeId} (hS : RelS P hh G w σ) (hl : cs.length ≤ vs.size) (hr : ∀ (i : Nat) (x : AV) (u : Value), cs[i]? = some x → vs[i]? = some u → RelV G w x u) :
  RelS P hh (G.withLoc σ.length w.heap.size) (w.alloc (.cells vs T)) (σ ++ [.cells cs]) ∧ Evo G w (G.withLoc σ.length w.heap.size) (w.alloc (.cells vs T)) := by
 have he := (evo_alloc hS (.cells vs T)).trans (evo_withLoc (b := w.heap.size) (loc_none hS (Nat.le_refl _)))
 exact hS.new (cells_blk hl fun i x u h1 h2 => (hr i x u h1 h2).mono he)
theorem withLoc_self {id b : Nat} : (G.withLoc id b).loc id = some b := by simp [Gh.withLoc]
theorem foldl_set (vs : List Value) : ∀ (k : Nat) (cs : Array Value) (off : Nat), off + k + vs.length ≤ cs.size →
  ((vs.zipIdx k).foldl (fun cs (p : Value × Nat) => cs.setIfInBounds (off + p.2) p.1) cs).toList = cs.toList.take (off + k) ++ vs ++ cs.toList.drop (off + k + vs.length) := by
 induction vs with
 | nil => intro k cs off h; simp
 | cons v vs ih =>
  intro k cs off h
  simp only [List.zipIdx_cons, List.foldl_cons]
  rw [ih (k + 1) _ off (by simp at h ⊢; omega), Array.toList_setIfInBounds]
  have e := list_seg_step cs.toList (off + k) v vs (by simp at h ⊢; omega)
  simpa [Nat.add_assoc] using e
theorem fill_step {place : Nat → Option (Nat × Nat)} {cells : Array Value} {i off n : Nat} {v : Value} {rest : List (Nat × Value)} (hp : place i = some (off, n)) (hn : v.cells.size = n) (hle : off + n ≤ cells.size) :
  Instr.fill place cells ((i, v) :: rest) = Instr.fill place (cells.toList.take off ++ v.cells.toList ++ cells.toList.drop (off + n)).toArray rest := by
 have h1 : ¬ (v.cells.size ≠ n ∨ cells.size < off + v.cells.size) := by omega
 have h2 := foldl_set v.cells.toList 0 cells off (by simp; omega)
 simp only [Instr.fill, hp]
 rw [if_neg (by simpa using h1)]
 congr 1
 apply Array.ext'
 rw [← Array.foldl_toList]
 simp only [Array.toList_zipIdx]
 rw [h2]
 simp [hn]
theorem build_fill {t : TypeId} {place : Nat → Option (Nat × Nat)} {n : Nat} {a : Act} (hE : RelE G w n env a.tmps)
  (hplace : ∀ i off m, (match P.underlying t with
   | some (.struct fs) => match fs[i]? with | some f => (match sizeT P f.type with | some n => some (f.offset, n) | none => none) | none => none
   | some (.array n e) => if i < n then (match sizeT P e with | some m => some (i * m, m) | none => none) else none
   | _ => none) = some (off, m) → place i = some (off, m)) :
  ∀ {ops : List (Nat × Operand)} {ps : List (Nat × Nat × AOpd)} {cs cs' : List AV} {vs : Array Value}, partsBuild P t ops = some ps → buildCells env cs ps = some cs' → cs.length = vs.size →
   (∀ (i : Nat) (x : AV) (u : Value), cs[i]? = some x → vs[i]? = some u → RelV G w x u) →
   ∃ vs', Instr.fill place vs (ops.map fun p => (p.1, a.eval p.2)) = some vs' ∧ cs'.length = vs'.size ∧ ∀ (i : Nat) (x : AV) (u : Value), cs'[i]? = some x → vs'[i]? = some u → RelV G w x u
 | [], ps, cs, cs', vs, h1, h2, h3, h4 => by
  simp [partsBuild] at h1
  subst h1
  simp [buildCells] at h2
  subst h2
  exact ⟨vs, rfl, h3, h4⟩
 | (i, x) :: ops, ps, cs, cs', vs, h1, h2, h3, h4 => by
  simp only [partsBuild] at h1
  split at h1
  ·rename_i off m b r hp hx hr
   cases h1
   simp only [buildCells] at h2
   split at h2
   ·rename_i hc
    simp only [Bool.and_eq_true, beq_iff_eq] at hc
    split at h2
    ·rename_i ds hset
     obtain ⟨q1, q2, q3⟩ := setCells_spec hset
     have hv := ev_rel (x := x) hx hE
     obtain ⟨k1, k2, k3⟩ := hv.cells hc.2
     have hsz : (a.eval x).cells.size = m := by rw [k1, hc.1]
     have hle : off + m ≤ vs.size := by rw [hc.1] at q1; omega
     have hrel := seg_rel (cs := cs) (vs := (b.ev env).cells) (cur := vs.toList) (us := (a.eval x).cells.toList) (G := G) (w := w) (off := off) (by simpa using k1) q1 (by simp; omega)
      (fun i a v e1 e2 => h4 i a v e1 (by simpa using e2)) (fun i a v e1 e2 => k2 i a v e1 (by simpa using e2))
     simp only [List.map_cons]
     rw [fill_step (hplace _ _ _ hp) hsz hle]
     refine build_fill hE hplace hr h2 ?_ ?_
     ·rw [q3]; simp; omega
     ·intro i y u e1 e2
      rw [q2] at e1
      refine hrel i y u e1 ?_
      simpa [hsz] using e2
    ·cases h2
   ·cases h2
  ·cases h1
theorem mapM_places {w : World} : ∀ {fs : List Field}, fs.all (fun f => (P.info? f.type).isSome) = true →
  (fs.mapM (fun f => do pure (f.offset, ← sizeOf f.type)) : Sem (List (Nat × Nat))).run P w = .ok (fs.map fun f => (f.offset, P.cellsOf f.type)) w
 | [], _ => by simp
 | f :: fs, h => by
  simp only [List.all_cons, Bool.and_eq_true] at h
  obtain ⟨i, hi⟩ := Option.isSome_iff_exists.1 h.1
  have ih := mapM_places (w := w) h.2
  simp only [List.mapM_cons, Sem.run_bind, sizeOf, typeInfo, run_program, Result.andThen_ok, hi, Sem.run_pure]
  simp only [sizeOf, typeInfo] at ih
  rw [ih]
  simp [Program.cellsOf, hi]
theorem build_sound {t : TypeId} {n : Nat} {a : Act} {parts : Array (Nat × Operand)} {z cs : List AV} {ps : List (Nat × Nat × AOpd)} (hS : RelS P hh G w σ) (hE : RelE G w n env a.tmps)
  (hz : zeroCellsT P t = some z) (hf : fieldsOk P t = true) (hp : partsBuild P t parts.toList = some ps) (hb : buildCells env z ps = some cs) :
  ∃ u, (Instr.build t (parts.map fun (i, x) => (i, a.eval x))).run P w = .ok u w ∧ RelV G w (.agg cs) u := by
 obtain ⟨i, v, hi, hzv, hs, h0, hrun, hsz, hcell, hr⟩ := zeroCellsT_spec hz
 have hlist : (parts.map fun (i, x) => (i, a.eval x)).toList = parts.toList.map fun p => (p.1, a.eval p.2) := by simp
 unfold fieldsOk at hf
 cases hu : P.underlying t with
 | none => simp [hu] at hf
 | some d =>
  cases d <;> simp only [hu] at hf <;> try (cases hf; done)
  case array len e =>
   obtain ⟨ie, hie⟩ := Option.isSome_iff_exists.1 hf
   have hpl : ∀ i off m, (match P.underlying t with
     | some (.struct fs) => match fs[i]? with | some f => (match sizeT P f.type with | some n => some (f.offset, n) | none => none) | none => none
     | some (.array n e) => if i < n then (match sizeT P e with | some m => some (i * m, m) | none => none) else none
     | _ => none) = some (off, m) → (fun i => some (i * ie.size, ie.size)) i = some (off, m) := by
    intro i off m h
    simp only [hu] at h
    split at h
    ·cases hse : sizeT P e with
     | none => simp [hse] at h
     | some q =>
      simp only [hse] at h
      cases h
      have : ie.size = m := by
       unfold sizeT at hse
       simp only [hie] at hse
       split at hse
       ·cases hse
       ·cases hse; rfl
      simp [this]
    ·cases h
   obtain ⟨vs', e1, e2, e3⟩ := build_fill hE hpl hp hb hsz.symm (hr G w).1
   refine ⟨.agg vs', ?_, .agg e2.symm e3⟩
   simp only [Instr.build, Sem.run_bind, hrun, Result.andThen_ok, run_underlying hu, sizeOf, typeInfo, run_program, hie, Sem.run_pure, hlist, e1]
  case struct fs =>
   have hpl : ∀ i off m, (match P.underlying t with
     | some (.struct fs) => match fs[i]? with | some f => (match sizeT P f.type with | some n => some (f.offset, n) | none => none) | none => none
     | some (.array n e) => if i < n then (match sizeT P e with | some m => some (i * m, m) | none => none) else none
     | _ => none) = some (off, m) → (fun i => (fs.map fun f => (f.offset, P.cellsOf f.type))[i]?) i = some (off, m) := by
    intro i off m h
    simp only [hu] at h
    split at h
    ·rename_i f hfi
     split at h
     ·rename_i k hk
      cases h
      have : P.cellsOf f.type = m := by
       obtain ⟨_, _, j, hj, hjs⟩ := run_sizeOf (P := P) hk default
       simp [Program.cellsOf, hj, hjs]
      simp [hfi, this]
     ·cases h
    ·cases h
   obtain ⟨vs', e1, e2, e3⟩ := build_fill hE hpl hp hb hsz.symm (hr G w).1
   refine ⟨.agg vs', ?_, .agg e2.symm e3⟩
   have hm := mapM_places (P := P) (w := w) hf
   have hm' : (fs.mapM (fun f => do pure (f.offset, ← sizeOf f.type)) : Sem (Array (Nat × Nat))).run P w = .ok (fs.map fun f => (f.offset, P.cellsOf f.type)) w := by
    rw [Array.mapM_eq_mapM_toList, Sem.run_map, hm, Result.andThen_ok]
    congr 1
    apply Array.ext'
    simp
   simp only [Instr.build, Sem.run_bind, hrun, Result.andThen_ok, run_underlying hu, hm', hlist, e1, Sem.run_pure]
end Go.Am
namespace Go.Am
variable {P : Program} {hh : String → Bool} {G : Gh} {w : World} {σ σ' : St} {env : Env}
theorem allCells_mem {n : Nat} {xs : List AV} (h : allCells n xs = true) {x : AV} (hx : x ∈ xs) : x.cells.length = n ∧ x.cells.all (·.cell) = true := by
 have := List.all_eq_true.1 h x hx
 simp only [Bool.and_eq_true, beq_iff_eq] at this
 exact this
theorem allCells_get {n : Nat} {xs : List AV} (h : allCells n xs = true) {i : Nat} {x : AV} (hx : xs[i]? = some x) : x.cells.length = n ∧ x.cells.all (·.cell) = true :=
 allCells_mem h (List.mem_of_getElem? hx)
theorem allCells_cons {n : Nat} {x : AV} {xs : List AV} (h : allCells n (x :: xs) = true) : (x.cells.length = n ∧ x.cells.all (·.cell) = true) ∧ allCells n xs = true :=
 ⟨allCells_mem h (by simp), by simp only [allCells, List.all_cons, Bool.and_eq_true] at h ⊢; exact h.2⟩
theorem allCells_append {n : Nat} {xs ys : List AV} : allCells n (xs ++ ys) = true ↔ allCells n xs = true ∧ allCells n ys = true := by
 simp [allCells, List.all_append]
theorem cell_cells {x : AV} (h : x.cell = true) : x.cells = [x] := by cases x <;> first | rfl | simp [AV.cell] at h
theorem flat_length {n : Nat} : ∀ {xs : List AV}, allCells n xs = true → (xs.flatMap AV.cells).length = xs.length * n
 | [], _ => by simp
 | x :: xs, h => by
  obtain ⟨h1, h2⟩ := allCells_cons h
  simp only [List.flatMap_cons, List.length_append, h1.1, flat_length h2, List.length_cons, Nat.add_mul]
  omega
theorem flat_get {n : Nat} : ∀ {xs : List AV}, allCells n xs = true → ∀ {i j : Nat} {x c : AV}, xs[i]? = some x → x.cells[j]? = some c → (xs.flatMap AV.cells)[i * n + j]? = some c
 | [], _, i, j, x, c, hx, _ => by simp at hx
 | y :: xs, h, i, j, x, c, hx, hc => by
  obtain ⟨h1, h2⟩ := allCells_cons h
  simp only [List.flatMap_cons]
  cases i with
  | zero =>
   simp at hx
   subst hx
   rw [Nat.zero_mul, Nat.zero_add, List.getElem?_append_left (List.getElem?_eq_some_iff.1 hc).1]
   exact hc
  | succ i =>
   simp at hx
   rw [List.getElem?_append_right (by rw [h1.1, Nat.add_mul]; omega), h1.1, show (i + 1) * n + j - n = i * n + j from by rw [Nat.add_mul]; omega]
   exact flat_get h2 hx hc
theorem flat_inv {n : Nat} : ∀ {xs : List AV}, allCells n xs = true → ∀ {p : Nat} {c : AV}, (xs.flatMap AV.cells)[p]? = some c → ∃ i j x, xs[i]? = some x ∧ x.cells[j]? = some c ∧ p = i * n + j
 | [], _, p, c, hp => by simp at hp
 | y :: xs, h, p, c, hp => by
  obtain ⟨h1, h2⟩ := allCells_cons h
  simp only [List.flatMap_cons] at hp
  by_cases hlt : p < n
  ·rw [List.getElem?_append_left (by omega)] at hp
   exact ⟨0, p, y, rfl, hp, by omega⟩
  ·rw [List.getElem?_append_right (by omega), h1.1] at hp
   obtain ⟨i, j, x, e1, e2, e3⟩ := flat_inv h2 hp
   exact ⟨i + 1, j, x, by simpa using e1, e2, by rw [Nat.add_mul]; omega⟩
theorem flat_one {n : Nat} {xs : List AV} (h : allCells n xs = true) : ∀ c ∈ xs.flatMap AV.cells, c.cell = true := by
 intro c hc
 obtain ⟨x, hx, hcx⟩ := List.mem_flatMap.1 hc
 exact List.all_eq_true.1 (allCells_mem h hx).2 c hcx
theorem fill_list {sz n : Nat} {a : Act} (hE : RelE G w n env a.tmps) : ∀ {parts : List (Nat × Operand)} {k : Nat} {xs : List AOpd} {vs : Array Value},
  partsList k parts = some xs → allCells sz (xs.map (·.ev env)) = true → (k + xs.length) * sz ≤ vs.size →
  ∃ vs', Instr.fill (fun i => some (i * sz, sz)) vs (parts.map fun p => (p.1, a.eval p.2)) = some vs' ∧ vs'.size = vs.size ∧ (∀ p, p < k * sz → vs'[p]? = vs[p]?) ∧
   ∀ (p : Nat) (c : AV) (u : Value), ((xs.map (·.ev env)).flatMap AV.cells)[p]? = some c → vs'[k * sz + p]? = some u → RelV G w c u
 | [], k, xs, vs, h1, h2, h3 => by
  simp [partsList] at h1
  subst h1
  exact ⟨vs, rfl, rfl, fun _ _ => rfl, fun p c u h => by simp at h⟩
 | (i, x) :: parts, k, xs, vs, h1, h2, h3 => by
  simp only [partsList] at h1
  split at h1
  ·rename_i hik
   subst hik
   split at h1
   ·rename_i b ys hx hys
    cases h1
    obtain ⟨c1, c2⟩ := allCells_cons h2
    obtain ⟨k1, k2, k3⟩ := (ev_rel (x := x) hx hE).cells c1.2
    have hsz : (a.eval x).cells.size = sz := by rw [k1, c1.1]
    have hle : i * sz + sz ≤ vs.size := by
     simp only [List.length_cons] at h3
     have : (i + 1) * sz ≤ (i + (ys.length + 1)) * sz := Nat.mul_le_mul_right _ (by omega)
     rw [Nat.add_mul] at this
     omega
    simp only [List.map_cons]
    rw [fill_step (place := fun i => some (i * sz, sz)) (off := i * sz) (n := sz) rfl hsz hle]
    have hlen : ((vs.toList.take (i * sz) ++ (a.eval x).cells.toList ++ vs.toList.drop (i * sz + sz)).toArray).size = vs.size := by simp; omega
    obtain ⟨vs', q1, q2, q3, q4⟩ := fill_list (a := a) hE (k := i + 1) (vs := (vs.toList.take (i * sz) ++ (a.eval x).cells.toList ++ vs.toList.drop (i * sz + sz)).toArray) hys c2
     (by rw [hlen]; simp only [List.length_cons] at h3; rw [show i + 1 + ys.length = i + (ys.length + 1) from by omega]; exact h3)
    refine ⟨vs', q1, by rw [q2, hlen], fun p hp => ?_, fun p c u hc hu => ?_⟩
    ·rw [q3 p (by rw [Nat.add_mul]; omega)]
     simp only [List.getElem?_toArray]
     rw [List.append_assoc, List.getElem?_append_left (by simp; omega), List.getElem?_take, if_pos hp]
     simp
    ·simp only [List.map_cons, List.flatMap_cons] at hc
     by_cases hlt : p < sz
     ·rw [List.getElem?_append_left (by omega)] at hc
      rw [q3 _ (by rw [Nat.add_mul]; omega)] at hu
      simp only [List.getElem?_toArray] at hu
      rw [List.append_assoc, List.getElem?_append_right (by simp; omega)] at hu
      simp only [List.length_take, Array.length_toList] at hu
      rw [show i * sz + p - min (i * sz) vs.size = p from by omega, List.getElem?_append_left (by simp; omega)] at hu
      exact k2 p c u hc (by simpa using hu)
     ·rw [List.getElem?_append_right (by omega), c1.1] at hc
      refine q4 (p - sz) c u hc ?_
      rw [← hu]
      congr 1
      rw [Nat.add_mul]
      omega
   ·cases h1
  ·cases h1
theorem newList {xs : List AV} {sz : Nat} {vs : Array Value} {T : TypeId} (hS : RelS P hh G w σ) (hx : allCells sz xs = true) (hl : vs.size = xs.length * sz)
  (hr : ∀ (p : Nat) (c : AV) (u : Value), (xs.flatMap AV.cells)[p]? = some c → vs[p]? = some u → RelV G w c u) :
  ∃ G', RelS P hh G' (w.alloc (.cells vs T)) σ ∧ Evo G w G' (w.alloc (.cells vs T)) ∧ RelV G' (w.alloc (.cells vs T)) (.lit xs true none) (.slice (some ⟨w.heap.size, 0, none⟩) xs.length xs.length) := by
 obtain ⟨h1, h2⟩ := hS.newLit vs T
 refine ⟨_, h1, h2, .lit (sz := sz) ⟨Nat.le_refl _, fun _ => rfl, fun t e => by cases e⟩ ⟨⟨vs.size, by simp [Gh.withLim], by omega⟩, fun t e => ?_, fun i x e => (allCells_get hx e).1, fun k hk => ?_⟩ fun i x j c u e1 e2 e3 => ?_⟩
 ·have := (hS.own _ _ (show G.own w.heap.size = some t from e)).1
  omega
 ·rw [Nat.zero_add, World.cell?_alloc_new]
  simp [Array.getElem?_eq_getElem (show k < vs.size by omega)]
 ·rw [Nat.zero_add, World.cell?_alloc_new] at e3
  exact (hr _ _ _ (flat_get hx e1 e2) e3).mono h2
theorem buildSlice_run {t e : TypeId} {sz n m : Nat} {a : Act} {parts : Array (Nat × Operand)} {xs : List AOpd} {z : List AV} (hE : RelE G w n env a.tmps)
  (ht : P.underlying t = some (.slice e)) (hz : zeroCellsT P e = some z) (hs : sizeT P e = some sz) (hp : partsList 0 parts.toList = some xs) (hn : xs.length = m) (hb : m * sz ≤ 2 ^ 24)
  (hc : allCells sz (xs.map (·.ev env)) = true) :
  ∃ vs : Array Value, (Instr.buildSlice t m (parts.map fun (i, x) => (i, a.eval x))).run P w = .ok (.slice (some ⟨w.heap.size, 0, none⟩) m m) (w.alloc (.cells vs e)) ∧ vs.size = m * sz ∧
   ∀ (p : Nat) (c : AV) (u : Value), ((xs.map (·.ev env)).flatMap AV.cells)[p]? = some c → vs[p]? = some u → RelV G w c u := by
 obtain ⟨i, v, hi, hzv, hsz, h0, hrun, hcs, hcell, hr⟩ := zeroCellsT_spec hz
 obtain ⟨hso, _⟩ := run_sizeOf hs w
 have hlist : (parts.map fun (i, x) => (i, a.eval x)).toList = parts.toList.map fun p => (p.1, a.eval p.2) := by simp
 have hbig : ¬ (m * sz > 2 ^ 24) := by omega
 by_cases hm0 : m = 0
 ·subst hm0
  have hxs : xs = [] := List.eq_nil_of_length_eq_zero hn
  subst hxs
  have hps : parts.toList = [] := by
   cases hq : parts.toList with
   | nil => rfl
   | cons p ps =>
    rw [hq] at hp
    simp only [partsList] at hp
    split at hp
    ·split at hp <;> cases hp
    ·cases hp
  refine ⟨#[], ?_, by simp, fun p c u h => by simp at h⟩
  rw [hps] at hlist
  simp only [Instr.buildSlice, Sem.run_bind, run_underlying ht, Result.andThen_ok, hso, Nat.zero_mul, hlist, List.map_nil, Instr.fill]
  simp [newRow, Array.range_zero']
 have h00 : ¬ m * sz = 0 := by
  intro e
  rcases Nat.mul_eq_zero.1 e with e | e
  ·exact hm0 e
  ·rw [← hsz, (run_sizeOf hs w).2.2.choose_spec.1.symm.trans hi |> Option.some.inj |> fun e => (congrArg TypeInfo.size e).symm, (run_sizeOf hs w).2.2.choose_spec.2] at h0
   omega
 ·obtain ⟨vs', q1, q2, q3, q4⟩ := fill_list (sz := sz) (a := a) hE (vs := ((Array.range (m * sz)).map (v.cells[· % v.cells.size]!))) hp hc (by simp [hn])
  refine ⟨vs', ?_, by rw [q2]; simp, fun p c u h3 h4 => q4 p c u h3 (by simpa using h4)⟩
  simp only [Instr.buildSlice, Sem.run_bind, run_underlying ht, Result.andThen_ok, hso, hbig, if_false, Sem.run_pure, h00, hrun]
  simp only [hlist, q1, newRow, Sem.run_bind, run_newObj, Result.andThen_ok, Sem.run_pure, World.alloc_eq]
theorem chop_flat {sz : Nat} (h0 : 0 < sz) : ∀ {n : Nat} {cs : List AV}, n * sz ≤ cs.length → allCells sz (chop sz n cs) = true → (chop sz n cs).flatMap AV.cells = cs.take (n * sz) ∧ (chop sz n cs).length = n
 | 0, cs, _, _ => by simp [chop]
 | n + 1, cs, h, ha => by
  rw [Nat.add_mul] at h
  simp only [chop] at ha ⊢
  obtain ⟨h1, h2⟩ := allCells_cons ha
  obtain ⟨i1, i2⟩ := chop_flat h0 (by simp; omega) h2
  refine ⟨?_, by simp [i2]⟩
  simp only [List.flatMap_cons, i1]
  have hx : AV.cells (if sz = 1 ∧ (cs.headD .undef).cell = true then cs.headD .undef else .agg (cs.take sz)) = cs.take sz := by
   split
   ·rename_i hs
    rw [cell_cells hs.2, hs.1]
    cases cs with
    | nil => simp at h; omega
    | cons c cs => simp
   ·rfl
  rw [hx, ← List.take_add]
  congr 1
  rw [Nat.add_mul]
  omega
theorem view_sound {sz : Nat} {y : AV} {v : Value} {ys : List AV} (h0 : 0 < sz) (hS : RelS P hh G w σ) (hy : RelV G w y v) (hv : view σ y = some ys) (hs : sized sz y = true) (ha : allCells sz ys = true) :
  ∃ (base : Option Addr) (cap : Nat) (us : List Value), v = .slice base ys.length cap ∧ us.length = ys.length * sz ∧ (ys ≠ [] → ∃ a : Addr, base = some a ∧ ∀ (j : Nat) (u : Value), us[j]? = some u → w.cell? (a.add j) = some u) ∧
   (∀ (p : Nat) (c : AV) (u : Value), (ys.flatMap AV.cells)[p]? = some c → us[p]? = some u → RelV G w c u) ∧ ∀ u ∈ us, u.oneCell' = true := by
 have key : ∀ {b o : Nat}, Reads G w (ys.flatMap AV.cells) b o → ∃ us : List Value, us.length = ys.length * sz ∧ (∀ (j : Nat) (u : Value), us[j]? = some u → w.cell? ((⟨b, o, none⟩ : Addr).add j) = some u) ∧
   (∀ (p : Nat) (c : AV) (u : Value), (ys.flatMap AV.cells)[p]? = some c → us[p]? = some u → RelV G w c u) ∧ ∀ u ∈ us, u.oneCell' = true := by
  intro b o hr
  obtain ⟨us, l, q1, q2⟩ := hr.list
  refine ⟨us, by rw [l, flat_length ha], q1, q2, fun u hu => ?_⟩
  obtain ⟨i, hi, rfl⟩ := List.getElem_of_mem hu
  have hi' : i < (ys.flatMap AV.cells).length := by omega
  exact ((q2 i _ _ (List.getElem?_eq_getElem hi') (List.getElem?_eq_getElem hi)).cell (flat_one ha _ (List.getElem_mem hi'))).1
 cases y <;> try (simp [view] at hv; done)
 case lit xs full tk =>
  simp only [view, Option.some.injEq] at hv
  subst hv
  cases hy with
  | nil ht hb => exact ⟨_, _, [], rfl, by simp, fun h => absurd rfl h, fun p c u h => by simp at h, fun u h => by simp at h⟩
  | lit ht hl hc =>
   rename_i b o sz' cap
   by_cases he : xs = []
   ·subst he
    exact ⟨_, _, [], rfl, by simp, fun h => absurd rfl h, fun p c u h => by simp at h, fun u h => by simp at h⟩
   ·have hsz : sz' = sz := by
     cases xs with
     | nil => exact absurd rfl he
     | cons y ys => rw [← hl.size 0 y rfl]; exact (allCells_get (i := 0) ha rfl).1
    subst hsz
    obtain ⟨us, q1, q2, q3, q4⟩ := key (b := b) (o := o) fun p c hp => by
     obtain ⟨i, j, x, e1, e2, e3⟩ := flat_inv ha hp
     obtain ⟨u, hu⟩ := Option.isSome_iff_exists.1 (hl.cells _ (hl.cellOf e1 e2))
     exact ⟨u, by rw [e3]; exact hu, hc i x j c u e1 e2 (by rw [← hu])⟩
    exact ⟨_, _, us, rfl, q1, fun _ => ⟨_, rfl, q2⟩, q3, q4⟩
 case ref id off len sz' =>
  have hsz : sz' = sz := by simpa [sized] using hs
  subst hsz
  simp only [view] at hv
  split at hv
  ·rename_i cs hcs
   split at hv
   ·rename_i hle
    simp only [Option.some.injEq] at hv
    subst hv
    cases hy with
    | ref hl hb hcap hn =>
     rename_i b base cap
     obtain ⟨f1, f2⟩ := chop_flat h0 (n := len) (cs := cs.drop off) (by simp; omega) ha
     obtain ⟨us, q1, q2, q3, q4⟩ := key (b := b) (o := off) (by
      rw [f1]
      have := (cellsAt_reads hS hl hcs).sub off (len * sz')
      rwa [Nat.zero_add] at this)
     refine ⟨base, cap, us, by rw [f2], q1, fun hne => ⟨_, hb fun e => hne ?_, q2⟩, q3, q4⟩
     subst e
     rfl
   ·cases hv
  ·cases hv
end Go.Am
namespace Go.Am
variable {P : Program} {hh : String → Bool} {G : Gh} {w : World} {σ σ' : St} {env : Env}
def Gh.withTok (G : Gh) (t b L : Nat) (p : Option Addr × Nat × Nat) : Gh :=
 { G with lim := fun i => if i = b then some L else G.lim i, own := fun i => if i = b then some t else G.own i, tok := fun i => if i = t then some p else G.tok i }
theorem tok_loc (h : RelS P hh G w σ) {t sz n : Nat} {ex : Bool} (e : σ[t]? = some (.tok sz n ex)) : G.loc t = none := by
 cases hl : G.loc t with
 | none => rfl
 | some b => exact (h.blk _ _ _ hl e).elim
theorem lim_fresh (h : RelS P hh G w σ) : G.lim w.heap.size = none := by
 cases e : G.lim w.heap.size with
 | none => rfl
 | some L => have := lim_lt h e; omega
theorem own_fresh (h : RelS P hh G w σ) (t : Nat) : G.own w.heap.size ≠ some t := fun e => by have := (h.own _ _ e).1; omega
theorem RelS.newTok {t sz N c : Nat} {vs : Array Value} {T : TypeId} (h : RelS P hh G w σ) (hlen : σ.length ≤ σ'.length) (hsame : ∀ i, i ≠ t → i < σ.length → σ'[i]? = σ[i]?)
  (ht : σ'[t]? = some (.tok sz N true)) (hloc : G.loc t = none) (hrt : ∀ cs, G.res t ≠ some (some cs)) (hold : ∀ b n c, G.tok t = some (b, n, c) → n < N) (hN : N * sz ≤ vs.size) (hc : c * sz ≤ vs.size) (hNc : N ≤ c) :
  RelS P hh (G.withTok t w.heap.size (N * sz) (some ⟨w.heap.size, 0, none⟩, N, c)) (w.alloc (.cells vs T)) σ' ∧
   Evo G w (G.withTok t w.heap.size (N * sz) (some ⟨w.heap.size, 0, none⟩, N, c)) (w.alloc (.cells vs T)) := by
 have hlf := lim_fresh h
 have hof := own_fresh h
 have h1 := h.alloc (.cells vs T)
 have he0 := evo_alloc h (.cells vs T)
 have he : Evo G w (G.withTok t w.heap.size (N * sz) (some ⟨w.heap.size, 0, none⟩, N, c)) (w.alloc (.cells vs T)) := by
  refine ⟨fun _ _ e => e, fun b L e => ⟨L, ?_, Nat.le_refl _, fun k _ => alloc_cell w _ _ (lim_lt h e)⟩, fun u b n k e => ?_, fun b L u e1 e2 => ?_, fun _ e => e, rfl, rfl, rfl, rfl, rfl, by simp, fun _ _ e => e⟩
  ·have : b ≠ w.heap.size := fun e' => by rw [e', hlf] at e; cases e
   simp [Gh.withTok, this, e]
  ·by_cases hu : u = t
   ·subst hu
    have := hold _ _ _ e
    exact ⟨some ⟨w.heap.size, 0, none⟩, N, c, by simp [Gh.withTok], by omega, fun e' => by omega⟩
   ·exact ⟨b, n, k, by simp [Gh.withTok, hu, e], Nat.le_refl _, fun _ => ⟨rfl, rfl⟩⟩
  ·have : b ≠ w.heap.size := fun e' => by rw [e', hlf] at e1; cases e1
   simpa [Gh.withTok, this] using e2
 refine ⟨⟨fun id b e => Nat.lt_of_lt_of_le (h.lt id b e) hlen, fun id b x e1 e2 => ?_, h.inj, fun id b e => ?_, fun b L e => ?_, fun u b n k e => ?_, fun b u e => ?_, fun r e => ?_, h1.base, h1.size, fun i r e => ?_⟩, he⟩
 ·have e1' : G.loc id = some b := e1
  have hne : id ≠ t := fun e => by rw [e, hloc] at e1'; cases e1'
  rw [hsame id hne (h.lt _ _ e1')] at e2
  refine (h.blk id b x e1' e2).mono he ?_
  rw [alloc_heap, if_neg (by have := (h.fresh _ _ e1').2.1; omega)]
 ·obtain ⟨q1, q2, q3, q4⟩ := h1.fresh id b e
  have : b ≠ w.heap.size := by have := (h.fresh id b e).2.1; omega
  exact ⟨q1, q2, by simp [Gh.withTok, this, q3], q4⟩
 ·by_cases hb : b = w.heap.size
  ·subst hb
   simp [Gh.withTok] at e
   subst e
   exact ⟨vs, T, (0, 0), by rw [alloc_heap, if_pos rfl], hN, fun hlt => absurd hlt (Nat.not_lt.2 h.size)⟩
  ·simp [Gh.withTok, hb] at e
   exact h1.lim b L e
 ·by_cases hu : u = t
  ·subst hu
   simp [Gh.withTok] at e
   obtain ⟨rfl, rfl, rfl⟩ := e
   exact ⟨sz, true, ht, hNc, by simp, fun _ => ⟨w.heap.size, vs, T, rfl, by simp [Gh.withTok], by simp [Gh.withTok], h.size, by rw [alloc_heap, if_pos rfl], hc⟩⟩
  ·simp [Gh.withTok, hu] at e
   obtain ⟨sz', ex, q1, q2, q3, q4⟩ := h1.tok u b n k e
   refine ⟨sz', ex, ?_, q2, q3, fun hx => ?_⟩
   ·rw [hsame u hu (List.getElem?_eq_some_iff.1 q1).1]; exact q1
   ·obtain ⟨bb, vs', T', r1, r2, r3, r4, r5, r6⟩ := q4 hx
    have : bb ≠ w.heap.size := fun e' => by rw [e'] at r2; exact hof _ r2
    exact ⟨bb, vs', T', r1, by simp [Gh.withTok, this, r2], by simp [Gh.withTok, this, r3], r4, r5, r6⟩
 ·by_cases hb : b = w.heap.size
  ·subst hb
   simp [Gh.withTok] at e
   subst e
   exact ⟨by simp, (some ⟨w.heap.size, 0, none⟩, N, c), by simp [Gh.withTok]⟩
  ·simp [Gh.withTok, hb] at e
   obtain ⟨q1, p, q2⟩ := h1.own b u e
   refine ⟨q1, ?_⟩
   by_cases hu : u = t
   ·exact ⟨(some ⟨w.heap.size, 0, none⟩, N, c), by simp [Gh.withTok, hu]⟩
   ·exact ⟨p, by simp [Gh.withTok, hu, q2]⟩
 ·obtain ⟨q1, q2, q3⟩ := h1.defs r e
  have : r ≠ w.heap.size := by have := (Array.getElem?_eq_some_iff.1 (h.defs _ e).1).1; omega
  exact ⟨q1, q2, by simp [Gh.withTok, this, q3]⟩
 ·obtain ⟨q1, q2, q3⟩ := h.res i r e
  refine ⟨q1, by omega, fun cs hc => ?_⟩
  have hi : i ≠ t := fun hi => by subst hi; subst hc; exact hrt _ e
  rw [hsame i hi q2]
  exact q3 cs hc
theorem RelS.growTok {t sz n c bb m : Nat} {vs vs' : Array Value} {T : TypeId} (h : RelS P hh G w σ) (ht : ∃ ex, σ[t]? = some (.tok sz n ex)) (hm : 0 < m) (hnc : n + m ≤ c)
  (htk : G.tok t = some (some ⟨bb, 0, none⟩, n, c)) (hown : G.own bb = some t) (hlim : G.lim bb = some (n * sz)) (hB : G.B0 ≤ bb) (hb : w.heap[bb]? = some (.cells vs T (0, 0)))
  (hc : c * sz ≤ vs.size) (hs : vs'.size = vs.size) (hkeep : ∀ k, k < n * sz → vs'[k]? = vs[k]?) :
  RelS P hh (G.withTok t bb ((n + m) * sz) (some ⟨bb, 0, none⟩, n + m, c)) (w.setRow bb vs') (σ.set t (.tok sz (n + m) true)) ∧
   Evo G w (G.withTok t bb ((n + m) * sz) (some ⟨bb, 0, none⟩, n + m, c)) (w.setRow bb vs') := by
 obtain ⟨ex, ht⟩ := ht
 have hloc := tok_loc h ht
 have hp := part_setRow w bb vs'
 have hrow := setRow_heap w bb vs vs' T (0, 0) hb
 have hmul : n * sz ≤ (n + m) * sz := Nat.mul_le_mul_right _ (by omega)
 have hfit : (n + m) * sz ≤ vs'.size := by rw [hs]; exact Nat.le_trans (Nat.mul_le_mul_right _ hnc) hc
 have he : Evo G w (G.withTok t bb ((n + m) * sz) (some ⟨bb, 0, none⟩, n + m, c)) (w.setRow bb vs') := by
  refine ⟨fun _ _ e => e, fun b L e => ?_, fun u b k l e => ?_, fun b L u e1 e2 => ?_, fun _ e => e, rfl, rfl, rfl, rfl, rfl, by simp, fun _ _ e => e⟩
  ·by_cases hbb : b = bb
   ·subst hbb
    rw [hlim] at e
    cases e
    refine ⟨(n + m) * sz, by simp [Gh.withTok], hmul, fun k hk => ?_⟩
    rw [cell_of_row _ _ _ _ _ _ hrow, cell_of_row _ _ _ _ _ _ hb]
    exact hkeep k hk
   ·exact ⟨L, by simp [Gh.withTok, hbb, e], Nat.le_refl _, fun k _ => hp.cell hbb⟩
  ·by_cases hu : u = t
   ·subst hu
    rw [htk] at e
    cases e
    exact ⟨some ⟨bb, 0, none⟩, n + m, c, by simp [Gh.withTok], by omega, fun e' => by omega⟩
   ·exact ⟨b, k, l, by simp [Gh.withTok, hu, e], Nat.le_refl _, fun _ => ⟨rfl, rfl⟩⟩
  ·by_cases hbb : b = bb
   ·subst hbb
    simp [Gh.withTok] at e2
    subst e2
    exact hown
   ·simpa [Gh.withTok, hbb] using e2
 refine ⟨⟨fun id b e => by have := h.lt id b e; simpa using this, fun id b x e1 e2 => ?_, h.inj, fun id b e => ?_, fun b L e => ?_, fun u b k l e => ?_, fun b u e => ?_, fun r e => ?_, fun b hb' => ?_, (by have := h.size; simpa using this : G.B0 ≤ (w.setRow bb vs').heap.size), fun i r e => ?_⟩, he⟩
 ·have e1' : G.loc id = some b := e1
  have hne : id ≠ t := fun e => by rw [e, hloc] at e1'; cases e1'
  rw [List.getElem?_set_ne (Ne.symm hne)] at e2
  refine (h.blk id b x e1' e2).mono he (hp.other _ fun e => ?_)
  have := (h.fresh _ _ e1').2.2.1
  rw [e, hlim] at this
  cases this
 ·obtain ⟨q1, q2, q3, q4⟩ := h.fresh id b e
  have : b ≠ bb := fun e' => by rw [e', hlim] at q3; cases q3
  exact ⟨q1, by simpa using q2, by simp [Gh.withTok, this, q3], q4⟩
 ·by_cases hbb : b = bb
  ·subst hbb
   simp [Gh.withTok] at e
   subst e
   exact ⟨vs', T, (0, 0), hrow, hfit, fun hlt => absurd hlt (Nat.not_lt.2 hB)⟩
  ·simp [Gh.withTok, hbb] at e
   obtain ⟨vs1, T1, fr, q1, q2⟩ := h.lim b L e
   exact ⟨vs1, T1, fr, by rw [hp.other _ hbb]; exact q1, q2⟩
 ·by_cases hu : u = t
  ·subst hu
   simp [Gh.withTok] at e
   obtain ⟨rfl, rfl, rfl⟩ := e
   refine ⟨sz, true, by rw [List.getElem?_set_self (List.getElem?_eq_some_iff.1 ht).1], hnc, by simp, fun _ => ⟨bb, vs', T, rfl, by simp [Gh.withTok], by simp [Gh.withTok], hB, hrow, by rw [hs]; exact hc⟩⟩
  ·simp [Gh.withTok, hu] at e
   obtain ⟨sz', ex', q1, q2, q3, q4⟩ := h.tok u b k l e
   refine ⟨sz', ex', by rw [List.getElem?_set_ne (Ne.symm hu)]; exact q1, q2, q3, fun hx => ?_⟩
   obtain ⟨b2, vs2, T2, r1, r2, r3, r4, r5, r6⟩ := q4 hx
   have : b2 ≠ bb := fun e' => by rw [e', hown] at r2; cases r2; exact hu rfl
   exact ⟨b2, vs2, T2, r1, by simp [Gh.withTok, this, r2], by simp [Gh.withTok, this, r3], r4, by rw [hp.other _ this]; exact r5, r6⟩
 ·by_cases hbb : b = bb
  ·subst hbb
   simp [Gh.withTok] at e
   subst e
   exact ⟨by simpa using (h.own _ _ hown).1, (some ⟨b, 0, none⟩, n + m, c), by simp [Gh.withTok]⟩
  ·simp [Gh.withTok, hbb] at e
   obtain ⟨q1, p, q2⟩ := h.own b u e
   refine ⟨by simpa using q1, ?_⟩
   by_cases hu : u = t
   ·exact ⟨(some ⟨bb, 0, none⟩, n + m, c), by simp [Gh.withTok, hu]⟩
   ·exact ⟨p, by simp [Gh.withTok, hu, q2]⟩
 ·obtain ⟨q1, q2, q3⟩ := h.defs r e
  have : r ≠ bb := fun e' => by rw [e', hlim] at q3; cases q3
  exact ⟨by rw [hp.other _ this]; exact q1, q2, by simp [Gh.withTok, this, q3]⟩
 ·have hb2 : b < G.B0 := hb'
  have : b ≠ bb := by omega
  rw [hp.other _ this]
  exact h.base b hb2
 ·obtain ⟨q1, q2, q3⟩ := h.res i r e
  refine ⟨q1, by simpa using q2, fun cs hc => ?_⟩
  have hi : i ≠ t := fun hi => by subst hi; rw [q3 cs hc] at ht; cases ht
  rw [List.getElem?_set_ne (Ne.symm hi)]
  exact q3 cs hc
theorem run_append_room' {t ty e : TypeId} {i : TypeInfo} (ht : P.underlying t = some (.slice e)) (hi : P.info? e = some i)
  {g sLen sCap : Nat} {T : TypeId} {cur : Array Value} (hg : w.heap[g]? = some (.cells cur T (0, 0)))
  {a : Addr} {m c : Nat} {news : List Value} (hl : news.length = m * i.size) (hnews : ∀ (j : Nat) (u : Value), news[j]? = some u → w.cell? (a.add j) = some u) (h1 : ∀ u ∈ news, u.oneCell' = true)
  (hroom : sLen + m ≤ sCap) (hfit : sLen * i.size + news.length ≤ cur.size) :
  (Builtin.append_ #[t, t] ty #[.slice (some ⟨g, 0, none⟩) sLen sCap, .slice (some a) m c]).run P w =
   .ok (.slice (some ⟨g, 0, none⟩) (sLen + m) sCap) (w.setRow g (cur.toList.take (sLen * i.size) ++ news ++ cur.toList.drop (sLen * i.size + news.length)).toArray) := by
 have hf := run_firstCells_some (P := P) w i.size m a m c news hl hnews
 have hst := run_storeCells_at P g (sLen * i.size) T news 0 cur w hg (by simpa using hfit) h1
 simp only [Nat.add_zero] at hst
 simp [Builtin.append_, run_underlying ht, sizeOf, typeInfo, hi, Builtin.lenOf, hroom, hf, Addr.add_lit, hst]
theorem run_append_zero {t ty e : TypeId} {i : TypeInfo} (ht : P.underlying t = some (.slice e)) (hi : P.info? e = some i) {b b2 : Option Addr} {n c c2 : Nat} (hc : n ≤ c) :
  (Builtin.append_ #[t, t] ty #[.slice b n c, .slice b2 0 c2]).run P w = .ok (.slice b n c) w := by
 have hf : (Builtin.firstCells i.size 0 (.slice b2 0 c2)).run P w = .ok #[] w := by
  cases b2 <;> simp [Builtin.firstCells, loadCells, loadCellsFrom]
 cases b <;> simp [Builtin.append_, run_underlying ht, sizeOf, typeInfo, hi, Builtin.lenOf, hc, hf, storeCells]
theorem run_append_new {t ty e : TypeId} {i : TypeInfo} {z : Value} (ht : P.underlying t = some (.slice e)) (hi : P.info? e = some i) (hz : i.zero = some z) (hzs : z.cells.size = i.size)
  {b : Option Addr} {n c : Nat} {olds : List Value} (hnc : n ≤ c) (hb : b = none → c = 0) (hlo : olds.length = n * i.size) (ho : ∀ a, b = some a → ∀ (j : Nat) (u : Value), olds[j]? = some u → w.cell? (a.add j) = some u)
  {a : Addr} {m c2 : Nat} {news : List Value} (hl : news.length = m * i.size) (hnews : ∀ (j : Nat) (u : Value), news[j]? = some u → w.cell? (a.add j) = some u) (hm : 0 < m)
  (hg : c < n + m) (hby : (n + m) * i.bytes ≤ room) (hbig : n + m ≤ room) :
  ∃ cap vs, (Builtin.append_ #[t, t] ty #[.slice b n c, .slice (some a) m c2]).run P w = .ok (.slice (some ⟨w.heap.size, 0, none⟩) (n + m) cap) (w.drew.alloc (.cells vs e)) ∧
   n + m ≤ cap ∧ vs.size = cap * i.size ∧ ∀ k, k < (n + m) * i.size → vs[k]? = (olds ++ news)[k]? := by
 have hr : room = 140737488355328 := by decide
 rw [hr] at hby hbig
 have get : ∀ (x : Array Value) (k : Nat), k < (olds ++ news).length → (olds.toArray ++ news.toArray ++ x)[k]? = (olds ++ news)[k]? := by
  intro x k hk
  rw [Array.getElem?_append_left (by simp at hk ⊢; omega)]
  simp
 have hlen : (olds ++ news).length = (n + m) * i.size := by rw [List.length_append, hlo, hl, Nat.add_mul]
 cases b with
 | none =>
  have hc0 := hb rfl
  subst hc0
  have hn0 : n = 0 := by omega
  subst hn0
  have ho0 : olds = [] := List.eq_nil_of_length_eq_zero (by simpa using hlo)
  subst ho0
  have hrun := run_append_nil (P := P) w t ty e i z ht hi hz a m c2 news hl hnews hm (by omega) (by rw [Nat.zero_add] at hby; omega)
  refine ⟨_, _, by rw [Nat.zero_add]; exact hrun, by rw [Nat.zero_add]; exact grownCap_ge _ _ _ _, ?_, fun k hk => ?_⟩
  ·have := grownCap_ge w m 0 e
   simp only [Array.size_append, List.size_toArray, size_zeroCells, hzs, hl, ← Nat.add_mul]
   congr 1
   omega
  ·have := get (Builtin.zeroCells z.cells (grownCap w m 0 e - m)) k (by rw [hlen]; exact hk)
   simpa using this
 | some b =>
  have hrun := run_append_grow (P := P) w t ty e i z ht hi hz b n c olds hlo (ho b rfl) a m c2 news hl hnews (by omega) (by omega) (growslice_fits (by omega) (by omega))
  refine ⟨_, _, hrun, grownCap_ge _ _ _ _, ?_, fun k hk => get _ k (by rw [hlen]; exact hk)⟩
  have := grownCap_ge w (n + m) c e
  simp only [Array.size_append, List.size_toArray, size_zeroCells, hzs, hlo, hl, ← Nat.add_mul]
  congr 1
  omega
theorem lit_of_cells {zs : List AV} {sz b t cap L : Nat} (ha : allCells sz zs = true) (htk : G.tok t = some (some ⟨b, 0, none⟩, zs.length, cap)) (hcap : zs.length ≤ cap) (hne : zs ≠ [])
  (hown : G.own b = some t) (hlim : G.lim b = some L) (hL : zs.length * sz ≤ L)
  (hcell : ∀ (p : Nat) (c : AV), (zs.flatMap AV.cells)[p]? = some c → ∃ u, w.cell? ⟨b, p, none⟩ = some u ∧ RelV G w c u) :
  RelV G w (.lit zs false (some t)) (.slice (some ⟨b, 0, none⟩) zs.length cap) := by
 refine .lit (sz := sz) ⟨hcap, by simp, fun u e => ?_⟩ ⟨⟨L, hlim, by omega⟩, fun u e => ?_, fun i x e => (allCells_get ha e).1, fun k hk => ?_⟩ fun i x j c u e1 e2 e3 => ?_
 ·cases e
  exact ⟨_, _, _, htk, Nat.le_refl _, fun _ _ => ⟨rfl, rfl⟩⟩
 ·rw [hown] at e
  exact e
 ·rw [← flat_length ha] at hk
  obtain ⟨u, hu, _⟩ := hcell k _ (List.getElem?_eq_getElem hk)
  rw [Nat.zero_add, hu]
  rfl
 ·rw [Nat.zero_add] at e3
  obtain ⟨u', hu', hr⟩ := hcell _ _ (flat_get ha e1 e2)
  rw [e3] at hu'
  cases hu'
  exact hr
end Go.Am
namespace Go.Am
variable {P : Program} {hh : String → Bool} {G : Gh} {w : World} {σ σ' : St} {env : Env}
theorem lit_slice {xs : List AV} {full : Bool} {tk : Option Nat} {u : Value} (h : RelV G w (.lit xs full tk) u) :
  ∃ base cap, u = .slice base xs.length cap ∧ tkOk G full tk xs.length base cap ∧ (base = none → cap = 0) := by
 cases h with
 | nil ht hb => exact ⟨_, _, rfl, ht, hb⟩
 | lit ht hl hc => exact ⟨_, _, rfl, ht, fun e => by cases e⟩
theorem view_empty {y : AV} {v : Value} (hy : RelV G w y v) (hv : view σ y = some []) : ∃ b c, v = .slice b 0 c := by
 cases y <;> try (simp [view] at hv; done)
 case lit xs full tk =>
  simp only [view, Option.some.injEq] at hv
  subst hv
  obtain ⟨b, c, e, _⟩ := lit_slice hy
  exact ⟨b, c, e⟩
 case ref id off len sz =>
  simp only [view] at hv
  split at hv
  ·split at hv
   ·simp only [Option.some.injEq] at hv
    cases len with
    | zero => cases hy with | ref h1 h2 h3 => exact ⟨_, _, rfl⟩
    | succ n => simp [chop] at hv
   ·cases hv
  ·cases hv
theorem get_append_rel {az bs : List AV} {us vs : List Value} (hl : us.length = az.length) (h1 : ∀ (p : Nat) (c : AV) (u : Value), az[p]? = some c → us[p]? = some u → RelV G w c u)
  (h2 : ∀ (p : Nat) (c : AV) (u : Value), bs[p]? = some c → vs[p]? = some u → RelV G w c u) : ∀ (p : Nat) (c : AV) (u : Value), (az ++ bs)[p]? = some c → (us ++ vs)[p]? = some u → RelV G w c u := by
 intro p c u hc hu
 by_cases hp : p < az.length
 ·rw [List.getElem?_append_left hp] at hc
  rw [List.getElem?_append_left (by omega)] at hu
  exact h1 p c u hc hu
 ·rw [List.getElem?_append_right (by omega)] at hc
  rw [List.getElem?_append_right (by omega), hl] at hu
  exact h2 _ c u hc hu
theorem append_sound {t ty e : TypeId} {i : TypeInfo} {z : Value} {sz bytes : Nat} {x y r : AV} {u v : Value} (ht : P.underlying t = some (.slice e)) (hi : P.info? e = some i) (hz : i.zero = some z)
    (hzs : z.cells.size = i.size) (hsz : i.size = sz) (hby : i.bytes = bytes) (h0 : 0 < sz) (hS : RelS P hh G w σ) (hx : RelV G w x u) (hy : RelV G w y v) (h : appendAV sz bytes σ x y = some (r, σ')) :
    ∃ w' G' q, (Builtin.append_ #[t, t] ty #[u, v]).run P w = .ok q w' ∧ RelV G' w' r q ∧ RelS P hh G' w' σ' ∧ Evo G w G' w' := by
  subst hby
  cases x <;> try (simp [appendAV] at h; done)
  case lit xs full tk =>
    obtain ⟨base, cap, rfl, htk, hbn⟩ := lit_slice hx
    cases hv : view σ y with
    | none => simp [appendAV, hv] at h
    | some ys =>
      simp only [appendAV, hv] at h
      split at h
      · rename_i hy0
        cases h
        have : ys = [] := List.eq_nil_of_length_eq_zero hy0
        subst this
        obtain ⟨b2, c2, rfl⟩ := view_empty hy hv
        exact ⟨w, G, _, run_append_zero ht hi htk.1, hx, hS, .refl _ _⟩
      · rename_i hy0
        split at h
        · rename_i hcond
          simp only [Bool.and_eq_true, decide_eq_true_eq] at hcond
          obtain ⟨⟨⟨⟨c1, c2⟩, c3⟩, c4⟩, c5⟩ := hcond
          obtain ⟨base', cap', olds, e1, ol, oc, orr, o1⟩ := view_sound (y := .lit xs full tk) h0 hS hx rfl rfl c2
          cases e1
          obtain ⟨b2, cap2, news, rfl, nl, nc, nr, n1⟩ := view_sound h0 hS hy hv c1 c3
          obtain ⟨a2, rfl, hnews⟩ := nc (fun e => by rw [e] at hy0; exact hy0 rfl)
          have hm : 0 < ys.length := Nat.pos_of_ne_zero hy0
          have hall : allCells sz (xs ++ ys) = true := allCells_append.2 ⟨c2, c3⟩
          have hne : xs ++ ys ≠ [] := by intro e; rw [List.append_eq_nil_iff] at e; rw [e.2] at hy0; exact hy0 rfl
          have hlen : (xs ++ ys).length = xs.length + ys.length := List.length_append
          have hflat : (xs ++ ys).flatMap AV.cells = xs.flatMap AV.cells ++ ys.flatMap AV.cells := List.flatMap_append
          have hrel := get_append_rel (G := G) (w := w) (az := xs.flatMap AV.cells) (bs := ys.flatMap AV.cells) (us := olds) (vs := news) (by rw [ol, flat_length c2]) orr nr
          have hcat : (olds ++ news).length = (xs.length + ys.length) * sz := by rw [List.length_append, ol, nl, Nat.add_mul]
          -- into a new block, under a token
          have grows : ∀ (tn : Nat) (σ1 : St), cap < xs.length + ys.length → σ.length ≤ σ1.length → (∀ i, i ≠ tn → i < σ.length → σ1[i]? = σ[i]?) → σ1[tn]? = some (.tok sz (xs.length + ys.length) true) →
              G.loc tn = none → (∀ cs, G.res tn ≠ some (some cs)) → (∀ b n c, G.tok tn = some (b, n, c) → n < xs.length + ys.length) →
              ∃ w' G' q, (Builtin.append_ #[t, t] ty #[.slice base xs.length cap, .slice (some a2) ys.length cap2]).run P w = .ok q w' ∧ RelV G' w' (.lit (xs ++ ys) false (some tn)) q ∧ RelS P hh G' w' σ1 ∧ Evo G w G' w' := by
            intro tn σ1 hg k1 k2 k3 k4 k4' k5
            obtain ⟨c', vs, hrun, hc', hvs, hget⟩ := run_append_new (P := P) (w := w) (ty := ty) (olds := olds) (news := news) ht hi hz hzs htk.1 hbn (by rw [ol, hsz])
              (fun a ha j uu hj => by
                by_cases hxs : xs = []
                · subst hxs
                  have : olds = [] := List.eq_nil_of_length_eq_zero (by simpa using ol)
                  rw [this] at hj
                  simp at hj
                · obtain ⟨a', ha', q⟩ := oc hxs
                  rw [ha] at ha'
                  cases ha'
                  exact q j uu hj) (by rw [nl, hsz]) hnews hm hg c4 c5
            rw [hsz] at hvs hget
            obtain ⟨r1, r2⟩ := (hS.drew).newTok (σ' := σ1) (t := tn) (sz := sz) (N := xs.length + ys.length) (c := c') (vs := vs) (T := e) k1 k2 k3 k4 k4' k5
              (by rw [hvs]; exact Nat.mul_le_mul_right _ hc') (by rw [hvs]; exact Nat.le_refl _) hc'
            have he : Evo G w _ _ := (evo_drew (G := G) (w := w)).trans r2
            refine ⟨_, _, _, hrun, ?_, r1, he⟩
            have hres := lit_of_cells (G := G.withTok tn w.drew.heap.size ((xs.length + ys.length) * sz) (some ⟨w.drew.heap.size, 0, none⟩, xs.length + ys.length, c')) (w := w.drew.alloc (.cells vs e))
              (zs := xs ++ ys) (b := w.drew.heap.size) (t := tn) (cap := c') (L := (xs.length + ys.length) * sz) hall (by rw [hlen]; simp [Gh.withTok]) (by rw [hlen]; exact hc') hne (by simp [Gh.withTok]) (by simp [Gh.withTok])
              (by rw [hlen]; exact Nat.le_refl _) (fun p c hp => by
                have hp' : p < (xs.length + ys.length) * sz := by rw [← hlen, ← flat_length hall]; exact (List.getElem?_eq_some_iff.1 hp).1
                refine ⟨(olds ++ news)[p]'(by omega), ?_, RelV.mono he ?_⟩
                · rw [World.cell?_alloc_new, hget p hp']
                  exact List.getElem?_eq_getElem _
                · rw [hflat] at hp
                  exact hrel p c _ hp (List.getElem?_eq_getElem _))
            rw [hlen] at hres
            exact hres
          split at h
          · rename_i hfull
            cases h
            have hcap : cap = xs.length := htk.2.1 hfull
            exact grows σ.length _ (by omega) (by simp) (fun i _ hi => by rw [List.getElem?_append_left hi]) (by simp) (loc_none hS (Nat.le_refl _)) (fun cs e => by rw [res_none hS (Nat.le_refl _)] at e; cases e)
              (fun b n c e => by obtain ⟨_, _, q, _⟩ := hS.tok _ _ _ _ e; have := (List.getElem?_eq_some_iff.1 q).1; omega)
          · rename_i hfull
            split at h
            · rename_i t' 
              split at h
              · rename_i sz' n ex hσ
                split at h
                · rename_i hq
                  obtain ⟨rfl, rfl⟩ := hq
                  cases h
                  obtain ⟨b, m, c, g1, g2, g3⟩ := htk.2.2 t' rfl
                  obtain ⟨sz2, ex2, s1, s2, s3, s4⟩ := hS.tok _ _ _ _ g1
                  rw [hσ] at s1
                  cases s1
                  obtain ⟨rfl, rfl⟩ := g3 (by simpa using hfull) rfl
                  by_cases hroom : xs.length + ys.length ≤ c
                  · have hex : ex = true := by
                      cases ex with
                      | true => rfl
                      | false => have := s3 rfl; omega
                    obtain ⟨bb, cur, T, rfl, p2, p3, p4, p5, p6⟩ := s4 hex
                    have hfit : xs.length * i.size + news.length ≤ cur.size := by
                      rw [hsz, nl, ← Nat.add_mul]
                      exact Nat.le_trans (Nat.mul_le_mul_right _ hroom) p6
                    have hrun := run_append_room' (P := P) (w := w) (ty := ty) (c := cap2) ht hi p5 (by rw [nl, hsz]) hnews n1 hroom hfit
                    rw [hsz] at hrun hfit
                    obtain ⟨r1, r2⟩ := hS.growTok (m := ys.length) (vs' := (cur.toList.take (xs.length * sz') ++ news ++ cur.toList.drop (xs.length * sz' + news.length)).toArray) ⟨_, hσ⟩ hm hroom g1 p2 p3 p4 p5 p6
                      (by simp; omega) (fun k hk => by
                        simp only [List.getElem?_toArray]
                        rw [List.append_assoc, List.getElem?_append_left (by simp; omega), List.getElem?_take, if_pos hk]
                        simp)
                    refine ⟨_, _, _, hrun, ?_, r1, r2⟩
                    have hrow := setRow_heap w bb cur (cur.toList.take (xs.length * sz') ++ news ++ cur.toList.drop (xs.length * sz' + news.length)).toArray T (0, 0) p5
                    have hres := lit_of_cells (G := G.withTok t' bb ((xs.length + ys.length) * sz') (some ⟨bb, 0, none⟩, xs.length + ys.length, c))
                      (w := w.setRow bb (cur.toList.take (xs.length * sz') ++ news ++ cur.toList.drop (xs.length * sz' + news.length)).toArray)
                      (zs := xs ++ ys) (b := bb) (t := t') (cap := c) (L := (xs.length + ys.length) * sz') hall (by rw [hlen]; simp [Gh.withTok]) (by rw [hlen]; exact hroom) hne (by simp [Gh.withTok]) (by simp [Gh.withTok])
                      (by rw [hlen]; exact Nat.le_refl _) (fun p c hp => by
                        have hp' : p < (xs.length + ys.length) * sz' := by rw [← hlen, ← flat_length hall]; exact (List.getElem?_eq_some_iff.1 hp).1
                        refine ⟨(olds ++ news)[p]'(by omega), ?_, RelV.mono r2 ?_⟩
                        · rw [cell_of_row _ _ _ _ _ _ hrow]
                          simp only [List.getElem?_toArray]
                          have hmul := Nat.add_mul xs.length ys.length sz'
                          by_cases hlt : p < xs.length * sz'
                          · rw [List.append_assoc, List.getElem?_append_left (by simp; omega), List.getElem?_take, if_pos hlt]
                            rw [List.getElem_append_left (by omega)]
                            have hxs : xs ≠ [] := by intro e; rw [e] at hlt; simp at hlt
                            obtain ⟨a', ha', q⟩ := oc hxs
                            cases ha'
                            have hq := q p _ (List.getElem?_eq_getElem (by omega))
                            rw [add_off, Nat.zero_add, cell_of_row _ _ _ _ _ _ p5] at hq
                            simpa using hq
                          · rw [List.append_assoc, List.getElem?_append_right (by simp; omega), List.getElem?_append_left (by simp; omega)]
                            rw [List.getElem_append_right (by omega)]
                            simp only [List.length_take, Array.length_toList]
                            rw [← List.getElem?_eq_getElem]
                            congr 1
                            omega
                        · rw [hflat] at hp
                          exact hrel p c _ hp (List.getElem?_eq_getElem _))
                    rw [hlen] at hres
                    exact hres
                  · exact grows t' _ (by omega) (by simp) (fun i hi _ => List.getElem?_set_ne (Ne.symm hi)) (List.getElem?_set_self (List.getElem?_eq_some_iff.1 hσ).1) (tok_loc hS hσ) (fun cs e => by have := (hS.res _ _ e).2.2 cs rfl; rw [hσ] at this; cases this)
                      (fun b n c' e => by rw [g1] at e; cases e; omega)
                · cases h
              · cases h
            · cases h
        · cases h
end Go.Am
namespace Go.Am
variable {P : Program} {hh : String → Bool} {G : Gh} {w : World} {σ σ' : St} {env : Env}
theorem apref_sound {t ty e : TypeId} {i : TypeInfo} {z : Value} {sz bytes : Nat} {x y r : AV} {u v : Value} (ht : P.underlying t = some (.slice e)) (hi : P.info? e = some i) (hz : i.zero = some z)
  (hzs : z.cells.size = i.size) (hsz : i.size = sz) (hby : i.bytes = bytes) (h0 : 0 < sz) (hS : RelS P hh G w σ) (hx : RelV G w x u) (hy : RelV G w y v) (h : aprefAV sz bytes σ x y = some (r, σ')) :
  ∃ w' G' q, (Builtin.append_ #[t, t] ty #[u, v]).run P w = .ok q w' ∧ RelV G' w' r q ∧ RelS P hh G' w' σ' ∧ Evo G w G' w' := by
 subst hby
 cases x <;> try (simp [aprefAV] at h; done)
 case lit xs full tk =>
  obtain ⟨base, cap, rfl, htk, hbn⟩ := lit_slice hx
  cases hv : view σ y with
  | none => simp [aprefAV, hv] at h
  | some ys =>
   simp only [aprefAV, hv] at h
   split at h
   ·rename_i hy0
    cases h
    have : ys = [] := List.eq_nil_of_length_eq_zero hy0
    subst this
    obtain ⟨b2, c2, rfl⟩ := view_empty hy hv
    exact ⟨w, G, _, run_append_zero ht hi htk.1, hx, hS, .refl _ _⟩
   ·rename_i hy0
    split at h
    ·rename_i hcond
     cases h
     simp only [Bool.and_eq_true, decide_eq_true_eq] at hcond
     obtain ⟨⟨⟨⟨hfull, c1⟩, hall⟩, c4⟩, c5⟩ := hcond
     obtain ⟨c2, c3⟩ := allCells_append.1 hall
     obtain ⟨base', cap', olds, e1, ol, oc, orr, o1⟩ := view_sound (y := .lit xs full tk) h0 hS hx rfl rfl c2
     cases e1
     obtain ⟨b2, cap2, news, rfl, nl, nc, nr, n1⟩ := view_sound h0 hS hy hv c1 c3
     obtain ⟨a2, rfl, hnews⟩ := nc (fun e => by rw [e] at hy0; exact hy0 rfl)
     have hm : 0 < ys.length := Nat.pos_of_ne_zero hy0
     have hflat : (xs ++ ys).flatMap AV.cells = xs.flatMap AV.cells ++ ys.flatMap AV.cells := List.flatMap_append
     have hrel := get_append_rel (G := G) (w := w) (az := xs.flatMap AV.cells) (bs := ys.flatMap AV.cells) (us := olds) (vs := news) (by rw [ol, flat_length c2]) orr nr
     have hcap : cap = xs.length := htk.2.1 hfull
     obtain ⟨c', vs, hrun, hc', hvs, hget⟩ := run_append_new (P := P) (w := w) (ty := ty) (olds := olds) (news := news) (c2 := cap2) ht hi hz hzs htk.1 hbn (by rw [ol, hsz])
      (fun a ha j uu hj => by
       by_cases hxs : xs = []
       ·subst hxs
        have : olds = [] := List.eq_nil_of_length_eq_zero (by simpa using ol)
        rw [this] at hj
        simp at hj
       ·obtain ⟨a', ha', q⟩ := oc hxs
        rw [ha] at ha'
        cases ha'
        exact q j uu hj) (by rw [nl, hsz]) hnews hm (by omega) c4 c5
     rw [hsz] at hvs hget
     have hfl : ((xs ++ ys).flatMap AV.cells).length = (xs.length + ys.length) * sz := by rw [flat_length hall, List.length_append]
     obtain ⟨r1, r2⟩ := newCells (hS.drew) (cs := (xs ++ ys).flatMap AV.cells) (vs := vs) (T := e) (by rw [hvs, hfl]; exact Nat.mul_le_mul_right _ hc') (fun p c q hp hq => by
      have hp' : p < (xs.length + ys.length) * sz := by rw [← hfl]; exact (List.getElem?_eq_some_iff.1 hp).1
      rw [hget p hp'] at hq
      rw [hflat] at hp
      exact (hrel p c q hp hq).mono evo_drew)
     exact ⟨_, _, _, hrun, .ref (b := w.heap.size) (withLoc_self (G := G)) (fun _ => rfl) hc' (fun e => by cases e), r1, evo_drew.trans r2⟩
    ·cases h
theorem set_self {σ : St} {id : Nat} {x : ABlk} (h : σ[id]? = some x) : σ.set id x = σ := by
 apply List.ext_getElem?
 intro i
 by_cases hi : i = id
 ·subst hi
  rw [List.getElem?_set_self (List.getElem?_eq_some_iff.1 h).1, h]
 ·rw [List.getElem?_set_ne (Ne.symm hi)]
theorem take_flat {sz : Nat} : ∀ {ys : List AV} {n : Nat}, allCells sz ys = true → (ys.take n).flatMap AV.cells = (ys.flatMap AV.cells).take (Nat.min ys.length n * sz)
 | [], n, _ => by simp
 | y :: ys, 0, _ => by simp [Nat.min]
 | y :: ys, n + 1, h => by
  obtain ⟨h1, h2⟩ := allCells_cons h
  have hm : Nat.min (ys.length + 1) (n + 1) = Nat.min ys.length n + 1 := by show min _ _ = min _ _ + 1; omega
  simp only [List.take_succ_cons, List.flatMap_cons, List.length_cons, hm]
  rw [take_flat h2, Nat.add_mul, Nat.one_mul, Nat.add_comm, ← h1.1, List.take_length_add_append, h1.1]
theorem copy_sound {dT sT ty e : TypeId} {sz : Nat} {x y r : AV} {u v : Value} (ht : P.underlying dT = some (.slice e)) (hs : sizeT P e = some sz)
  (hS : RelS P hh G w σ) (hx : RelV G w x u) (hy : RelV G w y v) (h : copyAV sz σ x y = some (r, σ')) :
  ∃ w' G' q, (Builtin.copy_ #[dT, sT] ty #[u, v]).run P w = .ok q w' ∧ RelV G' w' r q ∧ RelS P hh G' w' σ' ∧ Evo G w G' w' := by
 obtain ⟨hrs, h0, _⟩ := run_sizeOf hs w
 cases x <;> try (simp [copyAV] at h; done)
 case ref id off len sz' =>
  cases hv : view σ y with
  | none => simp [copyAV, hv] at h
  | some ys =>
   simp only [copyAV, hv] at h
   split at h
   ·rename_i hcond
    simp only [Bool.and_eq_true, decide_eq_true_eq] at hcond
    obtain ⟨⟨rfl, c1⟩, c2⟩ := hcond
    split at h
    ·rename_i cs hcs
     split at h
     ·rename_i cs' hset
      cases h
      cases hx with
      | ref hl hb hcap hn =>
       rename_i b base cap
       obtain ⟨b2, cap2, us, rfl, ul, uc, ur, u1⟩ := view_sound h0 hS hy hv c1 c2
       have hfirst : (Builtin.firstCells sz' (Nat.min ys.length len) (.slice b2 ys.length cap2)).run P w = .ok (us.take (Nat.min ys.length len * sz')).toArray w := by
        have hle : Nat.min ys.length len * sz' ≤ us.length := by rw [ul]; exact Nat.mul_le_mul_right _ (Nat.min_le_left _ _)
        by_cases hne : ys = []
        ·subst hne
         have : us = [] := List.eq_nil_of_length_eq_zero (by simpa using ul)
         subst this
         cases b2 <;> simp [Builtin.firstCells, loadCells, loadCellsFrom, Nat.min]
        ·obtain ⟨a, rfl, hcell⟩ := uc hne
         exact run_firstCells_some w _ _ a _ _ _ (by simp; omega) fun j q hj => hcell j q (by rw [List.getElem?_take] at hj; split at hj <;> simp_all)
       have hrun0 : ∀ w', (match base with | some a => (storeCells a (us.take (Nat.min ys.length len * sz'))).run P w = .ok () w' | none => w' = w) →
         (Builtin.copy_ #[dT, sT] ty #[.slice base len cap, .slice b2 ys.length cap2]).run P w = .ok (goInt (Nat.min ys.length len)) w' := by
        intro w' hw'
        cases base with
        | none =>
         simp only at hw'
         subst hw'
         simp [Builtin.copy_, run_underlying ht, Builtin.lenOf, hrs, hfirst]
        | some a =>
         simp only at hw'
         simp [Builtin.copy_, run_underlying ht, Builtin.lenOf, hrs, hfirst, hw']
       by_cases hlen : len = 0
       ·subst hlen
        have e0 : Nat.min ys.length 0 * sz' = 0 := by simp [Nat.min]
        have hz : cs' = cs := by
         obtain ⟨_, q2, _⟩ := setCells_spec hset
         simpa using q2
        subst hz
        have hσ : σ.set id (.cells cs') = σ := by
         unfold cellsAt at hcs
         split at hcs
         ·rename_i ds he; cases hcs; exact set_self he
         ·cases hcs
        refine ⟨w, G, _, hrun0 w ?_, ?_, by rw [hσ]; exact hS, .refl _ _⟩
        ·cases base with
         | none => rfl
         | some a => rw [e0]; rfl
        ·exact .int _ _
       ·have hbs := hb hlen
        subst hbs
        have hz : ((ys.take len).flatMap AV.cells).length = Nat.min ys.length len * sz' := by
         rw [take_flat c2, List.length_take, flat_length c2]
         have : Nat.min ys.length len * sz' ≤ ys.length * sz' := Nat.mul_le_mul_right _ (Nat.min_le_left _ _)
         omega
        obtain ⟨w', e1, e2, e3⟩ := setCells_sound (P := P) (us := us.take (Nat.min ys.length len * sz')) hS hl hcs hset
         (by
          rw [hz, List.length_take, ul]
          have : Nat.min ys.length len * sz' ≤ ys.length * sz' := Nat.mul_le_mul_right _ (Nat.min_le_left _ _)
          omega)
         (fun p c q hp hq => by
          rw [take_flat c2, List.getElem?_take] at hp
          rw [List.getElem?_take] at hq
          by_cases hlt : p < Nat.min ys.length len * sz'
          ·rw [if_pos hlt] at hp hq
           exact ur p c q hp hq
          ·rw [if_neg hlt] at hp
           cases hp)
         (fun q hq => u1 q (List.mem_of_mem_take hq))
        exact ⟨w', G, _, hrun0 w' e1, .int _ _, e2, e3⟩
     ·cases h
    ·cases h
   ·cases h
theorem eqCell_spec {sk : SK} {a b : AV} {u v : Value} {r : Bool} (ha : RelV G w a u) (hb : RelV G w b v) (h : eqCell sk a b = some r) :
  (sk = .i ∧ ∃ k x y, u = .int k x ∧ v = .int k y ∧ r = (x == y)) ∨ (sk = .b ∧ ∃ x y, u = .bool x ∧ v = .bool y ∧ r = (x == y)) ∨ (sk = .s ∧ ∃ x y, u = .string x ∧ v = .string y ∧ r = (x.toList == y.toList)) := by
 unfold eqCell at h
 split at h
 ·split at h
  ·rename_i hk
   subst hk
   cases h
   cases ha
   cases hb
   exact .inl ⟨rfl, _, _, _, rfl, rfl, rfl⟩
  ·cases h
 ·cases h
  cases ha
  cases hb
  exact .inr (.inl ⟨rfl, _, _, rfl, rfl, rfl⟩)
 ·cases h
  cases ha
  cases hb
  exact .inr (.inr ⟨rfl, _, _, rfl, rfl, rfl⟩)
 ·cases h
theorem bloop (bs : ByteArray) (n i : Nat) (r : List UInt8) (h : bs.size - i = n) : ByteArray.toList.loop bs i r = r.reverse ++ bs.data.toList.drop i := by
 induction n generalizing i r with
 | zero =>
  rw [ByteArray.toList.loop]
  have : ¬ i < bs.size := by omega
  rw [if_neg this, List.drop_eq_nil_of_le (by simp; show bs.size ≤ i; omega)]
  simp
 | succ n ih =>
  rw [ByteArray.toList.loop]
  have hi : i < bs.size := by omega
  have hi' : i < bs.data.toList.length := by simpa using hi
  rw [if_pos hi, ih (i + 1) _ (by omega), List.drop_eq_getElem_cons hi']
  have : bs.get! i = bs.data.toList[i] := by
   simp [ByteArray.get!, getElem!_pos, hi]
  simp [this]
theorem bytes_toList (bs : ByteArray) : bs.toList = bs.data.toList := by
 unfold ByteArray.toList
 rw [bloop bs _ 0 [] rfl]
 simp
theorem bytes_eq (x y : ByteArray) : (x == y) = (x.toList == y.toList) := by
 show ByteArray.beq x y = _
 rw [bytes_toList, bytes_toList]
 rcases x with ⟨⟨x⟩⟩
 rcases y with ⟨⟨y⟩⟩
 simp only [ByteArray.beq]
 rw [Bool.eq_iff_iff]
 simp
end Go.Am
namespace Go.Am
variable {P : Program} {hh : String → Bool} {G : Gh} {w : World} {σ σ' : St} {env : Env}
def CellsOf (P : Program) (G : Gh) (w : World) (t : TypeId) (x : Value) (az : List AV) : Prop :=
 match isAggT P t with
 | some true => ∃ vs, x = .agg vs ∧ vs.size = az.length ∧ ∀ (i : Nat) (a : AV) (v : Value), az[i]? = some a → vs[i]? = some v → RelV G w a v
 | _ => ∃ a, az = [a] ∧ RelV G w a x
theorem eqCells_length : ∀ {ks : List SK} {az bs : List AV} {r : Bool}, eqCells ks az bs = some r → az.length = ks.length ∧ bs.length = ks.length
 | [], [], [], _, _ => ⟨rfl, rfl⟩
 | k :: ks, a :: az, b :: bs, r, h => by
  simp only [eqCells] at h
  split at h
  ·rename_i p q h1 h2
   obtain ⟨e1, e2⟩ := eqCells_length h2
   simp [e1, e2]
  ·cases h
 | [], _ :: _, _, _, h => by simp [eqCells] at h
 | [], [], _ :: _, _, h => by simp [eqCells] at h
 | _ :: _, [], _, _, h => by simp [eqCells] at h
 | _ :: _, _ :: _, [], _, h => by simp [eqCells] at h
theorem eqCells_append : ∀ {k1 k2 : List SK} {a1 b1 a2 b2 : List AV} {r : Bool}, a1.length = k1.length → b1.length = k1.length → eqCells (k1 ++ k2) (a1 ++ a2) (b1 ++ b2) = some r →
  ∃ r1 r2, eqCells k1 a1 b1 = some r1 ∧ eqCells k2 a2 b2 = some r2 ∧ r = (r1 && r2)
 | [], k2, [], [], a2, b2, r, _, _, h => ⟨true, r, rfl, h, by simp⟩
 | k :: k1, k2, a :: a1, b :: b1, a2, b2, r, hl, hl', h => by
  simp only [List.cons_append, eqCells] at h
  cases hp : eqCell k a b with
  | none => simp [hp] at h
  | some p =>
   cases hq : eqCells (k1 ++ k2) (a1 ++ a2) (b1 ++ b2) with
   | none => simp [hp, hq] at h
   | some q =>
    simp only [hp, hq, Option.some.injEq] at h
    obtain ⟨r1, r2, e1, e2, rfl⟩ := eqCells_append (by simpa using hl) (by simpa using hl') hq
    exact ⟨p && r1, r2, by simp [eqCells, hp, e1], e2, by rw [← h, Bool.and_assoc]⟩
 | [], k2, a :: a1, _, a2, b2, r, hl, _, h => by simp at hl
 | [], k2, [], b :: b1, a2, b2, r, _, hl, h => by simp at hl
 | k :: k1, k2, [], _, a2, b2, r, hl, _, h => by simp at hl
 | k :: k1, k2, a :: a1, [], a2, b2, r, _, hl, h => by simp at hl
theorem run_sizeOf' {t : TypeId} {i : TypeInfo} (h : P.info? t = some i) (w : World) : (sizeOf t).run P w = .ok i.size w := by simp [sizeOf, typeInfo, h]
theorem part_cells {t : TypeId} {off : Nat} {b : Bool} {i : TypeInfo} {vs : Array Value} {az : List AV} (hi : P.info? t = some i) (ha : isAggT P t = some b) (hb : b = false → i.size = 1) (hl : vs.size = az.length)
  (hr : ∀ (i : Nat) (a : AV) (v : Value), az[i]? = some a → vs[i]? = some v → RelV G w a v) (hle : off + i.size ≤ az.length) :
  ∃ u, (part t vs off).run P w = .ok u w ∧ CellsOf P G w t u ((az.drop off).take i.size) := by
 cases b with
 | true =>
  refine ⟨.agg (vs.extract off (off + i.size)), by simp [part, run_isAgg ha, run_sizeOf' hi], ?_⟩
  simp only [CellsOf, ha]
  refine ⟨_, rfl, by simp; omega, fun j a v h1 h2 => ?_⟩
  rw [List.getElem?_take] at h1
  split at h1
  ·rw [List.getElem?_drop] at h1
   refine hr _ a v h1 ?_
   rw [Array.getElem?_extract] at h2
   split at h2
   ·exact h2
   ·cases h2
  ·cases h1
 | false =>
  have hn := hb rfl
  have h1 : off < vs.size := by omega
  refine ⟨vs[off], by simp [part, run_isAgg ha, Array.getElem?_eq_getElem h1], ?_⟩
  simp only [CellsOf, ha, hn]
  have h2 : off < az.length := by omega
  refine ⟨az[off], ?_, hr off _ _ (List.getElem?_eq_getElem h2) (Array.getElem?_eq_getElem h1)⟩
  rw [List.drop_eq_getElem_cons h2, List.take_succ_cons, List.take_zero]
theorem plain_isAgg {D : Nat} {t : TypeId} {ks : List SK} (h : plainT P D t = some ks) : ∃ b, isAggT P t = some b ∧ (b = false → ks.length = 1) := by
 cases D with
 | zero => simp [plainT] at h
 | succ D =>
  simp only [plainT] at h
  unfold isAggT
  cases hu : P.underlying t with
  | none => simp [hu] at h
  | some d =>
   cases d <;> simp only [hu] at h <;> first | (cases h; done) | skip
   ·cases h; exact ⟨false, rfl, fun _ => rfl⟩
   ·cases h; exact ⟨false, rfl, fun _ => rfl⟩
   ·cases h; exact ⟨false, rfl, fun _ => rfl⟩
   ·exact ⟨true, rfl, fun e => by cases e⟩
   ·exact ⟨true, rfl, fun e => by cases e⟩
structure EqOk (P : Program) (D : Nat) (t : TypeId) (ks : List SK) : Prop where
 eq : ∀ (G : Gh) (w : World) (d : Nat), D ≤ d → ∀ (x y : Value) (az bs : List AV) (r : Bool), CellsOf P G w t x az → CellsOf P G w t y bs → eqCells ks az bs = some r →
  (Op.equalIn d t x y).run P w = .ok r w
 key : ∀ (G : Gh) (w : World) (d : Nat), D ≤ d → ∀ (em : Bool) (x : Value) (az : List AV), CellsOf P G w t x az → az.length = ks.length → (Instr.checkKey em d t x).run P w = .ok () w
def eachField (em : Bool) (d : Nat) (xs : Array Value) : List Field → Sem Unit
 | [] => pure ()
 | f :: fs => do
  if f.name ≠ "_" then do
   let a ← part f.type xs f.offset
   Instr.checkKey em d f.type a
   eachField em d xs fs
  else eachField em d xs fs
structure FieldsOk (P : Program) (D : Nat) (fs : List Field) (n : Nat) (ks : List SK) : Prop where
 eq : ∀ (G : Gh) (w : World) (d : Nat), D ≤ d → ∀ (xs ys : Array Value) (az bs : List AV) (r : Bool), xs.size = az.length → ys.size = bs.length → n + ks.length ≤ az.length → n + ks.length ≤ bs.length →
  (∀ (i : Nat) (a : AV) (v : Value), az[i]? = some a → xs[i]? = some v → RelV G w a v) → (∀ (i : Nat) (a : AV) (v : Value), bs[i]? = some a → ys[i]? = some v → RelV G w a v) →
  eqCells ks ((az.drop n).take ks.length) ((bs.drop n).take ks.length) = some r → (Op.eqFields d xs ys fs).run P w = .ok r w
 key : ∀ (G : Gh) (w : World) (d : Nat), D ≤ d → ∀ (em : Bool) (xs : Array Value) (az : List AV), xs.size = az.length → n + ks.length ≤ az.length →
  (∀ (i : Nat) (a : AV) (v : Value), az[i]? = some a → xs[i]? = some v → RelV G w a v) → (eachField em d xs fs).run P w = .ok () w
theorem run_checkKey_struct (em : Bool) (d : Nat) (t : TypeId) (xs : Array Value) {fs : Array Field} (ht : P.underlying t = some (.struct fs)) (w : World) :
  (Instr.checkKey em (d + 1) t (.agg xs)).run P w = (eachField em d xs fs.toList).run P w := by
 simp only [Instr.checkKey, Sem.run_bind, run_underlying ht, Result.andThen_ok]
 rw [← Array.forIn_toList]
 generalize fs.toList = l
 clear ht
 induction l generalizing w with
 | nil => simp [eachField]
 | cons f l ih =>
  simp only [List.forIn_cons, eachField, Sem.run_bind, Sem.run_ite]
  split
  ·generalize (part f.type xs f.offset).run P w = r1
   cases r1 with
   | ok a w1 =>
    simp only [Result.andThen_ok]
    generalize (Instr.checkKey em d f.type a).run P w1 = r2
    cases r2 with
    | ok b w2 => simp only [Result.andThen_ok, Sem.run_pure]; exact ih w2
    | halt x w2 => simp [Result.andThen]
   | halt x w1 => simp [Result.andThen]
  ·simp only [Sem.run_pure, Result.andThen_ok]
   exact ih w
def eachItem (em : Bool) (d : Nat) (e : TypeId) (c : Nat) (xs : Array Value) : List Nat → Sem Unit
 | [] => pure ()
 | i :: is => do
  let a ← part e xs (i * c)
  Instr.checkKey em d e a
  eachItem em d e c xs is
theorem run_checkKey_array (em : Bool) (d : Nat) {t e : TypeId} {n : Nat} {i : TypeInfo} (xs : Array Value) (hu : P.underlying t = some (.array n e)) (hi : P.info? e = some i) (w : World) :
  (Instr.checkKey em (d + 1) t (.agg xs)).run P w = (eachItem em d e i.size xs (List.range n)).run P w := by
 simp only [Instr.checkKey, Sem.run_bind, run_underlying hu, Result.andThen_ok]
 simp only [Std.Legacy.Range.forIn_eq_forIn_range', Std.Legacy.Range.size, Nat.sub_zero, Nat.add_one_sub_one, Nat.div_one, List.range_eq_range']
 generalize List.range' 0 n = is
 induction is generalizing w with
 | nil => simp [eachItem]
 | cons j is ih =>
  simp only [List.forIn_cons, eachItem, Sem.run_bind, run_sizeOf' hi, Result.andThen_ok]
  generalize (part e xs (j * i.size)).run P w = r1
  cases r1 with
  | ok a w1 =>
   simp only [Result.andThen_ok]
   generalize (Instr.checkKey em d e a).run P w1 = r2
   cases r2 with
   | ok b w2 => simp only [Result.andThen_ok, Sem.run_pure]; exact ih w2
   | halt x w2 => simp [Result.andThen]
  | halt x w1 => simp [Result.andThen]
theorem items_eq {D d c : Nat} {e : TypeId} {ks : List SK} {i : TypeInfo} (hE : EqOk P D e ks) (hd : D ≤ d) (hi : P.info? e = some i) (hc : i.size = ks.length) (hag : ∃ b, isAggT P e = some b ∧ (b = false → ks.length = 1))
  {xs ys : Array Value} {az bs : List AV} (h1 : xs.size = az.length) (h2 : ys.size = bs.length) (h3 : ∀ (i : Nat) (a : AV) (v : Value), az[i]? = some a → xs[i]? = some v → RelV G w a v)
  (h4 : ∀ (i : Nat) (a : AV) (v : Value), bs[i]? = some a → ys[i]? = some v → RelV G w a v) : ∀ (k s : Nat) (r : Bool), (s + k) * ks.length ≤ az.length → (s + k) * ks.length ≤ bs.length →
  eqCells (List.replicate k ks).flatten ((az.drop (s * ks.length)).take (k * ks.length)) ((bs.drop (s * ks.length)).take (k * ks.length)) = some r →
  (Op.eqItems d e ks.length xs ys (List.range' s k)).run P w = .ok r w
 | 0, s, r, _, _, h => by
  simp [eqCells] at h
  simp [Op.eqItems, h]
 | k + 1, s, r, ha, hb, h => by
  obtain ⟨b, hb1, hb2⟩ := hag
  have split : ∀ l : List AV, (l.drop (s * ks.length)).take ((k + 1) * ks.length) = (l.drop (s * ks.length)).take ks.length ++ (l.drop ((s + 1) * ks.length)).take (k * ks.length) := by
   intro l
   rw [Nat.add_mul, Nat.one_mul, Nat.add_comm (k * ks.length), List.take_add, List.drop_drop, Nat.add_mul, Nat.one_mul]
  have hle : s * ks.length + ks.length ≤ (s + (k + 1)) * ks.length := by
   rw [show s + (k + 1) = (s + 1) + k from by omega, Nat.add_mul (s + 1), Nat.add_mul s, Nat.one_mul]; omega
  rw [List.replicate_succ, List.flatten_cons, split az, split bs] at h
  obtain ⟨r1, r2, e1, e2, rfl⟩ := eqCells_append (by simp; omega) (by simp; omega) h
  obtain ⟨a, p1, c1⟩ := part_cells (off := s * ks.length) hi hb1 (fun e => by rw [hc]; exact hb2 e) h1 h3 (by rw [hc]; omega)
  obtain ⟨b', p2, c2⟩ := part_cells (off := s * ks.length) hi hb1 (fun e => by rw [hc]; exact hb2 e) h2 h4 (by rw [hc]; omega)
  rw [hc] at c1 c2
  have p3 := hE.eq G w d hd a b' _ _ r1 c1 c2 e1
  have ih := items_eq (c := c) hE hd hi hc ⟨b, hb1, hb2⟩ h1 h2 h3 h4 k (s + 1) r2 (by rw [show s + 1 + k = s + (k + 1) from by omega]; exact ha) (by rw [show s + 1 + k = s + (k + 1) from by omega]; exact hb) e2
  simp only [List.range'_succ, Op.eqItems, Sem.run_bind, p1, p2, p3, Result.andThen_ok]
  cases r1
  ·simp
  ·simpa using ih
theorem items_key {D d : Nat} {e : TypeId} {ks : List SK} {i : TypeInfo} (em : Bool) (hE : EqOk P D e ks) (hd : D ≤ d) (hi : P.info? e = some i) (hc : i.size = ks.length) (hag : ∃ b, isAggT P e = some b ∧ (b = false → ks.length = 1))
  {xs : Array Value} {az : List AV} (h1 : xs.size = az.length) (h3 : ∀ (i : Nat) (a : AV) (v : Value), az[i]? = some a → xs[i]? = some v → RelV G w a v) : ∀ (k s : Nat), (s + k) * ks.length ≤ az.length →
  (eachItem em d e ks.length xs (List.range' s k)).run P w = .ok () w
 | 0, s, _ => by simp [eachItem]
 | k + 1, s, ha => by
  obtain ⟨b, hb1, hb2⟩ := hag
  have hle : s * ks.length + ks.length ≤ (s + (k + 1)) * ks.length := by
   rw [show s + (k + 1) = (s + 1) + k from by omega, Nat.add_mul (s + 1), Nat.add_mul s, Nat.one_mul]; omega
  obtain ⟨a, p1, c1⟩ := part_cells (off := s * ks.length) hi hb1 (fun e => by rw [hc]; exact hb2 e) h1 h3 (by rw [hc]; omega)
  rw [hc] at c1
  have p2 := hE.key G w d hd em a _ c1 (by simp; omega)
  have ih := items_key em hE hd hi hc ⟨b, hb1, hb2⟩ h1 h3 k (s + 1) (by rw [show s + 1 + k = s + (k + 1) from by omega]; exact ha)
  simp only [List.range'_succ, eachItem, Sem.run_bind, p1, p2, Result.andThen_ok]
  exact ih
theorem flat_rep (n : Nat) (ks : List SK) : (List.replicate n ks).flatten.length = n * ks.length := by
 induction n with
 | zero => simp
 | succ n ih => rw [List.replicate_succ, List.flatten_cons, List.length_append, ih, Nat.add_mul]; omega
theorem eq_ok (D : Nat) : (∀ t ks, plainT P D t = some ks → EqOk P D t ks) ∧ (∀ fs n ks, plainFields P D fs n = some ks → FieldsOk P D fs n ks) := by
 induction D with
 | zero => exact ⟨fun t ks h => by simp [plainT] at h, fun fs n ks h => by simp [plainFields] at h⟩
 | succ D ih =>
  obtain ⟨ihA, ihB⟩ := ih
  constructor
  ·intro t ks h
   obtain ⟨ab, hab, _⟩ := plain_isAgg h
   simp only [plainT] at h
   cases hu : P.underlying t with
   | none => simp [hu] at h
   | some dd =>
    have scal : ∀ {k : SK}, ks = [k] → isAggT P t = some false → (∀ (k' : IntKind), dd = .int k' → k = .i) → (dd = .bool → k = .b) → (dd = .string → k = .s) → (dd = .bool ∨ (∃ k', dd = .int k') ∨ dd = .string) → EqOk P (D + 1) t ks := by
     intro k hk hag q1 q2 q3 hdd
     subst hk
     constructor
     ·intro G w d hd x y az bs r hx hy he
      obtain ⟨d, rfl⟩ : ∃ e, d = e + 1 := ⟨d - 1, by omega⟩
      simp only [CellsOf, hag] at hx hy
      obtain ⟨a, rfl, ra⟩ := hx
      obtain ⟨b, rfl, rb⟩ := hy
      simp only [eqCells] at he
      cases hc : eqCell k a b with
      | none => simp [hc] at he
      | some q =>
       simp only [hc, Bool.and_true, Option.some.injEq] at he
       subst he
       rcases hdd with rfl | ⟨k', rfl⟩ | rfl
       ·have := q2 rfl; subst this
        rcases eqCell_spec ra rb hc with ⟨e, _⟩ | ⟨_, p1, p2, rfl, rfl, rfl⟩ | ⟨e, _⟩
        ·cases e
        ·exact run_equalIn_bool' w d t p1 p2 hu
        ·cases e
       ·have := q1 k' rfl; subst this
        rcases eqCell_spec ra rb hc with ⟨_, kk, p1, p2, rfl, rfl, rfl⟩ | ⟨e, _⟩ | ⟨e, _⟩
        ·exact run_equalIn_int w d t kk k' p1 p2 hu
        ·cases e
        ·cases e
       ·have := q3 rfl; subst this
        rcases eqCell_spec ra rb hc with ⟨e, _⟩ | ⟨e, _⟩ | ⟨_, p1, p2, rfl, rfl, rfl⟩
        ·cases e
        ·cases e
        ·exact run_equalIn_string w d t p1 p2 hu
     ·intro G w d hd em x az hx _
      obtain ⟨d, rfl⟩ : ∃ e, d = e + 1 := ⟨d - 1, by omega⟩
      rcases hdd with rfl | ⟨k', rfl⟩ | rfl <;> simp [Instr.checkKey, run_underlying hu]
    cases dd <;> simp only [hu] at h <;> first | (cases h; done) | skip
    case bool => cases h; exact scal rfl (by simp [isAggT, hu]) (fun _ e => by cases e) (fun _ => rfl) (fun e => by cases e) (.inl rfl)
    case int k => cases h; exact scal rfl (by simp [isAggT, hu]) (fun _ _ => rfl) (fun e => by cases e) (fun e => by cases e) (.inr (.inl ⟨_, rfl⟩))
    case string => cases h; exact scal rfl (by simp [isAggT, hu]) (fun _ e => by cases e) (fun e => by cases e) (fun _ => rfl) (.inr (.inr rfl))
    case array n e =>
     have hag : isAggT P t = some true := by simp [isAggT, hu]
     cases hp : plainT P D e with
     | none => simp [hp] at h
     | some k0 =>
      cases hi : P.info? e with
      | none => simp [hp, hi] at h
      | some i =>
       simp only [hp, hi] at h
       split at h
       ·rename_i hc
        cases h
        have hE := ihA e k0 hp
        have hpa := plain_isAgg hp
        constructor
        ·intro G w d hd x y az bs r hx hy he
         obtain ⟨d, rfl⟩ : ∃ e, d = e + 1 := ⟨d - 1, by omega⟩
         simp only [CellsOf, hag] at hx hy
         obtain ⟨xs, rfl, sx, rx⟩ := hx
         obtain ⟨ys, rfl, sy, ry⟩ := hy
         obtain ⟨l1, l2⟩ := eqCells_length he
         rw [flat_rep] at l1 l2
         have hcc : P.cellsOf e = k0.length := by simp [Program.cellsOf, hi, hc]
         rw [run_equalIn_array w d xs ys hu hi, hcc, List.range_eq_range']
         refine items_eq (c := 0) hE (by omega) hi hc hpa sx sy rx ry n 0 r (by rw [Nat.zero_add]; omega) (by rw [Nat.zero_add]; omega) ?_
         rw [Nat.zero_mul, List.drop_zero, List.drop_zero, List.take_of_length_le (by omega), List.take_of_length_le (by omega)]
         exact he
        ·intro G w d hd em x az hx hl
         obtain ⟨d, rfl⟩ : ∃ e, d = e + 1 := ⟨d - 1, by omega⟩
         simp only [CellsOf, hag] at hx
         obtain ⟨xs, rfl, sx, rx⟩ := hx
         rw [flat_rep] at hl
         rw [run_checkKey_array em d xs hu hi, hc, List.range_eq_range']
         exact items_key em hE (by omega) hi hc hpa sx rx n 0 (by rw [Nat.zero_add]; omega)
       ·cases h
    case struct fs =>
     have hag : isAggT P t = some true := by simp [isAggT, hu]
     split at h
     ·cases h
     ·rename_i hst
      have hst' : P.stoodInHeld t = false := by simpa using hst
      have hF := ihB _ _ _ h
      have hfs : P.fieldsOf t = fs := by simp [Program.fieldsOf, hu]
      constructor
      ·intro G w d hd x y az bs r hx hy he
       obtain ⟨d, rfl⟩ : ∃ e, d = e + 1 := ⟨d - 1, by omega⟩
       simp only [CellsOf, hag] at hx hy
       obtain ⟨xs, rfl, sx, rx⟩ := hx
       obtain ⟨ys, rfl, sy, ry⟩ := hy
       obtain ⟨l1, l2⟩ := eqCells_length he
       rw [run_equalIn_struct w d t xs ys (by rw [hfs]; exact hu) hst', hfs]
       refine hF.eq G w d (by omega) xs ys az bs r sx sy (by omega) (by omega) rx ry ?_
       rw [List.drop_zero, List.drop_zero, List.take_of_length_le (by omega), List.take_of_length_le (by omega)]
       exact he
      ·intro G w d hd em x az hx hl
       obtain ⟨d, rfl⟩ : ∃ e, d = e + 1 := ⟨d - 1, by omega⟩
       simp only [CellsOf, hag] at hx
       obtain ⟨xs, rfl, sx, rx⟩ := hx
       rw [run_checkKey_struct em d t xs hu]
       exact hF.key G w d (by omega) em xs az sx (by omega) rx
  ·intro fs n ks h
   cases fs with
   | nil =>
    simp [plainFields] at h
    subst h
    constructor
    ·intro G w d hd xs ys az bs r _ _ _ _ _ _ he
     simp [eqCells] at he
     simp [Op.eqFields, he]
    ·intro G w d hd em xs az _ _ _
     simp [eachField]
   | cons f fs =>
    simp only [plainFields] at h
    split at h
    ·cases h
    ·rename_i hcond
     have hname : f.name ≠ "_" := fun e => hcond (.inl e)
     have hoff : f.offset = n := by
      by_cases e : f.offset = n
      ·exact e
      ·exact absurd (.inr e) hcond
     cases hp : plainT P D f.type with
     | none => simp [hp] at h
     | some k0 =>
      cases hi : P.info? f.type with
      | none => simp [hp, hi] at h
      | some i =>
       simp only [hp, hi] at h
       split at h
       ·rename_i hc
        cases hr : plainFields P D fs (n + k0.length) with
        | none => simp [hr] at h
        | some kr =>
         simp only [hr, Option.some.injEq] at h
         subst h
         have hE := ihA _ _ hp
         have hF := ihB _ _ _ hr
         obtain ⟨b, hb1, hb2⟩ := plain_isAgg hp
         have hoff' : f.offset = n := hoff
         constructor
         ·intro G w d hd xs ys az bs r sx sy lx ly rx ry he
          simp only [List.length_append] at lx ly
          have split : ∀ l : List AV, (l.drop n).take (k0 ++ kr).length = (l.drop n).take k0.length ++ (l.drop (n + k0.length)).take kr.length := by
           intro l
           rw [List.length_append, List.take_add, List.drop_drop]
          rw [split az, split bs] at he
          obtain ⟨r1, r2, e1, e2, rfl⟩ := eqCells_append (by simp; omega) (by simp; omega) he
          obtain ⟨a, p1, c1⟩ := part_cells (off := n) hi hb1 (fun e => by rw [hc]; exact hb2 e) sx rx (by rw [hc]; omega)
          obtain ⟨b', p2, c2⟩ := part_cells (off := n) hi hb1 (fun e => by rw [hc]; exact hb2 e) sy ry (by rw [hc]; omega)
          rw [hc] at c1 c2
          have p3 := hE.eq G w d (by omega) a b' _ _ r1 c1 c2 e1
          have p4 := hF.eq G w d (by omega) xs ys az bs r2 sx sy (by omega) (by omega) rx ry e2
          simp only [Op.eqFields, hname, ne_eq, not_false_eq_true, if_true, Sem.run_bind, hoff', p1, p2, p3, Result.andThen_ok]
          cases r1
          ·simp
          ·simpa using p4
         ·intro G w d hd em xs az sx lx rx
          simp only [List.length_append] at lx
          obtain ⟨a, p1, c1⟩ := part_cells (off := n) hi hb1 (fun e => by rw [hc]; exact hb2 e) sx rx (by rw [hc]; omega)
          rw [hc] at c1
          have p3 := hE.key G w d (by omega) em a _ c1 (by simp; omega)
          have p4 := hF.key G w d (by omega) em xs az sx (by omega) rx
          simp only [eachField, hname, ne_eq, not_false_eq_true, if_true, Sem.run_bind, hoff', p1, p3, Result.andThen_ok]
          exact p4
       ·cases h
end Go.Am
set_option linter.constructorNameAsVariable false
namespace Go.Am
variable {P : Program} {hh : String → Bool} {G : Gh} {w : World} {σ σ' : St} {env : Env}
theorem eqT_cases {t : TypeId} {sh : EqTy} (h : eqT P t = some sh) :
  (∃ k, sh = .one k ∧ plainT P depthT t = some [k] ∧ isAggT P t = some false) ∨ (∃ ks, sh = .agg ks ∧ plainT P depthT t = some ks ∧ isAggT P t = some true ∧ P.eqGuardType P.depth t = false) := by
 unfold eqT at h
 split at h
 ·rename_i k h1 h2; cases h; exact .inl ⟨k, rfl, h1, h2⟩
 ·rename_i ks h1 h2
  split at h
  ·cases h
  ·rename_i hg; cases h; exact .inr ⟨ks, rfl, h1, h2, by simpa using hg⟩
 ·cases h
theorem cellsOf_eq {t : TypeId} {sh : EqTy} {x y : AV} {u v : Value} {r : Bool} (ht : eqT P t = some sh) (hx : RelV G w x u) (hy : RelV G w y v) (h : eqSh sh x y = some r) :
  ∃ ks az bs, plainT P depthT t = some ks ∧ CellsOf P G w t u az ∧ CellsOf P G w t v bs ∧ eqCells ks az bs = some r := by
 rcases eqT_cases ht with ⟨k, rfl, h1, h2⟩ | ⟨ks, rfl, h1, h2, h3⟩
 ·simp only [eqSh] at h
  refine ⟨[k], [x], [y], h1, ?_, ?_, by simp [eqCells, h]⟩
  ·simp only [CellsOf, h2]; exact ⟨x, rfl, hx⟩
  ·simp only [CellsOf, h2]; exact ⟨y, rfl, hy⟩
 ·cases x <;> cases y <;> simp only [eqSh] at h <;> first | (cases h; done) | skip
  rename_i cs ds
  cases hx with
  | agg sx rx =>
   cases hy with
   | agg sy ry =>
    refine ⟨ks, cs, ds, h1, ?_, ?_, h⟩
    ·simp only [CellsOf, h2]; exact ⟨_, rfl, sx, rx⟩
    ·simp only [CellsOf, h2]; exact ⟨_, rfl, sy, ry⟩
theorem equal_run {t : TypeId} {sh : EqTy} {x y : AV} {u v : Value} {r : Bool} (ht : eqT P t = some sh) (hx : RelV G w x u) (hy : RelV G w y v) (h : eqSh sh x y = some r) :
  (Op.equal t u v).run P w = .ok r w := by
 obtain ⟨ks, az, bs, h1, h2, h3, h4⟩ := cellsOf_eq ht hx hy h
 exact ((eq_ok depthT).1 t ks h1).eq G w Op.maxDepth (by decide) u v az bs r h2 h3 h4
theorem eql_run {t : TypeId} {sh : EqTy} {x y : AV} {u v : Value} {r : Bool} (neg : Bool) (xo yo : Operand) (ht : eqT P t = some sh) (hx : RelV G w x u) (hy : RelV G w y v) (h : eqSh sh x y = some r) :
  ((do eqGuard (if neg then .neq else .eql) t xo yo u v; binOp (if neg then .neq else .eql) t u v : Sem Value)).run P w = .ok (.bool (if neg then !r else r)) w := by
 have he := equal_run ht hx hy h
 rcases eqT_cases ht with ⟨k, rfl, h1, h2⟩ | ⟨ks, rfl, h1, h2, h3⟩
 ·simp only [eqSh] at h
  rcases eqCell_spec hx hy h with ⟨rfl, kk, a, b, rfl, rfl, rfl⟩ | ⟨rfl, a, b, rfl, rfl, rfl⟩ | ⟨rfl, a, b, rfl, rfl, rfl⟩
  ·cases neg <;> simp [eqGuard, binOp, Op.intCmp, bne]
  ·cases neg <;> simp [eqGuard, binOp, he]
  ·cases neg <;> simp [eqGuard, binOp, Op.stringOp]
 ·cases x <;> cases y <;> simp only [eqSh] at h <;> first | (cases h; done) | skip
  cases hx with
  | agg sx rx =>
   cases hy with
   | agg sy ry =>
    cases neg <;> simp [eqGuard, binOp, he, h3]
def ixKey (sh : EqTy) (k : AV) : List (AV × AV) → Option (Option Nat)
 | [] => some none
 | (k', _) :: es =>
  match eqSh sh k k' with
  | some true => some (some 0)
  | some false => (ixKey sh k es).map (Option.map (· + 1))
  | none => none
theorem findKey_ix {sh : EqTy} {k : AV} : ∀ {es : List (AV × AV)} {r : Option AV}, findKey sh k es = some r →
  (ixKey sh k es = some none ∧ r = none) ∨ ∃ i k' v, ixKey sh k es = some (some i) ∧ es[i]? = some (k', v) ∧ r = some v ∧ eqSh sh k k' = some true
 | [], r, h => by simp [findKey] at h; exact .inl ⟨rfl, h.symm⟩
 | (k', v) :: es, r, h => by
  simp only [findKey] at h
  split at h
  ·rename_i he
   cases h
   exact .inr ⟨0, k', v, by simp [ixKey, he], rfl, rfl, he⟩
  ·rename_i he
   rcases findKey_ix h with ⟨h1, h2⟩ | ⟨i, k2, v2, h1, h2, h3, h4⟩
   ·exact .inl ⟨by simp [ixKey, he, h1], h2⟩
   ·exact .inr ⟨i + 1, k2, v2, by simp [ixKey, he, h1], by simpa using h2, h3, h4⟩
  ·cases h
theorem setKey_ix {sh : EqTy} {k v : AV} : ∀ {es es' : List (AV × AV)}, setKey sh k v es = some es' →
  (ixKey sh k es = some none ∧ es' = es ++ [(k, v)]) ∨ ∃ i k' v', ixKey sh k es = some (some i) ∧ es[i]? = some (k', v') ∧ es' = es.set i (k, v) ∧ eqSh sh k k' = some true
 | [], es', h => by simp [setKey] at h; exact .inl ⟨rfl, by simp [h]⟩
 | (k', v') :: es, es', h => by
  simp only [setKey] at h
  split at h
  ·rename_i he
   cases h
   exact .inr ⟨0, k', v', by simp [ixKey, he], rfl, rfl, he⟩
  ·rename_i he
   cases hs : setKey sh k v es with
   | none => simp [hs] at h
   | some es2 =>
    simp only [hs, Option.map_some, Option.some.injEq] at h
    subst h
    rcases setKey_ix hs with ⟨h1, h2⟩ | ⟨i, k2, v2, h1, h2, h3, h4⟩
    ·exact .inl ⟨by simp [ixKey, he, h1], by simp [h2]⟩
    ·exact .inr ⟨i + 1, k2, v2, by simp [ixKey, he, h1], by simpa using h2, by simp [h3], h4⟩
  ·cases h
theorem one_desc {t : TypeId} {k : SK} (h1 : plainT P depthT t = some [k]) (h2 : isAggT P t = some false) :
  (k = .i ∧ ∃ q, P.underlying t = some (.int q)) ∨ (k = .b ∧ P.underlying t = some .bool) ∨ (k = .s ∧ P.underlying t = some .string) := by
 unfold isAggT at h2
 rw [show depthT = 59 + 1 from rfl] at h1
 simp only [plainT] at h1
 cases hu : P.underlying t with
 | none => simp [hu] at h2
 | some d =>
  cases d <;> simp only [hu] at h1 h2 <;> first | (cases h1; done) | (simp at h2; done) | skip
  ·cases h1; exact .inr (.inl ⟨rfl, rfl⟩)
  ·cases h1; exact .inl ⟨rfl, _, rfl⟩
  ·cases h1; exact .inr (.inr ⟨rfl, rfl⟩)
theorem agg_desc {t : TypeId} (h2 : isAggT P t = some true) : (∃ fs, P.underlying t = some (.struct fs)) ∨ ∃ n e, P.underlying t = some (.array n e) := by
 unfold isAggT at h2
 cases hu : P.underlying t with
 | none => simp [hu] at h2
 | some d => cases d <;> simp_all
def EntsRel (G : Gh) (w : World) (es : List (AV × AV)) (ents : List MapEntry) : Prop :=
 ents.length = es.length ∧ ∀ (i : Nat) (p : AV × AV) (e : MapEntry), es[i]? = some p → ents[i]? = some e → RelV G w p.1 e.key ∧ RelV G w p.2 e.val
theorem EntsRel.tail {p : AV × AV} {es : List (AV × AV)} {e : MapEntry} {ents : List MapEntry} (h : EntsRel G w (p :: es) (e :: ents)) : EntsRel G w es ents :=
 ⟨by simpa using h.1, fun i q f h1 h2 => h.2 (i + 1) q f (by simpa using h1) (by simpa using h2)⟩
theorem findAsking_run {t : TypeId} {sh : EqTy} {k : AV} {kv : Value} (ht : eqT P t = some sh) (hk : RelV G w k kv) : ∀ {es : List (AV × AV)} {ents : List MapEntry} {r : Option Nat} (base : Nat), EntsRel G w es ents →
  ixKey sh k es = some r → (Instr.findAsking t kv ents base).run P w = .ok (r.bind fun i => (ents[i]?).map fun e => (base + i, e.val)) w
 | [], ents, r, base, hE, h => by
  have : ents = [] := List.eq_nil_of_length_eq_zero hE.1
  subst this
  simp [ixKey] at h
  subst h
  simp [Instr.findAsking]
 | (k', v) :: es, [], r, base, hE, h => by simp [EntsRel] at hE
 | (k', v) :: es, e :: ents, r, base, hE, h => by
  obtain ⟨r1, r2⟩ := hE.2 0 _ _ rfl rfl
  simp only [ixKey] at h
  split at h
  ·rename_i he
   cases h
   have := equal_run ht hk r1 he
   simp [Instr.findAsking, this]
  ·rename_i he
   have hq := equal_run ht hk r1 he
   cases hi : ixKey sh k es with
   | none => simp [hi] at h
   | some r' =>
    simp only [hi, Option.map_some, Option.some.injEq] at h
    subst h
    have ih := findAsking_run ht hk (base + 1) hE.tail hi
    simp only [Instr.findAsking, Sem.run_bind, hq, Result.andThen_ok, Bool.false_eq_true, if_false, ih]
    cases r' with
    | none => rfl
    | some i => simp [Nat.add_assoc, Nat.add_comm 1 i]
  ·cases h
theorem sameNow_spec {t : TypeId} {k : SK} {a b : AV} {u v : Value} {r : Bool} {d : TypeDesc} (hd : (k = .i ∧ ∃ q, d = .int q) ∨ (k = .b ∧ d = .bool) ∨ (k = .s ∧ d = .string)) (ha : RelV G w a u) (hb : RelV G w b v) (h : eqCell k a b = some r) :
  Instr.sameNow d u v = some r := by
 rcases eqCell_spec ha hb h with ⟨rfl, kk, x, y, rfl, rfl, rfl⟩ | ⟨rfl, x, y, rfl, rfl, rfl⟩ | ⟨rfl, x, y, rfl, rfl, rfl⟩
 ·rcases hd with ⟨_, q, rfl⟩ | ⟨e, _⟩ | ⟨e, _⟩
  ·simp [Instr.sameNow]
  ·cases e
  ·cases e
 ·rcases hd with ⟨e, _⟩ | ⟨_, rfl⟩ | ⟨e, _⟩
  ·cases e
  ·simp [Instr.sameNow]
  ·cases e
 ·rcases hd with ⟨e, _⟩ | ⟨e, _⟩ | ⟨_, rfl⟩
  ·cases e
  ·cases e
  ·simp [Instr.sameNow, bytes_eq]
theorem findNow_run {d : TypeDesc} {k : SK} {x : AV} {kv : Value} (hd : (k = .i ∧ ∃ q, d = .int q) ∨ (k = .b ∧ d = .bool) ∨ (k = .s ∧ d = .string)) (hk : RelV G w x kv) :
  ∀ {es : List (AV × AV)} {ents : List MapEntry} {r : Option Nat} (base : Nat), EntsRel G w es ents → ixKey (.one k) x es = some r →
  Instr.findNow d kv ents base = some (r.bind fun i => (ents[i]?).map fun e => (base + i, e.val))
 | [], ents, r, base, hE, h => by
  have : ents = [] := List.eq_nil_of_length_eq_zero hE.1
  subst this
  simp [ixKey] at h
  subst h
  simp [Instr.findNow]
 | (k', v) :: es, [], r, base, hE, h => by simp [EntsRel] at hE
 | (k', v) :: es, e :: ents, r, base, hE, h => by
  obtain ⟨r1, r2⟩ := hE.2 0 _ _ rfl rfl
  simp only [ixKey, eqSh] at h
  split at h
  ·rename_i he
   cases h
   simp [Instr.findNow, sameNow_spec (t := 0) hd hk r1 he]
  ·rename_i he
   cases hi : ixKey (.one k) x es with
   | none => simp [hi] at h
   | some r' =>
    simp only [hi, Option.map_some, Option.some.injEq] at h
    subst h
    have ih := findNow_run hd hk (base + 1) hE.tail hi
    simp only [Instr.findNow, sameNow_spec (t := 0) hd hk r1 he, ih]
    cases r' with
    | none => rfl
    | some i => simp [Nat.add_assoc, Nat.add_comm 1 i]
  ·cases h
theorem findKey_run {t : TypeId} {sh : EqTy} {k : AV} {kv : Value} {es : List (AV × AV)} {ents : List MapEntry} {r : Option Nat} (ht : eqT P t = some sh) (hk : RelV G w k kv) (hE : EntsRel G w es ents)
  (h : ixKey sh k es = some r) : (Instr.findKey t kv ents).run P w = .ok (r.bind fun i => (ents[i]?).map fun e => (i, e.val)) w := by
 rcases eqT_cases ht with ⟨k0, rfl, h1, h2⟩ | ⟨ks, rfl, h1, h2, h3⟩
 ·obtain ⟨d, hu, hd⟩ : ∃ d, P.underlying t = some d ∧ ((k0 = .i ∧ ∃ q, d = .int q) ∨ (k0 = .b ∧ d = .bool) ∨ (k0 = .s ∧ d = .string)) := by
   rcases one_desc h1 h2 with ⟨e, q, hu⟩ | ⟨e, hu⟩ | ⟨e, hu⟩
   ·exact ⟨_, hu, .inl ⟨e, q, rfl⟩⟩
   ·exact ⟨_, hu, .inr (.inl ⟨e, rfl⟩)⟩
   ·exact ⟨_, hu, .inr (.inr ⟨e, rfl⟩)⟩
  have := findNow_run hd hk 0 hE h
  simp only [Nat.zero_add] at this
  simp only [Instr.findKey, Sem.run_bind, run_underlying hu, Result.andThen_ok, this, Sem.run_pure]
 ·obtain ⟨d, hu, hd⟩ : ∃ d, P.underlying t = some d ∧ ∀ a b, Instr.sameNow d a b = none := by
   rcases agg_desc h2 with ⟨fs, hu⟩ | ⟨n, e, hu⟩
   ·exact ⟨_, hu, fun a b => by cases a <;> cases b <;> rfl⟩
   ·exact ⟨_, hu, fun a b => by cases a <;> cases b <;> rfl⟩
  cases ents with
  | nil =>
   have : es = [] := List.eq_nil_of_length_eq_zero hE.1.symm
   subst this
   simp [ixKey] at h
   subst h
   simp [Instr.findKey, run_underlying hu, Instr.findNow]
  | cons e ents =>
   have := findAsking_run (P := P) ht hk 0 hE h
   simp only [Nat.zero_add] at this
   simp only [Instr.findKey, Sem.run_bind, run_underlying hu, Result.andThen_ok, Instr.findNow, hd]
   exact this
theorem checkKey_run {t : TypeId} {sh : EqTy} {k : AV} {kv : Value} (em : Bool) (ht : eqT P t = some sh) (hk : RelV G w k kv) (h : (eqSh sh k k).isSome = true) : (Instr.checkKey em 10000 t kv).run P w = .ok () w := by
 obtain ⟨r, hr⟩ := Option.isSome_iff_exists.1 h
 obtain ⟨ks, az, bs, h1, h2, h3, h4⟩ := cellsOf_eq ht hk hk hr
 exact ((eq_ok depthT).1 t ks h1).key G w 10000 (by decide) em kv az h2 (eqCells_length h4).1
theorem getObj_map {r : Nat} {es : Array MapEntry} {clock : Nat} (hb : w.heap[r]? = some (.map es clock)) : (getObj r).run P w = .ok (.map es clock) w := by simp [getObj, Sem.run, hb]
theorem setObj_map {r : Nat} {es : Array MapEntry} {clock : Nat} (o : Obj) (hb : w.heap[r]? = some (.map es clock)) : (setObj r o).run P w = .ok () { w with heap := w.heap.setIfInBounds r o } := by simp [setObj, Sem.run, hb]
theorem lookup_sound {t key elem : TypeId} {sh : EqTy} {zero : AV} {m k : AV} {r : Option AV} {mv kv : Value} (ok : Bool) (hu : P.underlying t = some (.map key elem)) (ht : eqT P key = some sh) (hz : zeroT P elem = some zero)
  (hS : RelS P hh G w σ) (hm : RelV G w m mv) (hk : RelV G w k kv) (h : lookAV sh σ m k = some r) :
  ∃ q, (Instr.lookup t mv kv ok).run P w = .ok q w ∧ RelV G w (if ok then .tuple [r.getD zero, .bool r.isSome] else r.getD zero) q := by
 obtain ⟨iz, zv, _, _, hzv, hzrun⟩ := zeroT_spec hz
 have hzr : RelV G w zero zv := ofValue_rel hzv
 have res : ∀ {a : AV} {u : Value} (b : Bool), RelV G w a u → RelV G w (if ok then .tuple [a, .bool b] else a) (if ok then .tuple #[u, .bool b] else u) := by
  intro a u b ha
  cases ok with
  | false => exact ha
  | true =>
   refine .tuple (by simp) fun i x v h1 h2 => ?_
   match i with
   | 0 => simp at h1 h2; subst h1; subst h2; exact ha
   | 1 => simp at h1 h2; subst h1; subst h2; exact .bool _
   | i + 2 => simp at h1
 cases m <;> simp only [lookAV] at h <;> first | (cases h; done) | skip
 case nilMap =>
  cases hm
  split at h
  ·rename_i hc
   cases h
   refine ⟨_, ?_, res false hzr⟩
   have h1 := checkKey_run (P := P) true ht hk hc
   have h2 := findKey_run (P := P) (es := []) (ents := []) (r := none) ht hk ⟨rfl, fun i p e h => by simp at h⟩ rfl
   simp only [Option.bind_none] at h2
   cases ok <;> simp [Instr.lookup, run_underlying hu, h1, h2, hzrun]
  ·cases h
 case map id =>
  cases hm with
  | map hl =>
   rename_i b
   cases hσ : σ[id]? with
   | none => simp [hσ] at h
   | some blk =>
    cases blk <;> simp only [hσ] at h <;> first | (cases h; done) | skip
    rename_i es
    split at h
    ·rename_i hc
     obtain ⟨ents, hb, hlen, hborn, hrel⟩ := hS.blk _ _ _ hl hσ
     have hE : EntsRel G w es ents.toList := ⟨by simpa using hlen, fun i p e h1 h2 => hrel i p e h1 (by simpa using h2)⟩
     have hck : ∀ em, (Instr.checkKey em 10000 key kv).run P w = .ok () w := fun em => checkKey_run em ht hk hc
     rcases findKey_ix h with ⟨h1, rfl⟩ | ⟨i, k', v, h1, h2, rfl, h4⟩
     ·refine ⟨_, ?_, res false hzr⟩
      have h2 := findKey_run (P := P) ht hk hE h1
      simp only [Option.bind_none] at h2
      cases ok <;> simp [Instr.lookup, run_underlying hu, getObj_map hb, hck, h2, hzrun]
     ·have hi : i < ents.toList.length := by have := (List.getElem?_eq_some_iff.1 h2).1; simp; omega
      have he := List.getElem?_eq_getElem hi
      refine ⟨_, ?_, res true (hE.2 i _ _ h2 he).2⟩
      have h3 := findKey_run (P := P) ht hk hE h1
      simp only [Option.bind_some, he, Option.map_some] at h3
      cases ok <;> simp [Instr.lookup, run_underlying hu, getObj_map hb, hck, h3]
    ·cases h
theorem sameBits_ok {sh : EqTy} {k k' : AV} {u v : Value} (hk : RelV G w k u) (hk' : RelV G w k' v) (h : eqSh sh k k' = some true) (n : Nat) : Instr.sameBits (n + 1) v u = true := by
 have one : ∀ {s : SK} {a b : AV} {x y : Value} (n : Nat), RelV G w a x → RelV G w b y → eqCell s a b = some true → Instr.sameBits n y x = true := by
  intro s a b x y n ha hb he
  rcases eqCell_spec ha hb he with ⟨_, kk, p, q, rfl, rfl, e⟩ | ⟨_, p, q, rfl, rfl, e⟩ | ⟨_, p, q, rfl, rfl, e⟩
  ·have : p = q := by simpa using e.symm
   subst this
   simp [Instr.sameBits]
  ·have : p = q := by simpa using e.symm
   subst this
   simp [Instr.sameBits]
  ·have e' : (q == p) = true := by
    rw [bytes_eq]
    have := e.symm
    simp only [beq_iff_eq] at this ⊢
    exact this.symm
   simp [Instr.sameBits, e']
 cases sh with
 | one s => exact one _ hk hk' h
 | agg ks =>
  cases k <;> cases k' <;> simp only [eqSh] at h <;> first | (cases h; done) | skip
  rename_i cs ds
  cases hk with
  | agg sx rx =>
   rename_i xs
   cases hk' with
   | agg sy ry =>
    rename_i ys
    obtain ⟨l1, l2⟩ := eqCells_length h
    simp only [Instr.sameBits, Bool.and_eq_true, beq_iff_eq]
    refine ⟨by omega, ?_⟩
    have key : ∀ {ks : List SK} {cs ds : List AV} {xs ys : List Value}, eqCells ks cs ds = some true → xs.length = cs.length → ys.length = ds.length →
      (∀ (i : Nat) (a : AV) (v : Value), cs[i]? = some a → xs[i]? = some v → RelV G w a v) → (∀ (i : Nat) (a : AV) (v : Value), ds[i]? = some a → ys[i]? = some v → RelV G w a v) →
      ((ys.zip xs).all fun (x, y) => Instr.sameBits n x y) = true := by
     intro ks
     induction ks with
     | nil =>
      intro cs ds xs ys he hx hy _ _
      cases cs <;> cases ds <;> simp [eqCells] at he
      have : ys = [] := List.eq_nil_of_length_eq_zero hy
      subst this
      simp
     | cons s ks ih =>
      intro cs ds xs ys he hx hy r1 r2
      match cs, ds, xs, ys, hx, hy with
      | c :: cs, d :: ds, x :: xs, y :: ys, hx, hy =>
       simp only [eqCells] at he
       cases hc : eqCell s c d with
       | none => simp [hc] at he
       | some p =>
        cases hq : eqCells ks cs ds with
        | none => simp [hc, hq] at he
        | some q =>
         simp only [hc, hq, Option.some.injEq, Bool.and_eq_true] at he
         obtain ⟨rfl, rfl⟩ := he
         have h0 := one n (r1 0 c x rfl rfl) (r2 0 d y rfl rfl) hc
         have ht := ih hq (by simpa using hx) (by simpa using hy) (fun i a v e1 e2 => r1 (i + 1) a v (by simpa using e1) (by simpa using e2)) (fun i a v e1 e2 => r2 (i + 1) a v (by simpa using e1) (by simpa using e2))
         simp only [List.zip_cons_cons, List.all_cons, Bool.and_eq_true]
         exact ⟨h0, ht⟩
      | [], d :: ds, _, _, _, _ => simp [eqCells] at he
      | [], [], _, _, _, _ => simp [eqCells] at he
      | c :: cs, [], _, _, _, _ => simp [eqCells] at he
    exact key h (by simpa using sx) (by simpa using sy) (fun i a v e1 e2 => rx i a v e1 (by simpa using e2)) (fun i a v e1 e2 => ry i a v e1 (by simpa using e2))
theorem mapset_sound {t key elem : TypeId} {sh : EqTy} {k x : AV} {id : Nat} {es es' : List (AV × AV)} {mv kv xv : Value} (hu : P.underlying t = some (.map key elem)) (ht : eqT P key = some sh)
  (hS : RelS P hh G w σ) (hm : RelV G w (.map id) mv) (hk : RelV G w k kv) (hx : RelV G w x xv) (hc : (eqSh sh k k).isSome = true) (hσ : σ[id]? = some (.map es)) (h : setKey sh k x es = some es') :
  ∃ w', (Instr.mapUpdate t mv kv xv).run P w = .ok () w' ∧ RelS P hh G w' (σ.set id (.map es')) ∧ Evo G w G w' := by
 cases hm with
 | map hl =>
  rename_i b
  obtain ⟨ents, hb, hlen, hborn, hrel⟩ := hS.blk _ _ _ hl hσ
  have hE : EntsRel G w es ents.toList := ⟨by simpa using hlen, fun i p e h1 h2 => hrel i p e h1 (by simpa using h2)⟩
  have hck : ∀ em, (Instr.checkKey em 10000 key kv).run P w = .ok () w := fun em => checkKey_run em ht hk hc
  have hbl : b < w.heap.size := (Array.getElem?_eq_some_iff.1 hb).1
  rcases setKey_ix h with ⟨h1, rfl⟩ | ⟨i, k', v', h1, h2, rfl, h4⟩
  ·have hf := findKey_run (P := P) ht hk hE h1
   simp only [Option.bind_none] at hf
   refine ⟨{ w with heap := w.heap.setIfInBounds b (.map (ents.push { key := kv, val := xv, born := es.length }) (es.length + 1)) }, by simp [Instr.mapUpdate, run_underlying hu, getObj_map hb, hck, hf, setObj_map _ hb], ?_⟩
   have hp := part_setObj w b (.map (ents.push { key := kv, val := xv, born := es.length }) (es.length + 1))
   refine hS.write hl hp hσ (fun _ _ _ e => by cases e) ⟨ents.push { key := kv, val := xv, born := es.length }, ?_, by simp [hlen], fun i e he => ?_, fun i p e h1 h2 => ?_⟩
   ·simp [Array.getElem?_setIfInBounds_self, hbl]
   ·rw [Array.getElem?_push] at he
    split at he
    ·rename_i hi; cases he; simp; omega
    ·exact hborn i e he
   ·have hev := evo_part hp (hS.fresh _ _ hl).2.2.1
    rw [Array.getElem?_push] at h2
    by_cases hi : i = es.length
    ·subst hi
     rw [if_pos hlen.symm] at h2
     cases h2
     rw [List.getElem?_append_right (Nat.le_refl _)] at h1
     simp at h1
     subst h1
     exact ⟨hk.mono hev, hx.mono hev⟩
    ·rw [if_neg (by omega)] at h2
     have hi2 : i < es.length := by have := (Array.getElem?_eq_some_iff.1 h2).1; omega
     rw [List.getElem?_append_left hi2] at h1
     obtain ⟨q1, q2⟩ := hrel i p e h1 h2
     exact ⟨q1.mono hev, q2.mono hev⟩
  ·have hf := findKey_run (P := P) ht hk hE h1
   have hi : i < ents.size := by have := (List.getElem?_eq_some_iff.1 h2).1; omega
   have he : ents.toList[i]? = some ents[i] := by simp [hi]
   simp only [Option.bind_some, he, Option.map_some] at hf
   have hsb : Instr.sameBits 10000 ents[i].key kv = true := sameBits_ok hk (hE.2 i _ _ h2 he).1 h4 9999
   have hks : (Instr.keyThatStays ents[i].key kv).run P w = .ok kv w := by simp [Instr.keyThatStays, hsb]
   refine ⟨{ w with heap := w.heap.setIfInBounds b (.map (ents.modify i fun e => { e with key := kv, val := xv }) es.length) }, by simp [Instr.mapUpdate, run_underlying hu, getObj_map hb, hck, hf, Array.getElem?_eq_getElem hi, hks, setObj_map _ hb], ?_⟩
   have hp := part_setObj w b (.map (ents.modify i fun e => { e with key := kv, val := xv }) es.length)
   have hev := evo_part hp (hS.fresh _ _ hl).2.2.1
   refine hS.write hl hp hσ (fun _ _ _ e => by cases e) ⟨ents.modify i fun e => { e with key := kv, val := xv }, ?_, by simp [hlen], fun j e he' => ?_, fun j p e h1 h2' => ?_⟩
   ·simp [Array.getElem?_setIfInBounds_self, hbl]
   ·rw [Array.getElem?_modify] at he'
    split at he'
    ·cases hj : ents[j]? with
     | none => simp [hj] at he'
     | some e0 =>
      simp only [hj, Option.map_some, Option.some.injEq] at he'
      subst he'
      exact hborn j e0 hj
    ·exact hborn j e he'
   ·by_cases hij : i = j
    ·subst hij
     rw [List.getElem?_set_self (List.getElem?_eq_some_iff.1 h2).1] at h1
     cases h1
     rw [Array.getElem?_modify, if_pos rfl] at h2'
     simp only [Array.getElem?_eq_getElem hi, Option.map_some, Option.some.injEq] at h2'
     subst h2'
     exact ⟨hk.mono hev, hx.mono hev⟩
    ·rw [List.getElem?_set_ne hij] at h1
     rw [Array.getElem?_modify, if_neg hij] at h2'
     obtain ⟨q1, q2⟩ := hrel j p e h1 h2'
     exact ⟨q1.mono hev, q2.mono hev⟩
end Go.Am
set_option linter.constructorNameAsVariable false
namespace Go.Am
variable {P : Program} {hh : String → Bool} {G : Gh} {w : World} {σ σ' : St} {env : Env} {n : Nat} {a : Act} {v : AV}
theorem optOpd_ev {x : Option Operand} {y : Option AOpd} (h : optOpd x = some y) (hE : RelE G w n env a.tmps) :
  (x = none ∧ y = none) ∨ ∃ o p, x = some o ∧ y = some p ∧ RelV G w (p.ev env) (a.eval o) := by
 cases x with
 | none => simp [optOpd] at h; exact .inl ⟨rfl, h.symm⟩
 | some o =>
  simp only [optOpd] at h
  split at h
  ·rename_i p hp; cases h; exact .inr ⟨o, p, rfl, rfl, ev_rel hp hE⟩
  ·cases h
theorem intOf_rel {x : AV} {u : Value} {i : Int} (hx : RelV G w x u) (h : intOf x = some i) : ∃ k, u = .int k i := by
 cases x <;> simp only [intOf] at h <;> first | (cases h; done) | skip
 cases h
 cases hx
 exact ⟨_, rfl⟩
theorem bin_sound {op : BinOp} {t : TypeId} {xo yo : Operand} {x y : AV} {u u' : Value} (hx : RelV G w x u) (hy : RelV G w y u') (h : binAV op x y = some v) :
  ∃ q, ((do eqGuard op t xo yo u u'; binOp op t u u' : Sem Value)).run P w = .ok q w ∧ RelV G w v q := by
 cases x <;> simp only [binAV] at h <;> first | (cases h; done) | skip
 cases y <;> simp only at h <;> first | (cases h; done) | skip
 rename_i k p k' q
 cases hx
 cases hy
 cases op <;> simp only [binInt] at h
 case shl =>
  split at h
  ·cases h
  ·rename_i hq
   cases h
   exact ⟨_, by simp [eqGuard, binOp, Op.shift, hq], .int _ _⟩
 case shr =>
  split at h
  ·cases h
  ·rename_i hq
   cases h
   exact ⟨_, by simp [eqGuard, binOp, Op.shift, hq], .int _ _⟩
 all_goals
  split at h
  case isFalse => cases h
  rename_i hk
  subst hk
 case int.int.int.int.add.isTrue => cases h; exact ⟨_, by simp [eqGuard, binOp, Op.intArith], .int _ _⟩
 case int.int.int.int.sub.isTrue => cases h; exact ⟨_, by simp [eqGuard, binOp, Op.intArith], .int _ _⟩
 case int.int.int.int.mul.isTrue => cases h; exact ⟨_, by simp [eqGuard, binOp, Op.intArith], .int _ _⟩
 case int.int.int.int.quo.isTrue =>
  split at h
  ·cases h
  ·rename_i hz; cases h; exact ⟨_, by simp [eqGuard, binOp, Op.intDiv, hz], .int _ _⟩
 case int.int.int.int.rem.isTrue =>
  split at h
  ·cases h
  ·rename_i hz; cases h; exact ⟨_, by simp [eqGuard, binOp, Op.intDiv, hz], .int _ _⟩
 case int.int.int.int.and.isTrue => cases h; exact ⟨_, by simp [eqGuard, binOp, Op.intBits, bits], .int _ _⟩
 case int.int.int.int.or.isTrue => cases h; exact ⟨_, by simp [eqGuard, binOp, Op.intBits, bits], .int _ _⟩
 case int.int.int.int.xor.isTrue => cases h; exact ⟨_, by simp [eqGuard, binOp, Op.intBits, bits], .int _ _⟩
 case int.int.int.int.andNot.isTrue => cases h; exact ⟨_, by simp [eqGuard, binOp, Op.intBits, bits], .int _ _⟩
 case int.int.int.int.lss.isTrue => cases h; exact ⟨_, by simp [eqGuard, binOp, Op.intCmp], .bool _⟩
 case int.int.int.int.leq.isTrue => cases h; exact ⟨_, by simp [eqGuard, binOp, Op.intCmp], .bool _⟩
 case int.int.int.int.gtr.isTrue => cases h; exact ⟨_, by simp [eqGuard, binOp, Op.intCmp], .bool _⟩
 case int.int.int.int.geq.isTrue => cases h; exact ⟨_, by simp [eqGuard, binOp, Op.intCmp], .bool _⟩
 all_goals cases h
theorem sizeT_of_shape {t : TypeId} {n : Nat} (h : sizeT P t = some n) : ∀ w, (sizeOf t).run P w = .ok n w := fun w => (run_sizeOf h w).1
theorem fieldT_spec {s : TypeId} {f : Nat} {fd : Field} (h : fieldT P s f = some fd) : ∃ fs, P.underlying s = some (.struct fs) ∧ fs[f]? = some fd ∧ ∃ k, sizeT P fd.type = some k := by
 unfold fieldT at h
 split at h
 ·rename_i fs hu
  split at h
  ·rename_i g hg
   split at h
   ·rename_i k hk; cases h; exact ⟨fs, hu, hg, k, hk⟩
   ·cases h
  ·cases h
 ·cases h
theorem fieldAt_run {s : TypeId} {f : Nat} {fd : Field} (h : fieldT P s f = some fd) (b o : Nat) :
  (Instr.fieldAt s (.pointer (some ⟨b, o, none⟩)) f).run P w = .ok (.pointer (some ⟨b, o + fd.offset, none⟩)) w := by
 obtain ⟨fs, h1, h2, k, h3⟩ := fieldT_spec h
 obtain ⟨h4, h5, _⟩ := run_sizeOf h3 w
 have h6 : ¬ k = 0 := by omega
 simp [Instr.fieldAt, run_underlying h1, h2, Instr.sureAddr, fieldPlace, h4, h6, add_off]
theorem faddr_sound {s : TypeId} {f : Nat} {fd : Field} {x : AV} {u : Value} (h : fieldT P s f = some fd)
  (ha : (match x with | .ptr id o => some (AV.ptr id (o + fd.offset), σ) | .lptr xs i o t => some (.lptr xs i (o + fd.offset) t, σ) | _ => none) = some (v, σ')) (hx : RelV G w x u) :
  σ' = σ ∧ ∃ q, (Instr.fieldAt s u f).run P w = .ok q w ∧ RelV G w v q := by
 cases x <;> simp only at ha <;> first | (cases ha; done) | skip
 case ptr id o =>
  cases ha
  cases hx with
  | ptr hl => exact ⟨rfl, _, fieldAt_run h _ _, .ptr hl⟩
 case lptr xs i o t =>
  cases ha
  cases hx with
  | lptr h1 h2 h3 h4 =>
   refine ⟨rfl, _, fieldAt_run h _ _, ?_⟩
   rw [Nat.add_assoc]
   exact .lptr h1 h2 h3 h4
theorem field_sound {s : TypeId} {f : Nat} {fd : Field} {sh : Option Nat} {cs : List AV} {u : Value} (h : fieldT P s f = some fd) (hs : shapeT P fd.type = some sh) (hx : RelV G w (.agg cs) u) (ha : shaped sh cs fd.offset = some v) :
  ∃ q, (Instr.field s u f).run P w = .ok q w ∧ RelV G w v q := by
 obtain ⟨fs, h1, h2, k, h3⟩ := fieldT_spec h
 cases hx with
 | agg hl hr =>
  rename_i vs
  have hp : ∃ q, (part fd.type vs fd.offset).run P w = .ok q w ∧ RelV G w v q := by
   rcases shapeT_cases hs with ⟨rfl, q1, q2⟩ | ⟨m, rfl, q1, q2⟩
   ·simp only [shaped] at ha
    have hi : fd.offset < vs.size := by have := (List.getElem?_eq_some_iff.1 ha).1; omega
    exact ⟨vs[fd.offset], by simp [part, run_isAgg q1, Array.getElem?_eq_getElem hi], hr _ _ _ ha (Array.getElem?_eq_getElem hi)⟩
   ·simp only [shaped] at ha
    split at ha
    ·cases ha
     refine ⟨.agg (vs.extract fd.offset (fd.offset + m)), by simp [part, run_isAgg q1, sizeT_of_shape q2], .agg (by simp; omega) fun i x y e1 e2 => ?_⟩
     rw [List.getElem?_take] at e1
     split at e1
     ·rw [List.getElem?_drop] at e1
      rw [Array.getElem?_extract] at e2
      split at e2
      ·exact hr _ x y e1 e2
      ·cases e2
     ·cases e1
    ·cases ha
  obtain ⟨q, e1, e2⟩ := hp
  exact ⟨q, by simp [Instr.field, run_underlying h1, h2, asAgg, e1], e2⟩
theorem index_sound {t e : TypeId} {m sz : Nat} {sh : Option Nat} {cs : List AV} {k : IntKind} {j : Int} {u : Value} (hu : P.underlying t = some (.array m e)) (hz : sizeT P e = some sz) (hs : shapeT P e = some sh)
  (hx : RelV G w (.agg cs) u) (hj : 0 ≤ j ∧ j < m) (ha : shaped sh cs (j.toNat * sz) = some v) : ∃ q, (Instr.index t u (.int k j)).run P w = .ok q w ∧ RelV G w v q := by
 cases hx with
 | agg hl hr =>
  rename_i vs
  have hp : ∃ q, (part e vs (j.toNat * sz)).run P w = .ok q w ∧ RelV G w v q := by
   rcases shapeT_cases hs with ⟨rfl, q1, q2⟩ | ⟨m, rfl, q1, q2⟩
   ·simp only [shaped] at ha
    have hi : j.toNat * sz < vs.size := by have := (List.getElem?_eq_some_iff.1 ha).1; omega
    exact ⟨vs[j.toNat * sz], by simp [part, run_isAgg q1, Array.getElem?_eq_getElem hi], hr _ _ _ ha (Array.getElem?_eq_getElem hi)⟩
   ·simp only [shaped] at ha
    split at ha
    ·cases ha
     refine ⟨.agg (vs.extract (j.toNat * sz) (j.toNat * sz + m)), by simp [part, run_isAgg q1, sizeT_of_shape q2], .agg (by simp; omega) fun i x y e1 e2 => ?_⟩
     rw [List.getElem?_take] at e1
     split at e1
     ·rw [List.getElem?_drop] at e1
      rw [Array.getElem?_extract] at e2
      split at e2
      ·exact hr _ x y e1 e2
      ·cases e2
     ·cases e1
    ·cases ha
  obtain ⟨q, e1, e2⟩ := hp
  exact ⟨q, by simp [Instr.index, run_underlying hu, asIntOf, hj, sizeT_of_shape hz, e1], e2⟩
theorem iaddr_sound {t e : TypeId} {sz : Nat} {arr : Option Nat} {x i : AV} {u iv : Value} (hu : (∃ m, P.underlying t = some (.array m e) ∧ arr = some m) ∨ (P.underlying t = some (.slice e) ∧ arr = none)) (hz : sizeT P e = some sz)
  (ha : (match (generalizing := false) intOf i, arr, x with
  | some j, some n, .ptr id off => if 0 ≤ j ∧ j < n then some (AV.ptr id (off + j.toNat * sz), σ) else none
  | some j, some n, .lptr xs q off t => if 0 ≤ j ∧ j < n then some (.lptr xs q (off + j.toNat * sz) t, σ) else none
  | some j, none, .lit xs _ t =>
   match xs[j.toNat]? with
   | some y => if 0 ≤ j ∧ y.cells.length = sz then some (.lptr xs j.toNat 0 t, σ) else none
   | none => none
  | some j, none, .ref id off len sz' => if 0 ≤ j ∧ j < len ∧ sz' = sz then some (.ptr id (off + j.toNat * sz), σ) else none
  | _, _, _ => none) = some (v, σ')) (hx : RelV G w x u) (hi : RelV G w i iv) :
  σ' = σ ∧ ∃ q, (Instr.indexAt t u iv).run P w = .ok q w ∧ RelV G w v q := by
 cases hj : intOf i with
 | none => simp [hj] at ha
 | some j =>
  obtain ⟨k, rfl⟩ := intOf_rel hi hj
  have hso := sizeT_of_shape hz w
  rcases hu with ⟨m, hu, rfl⟩ | ⟨hu, rfl⟩
  ·cases x <;> simp only [hj] at ha <;> first | (cases ha; done) | skip
   case ptr id off =>
    split at ha
    ·rename_i hc
     cases ha
     cases hx with
     | ptr hl => exact ⟨rfl, _, by simp [Instr.indexAt, asIntOf, run_underlying hu, Instr.sureAddr, hc, hso, add_off], .ptr hl⟩
    ·cases ha
   case lptr xs q off tk =>
    split at ha
    ·rename_i hc
     cases ha
     cases hx with
     | lptr h1 h2 h3 h4 =>
      refine ⟨rfl, _, by simp [Instr.indexAt, asIntOf, run_underlying hu, Instr.sureAddr, hc, hso, add_off]; rfl, ?_⟩
      rw [Nat.add_assoc]
      exact .lptr h1 h2 h3 h4
    ·cases ha
  ·cases x <;> simp only [hj] at ha <;> first | (cases ha; done) | skip
   case lit xs full tk =>
    split at ha
    ·rename_i y hy
     split at ha
     ·rename_i hc
      obtain ⟨c1, c2⟩ := hc
      cases ha
      cases hx with
      | nil ht hb => simp at hy
      | lit ht hl hcc =>
       rename_i b o sz' cap
       have hsz : sz' = sz := by rw [← hl.size _ _ hy]; exact c2
       subst hsz
       have hlt : j.toNat < xs.length := (List.getElem?_eq_some_iff.1 hy).1
       have c3 : j < xs.length := by omega
       refine ⟨rfl, .pointer (some ⟨b, o + j.toNat * sz' + 0, none⟩), by simp [Instr.indexAt, asIntOf, run_underlying hu, c1, c3, hso, add_off], .lptr (fun t e => ?_) hlt hl hcc⟩
       obtain ⟨p1, p2, p3, p4, _⟩ := ht.2.2 t e
       exact ⟨_, p4⟩
     ·cases ha
    ·cases ha
   case ref id off len sz' =>
    split at ha
    ·rename_i hc
     obtain ⟨c1, c2, rfl⟩ := hc
     cases ha
     cases hx with
     | ref hl hb hcap hn =>
      have := hb (by omega)
      subst this
      exact ⟨rfl, _, by simp [Instr.indexAt, asIntOf, run_underlying hu, c1, c2, hso, add_off], .ptr hl⟩
    ·cases ha
end Go.Am
