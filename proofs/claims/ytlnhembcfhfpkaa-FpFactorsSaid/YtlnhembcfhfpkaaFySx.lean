/- Polynomials modulo a prime: the split in the small machine's words. -/
import Derived.Test.YtlnhembcfhfpkaaFyGx
namespace Go.Proofs.Ytlnhembcfhfpkaa.M.Nw
open Go.RowKit
set_option maxRecDepth 100000
def l37_0:List COp:=[
 ⟨some 4,.mov (.k (.nils 22 1)),none⟩]
def c37_1:CC:=.ops [] (l37_0)
def l37_2:List COp:=[
 ⟨some 14,.mov (.t 0),none⟩,
 ⟨some 15,.mov (.t 1),none⟩,
 ⟨some 16,.call 56 [(.t 14),(.t 15)],none⟩]
def l37_3:List COp:=[
 ⟨some 5,.mov (.t 16),none⟩]
def c37_4:CC:=.ops [] (l37_2++(l37_3))
def l37_5:List COp:=[
 ⟨some 17,.mov (.t 0),none⟩,
 ⟨some 18,.buildSlice 22 1 (.list 3 1 []) 1 [(0,(.t 17))],none⟩,
 ⟨some 6,.mov (.t 18),none⟩]
def c37_6:CC:=.ops [] (l37_5)
def l37_7:List COp:=[
 ⟨some 19,.mov (.t 5),none⟩,
 ⟨some 20,.len (.t 19),none⟩,
 ⟨some 21,.mov (.k (.p (.int .i64 0))),none⟩]
def c37_8:CC:=.ops [] (l37_7)
def l37_9:List COp:=[
 ⟨some 22,.bin false .lss (.t 21) (.t 20),none⟩]
def c37_10:CC:=.ops [] (l37_9)
def c37_11:CC:=.cond (.t 22) .skip (.exit 0)
def l37_12:List COp:=[
 ⟨some 23,.indexAddr 1 (.t 19) (.t 21),none⟩,
 ⟨some 24,.load false 1 (.t 23),none⟩,
 ⟨some 8,.mov (.t 24),none⟩]
def c37_13:CC:=.ops [] (l37_12)
def l37_14:List COp:=[
 ⟨some 9,.mov (.k (.p (.int .i64 0))),none⟩]
def c37_15:CC:=.ops [] (l37_14)
def l37_16:List COp:=[
 ⟨some 25,.mov (.t 9),none⟩,
 ⟨some 26,.mov (.t 6),none⟩,
 ⟨some 27,.len (.t 26),none⟩,
 ⟨some 28,.bin false .lss (.t 25) (.t 27),none⟩,
 ⟨some 29,.mov (.t 28),none⟩,
 ⟨some 30,.mov (.t 6),some (29,true)⟩,
 ⟨some 31,.len (.t 30),some (29,true)⟩,
 ⟨some 32,.mov (.t 5),some (29,true)⟩,
 ⟨some 33,.len (.t 32),some (29,true)⟩,
 ⟨some 34,.bin false .lss (.t 31) (.t 33),some (29,true)⟩,
 ⟨some 35,.pick (.t 29) (.t 34) (.k (.p (.bool false))),none⟩]
def c37_17:CC:=.ops [] (l37_16)
def c37_18:CC:=.cond (.t 35) .skip (.exit 2)
def c37_19:CC:=.seq c37_17 c37_18
def l37_20:List COp:=[
 ⟨some 10,.mov (.k (.p (.int .i64 0))),none⟩]
def c37_21:CC:=.ops [] (l37_20)
def l37_22:List COp:=[
 ⟨some 38,.mov (.t 10),none⟩,
 ⟨some 39,.mov (.t 1),none⟩,
 ⟨some 40,.bin false .lss (.t 38) (.t 39),none⟩,
 ⟨some 41,.mov (.t 40),none⟩,
 ⟨some 42,.mov (.t 6),some (41,true)⟩,
 ⟨some 43,.len (.t 42),some (41,true)⟩,
 ⟨some 44,.mov (.t 5),some (41,true)⟩,
 ⟨some 45,.len (.t 44),some (41,true)⟩,
 ⟨some 46,.bin false .lss (.t 43) (.t 45),some (41,true)⟩,
 ⟨some 47,.pick (.t 41) (.t 46) (.k (.p (.bool false))),none⟩,
 ⟨some 48,.mov (.t 47),none⟩,
 ⟨some 49,.mov (.t 6),some (48,true)⟩,
 ⟨some 50,.mov (.t 9),some (48,true)⟩,
 ⟨some 51,.indexAddr 1 (.t 49) (.t 50),some (48,true)⟩,
 ⟨some 52,.load false 1 (.t 51),some (48,true)⟩,
 ⟨some 53,.len (.t 52),some (48,true)⟩,
 ⟨some 54,.bin false .gtr (.t 53) (.k (.p (.int .i64 2))),some (48,true)⟩,
 ⟨some 55,.pick (.t 48) (.t 54) (.k (.p (.bool false))),none⟩]
def c37_23:CC:=.ops [] (l37_22)
def c37_24:CC:=.cond (.t 55) .skip (.exit 4)
def c37_25:CC:=.seq c37_23 c37_24
def l37_26:List COp:=[
 ⟨some 58,.mov (.t 6),none⟩,
 ⟨some 59,.mov (.t 9),none⟩,
 ⟨some 60,.indexAddr 1 (.t 58) (.t 59),none⟩,
 ⟨some 61,.load false 1 (.t 60),none⟩,
 ⟨some 62,.mov (.t 8),none⟩,
 ⟨some 63,.mov (.t 10),none⟩,
 ⟨some 65,.mov (.t 10),none⟩,
 ⟨some 66,.mm false (.t 65) (.k (.p (.int .i64 1))),none⟩,
 ⟨some 68,.mov (.t 1),none⟩,
 ⟨some 70,.mov (.t 1),none⟩,
 ⟨some 64,.buildSliceF 3 1 (.int .i64 0) 1 [(0,(.t 63))],none⟩,
 ⟨some 67,.slice 1 (.t 64) none (some (.t 66)) none,none⟩,
 ⟨some 69,.call 57 [(.t 62),(.t 67),(.t 68)],none⟩]
def l37_27:List COp:=[
 ⟨some 71,.call 29 [(.t 61),(.t 69),(.t 70)],none⟩]
def l37_28:List COp:=[
 ⟨some 11,.mov (.t 71),none⟩]
def c37_29:CC:=.ops [] (l37_26++(l37_27++(l37_28)))
def l37_30:List COp:=[
 ⟨some 72,.mov (.t 11),none⟩,
 ⟨some 73,.len (.t 72),none⟩,
 ⟨some 74,.bin false .gtr (.t 73) (.k (.p (.int .i64 1))),none⟩,
 ⟨some 75,.mov (.t 74),none⟩,
 ⟨some 76,.mov (.t 11),some (75,true)⟩,
 ⟨some 77,.len (.t 76),some (75,true)⟩,
 ⟨some 78,.mov (.t 6),some (75,true)⟩,
 ⟨some 79,.mov (.t 9),some (75,true)⟩,
 ⟨some 80,.indexAddr 1 (.t 78) (.t 79),some (75,true)⟩,
 ⟨some 81,.load false 1 (.t 80),some (75,true)⟩,
 ⟨some 82,.len (.t 81),some (75,true)⟩,
 ⟨some 83,.bin false .lss (.t 77) (.t 82),some (75,true)⟩,
 ⟨some 84,.pick (.t 75) (.t 83) (.k (.p (.bool false))),none⟩]
def c37_31:CC:=.ops [] (l37_30)
def l37_32:List COp:=[
 ⟨some 86,.mov (.t 6),none⟩,
 ⟨some 87,.mov (.t 9),none⟩,
 ⟨some 88,.indexAddr 1 (.t 86) (.t 87),none⟩,
 ⟨some 89,.load false 1 (.t 88),none⟩,
 ⟨some 90,.mov (.t 11),none⟩,
 ⟨some 91,.mov (.t 1),none⟩,
 ⟨some 92,.call 45 [(.t 89),(.t 90),(.t 91)],none⟩]
def l37_33:List COp:=[
 ⟨some 85,.mov (.t 92),none⟩,
 ⟨some 93,.extract (.t 85) 0,none⟩,
 ⟨some 94,.extract (.t 85) 1,none⟩,
 ⟨some 12,.mov (.t 93),none⟩,
 ⟨some 13,.mov (.t 94),none⟩]
def c37_34:CC:=.ops [] (l37_32++(l37_33))
def l37_35:List COp:=[
 ⟨some 95,.mov (.t 6),none⟩,
 ⟨some 96,.mov (.t 9),none⟩,
 ⟨some 97,.mov (.t 12),none⟩,
 ⟨some 98,.indexAddr 1 (.t 95) (.t 96),none⟩,
 ⟨none,.store 1 (.t 98) (.t 97),none⟩]
def c37_36:CC:=.ops [] (l37_35)
def l37_37:List COp:=[
 ⟨some 99,.mov (.t 6),none⟩,
 ⟨some 100,.mov (.t 11),none⟩,
 ⟨some 101,.buildSlice 22 1 (.list 3 1 []) 1 [(0,(.t 100))],none⟩,
 ⟨some 102,.append 22 1 24 (.t 99) (.t 101),none⟩,
 ⟨some 6,.mov (.t 102),none⟩]
def c37_38:CC:=.ops [] (l37_37)
def c37_39:CC:=.seq c37_36 c37_38
def c37_40:CC:=.seq c37_34 c37_39
def c37_41:CC:=.cond (.t 84) c37_40 .skip
def c37_42:CC:=.seq c37_31 c37_41
def c37_43:CC:=.seq c37_29 c37_42
def c37_44:CC:=.block 5 c37_43
def l37_45:List COp:=[
 ⟨some 56,.mov (.t 10),none⟩,
 ⟨some 57,.bin false .add (.t 56) (.k (.p (.int .i64 1))),none⟩,
 ⟨some 10,.mov (.t 57),none⟩]
def c37_46:CC:=.ops [] (l37_45)
def c37_47:CC:=.seq c37_44 c37_46
def c37_48:CC:=.seq c37_25 c37_47
def c37_49:CC:=.loop c37_48
def c37_50:CC:=.block 4 c37_49
def c37_51:CC:=.seq c37_21 c37_50
def c37_52:CC:=.block 3 c37_51
def l37_53:List COp:=[
 ⟨some 36,.mov (.t 9),none⟩,
 ⟨some 37,.bin false .add (.t 36) (.k (.p (.int .i64 1))),none⟩,
 ⟨some 9,.mov (.t 37),none⟩]
def c37_54:CC:=.ops [] (l37_53)
def c37_55:CC:=.seq c37_52 c37_54
def c37_56:CC:=.seq c37_19 c37_55
def c37_57:CC:=.loop c37_56
def c37_58:CC:=.block 2 c37_57
def c37_59:CC:=.seq c37_15 c37_58
def c37_60:CC:=.seq c37_13 c37_59
def c37_61:CC:=.block 1 c37_60
def l37_62:List COp:=[
 ⟨some 103,.bin false .add (.t 21) (.k (.p (.int .i64 1))),none⟩,
 ⟨some 21,.mov (.t 103),none⟩]
def c37_63:CC:=.ops [] (l37_62)
def c37_64:CC:=.seq c37_61 c37_63
def c37_65:CC:=.seq c37_11 c37_64
def c37_66:CC:=.seq c37_10 c37_65
def c37_67:CC:=.loop c37_66
def c37_68:CC:=.block 0 c37_67
def c37_69:CC:=.seq c37_8 c37_68
def l37_70:List COp:=[
 ⟨some 104,.mov (.t 6),none⟩,
 ⟨some 4,.mov (.t 104),none⟩]
def c37_71:CC:=.ops [] (l37_70)
def c37_72:CC:=.seq c37_71 .ret
def c37_73:CC:=.seq c37_69 c37_72
def c37_74:CC:=.seq c37_6 c37_73
def c37_75:CC:=.seq c37_4 c37_74
def c37_76:CC:=.seq c37_1 c37_75
def c37:CC:=c37_76
theorem fn37:FnOk Try.prog 37 [22,3,2000064] c37 [(4,none)] 105:=
 ⟨Try.f37,[⟨12,[0,1,2,3,4,5,7,8,10,12,6,9,11,13,14],[0,0,3,7,0,0,32,0,128,480,0,2032,0,8191,16383],[]⟩],Try.func37,by kernel_rfl,by kernel_rfl,by kernel_rfl,by kernel_rfl,by kernel_rfl⟩
end Go.Proofs.Ytlnhembcfhfpkaa.M.Nw
