/- Functions of the program in the small machine's words: written by a program of mine. -/
import Derived.Test.YtkidkimjdiichaaGreatK4w
namespace Go.Proofs.YtkidkimjdiichaaGreat.M
open Go.RowKit
def l43_0:List COp:=[
 ⟨some 2,.alloc 60 4 (.p (.agg [(.bool false),(.list 3 1 []),(.bool false),(.list 3 1 [])])),none⟩,
 ⟨some 3,.alloc 27 2 (.p (.agg [(.int .i64 0),(.int .i64 0)])),none⟩]
def c43_1:CC:=.ops [] (l43_0)
def l43_2:List COp:=[
 ⟨some 11,.build [(.p (.bool false)),(.p (.list 3 1 []))] [],none⟩,
 ⟨some 12,.call 124 [(.k (.p (.int .i64 1)))],none⟩]
def l43_3:List COp:=[
 ⟨some 13,.build [(.p (.bool false)),(.p (.list 3 1 [])),(.p (.bool false)),(.p (.list 3 1 []))] [(0,2,(.t 11)),(2,2,(.t 12))],none⟩,
 ⟨some 4,.alloc 60 4 (.p (.agg [(.bool false),(.list 3 1 []),(.bool false),(.list 3 1 [])])),none⟩,
 ⟨none,.store 4 (.t 4) (.t 13),none⟩]
def c43_4:CC:=.ops [] (l43_2++(l43_3))
def l43_5:List COp:=[
 ⟨some 15,.mov (.t 0),none⟩,
 ⟨some 16,.call 125 [(.t 15),(.k (.p (.bool true))),(.k (.p (.bool true)))],none⟩]
def l43_6:List COp:=[
 ⟨some 14,.mov (.t 16),none⟩,
 ⟨some 17,.extract (.t 14) 0,none⟩,
 ⟨some 18,.extract (.t 14) 1,none⟩,
 ⟨some 5,.mov (.t 17),none⟩,
 ⟨some 6,.mov (.t 18),none⟩]
def c43_7:CC:=.ops [] (l43_5++(l43_6))
def l43_8:List COp:=[
 ⟨some 19,.mov (.t 5),none⟩,
 ⟨some 7,.mov (.t 19),none⟩]
def c43_9:CC:=.ops [] (l43_8)
def l43_10:List COp:=[
 ⟨some 20,.mov (.t 6),none⟩,
 ⟨some 21,.mov (.t 20),none⟩,
 ⟨some 22,.mov (.t 5),some (21,true)⟩,
 ⟨some 23,.mov (.t 0),some (21,true)⟩,
 ⟨some 24,.lenS (.t 23),some (21,true)⟩,
 ⟨some 25,.bin false .lss (.t 22) (.t 24),some (21,true)⟩,
 ⟨some 26,.pick (.t 21) (.t 25) (.k (.p (.bool false))),none⟩,
 ⟨some 27,.mov (.t 26),none⟩,
 ⟨some 28,.mov (.t 0),some (27,true)⟩,
 ⟨some 29,.mov (.t 5),some (27,true)⟩,
 ⟨some 30,.index (.t 28) (.t 29),some (27,true)⟩,
 ⟨some 31,.bin false .eql (.t 30) (.k (.p (.int .u8 47))),some (27,true)⟩,
 ⟨some 32,.pick (.t 27) (.t 31) (.k (.p (.bool false))),none⟩]
def c43_11:CC:=.ops [] (l43_10)
def l43_12:List COp:=[
 ⟨some 34,.mov (.t 0),none⟩,
 ⟨some 35,.mov (.t 5),none⟩,
 ⟨some 36,.bin false .add (.t 35) (.k (.p (.int .i64 1))),none⟩,
 ⟨some 37,.sliceS (.t 34) (some (.t 36)) none,none⟩,
 ⟨some 38,.call 125 [(.t 37),(.k (.p (.bool false))),(.k (.p (.bool false)))],none⟩]
def l43_13:List COp:=[
 ⟨some 33,.mov (.t 38),none⟩,
 ⟨some 39,.extract (.t 33) 0,none⟩,
 ⟨some 40,.extract (.t 33) 1,none⟩,
 ⟨some 8,.mov (.t 39),none⟩,
 ⟨some 9,.mov (.t 40),none⟩]
def c43_14:CC:=.ops [] (l43_12++(l43_13))
def l43_15:List COp:=[
 ⟨some 41,.mov (.t 5),none⟩,
 ⟨some 42,.bin false .add (.t 41) (.k (.p (.int .i64 1))),none⟩,
 ⟨some 43,.mov (.t 8),none⟩,
 ⟨some 44,.bin false .add (.t 42) (.t 43),none⟩,
 ⟨some 7,.mov (.t 44),none⟩]
def c43_16:CC:=.ops [] (l43_15)
def l43_17:List COp:=[
 ⟨some 45,.mov (.t 9),none⟩,
 ⟨some 6,.mov (.t 45),none⟩]
def c43_18:CC:=.ops [] (l43_17)
def c43_19:CC:=.seq c43_16 c43_18
def c43_20:CC:=.seq c43_14 c43_19
def c43_21:CC:=.cond (.t 32) c43_20 .skip
def c43_22:CC:=.seq c43_11 c43_21
def l43_23:List COp:=[
 ⟨some 46,.mov (.t 6),none⟩,
 ⟨some 47,.un .not (.t 46),none⟩,
 ⟨some 48,.mov (.t 47),none⟩,
 ⟨some 49,.mov (.t 7),some (48,false)⟩,
 ⟨some 50,.mov (.t 0),some (48,false)⟩,
 ⟨some 51,.lenS (.t 50),some (48,false)⟩,
 ⟨some 52,.bin false .lss (.t 49) (.t 51),some (48,false)⟩,
 ⟨some 53,.pick (.t 48) (.k (.p (.bool true))) (.t 52),none⟩]
def c43_24:CC:=.ops [] (l43_23)
def l43_25:List COp:=[
 ⟨some 54,.load true 4 (.t 4),none⟩,
 ⟨some 55,.mov (.t 7),none⟩,
 ⟨some 56,.build [(.p (.int .i64 0)),(.p (.int .i64 0))] [(0,1,(.k (.p (.int .i64 1)))),(1,1,(.t 55))],none⟩,
 ⟨none,.store 4 (.t 2) (.t 54),none⟩,
 ⟨none,.store 2 (.t 3) (.t 56),none⟩]
def c43_26:CC:=.ops [] (l43_25)
def c43_27:CC:=.seq c43_26 .ret
def c43_28:CC:=.cond (.t 53) c43_27 .skip
def c43_29:CC:=.seq c43_24 c43_28
def l43_30:List COp:=[
 ⟨some 57,.mov (.t 0),none⟩,
 ⟨some 58,.mov (.t 5),none⟩,
 ⟨some 59,.sliceS (.t 57) none (some (.t 58)),none⟩,
 ⟨some 60,.call 126 [(.t 59)],none⟩]
def l43_31:List COp:=[
 ⟨some 61,.bin false .gtr (.t 60) (.k (.p (.int .i64 1000))),none⟩,
 ⟨some 62,.mov (.t 61),none⟩,
 ⟨some 63,.mov (.t 7),some (62,false)⟩,
 ⟨some 64,.mov (.t 5),some (62,false)⟩,
 ⟨some 65,.bin false .sub (.t 63) (.t 64),some (62,false)⟩,
 ⟨some 66,.bin false .sub (.t 65) (.k (.p (.int .i64 1))),some (62,false)⟩,
 ⟨some 67,.bin false .gtr (.t 66) (.k (.p (.int .i64 1000))),some (62,false)⟩,
 ⟨some 68,.pick (.t 62) (.k (.p (.bool true))) (.t 67),none⟩]
def c43_32:CC:=.ops [] (l43_30++(l43_31))
def l43_33:List COp:=[
 ⟨some 69,.load true 4 (.t 4),none⟩,
 ⟨some 70,.build [(.p (.int .i64 0)),(.p (.int .i64 0))] [(0,1,(.k (.p (.int .i64 2))))],none⟩,
 ⟨none,.store 4 (.t 2) (.t 69),none⟩,
 ⟨none,.store 2 (.t 3) (.t 70),none⟩]
def c43_34:CC:=.ops [] (l43_33)
def c43_35:CC:=.seq c43_34 .ret
def c43_36:CC:=.cond (.t 68) c43_35 .skip
def c43_37:CC:=.seq c43_32 c43_36
def l43_38:List COp:=[
 ⟨some 71,.mov (.t 0),none⟩,
 ⟨some 72,.mov (.t 5),none⟩,
 ⟨some 73,.sliceS (.t 71) none (some (.t 72)),none⟩,
 ⟨some 74,.call 127 [(.t 73)],none⟩]
def l43_39:List COp:=[
 ⟨some 75,.call 124 [(.k (.p (.int .i64 1)))],none⟩]
def l43_40:List COp:=[
 ⟨some 76,.build [(.p (.bool false)),(.p (.list 3 1 [])),(.p (.bool false)),(.p (.list 3 1 []))] [(0,2,(.t 74)),(2,2,(.t 75))],none⟩,
 ⟨some 10,.alloc 60 4 (.p (.agg [(.bool false),(.list 3 1 []),(.bool false),(.list 3 1 [])])),none⟩,
 ⟨none,.store 4 (.t 10) (.t 76),none⟩]
def c43_41:CC:=.ops [] (l43_38++(l43_39++(l43_40)))
def l43_42:List COp:=[
 ⟨some 77,.mov (.t 7),none⟩,
 ⟨some 78,.mov (.t 5),none⟩,
 ⟨some 79,.bin false .gtr (.t 77) (.t 78),none⟩]
def c43_43:CC:=.ops [] (l43_42)
def l43_44:List COp:=[
 ⟨some 80,.mov (.t 0),none⟩,
 ⟨some 81,.mov (.t 5),none⟩,
 ⟨some 82,.sliceS (.t 80) none (some (.t 81)),none⟩,
 ⟨some 83,.call 127 [(.t 82)],none⟩]
def l43_45:List COp:=[
 ⟨some 84,.mov (.t 0),none⟩,
 ⟨some 85,.mov (.t 5),none⟩,
 ⟨some 86,.bin false .add (.t 85) (.k (.p (.int .i64 1))),none⟩,
 ⟨some 87,.sliceS (.t 84) (some (.t 86)) none,none⟩,
 ⟨some 88,.call 127 [(.t 87)],none⟩]
def l43_46:List COp:=[
 ⟨some 89,.call 128 [(.t 83),(.t 88)],none⟩]
def l43_47:List COp:=[
 ⟨none,.store 4 (.t 10) (.t 89),none⟩]
def c43_48:CC:=.ops [] (l43_44++(l43_45++(l43_46++(l43_47))))
def c43_49:CC:=.cond (.t 79) c43_48 .skip
def c43_50:CC:=.seq c43_43 c43_49
def l43_51:List COp:=[
 ⟨some 90,.load true 4 (.t 10),none⟩,
 ⟨some 91,.call 34 [(.t 90)],none⟩]
def l43_52:List COp:=[
 ⟨some 92,.mov (.t 0),none⟩,
 ⟨some 93,.bin false .neq (.t 91) (.t 92),none⟩]
def c43_53:CC:=.ops [] (l43_51++(l43_52))
def l43_54:List COp:=[
 ⟨some 94,.load true 4 (.t 4),none⟩,
 ⟨some 95,.build [(.p (.int .i64 0)),(.p (.int .i64 0))] [(0,1,(.k (.p (.int .i64 3))))],none⟩,
 ⟨none,.store 4 (.t 2) (.t 94),none⟩,
 ⟨none,.store 2 (.t 3) (.t 95),none⟩]
def c43_55:CC:=.ops [] (l43_54)
def c43_56:CC:=.seq c43_55 .ret
def c43_57:CC:=.cond (.t 93) c43_56 .skip
def c43_58:CC:=.seq c43_53 c43_57
def l43_59:List COp:=[
 ⟨some 96,.load true 4 (.t 10),none⟩,
 ⟨some 97,.build [(.p (.int .i64 0)),(.p (.int .i64 0))] [],none⟩,
 ⟨none,.store 4 (.t 2) (.t 96),none⟩,
 ⟨none,.store 2 (.t 3) (.t 97),none⟩]
def c43_60:CC:=.ops [] (l43_59)
def c43_61:CC:=.seq c43_60 .ret
def c43_62:CC:=.seq c43_58 c43_61
def c43_63:CC:=.seq c43_50 c43_62
def c43_64:CC:=.seq c43_41 c43_63
def c43_65:CC:=.seq c43_37 c43_64
def c43_66:CC:=.seq c43_29 c43_65
def c43_67:CC:=.seq c43_22 c43_66
def c43_68:CC:=.seq c43_9 c43_67
def c43_69:CC:=.seq c43_7 c43_68
def c43_70:CC:=.seq c43_4 c43_69
def c43_71:CC:=.seq c43_1 c43_70
def c43:CC:=c43_71
theorem fn43:FnOk Tryz.prog 43 [60,27] c43 [(2,some (true,4)),(3,some (true,2))] 98:=
 ⟨Tryz.f43,[⟨14,[0,1,2,3,4,5,6,7,8,9,10],[0,0,3,7,0,0,32,112,255,511,1023],[]⟩],Tryz.func43,by kernel_rfl,by kernel_rfl,by kernel_rfl,by kernel_rfl,by kernel_rfl⟩
def l106_0:List COp:=[
 ⟨some 2,.box 52 4 (.t 0),none⟩,
 ⟨some 3,.box 52 4 (.t 1),none⟩,
 ⟨some 4,.alloc 52 4 (.p (.agg [(.bool false),(.list 247 1 []),(.bool false),(.list 247 1 [])])),none⟩]
def c106_1:CC:=.ops [] (l106_0)
def l106_2:List COp:=[
 ⟨some 7,.load true 4 (.t 3),none⟩,
 ⟨some 8,.call 118 [(.t 7)],none⟩]
def l106_3:List COp:=[
 ⟨some 12,.load true 4 (.t 2),none⟩,
 ⟨some 16,.load true 4 (.t 2),none⟩,
 ⟨some 18,.load true 4 (.t 3),none⟩,
 ⟨some 5,.fieldAddr 0 2 true (.t 2),none⟩,
 ⟨some 6,.load true 2 (.t 5),none⟩,
 ⟨some 9,.call 132 [(.t 6),(.t 8)],none⟩]
def l106_4:List COp:=[
 ⟨some 13,.call 118 [(.t 12)],none⟩]
def l106_5:List COp:=[
 ⟨some 10,.fieldAddr 0 2 true (.t 3),none⟩,
 ⟨some 11,.load true 2 (.t 10),none⟩,
 ⟨some 14,.call 132 [(.t 11),(.t 13)],none⟩]
def l106_6:List COp:=[
 ⟨some 15,.call 182 [(.t 9),(.t 14)],none⟩]
def l106_7:List COp:=[
 ⟨some 17,.call 118 [(.t 16)],none⟩]
def l106_8:List COp:=[
 ⟨some 19,.call 118 [(.t 18)],none⟩]
def l106_9:List COp:=[
 ⟨some 20,.call 132 [(.t 17),(.t 19)],none⟩]
def l106_10:List COp:=[
 ⟨some 21,.call 123 [(.t 15),(.t 20)],none⟩]
def l106_11:List COp:=[
 ⟨none,.store 4 (.t 4) (.t 21),none⟩]
def c106_12:CC:=.ops [] (l106_2++(l106_3++(l106_4++(l106_5++(l106_6++(l106_7++(l106_8++(l106_9++(l106_10++(l106_11))))))))))
def c106_13:CC:=.seq c106_12 .ret
def c106_14:CC:=.seq c106_1 c106_13
def c106:CC:=c106_14
theorem fn106:FnOk Tryz.prog 106 [52] c106 [(4,some (true,4))] 22:=
 ⟨Tryz.f106,[⟨1,[2,3,7,11,13,0,1,4,8,5,6,9,10,12,14,15,16,17],[0,1,0,4,15,0,32,0,159,511,1023,0,4095,0,16383,32767,65535,131071],[]⟩],Tryz.func106,by kernel_rfl,by kernel_rfl,by kernel_rfl,by kernel_rfl,by kernel_rfl⟩
def l113_0:List COp:=[
 ⟨some 2,.box 52 4 (.t 0),none⟩,
 ⟨some 3,.box 52 4 (.t 1),none⟩,
 ⟨some 4,.alloc 52 4 (.p (.agg [(.bool false),(.list 247 1 []),(.bool false),(.list 247 1 [])])),none⟩]
def c113_1:CC:=.ops [] (l113_0)
def l113_2:List COp:=[
 ⟨some 5,.load true 4 (.t 2),none⟩,
 ⟨some 6,.fieldAddr 0 2 true (.t 3),none⟩,
 ⟨some 7,.load true 2 (.t 6),none⟩,
 ⟨some 8,.call 185 [(.t 7)],none⟩]
def l113_3:List COp:=[
 ⟨some 9,.fieldAddr 2 2 true (.t 3),none⟩,
 ⟨some 10,.load true 2 (.t 9),none⟩,
 ⟨some 11,.build [(.p (.bool false)),(.p (.list 247 1 [])),(.p (.bool false)),(.p (.list 247 1 []))] [(0,2,(.t 8)),(2,2,(.t 10))],none⟩,
 ⟨some 12,.call 106 [(.t 5),(.t 11)],none⟩]
def l113_4:List COp:=[
 ⟨none,.store 4 (.t 4) (.t 12),none⟩]
def c113_5:CC:=.ops [] (l113_2++(l113_3++(l113_4)))
def c113_6:CC:=.seq c113_5 .ret
def c113_7:CC:=.seq c113_1 c113_6
def c113:CC:=c113_7
theorem fn113:FnOk Tryz.prog 113 [52] c113 [(4,some (true,4))] 13:=
 ⟨Tryz.f113,[⟨1,[0,1,2,3,4,5,6,7,8],[0,0,2,6,0,16,62,127,255],[]⟩],Tryz.func113,by kernel_rfl,by kernel_rfl,by kernel_rfl,by kernel_rfl,by kernel_rfl⟩
def l111_0:List COp:=[
 ⟨some 2,.box 52 4 (.t 0),none⟩,
 ⟨some 3,.box 52 4 (.t 1),none⟩,
 ⟨some 4,.alloc 52 4 (.p (.agg [(.bool false),(.list 247 1 []),(.bool false),(.list 247 1 [])])),none⟩]
def c111_1:CC:=.ops [] (l111_0)
def l111_2:List COp:=[
 ⟨some 10,.load true 4 (.t 2),none⟩,
 ⟨some 12,.load true 4 (.t 3),none⟩,
 ⟨some 5,.fieldAddr 0 2 true (.t 2),none⟩,
 ⟨some 6,.load true 2 (.t 5),none⟩,
 ⟨some 7,.fieldAddr 0 2 true (.t 3),none⟩,
 ⟨some 8,.load true 2 (.t 7),none⟩,
 ⟨some 9,.call 132 [(.t 6),(.t 8)],none⟩]
def l111_3:List COp:=[
 ⟨some 11,.call 118 [(.t 10)],none⟩]
def l111_4:List COp:=[
 ⟨some 13,.call 118 [(.t 12)],none⟩]
def l111_5:List COp:=[
 ⟨some 14,.call 132 [(.t 11),(.t 13)],none⟩]
def l111_6:List COp:=[
 ⟨some 15,.call 123 [(.t 9),(.t 14)],none⟩]
def l111_7:List COp:=[
 ⟨none,.store 4 (.t 4) (.t 15),none⟩]
def c111_8:CC:=.ops [] (l111_2++(l111_3++(l111_4++(l111_5++(l111_6++(l111_7))))))
def c111_9:CC:=.seq c111_8 .ret
def c111_10:CC:=.seq c111_1 c111_9
def c111:CC:=c111_10
theorem fn111:FnOk Tryz.prog 111 [52] c111 [(4,some (true,4))] 16:=
 ⟨Tryz.f111,[⟨1,[5,7,0,1,2,3,4,6,8,9,10,11],[0,1,0,4,15,0,63,0,255,511,1023,2047],[]⟩],Tryz.func111,by kernel_rfl,by kernel_rfl,by kernel_rfl,by kernel_rfl,by kernel_rfl⟩
def l134_0:List COp:=[
 ⟨some 1,.box 52 4 (.t 0),none⟩,
 ⟨some 2,.alloc 52 4 (.p (.agg [(.bool false),(.list 247 1 []),(.bool false),(.list 247 1 [])])),none⟩]
def c134_1:CC:=.ops [] (l134_0)
def l134_2:List COp:=[
 ⟨some 3,.fieldAddr 0 2 true (.t 1),none⟩,
 ⟨some 4,.load true 2 (.t 3),none⟩,
 ⟨some 5,.call 185 [(.t 4)],none⟩]
def l134_3:List COp:=[
 ⟨some 6,.fieldAddr 2 2 true (.t 1),none⟩,
 ⟨some 7,.load true 2 (.t 6),none⟩,
 ⟨some 8,.build [(.p (.bool false)),(.p (.list 247 1 [])),(.p (.bool false)),(.p (.list 247 1 []))] [(0,2,(.t 5)),(2,2,(.t 7))],none⟩,
 ⟨none,.store 4 (.t 2) (.t 8),none⟩]
def c134_4:CC:=.ops [] (l134_2++(l134_3))
def c134_5:CC:=.seq c134_4 .ret
def c134_6:CC:=.seq c134_1 c134_5
def c134:CC:=c134_6
theorem fn134:FnOk Tryz.prog 134 [52] c134 [(2,some (true,4))] 9:=
 ⟨Tryz.f134,[⟨1,[0,1,2,3,4,5,6],[0,1,3,0,8,31,63],[]⟩],Tryz.func134,by kernel_rfl,by kernel_rfl,by kernel_rfl,by kernel_rfl,by kernel_rfl⟩
def l50_0:List COp:=[
 ⟨some 1,.box 52 4 (.t 0),none⟩,
 ⟨some 2,.mov (.k (.p (.int .i64 0))),none⟩]
def c50_1:CC:=.ops [] (l50_0)
def l50_2:List COp:=[
 ⟨some 3,.fieldAddr 0 2 true (.t 1),none⟩,
 ⟨some 4,.load true 2 (.t 3),none⟩,
 ⟨some 5,.call 116 [(.t 4)],none⟩]
def l50_3:List COp:=[
 ⟨some 2,.mov (.t 5),none⟩]
def c50_4:CC:=.ops [] (l50_2++(l50_3))
def c50_5:CC:=.seq c50_4 .ret
def c50_6:CC:=.seq c50_1 c50_5
def c50:CC:=c50_6
theorem fn50:FnOk Tryz.prog 50 [52] c50 [(2,none)] 6:=
 ⟨Tryz.f50,[],Tryz.func50,by kernel_rfl,by kernel_rfl,by kernel_rfl,by kernel_rfl,by kernel_rfl⟩
def l107_0:List COp:=[
 ⟨some 2,.box 60 4 (.t 0),none⟩,
 ⟨some 3,.box 60 4 (.t 1),none⟩,
 ⟨some 4,.alloc 60 4 (.p (.agg [(.bool false),(.list 3 1 []),(.bool false),(.list 3 1 [])])),none⟩]
def c107_1:CC:=.ops [] (l107_0)
def l107_2:List COp:=[
 ⟨some 5,.fieldAddr 0 2 true (.t 2),none⟩,
 ⟨some 6,.load true 2 (.t 5),none⟩,
 ⟨some 7,.fieldAddr 2 2 true (.t 3),none⟩,
 ⟨some 8,.load true 2 (.t 7),none⟩,
 ⟨some 9,.call 137 [(.t 6),(.t 8)],none⟩]
def l107_3:List COp:=[
 ⟨some 10,.fieldAddr 0 2 true (.t 3),none⟩,
 ⟨some 11,.load true 2 (.t 10),none⟩,
 ⟨some 12,.fieldAddr 2 2 true (.t 2),none⟩,
 ⟨some 13,.load true 2 (.t 12),none⟩,
 ⟨some 14,.call 137 [(.t 11),(.t 13)],none⟩]
def l107_4:List COp:=[
 ⟨some 15,.call 183 [(.t 9),(.t 14)],none⟩]
def l107_5:List COp:=[
 ⟨some 16,.fieldAddr 2 2 true (.t 2),none⟩,
 ⟨some 17,.load true 2 (.t 16),none⟩,
 ⟨some 18,.fieldAddr 2 2 true (.t 3),none⟩,
 ⟨some 19,.load true 2 (.t 18),none⟩,
 ⟨some 20,.call 137 [(.t 17),(.t 19)],none⟩]
def l107_6:List COp:=[
 ⟨some 21,.call 128 [(.t 15),(.t 20)],none⟩]
def l107_7:List COp:=[
 ⟨none,.store 4 (.t 4) (.t 21),none⟩]
def c107_8:CC:=.ops [] (l107_2++(l107_3++(l107_4++(l107_5++(l107_6++(l107_7))))))
def c107_9:CC:=.seq c107_8 .ret
def c107_10:CC:=.seq c107_1 c107_9
def c107:CC:=c107_10
theorem fn107:FnOk Tryz.prog 107 [60] c107 [(4,some (true,4))] 22:=
 ⟨Tryz.f107,[⟨1,[0,1,2,3,4,5,6,7,8,9,10,11,12,13,14,15,16,17],[0,1,0,4,15,0,32,0,128,511,1023,0,2048,0,8192,32767,65535,131071],[]⟩],Tryz.func107,by kernel_rfl,by kernel_rfl,by kernel_rfl,by kernel_rfl,by kernel_rfl⟩
def l79_0:List COp:=[
 ⟨some 2,.box 60 4 (.t 0),none⟩,
 ⟨some 3,.box 60 4 (.t 1),none⟩,
 ⟨some 4,.alloc 60 4 (.p (.agg [(.bool false),(.list 3 1 []),(.bool false),(.list 3 1 [])])),none⟩]
def c79_1:CC:=.ops [] (l79_0)
def l79_2:List COp:=[
 ⟨some 5,.fieldAddr 0 2 true (.t 2),none⟩,
 ⟨some 6,.load true 2 (.t 5),none⟩,
 ⟨some 7,.fieldAddr 0 2 true (.t 3),none⟩,
 ⟨some 8,.load true 2 (.t 7),none⟩,
 ⟨some 9,.call 137 [(.t 6),(.t 8)],none⟩]
def l79_3:List COp:=[
 ⟨some 10,.fieldAddr 2 2 true (.t 2),none⟩,
 ⟨some 11,.load true 2 (.t 10),none⟩,
 ⟨some 12,.fieldAddr 2 2 true (.t 3),none⟩,
 ⟨some 13,.load true 2 (.t 12),none⟩,
 ⟨some 14,.call 137 [(.t 11),(.t 13)],none⟩]
def l79_4:List COp:=[
 ⟨some 15,.call 128 [(.t 9),(.t 14)],none⟩]
def l79_5:List COp:=[
 ⟨none,.store 4 (.t 4) (.t 15),none⟩]
def c79_6:CC:=.ops [] (l79_2++(l79_3++(l79_4++(l79_5))))
def c79_7:CC:=.seq c79_6 .ret
def c79_8:CC:=.seq c79_1 c79_7
def c79:CC:=c79_8
theorem fn79:FnOk Tryz.prog 79 [60] c79 [(4,some (true,4))] 16:=
 ⟨Tryz.f79,[⟨1,[0,1,2,3,4,5,6,7,8,9,10,11],[0,1,0,4,15,0,32,0,128,511,1023,2047],[]⟩],Tryz.func79,by kernel_rfl,by kernel_rfl,by kernel_rfl,by kernel_rfl,by kernel_rfl⟩
def l86_0:List COp:=[
 ⟨some 1,.box 60 4 (.t 0),none⟩,
 ⟨some 2,.mov (.k (.p (.int .i64 0))),none⟩]
def c86_1:CC:=.ops [] (l86_0)
def l86_2:List COp:=[
 ⟨some 3,.fieldAddr 0 2 true (.t 1),none⟩,
 ⟨some 4,.load true 2 (.t 3),none⟩,
 ⟨some 5,.call 162 [(.t 4)],none⟩]
def l86_3:List COp:=[
 ⟨some 2,.mov (.t 5),none⟩]
def c86_4:CC:=.ops [] (l86_2++(l86_3))
def c86_5:CC:=.seq c86_4 .ret
def c86_6:CC:=.seq c86_1 c86_5
def c86:CC:=c86_6
theorem fn86:FnOk Tryz.prog 86 [60] c86 [(2,none)] 6:=
 ⟨Tryz.f86,[],Tryz.func86,by kernel_rfl,by kernel_rfl,by kernel_rfl,by kernel_rfl,by kernel_rfl⟩
def l114_0:List COp:=[
 ⟨some 2,.box 60 4 (.t 0),none⟩,
 ⟨some 3,.box 60 4 (.t 1),none⟩,
 ⟨some 4,.alloc 60 4 (.p (.agg [(.bool false),(.list 3 1 []),(.bool false),(.list 3 1 [])])),none⟩,
 ⟨some 5,.alloc 27 2 (.p (.agg [(.int .i64 0),(.int .i64 0)])),none⟩]
def c114_1:CC:=.ops [] (l114_0)
def l114_2:List COp:=[
 ⟨some 6,.fieldAddr 0 2 true (.t 2),none⟩,
 ⟨some 7,.load true 2 (.t 6),none⟩,
 ⟨some 8,.fieldAddr 2 2 true (.t 3),none⟩,
 ⟨some 9,.load true 2 (.t 8),none⟩,
 ⟨some 10,.call 137 [(.t 7),(.t 9)],none⟩]
def l114_3:List COp:=[
 ⟨some 11,.fieldAddr 2 2 true (.t 2),none⟩,
 ⟨some 12,.load true 2 (.t 11),none⟩,
 ⟨some 13,.fieldAddr 0 2 true (.t 3),none⟩,
 ⟨some 14,.load true 2 (.t 13),none⟩,
 ⟨some 15,.call 137 [(.t 12),(.t 14)],none⟩]
def l114_4:List COp:=[
 ⟨some 16,.call 186 [(.t 10),(.t 15)],none⟩]
def l114_5:List COp:=[
 ⟨some 17,.extract (.t 16) 0,none⟩,
 ⟨some 18,.extract (.t 16) 1,none⟩,
 ⟨none,.store 4 (.t 4) (.t 17),none⟩,
 ⟨none,.store 2 (.t 5) (.t 18),none⟩]
def c114_6:CC:=.ops [] (l114_2++(l114_3++(l114_4++(l114_5))))
def c114_7:CC:=.seq c114_6 .ret
def c114_8:CC:=.seq c114_1 c114_7
def c114:CC:=c114_8
theorem fn114:FnOk Tryz.prog 114 [60,27] c114 [(4,some (true,4)),(5,some (true,2))] 19:=
 ⟨Tryz.f114,[⟨1,[0,1,2,3,4,5,6,7,8,9,10,11,12,13,14],[0,1,0,4,15,0,32,0,128,511,1023,2047,2047,8191,16383],[]⟩],Tryz.func114,by kernel_rfl,by kernel_rfl,by kernel_rfl,by kernel_rfl,by kernel_rfl⟩
def l128_0:List COp:=[
 ⟨some 2,.box 58 2 (.t 0),none⟩,
 ⟨some 3,.box 58 2 (.t 1),none⟩,
 ⟨some 4,.alloc 60 4 (.p (.agg [(.bool false),(.list 3 1 []),(.bool false),(.list 3 1 [])])),none⟩]
def c128_1:CC:=.ops [] (l128_0)
def l128_2:List COp:=[
 ⟨some 8,.load true 2 (.t 2),none⟩,
 ⟨some 9,.load true 2 (.t 3),none⟩,
 ⟨some 10,.call 186 [(.t 8),(.t 9)],none⟩]
def l128_3:List COp:=[
 ⟨some 7,.mov (.t 10),none⟩,
 ⟨some 11,.extract (.t 7) 0,none⟩,
 ⟨some 12,.extract (.t 7) 1,none⟩,
 ⟨some 5,.alloc 60 4 (.p (.agg [(.bool false),(.list 3 1 []),(.bool false),(.list 3 1 [])])),none⟩,
 ⟨some 6,.alloc 27 2 (.p (.agg [(.int .i64 0),(.int .i64 0)])),none⟩,
 ⟨none,.store 4 (.t 5) (.t 11),none⟩,
 ⟨none,.store 2 (.t 6) (.t 12),none⟩]
def c128_4:CC:=.ops [] (l128_2++(l128_3))
def l128_5:List COp:=[
 ⟨some 13,.load true 4 (.t 5),none⟩,
 ⟨none,.store 4 (.t 4) (.t 13),none⟩]
def c128_6:CC:=.ops [] (l128_5)
def c128_7:CC:=.seq c128_6 .ret
def c128_8:CC:=.seq c128_4 c128_7
def c128_9:CC:=.seq c128_1 c128_8
def c128:CC:=c128_9
theorem fn128:FnOk Tryz.prog 128 [58,60,27] c128 [(4,some (true,4))] 14:=
 ⟨Tryz.f128,[],Tryz.func128,by kernel_rfl,by kernel_rfl,by kernel_rfl,by kernel_rfl,by kernel_rfl⟩
end Go.Proofs.YtkidkimjdiichaaGreat.M
