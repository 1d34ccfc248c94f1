/- Polynomials modulo a prime: more functions in the small machine's words. -/
import Derived.Test.YtlnhembcfhfpkaaFqVx
namespace Go.Proofs.Ytlnhembcfhfpkaa.M
open Go.RowKit
set_option maxRecDepth 100000
def l7_0:List COp:=[
 ⟨some 4,.mov (.k (.p (.bool false))),none⟩]
def c7_1:CC:=.ops [] (l7_0)
def l7_2:List COp:=[
 ⟨some 20,.mov (.t 0),none⟩,
 ⟨some 21,.mov (.t 1),none⟩,
 ⟨some 22,.call 13 [(.t 20),(.t 21)],none⟩]
def l7_3:List COp:=[
 ⟨some 19,.mov (.t 22),none⟩,
 ⟨some 23,.extract (.t 19) 0,none⟩,
 ⟨some 24,.extract (.t 19) 1,none⟩,
 ⟨some 25,.extract (.t 19) 2,none⟩,
 ⟨some 7,.alloc 24 2 (.p (.agg [(.int .i64 0),(.int .i64 0)])),none⟩,
 ⟨some 5,.mov (.t 23),none⟩,
 ⟨some 6,.mov (.t 24),none⟩,
 ⟨none,.store 2 (.t 7) (.t 25),none⟩]
def c7_4:CC:=.ops [] (l7_2++(l7_3))
def l7_5:List COp:=[
 ⟨some 27,.mov (.t 0),none⟩,
 ⟨some 28,.mov (.t 1),none⟩,
 ⟨some 29,.call 15 [(.t 27),(.t 28)],none⟩]
def l7_6:List COp:=[
 ⟨some 26,.mov (.t 29),none⟩,
 ⟨some 30,.extract (.t 26) 0,none⟩,
 ⟨some 31,.extract (.t 26) 1,none⟩,
 ⟨some 9,.alloc 24 2 (.p (.agg [(.int .i64 0),(.int .i64 0)])),none⟩,
 ⟨some 8,.mov (.t 30),none⟩,
 ⟨none,.store 2 (.t 9) (.t 31),none⟩]
def c7_7:CC:=.ops [] (l7_5++(l7_6))
def l7_8:List COp:=[
 ⟨some 33,.mov (.t 0),none⟩,
 ⟨some 34,.mov (.t 1),none⟩,
 ⟨some 35,.call 23 [(.t 33),(.t 34)],none⟩]
def l7_9:List COp:=[
 ⟨some 32,.mov (.t 35),none⟩,
 ⟨some 36,.extract (.t 32) 0,none⟩,
 ⟨some 37,.extract (.t 32) 1,none⟩,
 ⟨some 11,.alloc 24 2 (.p (.agg [(.int .i64 0),(.int .i64 0)])),none⟩,
 ⟨some 10,.mov (.t 36),none⟩,
 ⟨none,.store 2 (.t 11) (.t 37),none⟩]
def c7_10:CC:=.ops [] (l7_8++(l7_9))
def l7_11:List COp:=[
 ⟨some 38,.mov (.t 0),none⟩,
 ⟨some 39,.mov (.t 1),none⟩,
 ⟨some 40,.call 9 [(.t 38),(.t 39)],none⟩]
def l7_12:List COp:=[
 ⟨some 12,.alloc 24 2 (.p (.agg [(.int .i64 0),(.int .i64 0)])),none⟩,
 ⟨none,.store 2 (.t 12) (.t 40),none⟩]
def c7_13:CC:=.ops [] (l7_11++(l7_12))
def l7_14:List COp:=[
 ⟨some 41,.call 10 [],none⟩]
def l7_15:List COp:=[
 ⟨some 42,.un .not (.t 41),none⟩,
 ⟨some 43,.mov (.t 42),none⟩,
 ⟨some 44,.load true 2 (.t 9),some (43,false)⟩,
 ⟨some 45,.load true 2 (.t 12),some (43,false)⟩,
 ⟨some 46,.eqs 2 true (.t 44) (.t 45),some (43,false)⟩,
 ⟨some 47,.pick (.t 43) (.k (.p (.bool true))) (.t 46),none⟩]
def c7_16:CC:=.ops [] (l7_14++(l7_15))
def l7_17:List COp:=[
 ⟨some 4,.mov (.k (.p (.bool false))),none⟩]
def c7_18:CC:=.ops [] (l7_17)
def c7_19:CC:=.seq c7_18 .ret
def c7_20:CC:=.cond (.t 47) c7_19 .skip
def c7_21:CC:=.seq c7_16 c7_20
def l7_22:List COp:=[
 ⟨some 48,.fieldAddr 0 1 false (.t 12),none⟩,
 ⟨some 49,.load false 1 (.t 48),none⟩,
 ⟨some 50,.bin false .eql (.t 49) (.k (.p (.int .i64 0))),none⟩,
 ⟨some 51,.mov (.t 50),none⟩,
 ⟨some 52,.mov (.t 0),some (51,true)⟩,
 ⟨some 53,.len (.t 52),some (51,true)⟩,
 ⟨some 54,.bin false .eql (.t 53) (.k (.p (.int .i64 0))),some (51,true)⟩,
 ⟨some 55,.pick (.t 51) (.t 54) (.k (.p (.bool false))),none⟩]
def c7_23:CC:=.ops [] (l7_22)
def l7_24:List COp:=[
 ⟨some 56,.call 20 [(.k (.p (.int .i64 4))),(.k (.p (.int .i64 0)))],none⟩]
def l7_25:List COp:=[
 ⟨none,.store 2 (.t 12) (.t 56),none⟩]
def c7_26:CC:=.ops [] (l7_24++(l7_25))
def l7_27:List COp:=[
 ⟨some 57,.mov (.t 8),none⟩]
def c7_28:CC:=.ops [] (l7_27)
def l7_29:List COp:=[
 ⟨some 4,.mov (.k (.p (.bool false))),none⟩]
def c7_30:CC:=.ops [] (l7_29)
def c7_31:CC:=.seq c7_30 .ret
def c7_32:CC:=.cond (.t 57) c7_31 .skip
def c7_33:CC:=.seq c7_28 c7_32
def c7_34:CC:=.seq c7_26 c7_33
def c7_35:CC:=.cond (.t 55) c7_34 .skip
def c7_36:CC:=.seq c7_23 c7_35
def l7_37:List COp:=[
 ⟨some 58,.load true 2 (.t 7),none⟩,
 ⟨some 59,.load true 2 (.t 12),none⟩,
 ⟨some 60,.eqs 2 true (.t 58) (.t 59),none⟩,
 ⟨some 61,.mov (.t 60),none⟩,
 ⟨some 62,.load true 2 (.t 11),some (61,false)⟩,
 ⟨some 63,.load true 2 (.t 12),some (61,false)⟩,
 ⟨some 64,.eqs 2 true (.t 62) (.t 63),some (61,false)⟩,
 ⟨some 65,.pick (.t 61) (.k (.p (.bool true))) (.t 64),none⟩]
def c7_38:CC:=.ops [] (l7_37)
def l7_39:List COp:=[
 ⟨some 4,.mov (.k (.p (.bool false))),none⟩]
def c7_40:CC:=.ops [] (l7_39)
def c7_41:CC:=.seq c7_40 .ret
def c7_42:CC:=.cond (.t 65) c7_41 .skip
def c7_43:CC:=.seq c7_38 c7_42
def l7_44:List COp:=[
 ⟨some 66,.fieldAddr 0 1 false (.t 12),none⟩,
 ⟨some 67,.load false 1 (.t 66),none⟩,
 ⟨some 68,.bin false .neq (.t 67) (.k (.p (.int .i64 0))),none⟩]
def c7_45:CC:=.ops [] (l7_44)
def l7_46:List COp:=[
 ⟨some 69,.mov (.t 5),none⟩,
 ⟨some 70,.bin false .eql (.t 69) (.k (.p (.int .i64 0))),none⟩,
 ⟨some 71,.mov (.t 70),none⟩,
 ⟨some 72,.mov (.t 6),some (71,true)⟩,
 ⟨some 73,.len (.t 72),some (71,true)⟩,
 ⟨some 74,.bin false .eql (.t 73) (.k (.p (.int .i64 0))),some (71,true)⟩,
 ⟨some 75,.pick (.t 71) (.t 74) (.k (.p (.bool false))),none⟩,
 ⟨some 76,.mov (.t 75),none⟩,
 ⟨some 77,.mov (.t 8),some (76,true)⟩,
 ⟨some 78,.un .not (.t 77),some (76,true)⟩,
 ⟨some 79,.pick (.t 76) (.t 78) (.k (.p (.bool false))),none⟩,
 ⟨some 80,.mov (.t 79),none⟩,
 ⟨some 81,.mov (.t 10),some (80,true)⟩,
 ⟨some 82,.len (.t 81),some (80,true)⟩,
 ⟨some 83,.bin false .eql (.t 82) (.k (.p (.int .i64 0))),some (80,true)⟩,
 ⟨some 84,.pick (.t 80) (.t 83) (.k (.p (.bool false))),none⟩,
 ⟨some 4,.mov (.t 84),none⟩]
def c7_47:CC:=.ops [] (l7_46)
def c7_48:CC:=.seq c7_47 .ret
def c7_49:CC:=.cond (.t 68) c7_48 .skip
def c7_50:CC:=.seq c7_45 c7_49
def l7_51:List COp:=[
 ⟨some 85,.mov (.t 0),none⟩,
 ⟨some 86,.mov (.t 0),none⟩,
 ⟨some 87,.len (.t 86),none⟩,
 ⟨some 88,.bin false .sub (.t 87) (.k (.p (.int .i64 1))),none⟩,
 ⟨some 89,.indexAddr 1 (.t 85) (.t 88),none⟩,
 ⟨some 90,.load false 1 (.t 89),none⟩,
 ⟨some 91,.buildSlice 3 1 (.int .i64 0) 1 [(0,(.t 90))],none⟩,
 ⟨some 13,.mov (.t 91),none⟩]
def c7_52:CC:=.ops [] (l7_51)
def l7_53:List COp:=[
 ⟨some 14,.mov (.k (.p (.int .i64 0))),none⟩]
def c7_54:CC:=.ops [] (l7_53)
def l7_55:List COp:=[
 ⟨some 92,.mov (.t 14),none⟩,
 ⟨some 93,.mov (.t 6),none⟩,
 ⟨some 94,.len (.t 93),none⟩,
 ⟨some 95,.bin false .lss (.t 92) (.t 94),none⟩]
def c7_56:CC:=.ops [] (l7_55)
def c7_57:CC:=.cond (.t 95) .skip (.exit 0)
def c7_58:CC:=.seq c7_56 c7_57
def l7_59:List COp:=[
 ⟨some 98,.mov (.t 6),none⟩,
 ⟨some 99,.mov (.t 14),none⟩,
 ⟨some 100,.indexAddr 2 (.t 98) (.t 99),none⟩,
 ⟨some 101,.fieldAddr 0 1 false (.t 100),none⟩,
 ⟨some 102,.load false 1 (.t 101),none⟩,
 ⟨some 15,.mov (.t 102),none⟩]
def c7_60:CC:=.ops [] (l7_59)
def l7_61:List COp:=[
 ⟨some 103,.mov (.t 15),none⟩,
 ⟨some 104,.len (.t 103),none⟩,
 ⟨some 105,.bin false .lss (.t 104) (.k (.p (.int .i64 2))),none⟩,
 ⟨some 106,.mov (.t 105),none⟩,
 ⟨some 107,.mov (.t 15),some (106,false)⟩,
 ⟨some 108,.mov (.t 1),some (106,false)⟩,
 ⟨some 109,.call 9 [(.t 107),(.t 108)],some (106,false)⟩]
def l7_62:List COp:=[
 ⟨some 110,.field 0 1 false (.t 109),some (106,false)⟩,
 ⟨some 111,.bin false .neq (.t 110) (.k (.p (.int .i64 0))),some (106,false)⟩,
 ⟨some 112,.pick (.t 106) (.k (.p (.bool true))) (.t 111),none⟩,
 ⟨some 113,.mov (.t 112),none⟩,
 ⟨some 114,.mov (.t 15),some (113,false)⟩,
 ⟨some 115,.mov (.t 15),some (113,false)⟩,
 ⟨some 116,.len (.t 115),some (113,false)⟩,
 ⟨some 117,.bin false .sub (.t 116) (.k (.p (.int .i64 1))),some (113,false)⟩,
 ⟨some 118,.indexAddr 1 (.t 114) (.t 117),some (113,false)⟩,
 ⟨some 119,.load false 1 (.t 118),some (113,false)⟩,
 ⟨some 120,.bin false .neq (.t 119) (.k (.p (.int .i64 1))),some (113,false)⟩,
 ⟨some 121,.pick (.t 113) (.k (.p (.bool true))) (.t 120),none⟩,
 ⟨some 122,.mov (.t 121),none⟩,
 ⟨some 123,.mov (.t 6),some (122,false)⟩,
 ⟨some 124,.mov (.t 14),some (122,false)⟩,
 ⟨some 125,.indexAddr 2 (.t 123) (.t 124),some (122,false)⟩,
 ⟨some 126,.fieldAddr 1 1 false (.t 125),some (122,false)⟩,
 ⟨some 127,.load false 1 (.t 126),some (122,false)⟩,
 ⟨some 128,.bin false .lss (.t 127) (.k (.p (.int .i64 1))),some (122,false)⟩,
 ⟨some 129,.pick (.t 122) (.k (.p (.bool true))) (.t 128),none⟩,
 ⟨some 130,.mov (.t 129),none⟩,
 ⟨some 131,.mov (.t 6),some (130,false)⟩,
 ⟨some 132,.mov (.t 14),some (130,false)⟩,
 ⟨some 133,.indexAddr 2 (.t 131) (.t 132),some (130,false)⟩,
 ⟨some 134,.fieldAddr 1 1 false (.t 133),some (130,false)⟩,
 ⟨some 135,.load false 1 (.t 134),some (130,false)⟩,
 ⟨some 136,.mov (.t 0),some (130,false)⟩,
 ⟨some 137,.len (.t 136),some (130,false)⟩,
 ⟨some 138,.bin false .gtr (.t 135) (.t 137),some (130,false)⟩,
 ⟨some 139,.pick (.t 130) (.k (.p (.bool true))) (.t 138),none⟩,
 ⟨some 140,.mov (.t 139),none⟩,
 ⟨some 141,.mov (.t 14),some (140,false)⟩,
 ⟨some 142,.bin false .gtr (.t 141) (.k (.p (.int .i64 0))),some (140,false)⟩,
 ⟨some 143,.mov (.t 142),some (140,false)⟩,
 ⟨some 144,.mov (.t 6),some (143,true)⟩,
 ⟨some 145,.mov (.t 14),some (143,true)⟩,
 ⟨some 146,.bin false .sub (.t 145) (.k (.p (.int .i64 1))),some (143,true)⟩,
 ⟨some 147,.indexAddr 2 (.t 144) (.t 146),some (143,true)⟩,
 ⟨some 148,.fieldAddr 0 1 false (.t 147),some (143,true)⟩,
 ⟨some 149,.load false 1 (.t 148),some (143,true)⟩,
 ⟨some 150,.mov (.t 15),some (143,true)⟩,
 ⟨some 151,.call 24 [(.t 149),(.t 150)],some (143,true)⟩]
def l7_63:List COp:=[
 ⟨some 152,.un .not (.t 151),some (143,true)⟩,
 ⟨some 153,.pick (.t 143) (.t 152) (.k (.p (.bool false))),some (140,false)⟩,
 ⟨some 154,.pick (.t 140) (.k (.p (.bool true))) (.t 153),none⟩]
def c7_64:CC:=.ops [] (l7_61++(l7_62++(l7_63)))
def l7_65:List COp:=[
 ⟨some 4,.mov (.k (.p (.bool false))),none⟩]
def c7_66:CC:=.ops [] (l7_65)
def c7_67:CC:=.seq c7_66 .ret
def c7_68:CC:=.cond (.t 154) c7_67 .skip
def c7_69:CC:=.seq c7_64 c7_68
def l7_70:List COp:=[
 ⟨some 16,.mov (.k (.p (.int .i64 0))),none⟩]
def c7_71:CC:=.ops [] (l7_70)
def l7_72:List COp:=[
 ⟨some 155,.mov (.t 16),none⟩,
 ⟨some 156,.mov (.t 6),none⟩,
 ⟨some 157,.mov (.t 14),none⟩,
 ⟨some 158,.indexAddr 2 (.t 156) (.t 157),none⟩,
 ⟨some 159,.fieldAddr 1 1 false (.t 158),none⟩,
 ⟨some 160,.load false 1 (.t 159),none⟩,
 ⟨some 161,.bin false .lss (.t 155) (.t 160),none⟩]
def c7_73:CC:=.ops [] (l7_72)
def c7_74:CC:=.cond (.t 161) .skip (.exit 2)
def c7_75:CC:=.seq c7_73 c7_74
def l7_76:List COp:=[
 ⟨some 164,.mov (.t 13),none⟩,
 ⟨some 165,.mov (.t 15),none⟩,
 ⟨some 166,.mov (.t 1),none⟩,
 ⟨some 167,.call 19 [(.t 164),(.t 165),(.t 166)],none⟩]
def l7_77:List COp:=[
 ⟨some 13,.mov (.t 167),none⟩]
def c7_78:CC:=.ops [] (l7_76++(l7_77))
def c7_79:CC:=.block 3 c7_78
def l7_80:List COp:=[
 ⟨some 162,.mov (.t 16),none⟩,
 ⟨some 163,.bin false .add (.t 162) (.k (.p (.int .i64 1))),none⟩,
 ⟨some 16,.mov (.t 163),none⟩]
def c7_81:CC:=.ops [] (l7_80)
def c7_82:CC:=.seq c7_79 c7_81
def c7_83:CC:=.seq c7_75 c7_82
def c7_84:CC:=.loop c7_83
def c7_85:CC:=.block 2 c7_84
def c7_86:CC:=.seq c7_71 c7_85
def l7_87:List COp:=[
 ⟨some 168,.mov (.t 15),none⟩,
 ⟨some 169,.mov (.t 1),none⟩,
 ⟨some 170,.call 25 [(.t 168),(.t 169)],none⟩]
def l7_88:List COp:=[
 ⟨some 171,.bin false .lss (.t 170) (.k (.p (.int .i64 20000))),none⟩,
 ⟨some 172,.mov (.t 171),none⟩,
 ⟨some 173,.mov (.t 15),some (172,true)⟩,
 ⟨some 174,.mov (.t 1),some (172,true)⟩,
 ⟨some 175,.call 26 [(.t 173),(.t 174)],some (172,true)⟩]
def l7_89:List COp:=[
 ⟨some 176,.un .not (.t 175),some (172,true)⟩,
 ⟨some 177,.pick (.t 172) (.t 176) (.k (.p (.bool false))),none⟩]
def c7_90:CC:=.ops [] (l7_87++(l7_88++(l7_89)))
def l7_91:List COp:=[
 ⟨some 4,.mov (.k (.p (.bool false))),none⟩]
def c7_92:CC:=.ops [] (l7_91)
def c7_93:CC:=.seq c7_92 .ret
def c7_94:CC:=.cond (.t 177) c7_93 .skip
def c7_95:CC:=.seq c7_90 c7_94
def c7_96:CC:=.seq c7_86 c7_95
def c7_97:CC:=.seq c7_69 c7_96
def c7_98:CC:=.seq c7_60 c7_97
def c7_99:CC:=.block 1 c7_98
def l7_100:List COp:=[
 ⟨some 96,.mov (.t 14),none⟩,
 ⟨some 97,.bin false .add (.t 96) (.k (.p (.int .i64 1))),none⟩,
 ⟨some 14,.mov (.t 97),none⟩]
def c7_101:CC:=.ops [] (l7_100)
def c7_102:CC:=.seq c7_99 c7_101
def c7_103:CC:=.seq c7_58 c7_102
def c7_104:CC:=.loop c7_103
def c7_105:CC:=.block 0 c7_104
def c7_106:CC:=.seq c7_54 c7_105
def l7_107:List COp:=[
 ⟨some 178,.mov (.t 5),none⟩,
 ⟨some 179,.mov (.t 0),none⟩,
 ⟨some 180,.mov (.t 0),none⟩,
 ⟨some 181,.len (.t 180),none⟩,
 ⟨some 182,.bin false .sub (.t 181) (.k (.p (.int .i64 1))),none⟩,
 ⟨some 183,.indexAddr 1 (.t 179) (.t 182),none⟩,
 ⟨some 184,.load false 1 (.t 183),none⟩,
 ⟨some 185,.bin false .neq (.t 178) (.t 184),none⟩,
 ⟨some 186,.mov (.t 185),none⟩,
 ⟨some 187,.mov (.t 13),some (186,false)⟩,
 ⟨some 188,.mov (.t 0),some (186,false)⟩,
 ⟨some 189,.call 11 [(.t 187),(.t 188)],some (186,false)⟩]
def l7_108:List COp:=[
 ⟨some 190,.un .not (.t 189),some (186,false)⟩,
 ⟨some 191,.pick (.t 186) (.k (.p (.bool true))) (.t 190),none⟩,
 ⟨some 192,.mov (.t 191),none⟩,
 ⟨some 193,.mov (.t 8),some (192,false)⟩,
 ⟨some 194,.mov (.t 6),some (192,false)⟩,
 ⟨some 195,.len (.t 194),some (192,false)⟩,
 ⟨some 196,.bin false .eql (.t 195) (.k (.p (.int .i64 1))),some (192,false)⟩,
 ⟨some 197,.mov (.t 196),some (192,false)⟩,
 ⟨some 198,.mov (.t 6),some (197,true)⟩,
 ⟨some 199,.indexAddr 2 (.t 198) (.k (.p (.int .i64 0))),some (197,true)⟩,
 ⟨some 200,.fieldAddr 1 1 false (.t 199),some (197,true)⟩,
 ⟨some 201,.load false 1 (.t 200),some (197,true)⟩,
 ⟨some 202,.bin false .eql (.t 201) (.k (.p (.int .i64 1))),some (197,true)⟩,
 ⟨some 203,.pick (.t 197) (.t 202) (.k (.p (.bool false))),some (192,false)⟩,
 ⟨some 204,.bin true .neq (.t 193) (.t 203),some (192,false)⟩,
 ⟨some 205,.pick (.t 192) (.k (.p (.bool true))) (.t 204),none⟩]
def c7_109:CC:=.ops [] (l7_107++(l7_108))
def l7_110:List COp:=[
 ⟨some 4,.mov (.k (.p (.bool false))),none⟩]
def c7_111:CC:=.ops [] (l7_110)
def c7_112:CC:=.seq c7_111 .ret
def c7_113:CC:=.cond (.t 205) c7_112 .skip
def c7_114:CC:=.seq c7_109 c7_113
def l7_115:List COp:=[
 ⟨some 17,.mov (.k (.p (.int .i64 0))),none⟩]
def c7_116:CC:=.ops [] (l7_115)
def l7_117:List COp:=[
 ⟨some 206,.mov (.t 1),none⟩,
 ⟨some 207,.bin false .gtr (.t 206) (.k (.p (.int .i64 5000))),none⟩]
def c7_118:CC:=.ops [] (l7_117)
def l7_119:List COp:=[
 ⟨some 4,.mov (.k (.p (.bool true))),none⟩]
def c7_120:CC:=.ops [] (l7_119)
def c7_121:CC:=.seq c7_120 .ret
def c7_122:CC:=.cond (.t 207) c7_121 .skip
def c7_123:CC:=.seq c7_118 c7_122
def l7_124:List COp:=[
 ⟨some 18,.mov (.k (.p (.int .i64 0))),none⟩]
def c7_125:CC:=.ops [] (l7_124)
def l7_126:List COp:=[
 ⟨some 208,.mov (.t 18),none⟩,
 ⟨some 209,.mov (.t 1),none⟩,
 ⟨some 210,.bin false .lss (.t 208) (.t 209),none⟩]
def c7_127:CC:=.ops [] (l7_126)
def c7_128:CC:=.cond (.t 210) .skip (.exit 4)
def c7_129:CC:=.seq c7_127 c7_128
def l7_130:List COp:=[
 ⟨some 213,.mov (.t 0),none⟩,
 ⟨some 214,.mov (.t 18),none⟩,
 ⟨some 215,.mov (.t 1),none⟩,
 ⟨some 216,.call 27 [(.t 213),(.t 214),(.t 215)],none⟩]
def l7_131:List COp:=[
 ⟨some 217,.bin false .eql (.t 216) (.k (.p (.int .i64 0))),none⟩]
def c7_132:CC:=.ops [] (l7_130++(l7_131))
def l7_133:List COp:=[
 ⟨some 218,.mov (.t 17),none⟩,
 ⟨some 219,.mov (.t 10),none⟩,
 ⟨some 220,.len (.t 219),none⟩,
 ⟨some 221,.bin false .geq (.t 218) (.t 220),none⟩,
 ⟨some 222,.mov (.t 221),none⟩,
 ⟨some 223,.mov (.t 10),some (222,false)⟩,
 ⟨some 224,.mov (.t 17),some (222,false)⟩,
 ⟨some 225,.indexAddr 1 (.t 223) (.t 224),some (222,false)⟩,
 ⟨some 226,.load false 1 (.t 225),some (222,false)⟩,
 ⟨some 227,.mov (.t 18),some (222,false)⟩,
 ⟨some 228,.bin false .neq (.t 226) (.t 227),some (222,false)⟩,
 ⟨some 229,.pick (.t 222) (.k (.p (.bool true))) (.t 228),none⟩]
def c7_134:CC:=.ops [] (l7_133)
def l7_135:List COp:=[
 ⟨some 4,.mov (.k (.p (.bool false))),none⟩]
def c7_136:CC:=.ops [] (l7_135)
def c7_137:CC:=.seq c7_136 .ret
def c7_138:CC:=.cond (.t 229) c7_137 .skip
def c7_139:CC:=.seq c7_134 c7_138
def l7_140:List COp:=[
 ⟨some 230,.mov (.t 17),none⟩,
 ⟨some 231,.bin false .add (.t 230) (.k (.p (.int .i64 1))),none⟩,
 ⟨some 17,.mov (.t 231),none⟩]
def c7_141:CC:=.ops [] (l7_140)
def c7_142:CC:=.seq c7_139 c7_141
def c7_143:CC:=.cond (.t 217) c7_142 .skip
def c7_144:CC:=.seq c7_132 c7_143
def c7_145:CC:=.block 5 c7_144
def l7_146:List COp:=[
 ⟨some 211,.mov (.t 18),none⟩,
 ⟨some 212,.bin false .add (.t 211) (.k (.p (.int .i64 1))),none⟩,
 ⟨some 18,.mov (.t 212),none⟩]
def c7_147:CC:=.ops [] (l7_146)
def c7_148:CC:=.seq c7_145 c7_147
def c7_149:CC:=.seq c7_129 c7_148
def c7_150:CC:=.loop c7_149
def c7_151:CC:=.block 4 c7_150
def c7_152:CC:=.seq c7_125 c7_151
def l7_153:List COp:=[
 ⟨some 232,.mov (.t 17),none⟩,
 ⟨some 233,.mov (.t 10),none⟩,
 ⟨some 234,.len (.t 233),none⟩,
 ⟨some 235,.bin false .eql (.t 232) (.t 234),none⟩,
 ⟨some 4,.mov (.t 235),none⟩]
def c7_154:CC:=.ops [] (l7_153)
def c7_155:CC:=.seq c7_154 .ret
def c7_156:CC:=.seq c7_152 c7_155
def c7_157:CC:=.seq c7_123 c7_156
def c7_158:CC:=.seq c7_116 c7_157
def c7_159:CC:=.seq c7_114 c7_158
def c7_160:CC:=.seq c7_106 c7_159
def c7_161:CC:=.seq c7_52 c7_160
def c7_162:CC:=.seq c7_50 c7_161
def c7_163:CC:=.seq c7_43 c7_162
def c7_164:CC:=.seq c7_36 c7_163
def c7_165:CC:=.seq c7_21 c7_164
def c7_166:CC:=.seq c7_13 c7_165
def c7_167:CC:=.seq c7_10 c7_166
def c7_168:CC:=.seq c7_7 c7_167
def c7_169:CC:=.seq c7_4 c7_168
def c7_170:CC:=.seq c7_1 c7_169
def c7:CC:=c7_170
theorem fn7:FnOk Try.prog 7 [24,3] c7 [(4,none)] 236:=
 ⟨Try.f7,[],Try.func7,by kernel_rfl,by kernel_rfl,by kernel_rfl,by kernel_rfl,by kernel_rfl⟩
def l15_0:List COp:=[
 ⟨some 4,.mov (.k (.p (.bool false))),none⟩,
 ⟨some 5,.alloc 24 2 (.p (.agg [(.int .i64 0),(.int .i64 0)])),none⟩]
def c15_1:CC:=.ops [] (l15_0)
def l15_2:List COp:=[
 ⟨some 7,.mov (.t 0),none⟩,
 ⟨some 8,.mov (.t 1),none⟩,
 ⟨some 9,.call 18 [(.t 7),(.t 8)],none⟩]
def l15_3:List COp:=[
 ⟨some 6,.alloc 24 2 (.p (.agg [(.int .i64 0),(.int .i64 0)])),none⟩,
 ⟨none,.store 2 (.t 6) (.t 9),none⟩]
def c15_4:CC:=.ops [] (l15_2++(l15_3))
def l15_5:List COp:=[
 ⟨some 10,.fieldAddr 0 1 false (.t 6),none⟩,
 ⟨some 11,.load false 1 (.t 10),none⟩,
 ⟨some 12,.bin false .neq (.t 11) (.k (.p (.int .i64 0))),none⟩]
def c15_6:CC:=.ops [] (l15_5)
def l15_7:List COp:=[
 ⟨some 13,.load true 2 (.t 6),none⟩,
 ⟨some 4,.mov (.k (.p (.bool false))),none⟩,
 ⟨none,.store 2 (.t 5) (.t 13),none⟩]
def c15_8:CC:=.ops [] (l15_7)
def c15_9:CC:=.seq c15_8 .ret
def c15_10:CC:=.cond (.t 12) c15_9 .skip
def c15_11:CC:=.seq c15_6 c15_10
def c15_12:CC:=.seq c15_4 c15_11
def l15_13:List COp:=[
 ⟨some 14,.mov (.t 0),none⟩,
 ⟨some 15,.len (.t 14),none⟩,
 ⟨some 16,.bin false .gtr (.t 15) (.k (.p (.int .i64 1))),none⟩,
 ⟨some 17,.mov (.t 16),none⟩,
 ⟨some 18,.mov (.t 0),some (17,true)⟩,
 ⟨some 19,.mov (.t 1),some (17,true)⟩,
 ⟨some 20,.call 43 [(.t 18),(.t 19)],some (17,true)⟩]
def l15_14:List COp:=[
 ⟨some 21,.pick (.t 17) (.t 20) (.k (.p (.bool false))),none⟩,
 ⟨some 22,.build [(.p (.int .i64 0)),(.p (.int .i64 0))] [],none⟩,
 ⟨some 4,.mov (.t 21),none⟩,
 ⟨none,.store 2 (.t 5) (.t 22),none⟩]
def c15_15:CC:=.ops [] (l15_13++(l15_14))
def c15_16:CC:=.seq c15_15 .ret
def c15_17:CC:=.seq c15_12 c15_16
def c15_18:CC:=.seq c15_1 c15_17
def c15:CC:=c15_18
theorem fn15:FnOk Try.prog 15 [24] c15 [(4,none),(5,some (true,2))] 23:=
 ⟨Try.f15,[⟨3,[0,1,2],[0,0,3],[]⟩],Try.func15,by kernel_rfl,by kernel_rfl,by kernel_rfl,by kernel_rfl,by kernel_rfl⟩
def l43_0:List COp:=[
 ⟨some 4,.mov (.k (.p (.bool false))),none⟩]
def c43_1:CC:=.ops [] (l43_0)
def l43_2:List COp:=[
 ⟨some 9,.mov (.t 0),none⟩,
 ⟨some 10,.mov (.t 1),none⟩,
 ⟨some 11,.call 13 [(.t 9),(.t 10)],none⟩]
def l43_3:List COp:=[
 ⟨some 8,.mov (.t 11),none⟩,
 ⟨some 12,.extract (.t 8) 0,none⟩,
 ⟨some 13,.extract (.t 8) 1,none⟩,
 ⟨some 14,.extract (.t 8) 2,none⟩,
 ⟨some 7,.alloc 24 2 (.p (.agg [(.int .i64 0),(.int .i64 0)])),none⟩,
 ⟨some 5,.mov (.t 12),none⟩,
 ⟨some 6,.mov (.t 13),none⟩,
 ⟨none,.store 2 (.t 7) (.t 14),none⟩]
def c43_4:CC:=.ops [] (l43_2++(l43_3))
def l43_5:List COp:=[
 ⟨some 15,.mov (.t 6),none⟩,
 ⟨some 16,.len (.t 15),none⟩,
 ⟨some 17,.bin false .eql (.t 16) (.k (.p (.int .i64 1))),none⟩,
 ⟨some 18,.mov (.t 17),none⟩,
 ⟨some 19,.mov (.t 6),some (18,true)⟩,
 ⟨some 20,.indexAddr 2 (.t 19) (.k (.p (.int .i64 0))),some (18,true)⟩,
 ⟨some 21,.fieldAddr 1 1 false (.t 20),some (18,true)⟩,
 ⟨some 22,.load false 1 (.t 21),some (18,true)⟩,
 ⟨some 23,.bin false .eql (.t 22) (.k (.p (.int .i64 1))),some (18,true)⟩,
 ⟨some 24,.pick (.t 18) (.t 23) (.k (.p (.bool false))),none⟩,
 ⟨some 4,.mov (.t 24),none⟩]
def c43_6:CC:=.ops [] (l43_5)
def c43_7:CC:=.seq c43_6 .ret
def c43_8:CC:=.seq c43_4 c43_7
def c43_9:CC:=.seq c43_1 c43_8
def c43:CC:=c43_9
theorem fn43:FnOk Try.prog 43 [24] c43 [(4,none)] 25:=
 ⟨Try.f43,[],Try.func43,by kernel_rfl,by kernel_rfl,by kernel_rfl,by kernel_rfl,by kernel_rfl⟩
def l23_0:List COp:=[
 ⟨some 4,.mov (.k (.nils 3 1)),none⟩,
 ⟨some 5,.alloc 24 2 (.p (.agg [(.int .i64 0),(.int .i64 0)])),none⟩]
def c23_1:CC:=.ops [] (l23_0)
def l23_2:List COp:=[
 ⟨some 13,.mov (.t 0),none⟩,
 ⟨some 14,.mov (.t 1),none⟩,
 ⟨some 15,.call 13 [(.t 13),(.t 14)],none⟩]
def l23_3:List COp:=[
 ⟨some 12,.mov (.t 15),none⟩,
 ⟨some 16,.extract (.t 12) 0,none⟩,
 ⟨some 17,.extract (.t 12) 1,none⟩,
 ⟨some 18,.extract (.t 12) 2,none⟩,
 ⟨some 8,.alloc 24 2 (.p (.agg [(.int .i64 0),(.int .i64 0)])),none⟩,
 ⟨some 6,.mov (.t 16),none⟩,
 ⟨some 7,.mov (.t 17),none⟩,
 ⟨none,.store 2 (.t 8) (.t 18),none⟩]
def c23_4:CC:=.ops [] (l23_2++(l23_3))
def l23_5:List COp:=[
 ⟨some 19,.fieldAddr 0 1 false (.t 8),none⟩,
 ⟨some 20,.load false 1 (.t 19),none⟩,
 ⟨some 21,.bin false .neq (.t 20) (.k (.p (.int .i64 0))),none⟩]
def c23_6:CC:=.ops [] (l23_5)
def l23_7:List COp:=[
 ⟨some 22,.load true 2 (.t 8),none⟩,
 ⟨some 4,.mov (.k (.nils 3 1)),none⟩,
 ⟨none,.store 2 (.t 5) (.t 22),none⟩]
def c23_8:CC:=.ops [] (l23_7)
def c23_9:CC:=.seq c23_8 .ret
def c23_10:CC:=.cond (.t 21) c23_9 .skip
def c23_11:CC:=.seq c23_6 c23_10
def l23_12:List COp:=[
 ⟨some 9,.mov (.k (.nils 3 1)),none⟩]
def c23_13:CC:=.ops [] (l23_12)
def l23_14:List COp:=[
 ⟨some 23,.mov (.t 7),none⟩,
 ⟨some 24,.len (.t 23),none⟩,
 ⟨some 25,.mov (.k (.p (.int .i64 0))),none⟩]
def c23_15:CC:=.ops [] (l23_14)
def l23_16:List COp:=[
 ⟨some 26,.bin false .lss (.t 25) (.t 24),none⟩]
def c23_17:CC:=.ops [] (l23_16)
def c23_18:CC:=.cond (.t 26) .skip (.exit 0)
def l23_19:List COp:=[
 ⟨some 27,.indexAddr 2 (.t 23) (.t 25),none⟩,
 ⟨some 28,.load true 2 (.t 27),none⟩,
 ⟨some 11,.alloc 36 2 (.p (.agg [(.list 3 1 []),(.int .i64 0)])),none⟩,
 ⟨none,.store 2 (.t 11) (.t 28),none⟩]
def c23_20:CC:=.ops [] (l23_19)
def l23_21:List COp:=[
 ⟨some 29,.fieldAddr 0 1 false (.t 11),none⟩,
 ⟨some 30,.load false 1 (.t 29),none⟩,
 ⟨some 31,.len (.t 30),none⟩,
 ⟨some 32,.bin false .eql (.t 31) (.k (.p (.int .i64 2))),none⟩]
def c23_22:CC:=.ops [] (l23_21)
def l23_23:List COp:=[
 ⟨some 33,.mov (.t 9),none⟩,
 ⟨some 34,.mov (.t 1),none⟩,
 ⟨some 35,.fieldAddr 0 1 false (.t 11),none⟩,
 ⟨some 36,.load false 1 (.t 35),none⟩,
 ⟨some 37,.indexAddr 1 (.t 36) (.k (.p (.int .i64 0))),none⟩,
 ⟨some 38,.load false 1 (.t 37),none⟩,
 ⟨some 39,.bin false .sub (.t 34) (.t 38),none⟩,
 ⟨some 40,.mov (.t 1),none⟩,
 ⟨some 41,.bin false .rem (.t 39) (.t 40),none⟩,
 ⟨some 42,.buildSlice 3 1 (.int .i64 0) 1 [(0,(.t 41))],none⟩,
 ⟨some 43,.append 3 1 8 (.t 33) (.t 42),none⟩,
 ⟨some 9,.mov (.t 43),none⟩]
def c23_24:CC:=.ops [] (l23_23)
def c23_25:CC:=.cond (.t 32) c23_24 .skip
def c23_26:CC:=.seq c23_22 c23_25
def c23_27:CC:=.seq c23_20 c23_26
def c23_28:CC:=.block 1 c23_27
def l23_29:List COp:=[
 ⟨some 44,.bin false .add (.t 25) (.k (.p (.int .i64 1))),none⟩,
 ⟨some 25,.mov (.t 44),none⟩]
def c23_30:CC:=.ops [] (l23_29)
def c23_31:CC:=.seq c23_28 c23_30
def c23_32:CC:=.seq c23_18 c23_31
def c23_33:CC:=.seq c23_17 c23_32
def c23_34:CC:=.loop c23_33
def c23_35:CC:=.block 0 c23_34
def c23_36:CC:=.seq c23_15 c23_35
def l23_37:List COp:=[
 ⟨some 45,.mov (.t 9),none⟩,
 ⟨some 46,.callL 49 0 [(.t 45)],none⟩]
def c23_38:CC:=.ops [] (l23_37)
def l23_39:List COp:=[
 ⟨some 48,.load true 2 (.t 8),none⟩,
 ⟨some 47,.mov (.t 9),none⟩,
 ⟨some 4,.mov (.t 47),none⟩,
 ⟨none,.store 2 (.t 5) (.t 48),none⟩]
def c23_40:CC:=.ops [] (l23_39)
def c23_41:CC:=.seq c23_40 .ret
def c23_42:CC:=.seq c23_38 c23_41
def c23_43:CC:=.seq c23_36 c23_42
def c23_44:CC:=.seq c23_13 c23_43
def c23_45:CC:=.seq c23_11 c23_44
def c23_46:CC:=.seq c23_4 c23_45
def c23_47:CC:=.seq c23_1 c23_46
def c23:CC:=c23_47
def l26_0:List COp:=[
 ⟨some 4,.mov (.k (.p (.bool false))),none⟩]
def c26_1:CC:=.ops [] (l26_0)
def l26_2:List COp:=[
 ⟨some 5,.mov (.k (.p (.int .i64 1))),none⟩]
def c26_3:CC:=.ops [] (l26_2)
def l26_4:List COp:=[
 ⟨some 7,.mov (.t 5),none⟩,
 ⟨some 8,.bin false .mul (.k (.p (.int .i64 2))) (.t 7),none⟩,
 ⟨some 9,.mov (.t 0),none⟩,
 ⟨some 10,.len (.t 9),none⟩,
 ⟨some 11,.bin false .sub (.t 10) (.k (.p (.int .i64 1))),none⟩,
 ⟨some 12,.bin false .leq (.t 8) (.t 11),none⟩]
def c26_5:CC:=.ops [] (l26_4)
def c26_6:CC:=.cond (.t 12) .skip (.exit 0)
def c26_7:CC:=.seq c26_5 c26_6
def l26_8:List COp:=[
 ⟨some 6,.mov (.k (.p (.int .i64 0))),none⟩]
def c26_9:CC:=.ops [] (l26_8)
def l26_10:List COp:=[
 ⟨some 15,.mov (.t 6),none⟩,
 ⟨some 16,.mov (.t 1),none⟩,
 ⟨some 17,.mov (.t 5),none⟩,
 ⟨some 18,.call 50 [(.t 16),(.t 17)],none⟩]
def l26_11:List COp:=[
 ⟨some 19,.bin false .lss (.t 15) (.t 18),none⟩]
def c26_12:CC:=.ops [] (l26_10++(l26_11))
def c26_13:CC:=.cond (.t 19) .skip (.exit 2)
def c26_14:CC:=.seq c26_12 c26_13
def l26_15:List COp:=[
 ⟨some 22,.mov (.t 0),none⟩,
 ⟨some 23,.mov (.t 5),none⟩,
 ⟨some 24,.mov (.t 6),none⟩,
 ⟨some 25,.mov (.t 1),none⟩,
 ⟨some 26,.call 51 [(.t 23),(.t 24),(.t 25)],none⟩]
def l26_16:List COp:=[
 ⟨some 27,.mov (.t 1),none⟩,
 ⟨some 28,.call 32 [(.t 22),(.t 26),(.t 27)],none⟩]
def l26_17:List COp:=[
 ⟨some 29,.len (.t 28),none⟩,
 ⟨some 30,.bin false .eql (.t 29) (.k (.p (.int .i64 0))),none⟩]
def c26_18:CC:=.ops [] (l26_15++(l26_16++(l26_17)))
def l26_19:List COp:=[
 ⟨some 4,.mov (.k (.p (.bool false))),none⟩]
def c26_20:CC:=.ops [] (l26_19)
def c26_21:CC:=.seq c26_20 .ret
def c26_22:CC:=.cond (.t 30) c26_21 .skip
def c26_23:CC:=.seq c26_18 c26_22
def c26_24:CC:=.block 3 c26_23
def l26_25:List COp:=[
 ⟨some 20,.mov (.t 6),none⟩,
 ⟨some 21,.bin false .add (.t 20) (.k (.p (.int .i64 1))),none⟩,
 ⟨some 6,.mov (.t 21),none⟩]
def c26_26:CC:=.ops [] (l26_25)
def c26_27:CC:=.seq c26_24 c26_26
def c26_28:CC:=.seq c26_14 c26_27
def c26_29:CC:=.loop c26_28
def c26_30:CC:=.block 2 c26_29
def c26_31:CC:=.seq c26_9 c26_30
def c26_32:CC:=.block 1 c26_31
def l26_33:List COp:=[
 ⟨some 13,.mov (.t 5),none⟩,
 ⟨some 14,.bin false .add (.t 13) (.k (.p (.int .i64 1))),none⟩,
 ⟨some 5,.mov (.t 14),none⟩]
def c26_34:CC:=.ops [] (l26_33)
def c26_35:CC:=.seq c26_32 c26_34
def c26_36:CC:=.seq c26_7 c26_35
def c26_37:CC:=.loop c26_36
def c26_38:CC:=.block 0 c26_37
def c26_39:CC:=.seq c26_3 c26_38
def l26_40:List COp:=[
 ⟨some 31,.mov (.t 0),none⟩,
 ⟨some 32,.len (.t 31),none⟩,
 ⟨some 33,.bin false .gtr (.t 32) (.k (.p (.int .i64 1))),none⟩,
 ⟨some 4,.mov (.t 33),none⟩]
def c26_41:CC:=.ops [] (l26_40)
def c26_42:CC:=.seq c26_41 .ret
def c26_43:CC:=.seq c26_39 c26_42
def c26_44:CC:=.seq c26_1 c26_43
def c26:CC:=c26_44
theorem fn26:FnOk Try.prog 26 [] c26 [(4,none)] 34:=
 ⟨Try.f26,[],Try.func26,by kernel_rfl,by kernel_rfl,by kernel_rfl,by kernel_rfl,by kernel_rfl⟩
def l51_0:List COp:=[
 ⟨some 6,.mov (.k (.nils 3 1)),none⟩]
def c51_1:CC:=.ops [] (l51_0)
def l51_2:List COp:=[
 ⟨some 7,.mov (.k (.nils 3 1)),none⟩]
def c51_3:CC:=.ops [] (l51_2)
def l51_4:List COp:=[
 ⟨some 8,.mov (.k (.p (.int .i64 0))),none⟩]
def c51_5:CC:=.ops [] (l51_4)
def l51_6:List COp:=[
 ⟨some 9,.mov (.t 8),none⟩,
 ⟨some 10,.mov (.t 0),none⟩,
 ⟨some 11,.bin false .lss (.t 9) (.t 10),none⟩]
def c51_7:CC:=.ops [] (l51_6)
def c51_8:CC:=.cond (.t 11) .skip (.exit 0)
def c51_9:CC:=.seq c51_7 c51_8
def l51_10:List COp:=[
 ⟨some 14,.mov (.t 7),none⟩,
 ⟨some 15,.mov (.t 1),none⟩,
 ⟨some 16,.mov (.t 2),none⟩,
 ⟨some 17,.bin false .rem (.t 15) (.t 16),none⟩,
 ⟨some 18,.buildSlice 3 1 (.int .i64 0) 1 [(0,(.t 17))],none⟩,
 ⟨some 19,.append 3 1 8 (.t 14) (.t 18),none⟩,
 ⟨some 7,.mov (.t 19),none⟩]
def c51_11:CC:=.ops [] (l51_10)
def l51_12:List COp:=[
 ⟨some 20,.mov (.t 1),none⟩,
 ⟨some 21,.mov (.t 2),none⟩,
 ⟨some 22,.bin false .quo (.t 20) (.t 21),none⟩,
 ⟨some 1,.mov (.t 22),none⟩]
def c51_13:CC:=.ops [] (l51_12)
def c51_14:CC:=.seq c51_11 c51_13
def c51_15:CC:=.block 1 c51_14
def l51_16:List COp:=[
 ⟨some 12,.mov (.t 8),none⟩,
 ⟨some 13,.bin false .add (.t 12) (.k (.p (.int .i64 1))),none⟩,
 ⟨some 8,.mov (.t 13),none⟩]
def c51_17:CC:=.ops [] (l51_16)
def c51_18:CC:=.seq c51_15 c51_17
def c51_19:CC:=.seq c51_9 c51_18
def c51_20:CC:=.loop c51_19
def c51_21:CC:=.block 0 c51_20
def c51_22:CC:=.seq c51_5 c51_21
def l51_23:List COp:=[
 ⟨some 23,.mov (.t 7),none⟩,
 ⟨some 24,.buildSlice 3 1 (.int .i64 0) 1 [(0,(.k (.p (.int .i64 1))))],none⟩,
 ⟨some 25,.append 3 1 8 (.t 23) (.t 24),none⟩,
 ⟨some 6,.mov (.t 25),none⟩]
def c51_24:CC:=.ops [] (l51_23)
def c51_25:CC:=.seq c51_24 .ret
def c51_26:CC:=.seq c51_22 c51_25
def c51_27:CC:=.seq c51_3 c51_26
def c51_28:CC:=.seq c51_1 c51_27
def c51:CC:=c51_28
theorem fn51:FnOk Try.prog 51 [3] c51 [(6,none)] 26:=
 ⟨Try.f51,[],Try.func51,by kernel_rfl,by kernel_rfl,by kernel_rfl,by kernel_rfl,by kernel_rfl⟩
def l50_0:List COp:=[
 ⟨some 4,.mov (.k (.p (.int .i64 0))),none⟩]
def c50_1:CC:=.ops [] (l50_0)
def l50_2:List COp:=[
 ⟨some 5,.mov (.k (.p (.int .i64 1))),none⟩]
def c50_3:CC:=.ops [] (l50_2)
def l50_4:List COp:=[
 ⟨some 6,.mov (.k (.p (.int .i64 0))),none⟩]
def c50_5:CC:=.ops [] (l50_4)
def l50_6:List COp:=[
 ⟨some 7,.mov (.t 6),none⟩,
 ⟨some 8,.mov (.t 1),none⟩,
 ⟨some 9,.bin false .lss (.t 7) (.t 8),none⟩,
 ⟨some 10,.mov (.t 9),none⟩,
 ⟨some 11,.mov (.t 5),some (10,true)⟩,
 ⟨some 12,.bin false .lss (.t 11) (.k (.p (.int .i64 1073741824))),some (10,true)⟩,
 ⟨some 13,.pick (.t 10) (.t 12) (.k (.p (.bool false))),none⟩]
def c50_7:CC:=.ops [] (l50_6)
def c50_8:CC:=.cond (.t 13) .skip (.exit 0)
def c50_9:CC:=.seq c50_7 c50_8
def l50_10:List COp:=[
 ⟨some 16,.mov (.t 5),none⟩,
 ⟨some 17,.mov (.t 0),none⟩,
 ⟨some 18,.bin false .mul (.t 16) (.t 17),none⟩,
 ⟨some 5,.mov (.t 18),none⟩]
def c50_11:CC:=.ops [] (l50_10)
def c50_12:CC:=.block 1 c50_11
def l50_13:List COp:=[
 ⟨some 14,.mov (.t 6),none⟩,
 ⟨some 15,.bin false .add (.t 14) (.k (.p (.int .i64 1))),none⟩,
 ⟨some 6,.mov (.t 15),none⟩]
def c50_14:CC:=.ops [] (l50_13)
def c50_15:CC:=.seq c50_12 c50_14
def c50_16:CC:=.seq c50_9 c50_15
def c50_17:CC:=.loop c50_16
def c50_18:CC:=.block 0 c50_17
def c50_19:CC:=.seq c50_5 c50_18
def l50_20:List COp:=[
 ⟨some 19,.mov (.t 5),none⟩,
 ⟨some 20,.bin false .gtr (.t 19) (.k (.p (.int .i64 1073741824))),none⟩]
def c50_21:CC:=.ops [] (l50_20)
def l50_22:List COp:=[
 ⟨some 4,.mov (.k (.p (.int .i64 1073741824))),none⟩]
def c50_23:CC:=.ops [] (l50_22)
def c50_24:CC:=.seq c50_23 .ret
def c50_25:CC:=.cond (.t 20) c50_24 .skip
def c50_26:CC:=.seq c50_21 c50_25
def l50_27:List COp:=[
 ⟨some 21,.mov (.t 5),none⟩,
 ⟨some 4,.mov (.t 21),none⟩]
def c50_28:CC:=.ops [] (l50_27)
def c50_29:CC:=.seq c50_28 .ret
def c50_30:CC:=.seq c50_26 c50_29
def c50_31:CC:=.seq c50_19 c50_30
def c50_32:CC:=.seq c50_3 c50_31
def c50_33:CC:=.seq c50_1 c50_32
def c50:CC:=c50_33
theorem fn50:FnOk Try.prog 50 [] c50 [(4,none)] 22:=
 ⟨Try.f50,[],Try.func50,by kernel_rfl,by kernel_rfl,by kernel_rfl,by kernel_rfl,by kernel_rfl⟩
def l25_0:List COp:=[
 ⟨some 4,.mov (.k (.p (.int .i64 0))),none⟩]
def c25_1:CC:=.ops [] (l25_0)
def l25_2:List COp:=[
 ⟨some 5,.mov (.t 1),none⟩,
 ⟨some 6,.mov (.t 0),none⟩,
 ⟨some 7,.len (.t 6),none⟩,
 ⟨some 8,.bin false .sub (.t 7) (.k (.p (.int .i64 1))),none⟩,
 ⟨some 9,.bin false .quo (.t 8) (.k (.p (.int .i64 2))),none⟩,
 ⟨some 10,.call 50 [(.t 5),(.t 9)],none⟩]
def l25_3:List COp:=[
 ⟨some 11,.mov (.t 0),none⟩,
 ⟨some 12,.len (.t 11),none⟩,
 ⟨some 13,.bin false .mul (.t 10) (.t 12),none⟩,
 ⟨some 4,.mov (.t 13),none⟩]
def c25_4:CC:=.ops [] (l25_2++(l25_3))
def c25_5:CC:=.seq c25_4 .ret
def c25_6:CC:=.seq c25_1 c25_5
def c25:CC:=c25_6
theorem fn25:FnOk Try.prog 25 [] c25 [(4,none)] 14:=
 ⟨Try.f25,[],Try.func25,by kernel_rfl,by kernel_rfl,by kernel_rfl,by kernel_rfl,by kernel_rfl⟩
def l27_0:List COp:=[
 ⟨some 6,.mov (.k (.p (.int .i64 0))),none⟩]
def c27_1:CC:=.ops [] (l27_0)
def l27_2:List COp:=[
 ⟨some 7,.mov (.k (.p (.int .i64 0))),none⟩]
def c27_3:CC:=.ops [] (l27_2)
def l27_4:List COp:=[
 ⟨some 9,.mov (.t 0),none⟩,
 ⟨some 10,.len (.t 9),none⟩,
 ⟨some 11,.bin false .sub (.t 10) (.k (.p (.int .i64 1))),none⟩,
 ⟨some 8,.mov (.t 11),none⟩]
def c27_5:CC:=.ops [] (l27_4)
def l27_6:List COp:=[
 ⟨some 12,.mov (.t 8),none⟩,
 ⟨some 13,.bin false .geq (.t 12) (.k (.p (.int .i64 0))),none⟩]
def c27_7:CC:=.ops [] (l27_6)
def c27_8:CC:=.cond (.t 13) .skip (.exit 0)
def c27_9:CC:=.seq c27_7 c27_8
def l27_10:List COp:=[
 ⟨some 16,.mov (.t 7),none⟩,
 ⟨some 17,.mov (.t 1),none⟩,
 ⟨some 18,.bin false .mul (.t 16) (.t 17),none⟩,
 ⟨some 19,.mov (.t 0),none⟩,
 ⟨some 20,.mov (.t 8),none⟩,
 ⟨some 21,.indexAddr 1 (.t 19) (.t 20),none⟩,
 ⟨some 22,.load false 1 (.t 21),none⟩,
 ⟨some 23,.bin false .add (.t 18) (.t 22),none⟩,
 ⟨some 24,.mov (.t 2),none⟩,
 ⟨some 25,.bin false .rem (.t 23) (.t 24),none⟩,
 ⟨some 7,.mov (.t 25),none⟩]
def c27_11:CC:=.ops [] (l27_10)
def c27_12:CC:=.block 1 c27_11
def l27_13:List COp:=[
 ⟨some 14,.mov (.t 8),none⟩,
 ⟨some 15,.bin false .sub (.t 14) (.k (.p (.int .i64 1))),none⟩,
 ⟨some 8,.mov (.t 15),none⟩]
def c27_14:CC:=.ops [] (l27_13)
def c27_15:CC:=.seq c27_12 c27_14
def c27_16:CC:=.seq c27_9 c27_15
def c27_17:CC:=.loop c27_16
def c27_18:CC:=.block 0 c27_17
def c27_19:CC:=.seq c27_5 c27_18
def l27_20:List COp:=[
 ⟨some 26,.mov (.t 7),none⟩,
 ⟨some 6,.mov (.t 26),none⟩]
def c27_21:CC:=.ops [] (l27_20)
def c27_22:CC:=.seq c27_21 .ret
def c27_23:CC:=.seq c27_19 c27_22
def c27_24:CC:=.seq c27_3 c27_23
def c27_25:CC:=.seq c27_1 c27_24
def c27:CC:=c27_25
theorem fn27:FnOk Try.prog 27 [] c27 [(6,none)] 27:=
 ⟨Try.f27,[],Try.func27,by kernel_rfl,by kernel_rfl,by kernel_rfl,by kernel_rfl,by kernel_rfl⟩
def l24_0:List COp:=[
 ⟨some 4,.mov (.k (.p (.bool false))),none⟩]
def c24_1:CC:=.ops [] (l24_0)
def l24_2:List COp:=[
 ⟨some 6,.mov (.t 0),none⟩,
 ⟨some 7,.len (.t 6),none⟩,
 ⟨some 8,.mov (.t 1),none⟩,
 ⟨some 9,.len (.t 8),none⟩,
 ⟨some 10,.bin false .neq (.t 7) (.t 9),none⟩]
def c24_3:CC:=.ops [] (l24_2)
def l24_4:List COp:=[
 ⟨some 11,.mov (.t 0),none⟩,
 ⟨some 12,.len (.t 11),none⟩,
 ⟨some 13,.mov (.t 1),none⟩,
 ⟨some 14,.len (.t 13),none⟩,
 ⟨some 15,.bin false .lss (.t 12) (.t 14),none⟩,
 ⟨some 4,.mov (.t 15),none⟩]
def c24_5:CC:=.ops [] (l24_4)
def c24_6:CC:=.seq c24_5 .ret
def c24_7:CC:=.cond (.t 10) c24_6 .skip
def c24_8:CC:=.seq c24_3 c24_7
def l24_9:List COp:=[
 ⟨some 16,.mov (.t 0),none⟩,
 ⟨some 17,.len (.t 16),none⟩,
 ⟨some 18,.bin false .sub (.t 17) (.k (.p (.int .i64 1))),none⟩,
 ⟨some 5,.mov (.t 18),none⟩]
def c24_10:CC:=.ops [] (l24_9)
def l24_11:List COp:=[
 ⟨some 19,.mov (.t 5),none⟩,
 ⟨some 20,.bin false .geq (.t 19) (.k (.p (.int .i64 0))),none⟩]
def c24_12:CC:=.ops [] (l24_11)
def c24_13:CC:=.cond (.t 20) .skip (.exit 0)
def c24_14:CC:=.seq c24_12 c24_13
def l24_15:List COp:=[
 ⟨some 23,.mov (.t 0),none⟩,
 ⟨some 24,.mov (.t 5),none⟩,
 ⟨some 25,.indexAddr 1 (.t 23) (.t 24),none⟩,
 ⟨some 26,.load false 1 (.t 25),none⟩,
 ⟨some 27,.mov (.t 1),none⟩,
 ⟨some 28,.mov (.t 5),none⟩,
 ⟨some 29,.indexAddr 1 (.t 27) (.t 28),none⟩,
 ⟨some 30,.load false 1 (.t 29),none⟩,
 ⟨some 31,.bin false .neq (.t 26) (.t 30),none⟩]
def c24_16:CC:=.ops [] (l24_15)
def l24_17:List COp:=[
 ⟨some 32,.mov (.t 0),none⟩,
 ⟨some 33,.mov (.t 5),none⟩,
 ⟨some 34,.indexAddr 1 (.t 32) (.t 33),none⟩,
 ⟨some 35,.load false 1 (.t 34),none⟩,
 ⟨some 36,.mov (.t 1),none⟩,
 ⟨some 37,.mov (.t 5),none⟩,
 ⟨some 38,.indexAddr 1 (.t 36) (.t 37),none⟩,
 ⟨some 39,.load false 1 (.t 38),none⟩,
 ⟨some 40,.bin false .lss (.t 35) (.t 39),none⟩,
 ⟨some 4,.mov (.t 40),none⟩]
def c24_18:CC:=.ops [] (l24_17)
def c24_19:CC:=.seq c24_18 .ret
def c24_20:CC:=.cond (.t 31) c24_19 .skip
def c24_21:CC:=.seq c24_16 c24_20
def c24_22:CC:=.block 1 c24_21
def l24_23:List COp:=[
 ⟨some 21,.mov (.t 5),none⟩,
 ⟨some 22,.bin false .sub (.t 21) (.k (.p (.int .i64 1))),none⟩,
 ⟨some 5,.mov (.t 22),none⟩]
def c24_24:CC:=.ops [] (l24_23)
def c24_25:CC:=.seq c24_22 c24_24
def c24_26:CC:=.seq c24_14 c24_25
def c24_27:CC:=.loop c24_26
def c24_28:CC:=.block 0 c24_27
def c24_29:CC:=.seq c24_10 c24_28
def l24_30:List COp:=[
 ⟨some 4,.mov (.k (.p (.bool false))),none⟩]
def c24_31:CC:=.ops [] (l24_30)
def c24_32:CC:=.seq c24_31 .ret
def c24_33:CC:=.seq c24_29 c24_32
def c24_34:CC:=.seq c24_8 c24_33
def c24_35:CC:=.seq c24_1 c24_34
def c24:CC:=c24_35
theorem fn24:FnOk Try.prog 24 [] c24 [(4,none)] 41:=
 ⟨Try.f24,[⟨6,[0,1,2,3,4,5,6,7,8],[0,0,3,7,0,0,48,112,255],[]⟩,⟨7,[0,1,2,3,4,5,6,7,8,9],[0,0,3,7,0,0,48,112,255,511],[]⟩],Try.func24,by kernel_rfl,by kernel_rfl,by kernel_rfl,by kernel_rfl,by kernel_rfl⟩
end Go.Proofs.Ytlnhembcfhfpkaa.M
