/- Functions of the program in the small machine's words: written by a program of mine. -/
import Derived.Test.YtkidkimjdiichaaGreatK4y
namespace Go.Proofs.YtkidkimjdiichaaGreat.M
open Go.RowKit
def l57_0 : List COp:=[
 ⟨some 2,.box 25 1 (.t 0),none⟩,
 ⟨some 3,.box 25 1 (.t 1),none⟩,
 ⟨some 4,.alloc 25 1 (.p (.agg [(.list 52 4 [])])),none⟩]
def c57_1 : CC:=.ops [] (l57_0)
def l57_2 : List COp:=[
 ⟨some 8,.fieldAddr 0 1 false (.t 3),none⟩,
 ⟨some 9,.load false 1 (.t 8),none⟩,
 ⟨some 10,.len (.t 9),none⟩,
 ⟨some 11,.bin false .gtr (.t 10) (.k (.p (.int .i64 0))),none⟩]
def c57_3 : CC:=.ops [] (l57_2)
def c57_4 : CC:=.cond (.t 11) .skip (.exit 0)
def c57_5 : CC:=.seq c57_3 c57_4
def l57_6 : List COp:=[
 ⟨some 13,.load true 1 (.t 2),none⟩,
 ⟨some 14,.load true 1 (.t 3),none⟩,
 ⟨some 15,.call 25 [(.t 13),(.t 14)],none⟩]
def l57_7 : List COp:=[
 ⟨some 12,.mov (.t 15),none⟩,
 ⟨some 16,.extract (.t 12) 0,none⟩,
 ⟨some 17,.extract (.t 12) 1,none⟩,
 ⟨some 18,.extract (.t 12) 2,none⟩,
 ⟨some 5,.alloc 25 1 (.p (.agg [(.list 52 4 [])])),none⟩,
 ⟨some 6,.alloc 25 1 (.p (.agg [(.list 52 4 [])])),none⟩,
 ⟨some 7,.alloc 27 2 (.p (.agg [(.int .i64 0),(.int .i64 0)])),none⟩,
 ⟨none,.store 1 (.t 5) (.t 16),none⟩,
 ⟨none,.store 1 (.t 6) (.t 17),none⟩,
 ⟨none,.store 2 (.t 7) (.t 18),none⟩]
def c57_8 : CC:=.ops [] (l57_6 ++ (l57_7))
def l57_9 : List COp:=[
 ⟨some 19,.load true 1 (.t 3),none⟩,
 ⟨some 20,.load true 1 (.t 6),none⟩,
 ⟨some 21,.call 38 [(.t 20)],none⟩]
def l57_10 : List COp:=[
 ⟨none,.store 1 (.t 2) (.t 19),none⟩,
 ⟨none,.store 1 (.t 3) (.t 21),none⟩]
def c57_11 : CC:=.ops [] (l57_9 ++ (l57_10))
def c57_12 : CC:=.seq c57_8 c57_11
def c57_13 : CC:=.block 1 c57_12
def c57_14 : CC:=.seq c57_5 c57_13
def c57_15 : CC:=.loop c57_14
def c57_16 : CC:=.block 0 c57_15
def l57_17 : List COp:=[
 ⟨some 22,.load true 1 (.t 2),none⟩,
 ⟨some 23,.call 38 [(.t 22)],none⟩]
def l57_18 : List COp:=[
 ⟨none,.store 1 (.t 4) (.t 23),none⟩]
def c57_19 : CC:=.ops [] (l57_17 ++ (l57_18))
def c57_20 : CC:=.seq c57_19 .ret
def c57_21 : CC:=.seq c57_16 c57_20
def c57_22 : CC:=.seq c57_1 c57_21
def c57 : CC:=c57_22
theorem fn57 : FnOk Tryz.prog 57 [25,27] c57 [(4,some (true,1))] 24:=
 ⟨Tryz.f57,[⟨3,[0,1,2,3,4],[0,0,2,7,15],[]⟩],Tryz.func57,by kernel_rfl,by kernel_rfl,by kernel_rfl,by kernel_rfl,by kernel_rfl⟩
def l56_0 : List COp:=[
 ⟨some 2,.box 25 1 (.t 0),none⟩,
 ⟨some 3,.box 25 1 (.t 1),none⟩,
 ⟨some 4,.alloc 25 1 (.p (.agg [(.list 52 4 [])])),none⟩,
 ⟨some 5,.alloc 25 1 (.p (.agg [(.list 52 4 [])])),none⟩,
 ⟨some 6,.alloc 25 1 (.p (.agg [(.list 52 4 [])])),none⟩]
def c56_1 : CC:=.ops [] (l56_0)
def l56_2 : List COp:=[
 ⟨some 29,.call 110 [(.k (.p (.int .i64 1)))],none⟩]
def l56_3 : List COp:=[
 ⟨some 30,.call 109 [(.t 29)],none⟩]
def l56_4 : List COp:=[
 ⟨some 31,.buildSliceF 52 4 (.agg [(.bool false),(.list 247 1 []),(.bool false),(.list 247 1 [])]) 1 [(0,(.t 30))],none⟩,
 ⟨some 32,.call 115 [(.t 31)],none⟩]
def l56_5 : List COp:=[
 ⟨some 7,.alloc 25 1 (.p (.agg [(.list 52 4 [])])),none⟩,
 ⟨none,.store 1 (.t 7) (.t 32),none⟩]
def c56_6 : CC:=.ops [] (l56_2 ++ (l56_3 ++ (l56_4 ++ (l56_5))))
def l56_7 : List COp:=[
 ⟨some 33,.fieldAddr 0 1 false (.t 3),none⟩,
 ⟨some 34,.load false 1 (.t 33),none⟩,
 ⟨some 35,.len (.t 34),none⟩,
 ⟨some 36,.bin false .eql (.t 35) (.k (.p (.int .i64 0))),none⟩]
def c56_8 : CC:=.ops [] (l56_7)
def l56_9 : List COp:=[
 ⟨some 37,.fieldAddr 0 1 false (.t 2),none⟩,
 ⟨some 38,.load false 1 (.t 37),none⟩,
 ⟨some 39,.len (.t 38),none⟩,
 ⟨some 40,.bin false .eql (.t 39) (.k (.p (.int .i64 0))),none⟩]
def c56_10 : CC:=.ops [] (l56_9)
def l56_11 : List COp:=[
 ⟨some 41,.build [(.p (.list 52 4 []))] [],none⟩,
 ⟨some 42,.build [(.p (.list 52 4 []))] [],none⟩,
 ⟨some 43,.build [(.p (.list 52 4 []))] [],none⟩,
 ⟨none,.store 1 (.t 4) (.t 41),none⟩,
 ⟨none,.store 1 (.t 5) (.t 42),none⟩,
 ⟨none,.store 1 (.t 6) (.t 43),none⟩]
def c56_12 : CC:=.ops [] (l56_11)
def c56_13 : CC:=.seq c56_12 .ret
def c56_14 : CC:=.cond (.t 40) c56_13 .skip
def c56_15 : CC:=.seq c56_10 c56_14
def l56_16 : List COp:=[
 ⟨some 45,.call 110 [(.k (.p (.int .i64 1)))],none⟩]
def l56_17 : List COp:=[
 ⟨some 46,.call 109 [(.t 45)],none⟩]
def l56_18 : List COp:=[
 ⟨some 47,.load true 1 (.t 2),none⟩,
 ⟨some 48,.call 36 [(.t 47)],none⟩]
def l56_19 : List COp:=[
 ⟨some 49,.call 112 [(.t 46),(.t 48)],none⟩]
def l56_20 : List COp:=[
 ⟨some 44,.mov (.t 49),none⟩,
 ⟨some 50,.extract (.t 44) 0,none⟩,
 ⟨some 51,.extract (.t 44) 1,none⟩,
 ⟨some 8,.alloc 52 4 (.p (.agg [(.bool false),(.list 247 1 []),(.bool false),(.list 247 1 [])])),none⟩,
 ⟨some 9,.alloc 27 2 (.p (.agg [(.int .i64 0),(.int .i64 0)])),none⟩,
 ⟨none,.store 4 (.t 8) (.t 50),none⟩,
 ⟨none,.store 2 (.t 9) (.t 51),none⟩]
def c56_21 : CC:=.ops [] (l56_16 ++ (l56_17 ++ (l56_18 ++ (l56_19 ++ (l56_20)))))
def l56_22 : List COp:=[
 ⟨some 52,.load true 1 (.t 2),none⟩,
 ⟨some 53,.call 38 [(.t 52)],none⟩]
def l56_23 : List COp:=[
 ⟨some 54,.load true 1 (.t 7),none⟩,
 ⟨some 55,.load true 4 (.t 8),none⟩,
 ⟨some 56,.call 47 [(.t 54),(.t 55)],none⟩]
def l56_24 : List COp:=[
 ⟨some 57,.build [(.p (.list 52 4 []))] [],none⟩,
 ⟨none,.store 1 (.t 4) (.t 53),none⟩,
 ⟨none,.store 1 (.t 5) (.t 56),none⟩,
 ⟨none,.store 1 (.t 6) (.t 57),none⟩]
def c56_25 : CC:=.ops [] (l56_22 ++ (l56_23 ++ (l56_24)))
def c56_26 : CC:=.seq c56_25 .ret
def c56_27 : CC:=.seq c56_21 c56_26
def c56_28 : CC:=.seq c56_15 c56_27
def c56_29 : CC:=.cond (.t 36) c56_28 .skip
def c56_30 : CC:=.seq c56_8 c56_29
def l56_31 : List COp:=[
 ⟨some 58,.load true 1 (.t 2),none⟩,
 ⟨some 59,.load true 1 (.t 3),none⟩,
 ⟨some 60,.load true 1 (.t 7),none⟩,
 ⟨some 61,.build [(.p (.list 52 4 []))] [],none⟩,
 ⟨some 10,.alloc 25 1 (.p (.agg [(.list 52 4 [])])),none⟩,
 ⟨some 11,.alloc 25 1 (.p (.agg [(.list 52 4 [])])),none⟩,
 ⟨some 12,.alloc 25 1 (.p (.agg [(.list 52 4 [])])),none⟩,
 ⟨some 13,.alloc 25 1 (.p (.agg [(.list 52 4 [])])),none⟩,
 ⟨none,.store 1 (.t 10) (.t 58),none⟩,
 ⟨none,.store 1 (.t 11) (.t 59),none⟩,
 ⟨none,.store 1 (.t 12) (.t 60),none⟩,
 ⟨none,.store 1 (.t 13) (.t 61),none⟩]
def c56_32 : CC:=.ops [(3,10),(7,10),(7,11)] (l56_31)
def l56_33 : List COp:=[
 ⟨some 62,.fieldAddr 0 1 false (.t 11),none⟩,
 ⟨some 63,.load false 1 (.t 62),none⟩,
 ⟨some 64,.len (.t 63),none⟩,
 ⟨some 65,.bin false .gtr (.t 64) (.k (.p (.int .i64 0))),none⟩]
def c56_34 : CC:=.ops [] (l56_33)
def c56_35 : CC:=.cond (.t 65) .skip (.exit 0)
def c56_36 : CC:=.seq c56_34 c56_35
def l56_37 : List COp:=[
 ⟨some 67,.load true 1 (.t 10),none⟩,
 ⟨some 68,.load true 1 (.t 11),none⟩,
 ⟨some 69,.call 25 [(.t 67),(.t 68)],none⟩]
def l56_38 : List COp:=[
 ⟨some 66,.mov (.t 69),none⟩,
 ⟨some 70,.extract (.t 66) 0,none⟩,
 ⟨some 71,.extract (.t 66) 1,none⟩,
 ⟨some 72,.extract (.t 66) 2,none⟩,
 ⟨some 14,.alloc 25 1 (.p (.agg [(.list 52 4 [])])),none⟩,
 ⟨some 15,.alloc 25 1 (.p (.agg [(.list 52 4 [])])),none⟩,
 ⟨some 16,.alloc 27 2 (.p (.agg [(.int .i64 0),(.int .i64 0)])),none⟩,
 ⟨none,.store 1 (.t 14) (.t 70),none⟩,
 ⟨none,.store 1 (.t 15) (.t 71),none⟩,
 ⟨none,.store 2 (.t 16) (.t 72),none⟩]
def c56_39 : CC:=.ops [] (l56_37 ++ (l56_38))
def l56_40 : List COp:=[
 ⟨some 73,.load true 1 (.t 11),none⟩,
 ⟨some 74,.load true 1 (.t 15),none⟩,
 ⟨none,.store 1 (.t 10) (.t 73),none⟩,
 ⟨none,.store 1 (.t 11) (.t 74),none⟩]
def c56_41 : CC:=.ops [(15,10)] (l56_40)
def l56_42 : List COp:=[
 ⟨some 75,.load true 1 (.t 13),none⟩,
 ⟨some 76,.load true 1 (.t 12),none⟩,
 ⟨some 77,.load true 1 (.t 14),none⟩,
 ⟨some 78,.load true 1 (.t 13),none⟩,
 ⟨some 79,.call 23 [(.t 77),(.t 78)],none⟩]
def l56_43 : List COp:=[
 ⟨some 80,.call 19 [(.t 76),(.t 79)],none⟩]
def l56_44 : List COp:=[
 ⟨none,.store 1 (.t 12) (.t 75),none⟩,
 ⟨none,.store 1 (.t 13) (.t 80),none⟩]
def c56_45 : CC:=.ops [] (l56_42 ++ (l56_43 ++ (l56_44)))
def c56_46 : CC:=.seq c56_41 c56_45
def c56_47 : CC:=.seq c56_39 c56_46
def c56_48 : CC:=.block 1 c56_47
def c56_49 : CC:=.seq c56_36 c56_48
def c56_50 : CC:=.loop c56_49
def c56_51 : CC:=.block 0 c56_50
def l56_52 : List COp:=[
 ⟨some 82,.call 110 [(.k (.p (.int .i64 1)))],none⟩]
def l56_53 : List COp:=[
 ⟨some 83,.call 109 [(.t 82)],none⟩]
def l56_54 : List COp:=[
 ⟨some 84,.load true 1 (.t 10),none⟩,
 ⟨some 85,.call 36 [(.t 84)],none⟩]
def l56_55 : List COp:=[
 ⟨some 86,.call 112 [(.t 83),(.t 85)],none⟩]
def l56_56 : List COp:=[
 ⟨some 81,.mov (.t 86),none⟩,
 ⟨some 87,.extract (.t 81) 0,none⟩,
 ⟨some 88,.extract (.t 81) 1,none⟩,
 ⟨some 17,.alloc 52 4 (.p (.agg [(.bool false),(.list 247 1 []),(.bool false),(.list 247 1 [])])),none⟩,
 ⟨some 18,.alloc 27 2 (.p (.agg [(.int .i64 0),(.int .i64 0)])),none⟩,
 ⟨none,.store 4 (.t 17) (.t 87),none⟩,
 ⟨none,.store 2 (.t 18) (.t 88),none⟩]
def c56_57 : CC:=.ops [] (l56_52 ++ (l56_53 ++ (l56_54 ++ (l56_55 ++ (l56_56)))))
def l56_58 : List COp:=[
 ⟨some 89,.load true 1 (.t 10),none⟩,
 ⟨some 90,.load true 4 (.t 17),none⟩,
 ⟨some 91,.call 47 [(.t 89),(.t 90)],none⟩]
def l56_59 : List COp:=[
 ⟨some 19,.alloc 25 1 (.p (.agg [(.list 52 4 [])])),none⟩,
 ⟨none,.store 1 (.t 19) (.t 91),none⟩]
def c56_60 : CC:=.ops [] (l56_58 ++ (l56_59))
def l56_61 : List COp:=[
 ⟨some 93,.load true 1 (.t 3),none⟩,
 ⟨some 94,.load true 1 (.t 19),none⟩,
 ⟨some 95,.call 25 [(.t 93),(.t 94)],none⟩]
def l56_62 : List COp:=[
 ⟨some 92,.mov (.t 95),none⟩,
 ⟨some 96,.extract (.t 92) 0,none⟩,
 ⟨some 97,.extract (.t 92) 1,none⟩,
 ⟨some 98,.extract (.t 92) 2,none⟩,
 ⟨some 20,.alloc 25 1 (.p (.agg [(.list 52 4 [])])),none⟩,
 ⟨some 21,.alloc 25 1 (.p (.agg [(.list 52 4 [])])),none⟩,
 ⟨some 22,.alloc 27 2 (.p (.agg [(.int .i64 0),(.int .i64 0)])),none⟩,
 ⟨none,.store 1 (.t 20) (.t 96),none⟩,
 ⟨none,.store 1 (.t 21) (.t 97),none⟩,
 ⟨none,.store 2 (.t 22) (.t 98),none⟩]
def c56_63 : CC:=.ops [] (l56_61 ++ (l56_62))
def l56_64 : List COp:=[
 ⟨some 100,.load true 1 (.t 12),none⟩,
 ⟨some 101,.load true 4 (.t 17),none⟩,
 ⟨some 102,.call 47 [(.t 100),(.t 101)],none⟩]
def l56_65 : List COp:=[
 ⟨some 103,.load true 1 (.t 20),none⟩,
 ⟨some 104,.call 25 [(.t 102),(.t 103)],none⟩]
def l56_66 : List COp:=[
 ⟨some 99,.mov (.t 104),none⟩,
 ⟨some 105,.extract (.t 99) 0,none⟩,
 ⟨some 106,.extract (.t 99) 1,none⟩,
 ⟨some 107,.extract (.t 99) 2,none⟩,
 ⟨some 23,.alloc 25 1 (.p (.agg [(.list 52 4 [])])),none⟩,
 ⟨some 24,.alloc 25 1 (.p (.agg [(.list 52 4 [])])),none⟩,
 ⟨some 25,.alloc 27 2 (.p (.agg [(.int .i64 0),(.int .i64 0)])),none⟩,
 ⟨none,.store 1 (.t 23) (.t 105),none⟩,
 ⟨none,.store 1 (.t 24) (.t 106),none⟩,
 ⟨none,.store 2 (.t 25) (.t 107),none⟩]
def c56_67 : CC:=.ops [] (l56_64 ++ (l56_65 ++ (l56_66)))
def l56_68 : List COp:=[
 ⟨some 109,.load true 1 (.t 19),none⟩,
 ⟨some 110,.load true 1 (.t 24),none⟩,
 ⟨some 111,.load true 1 (.t 2),none⟩,
 ⟨some 112,.call 23 [(.t 110),(.t 111)],none⟩]
def l56_69 : List COp:=[
 ⟨some 113,.call 19 [(.t 109),(.t 112)],none⟩]
def l56_70 : List COp:=[
 ⟨some 114,.load true 1 (.t 3),none⟩,
 ⟨some 115,.call 25 [(.t 113),(.t 114)],none⟩]
def l56_71 : List COp:=[
 ⟨some 108,.mov (.t 115),none⟩,
 ⟨some 116,.extract (.t 108) 0,none⟩,
 ⟨some 117,.extract (.t 108) 1,none⟩,
 ⟨some 118,.extract (.t 108) 2,none⟩,
 ⟨some 26,.alloc 25 1 (.p (.agg [(.list 52 4 [])])),none⟩,
 ⟨some 27,.alloc 25 1 (.p (.agg [(.list 52 4 [])])),none⟩,
 ⟨some 28,.alloc 27 2 (.p (.agg [(.int .i64 0),(.int .i64 0)])),none⟩,
 ⟨none,.store 1 (.t 26) (.t 116),none⟩,
 ⟨none,.store 1 (.t 27) (.t 117),none⟩,
 ⟨none,.store 2 (.t 28) (.t 118),none⟩]
def c56_72 : CC:=.ops [] (l56_68 ++ (l56_69 ++ (l56_70 ++ (l56_71))))
def l56_73 : List COp:=[
 ⟨some 119,.load true 1 (.t 19),none⟩,
 ⟨some 120,.load true 1 (.t 24),none⟩,
 ⟨some 121,.load true 1 (.t 26),none⟩,
 ⟨none,.store 1 (.t 4) (.t 119),none⟩,
 ⟨none,.store 1 (.t 5) (.t 120),none⟩,
 ⟨none,.store 1 (.t 6) (.t 121),none⟩]
def c56_74 : CC:=.ops [(24,4),(26,4),(26,5)] (l56_73)
def c56_75 : CC:=.seq c56_74 .ret
def c56_76 : CC:=.seq c56_72 c56_75
def c56_77 : CC:=.seq c56_67 c56_76
def c56_78 : CC:=.seq c56_63 c56_77
def c56_79 : CC:=.seq c56_60 c56_78
def c56_80 : CC:=.seq c56_57 c56_79
def c56_81 : CC:=.seq c56_51 c56_80
def c56_82 : CC:=.seq c56_32 c56_81
def c56_83 : CC:=.seq c56_30 c56_82
def c56_84 : CC:=.seq c56_6 c56_83
def c56_85 : CC:=.seq c56_1 c56_84
def c56 : CC:=c56_85
theorem fn56 : FnOk Tryz.prog 56 [25,52,27,2000031] c56 [(4,some (true,1)),(5,some (true,1)),(6,some (true,1))] 122:=
 ⟨Tryz.f56,[⟨5,[0,1,2,3,4,5,6,7,8,9,10,11],[0,1,0,7,15,31,63,63,0,0,895,2047],[]⟩,⟨6,[0,1,2,3,4,5,6,7,8],[0,1,0,0,15,0,31,95,255],[]⟩,⟨7,[0,1,2,3,4,5,6,7,8,9,10,11],[0,0,0,0,0,0,0,0,241,499,1015,2047],[(3,10),(7,10),(7,11)]⟩,⟨10,[0,1,2,3],[0,0,1,7],[(15,10)]⟩,⟨11,[0,1,2,3,4,5,6,7],[0,0,0,0,12,30,63,127],[]⟩,⟨12,[0,1,2,3,4,5,6,7,8,9,10,11],[0,1,0,7,15,31,63,63,0,0,895,2047],[]⟩,⟨15,[0,1,2,3,4,5,6,7,8,9,10,11,12,13,14],[0,0,3,0,15,31,63,63,63,0,0,0,3711,7935,16383],[]⟩,⟨16,[0,1,2,3,4,5,6,7,8,9,10,11,12,13,14,15,16],[0,0,0,6,15,0,63,127,255,255,255,0,0,0,14847,31743,65535],[]⟩,⟨17,[0,1,2,3,4,5],[0,0,0,1,11,31],[(24,4),(26,4),(26,5)]⟩],Tryz.func56,by kernel_rfl,by kernel_rfl,by kernel_rfl,by kernel_rfl,by kernel_rfl⟩
def l55_0 : List COp:=[
 ⟨some 4,.mov (.k (.nils 60 4)),none⟩]
def c55_1 : CC:=.ops [] (l55_0)
def l55_2 : List COp:=[
 ⟨some 7,.mov (.t 1),none⟩,
 ⟨some 8,.len (.t 7),none⟩,
 ⟨some 9,.bin false .gtr (.t 8) (.k (.p (.int .i64 0))),none⟩]
def c55_3 : CC:=.ops [] (l55_2)
def c55_4 : CC:=.cond (.t 9) .skip (.exit 0)
def c55_5 : CC:=.seq c55_3 c55_4
def l55_6 : List COp:=[
 ⟨some 11,.mov (.t 0),none⟩,
 ⟨some 12,.mov (.t 1),none⟩,
 ⟨some 13,.call 28 [(.t 11),(.t 12)],none⟩]
def l55_7 : List COp:=[
 ⟨some 10,.mov (.t 13),none⟩,
 ⟨some 14,.extract (.t 10) 0,none⟩,
 ⟨some 15,.extract (.t 10) 1,none⟩,
 ⟨some 5,.mov (.t 14),none⟩,
 ⟨some 6,.mov (.t 15),none⟩]
def c55_8 : CC:=.ops [] (l55_6 ++ (l55_7))
def l55_9 : List COp:=[
 ⟨some 16,.mov (.t 1),none⟩,
 ⟨some 17,.mov (.t 6),none⟩,
 ⟨some 18,.call 39 [(.t 17)],none⟩]
def l55_10 : List COp:=[
 ⟨some 0,.mov (.t 16),none⟩,
 ⟨some 1,.mov (.t 18),none⟩]
def c55_11 : CC:=.ops [] (l55_9 ++ (l55_10))
def c55_12 : CC:=.seq c55_8 c55_11
def c55_13 : CC:=.block 1 c55_12
def c55_14 : CC:=.seq c55_5 c55_13
def c55_15 : CC:=.loop c55_14
def c55_16 : CC:=.block 0 c55_15
def l55_17 : List COp:=[
 ⟨some 19,.mov (.t 0),none⟩,
 ⟨some 20,.call 39 [(.t 19)],none⟩]
def l55_18 : List COp:=[
 ⟨some 4,.mov (.t 20),none⟩]
def c55_19 : CC:=.ops [] (l55_17 ++ (l55_18))
def c55_20 : CC:=.seq c55_19 .ret
def c55_21 : CC:=.seq c55_16 c55_20
def c55_22 : CC:=.seq c55_1 c55_21
def c55 : CC:=c55_22
theorem fn55 : FnOk Tryz.prog 55 [] c55 [(4,none)] 21:=
 ⟨Tryz.f55,[],Tryz.func55,by kernel_rfl,by kernel_rfl,by kernel_rfl,by kernel_rfl,by kernel_rfl⟩
def l6_0 : List COp:=[
 ⟨some 4,.mov (.k (.p (.bool false))),none⟩]
def c6_1 : CC:=.ops [] (l6_0)
def l6_2 : List COp:=[
 ⟨some 18,.mov (.t 0),none⟩,
 ⟨some 19,.call 13 [(.t 18)],none⟩]
def l6_3 : List COp:=[
 ⟨some 17,.mov (.t 19),none⟩,
 ⟨some 20,.extract (.t 17) 0,none⟩,
 ⟨some 21,.extract (.t 17) 1,none⟩,
 ⟨some 5,.alloc 25 1 (.p (.agg [(.list 52 4 [])])),none⟩,
 ⟨some 6,.alloc 27 2 (.p (.agg [(.int .i64 0),(.int .i64 0)])),none⟩,
 ⟨none,.store 1 (.t 5) (.t 20),none⟩,
 ⟨none,.store 2 (.t 6) (.t 21),none⟩]
def c6_4 : CC:=.ops [] (l6_2 ++ (l6_3))
def l6_5 : List COp:=[
 ⟨some 23,.mov (.t 1),none⟩,
 ⟨some 24,.call 13 [(.t 23)],none⟩]
def l6_6 : List COp:=[
 ⟨some 22,.mov (.t 24),none⟩,
 ⟨some 25,.extract (.t 22) 0,none⟩,
 ⟨some 26,.extract (.t 22) 1,none⟩,
 ⟨some 7,.alloc 25 1 (.p (.agg [(.list 52 4 [])])),none⟩,
 ⟨some 8,.alloc 27 2 (.p (.agg [(.int .i64 0),(.int .i64 0)])),none⟩,
 ⟨none,.store 1 (.t 7) (.t 25),none⟩,
 ⟨none,.store 2 (.t 8) (.t 26),none⟩]
def c6_7 : CC:=.ops [] (l6_5 ++ (l6_6))
def l6_8 : List COp:=[
 ⟨some 28,.mov (.t 0),none⟩,
 ⟨some 29,.call 14 [(.t 28)],none⟩]
def l6_9 : List COp:=[
 ⟨some 27,.mov (.t 29),none⟩,
 ⟨some 30,.extract (.t 27) 0,none⟩,
 ⟨some 31,.extract (.t 27) 1,none⟩,
 ⟨some 10,.alloc 27 2 (.p (.agg [(.int .i64 0),(.int .i64 0)])),none⟩,
 ⟨some 9,.mov (.t 30),none⟩,
 ⟨none,.store 2 (.t 10) (.t 31),none⟩]
def c6_10 : CC:=.ops [] (l6_8 ++ (l6_9))
def l6_11 : List COp:=[
 ⟨some 33,.mov (.t 1),none⟩,
 ⟨some 34,.call 14 [(.t 33)],none⟩]
def l6_12 : List COp:=[
 ⟨some 32,.mov (.t 34),none⟩,
 ⟨some 35,.extract (.t 32) 0,none⟩,
 ⟨some 36,.extract (.t 32) 1,none⟩,
 ⟨some 12,.alloc 27 2 (.p (.agg [(.int .i64 0),(.int .i64 0)])),none⟩,
 ⟨some 11,.mov (.t 35),none⟩,
 ⟨none,.store 2 (.t 12) (.t 36),none⟩]
def c6_13 : CC:=.ops [] (l6_11 ++ (l6_12))
def l6_14 : List COp:=[
 ⟨some 37,.call 15 [],none⟩]
def l6_15 : List COp:=[
 ⟨some 38,.un .not (.t 37),none⟩]
def c6_16 : CC:=.ops [] (l6_14 ++ (l6_15))
def l6_17 : List COp:=[
 ⟨some 4,.mov (.k (.p (.bool false))),none⟩]
def c6_18 : CC:=.ops [] (l6_17)
def c6_19 : CC:=.seq c6_18 .ret
def c6_20 : CC:=.cond (.t 38) c6_19 .skip
def c6_21 : CC:=.seq c6_16 c6_20
def l6_22 : List COp:=[
 ⟨some 39,.mov (.t 9),none⟩,
 ⟨some 40,.len (.t 39),none⟩,
 ⟨some 41,.bin false .gtr (.t 40) (.k (.p (.int .i64 12))),none⟩,
 ⟨some 42,.mov (.t 41),none⟩,
 ⟨some 43,.mov (.t 11),some (42,false)⟩,
 ⟨some 44,.len (.t 43),some (42,false)⟩,
 ⟨some 45,.bin false .gtr (.t 44) (.k (.p (.int .i64 12))),some (42,false)⟩,
 ⟨some 46,.pick (.t 42) (.k (.p (.bool true))) (.t 45),none⟩]
def c6_23 : CC:=.ops [] (l6_22)
def l6_24 : List COp:=[
 ⟨some 4,.mov (.k (.p (.bool true))),none⟩]
def c6_25 : CC:=.ops [] (l6_24)
def c6_26 : CC:=.seq c6_25 .ret
def c6_27 : CC:=.cond (.t 46) c6_26 .skip
def c6_28 : CC:=.seq c6_23 c6_27
def l6_29 : List COp:=[
 ⟨some 47,.mov (.t 9),none⟩,
 ⟨some 48,.mov (.t 11),none⟩,
 ⟨some 49,.call 55 [(.t 47),(.t 48)],none⟩]
def l6_30 : List COp:=[
 ⟨some 13,.mov (.t 49),none⟩]
def c6_31 : CC:=.ops [] (l6_29 ++ (l6_30))
def l6_32 : List COp:=[
 ⟨some 51,.load true 1 (.t 5),none⟩,
 ⟨some 52,.load true 1 (.t 7),none⟩,
 ⟨some 53,.call 56 [(.t 51),(.t 52)],none⟩]
def l6_33 : List COp:=[
 ⟨some 50,.mov (.t 53),none⟩,
 ⟨some 54,.extract (.t 50) 0,none⟩,
 ⟨some 55,.extract (.t 50) 1,none⟩,
 ⟨some 56,.extract (.t 50) 2,none⟩,
 ⟨some 14,.alloc 25 1 (.p (.agg [(.list 52 4 [])])),none⟩,
 ⟨some 15,.alloc 25 1 (.p (.agg [(.list 52 4 [])])),none⟩,
 ⟨some 16,.alloc 25 1 (.p (.agg [(.list 52 4 [])])),none⟩,
 ⟨none,.store 1 (.t 14) (.t 54),none⟩,
 ⟨none,.store 1 (.t 15) (.t 55),none⟩,
 ⟨none,.store 1 (.t 16) (.t 56),none⟩]
def c6_34 : CC:=.ops [] (l6_32 ++ (l6_33))
def l6_35 : List COp:=[
 ⟨some 57,.load true 1 (.t 5),none⟩,
 ⟨some 58,.load true 1 (.t 7),none⟩,
 ⟨some 59,.call 57 [(.t 57),(.t 58)],none⟩]
def l6_36 : List COp:=[
 ⟨some 60,.mov (.t 13),none⟩,
 ⟨some 61,.call 16 [(.t 59),(.t 60)],none⟩]
def l6_37 : List COp:=[
 ⟨some 62,.un .not (.t 61),none⟩,
 ⟨some 63,.mov (.t 62),none⟩,
 ⟨some 64,.load true 1 (.t 14),some (63,false)⟩,
 ⟨some 65,.mov (.t 13),some (63,false)⟩,
 ⟨some 66,.call 16 [(.t 64),(.t 65)],some (63,false)⟩]
def l6_38 : List COp:=[
 ⟨some 67,.un .not (.t 66),some (63,false)⟩,
 ⟨some 68,.pick (.t 63) (.k (.p (.bool true))) (.t 67),none⟩,
 ⟨some 69,.mov (.t 68),none⟩,
 ⟨some 70,.load true 1 (.t 15),some (69,false)⟩,
 ⟨some 71,.load true 1 (.t 5),some (69,false)⟩,
 ⟨some 72,.call 23 [(.t 70),(.t 71)],some (69,false)⟩]
def l6_39 : List COp:=[
 ⟨some 73,.load true 1 (.t 16),some (69,false)⟩,
 ⟨some 74,.load true 1 (.t 7),some (69,false)⟩,
 ⟨some 75,.call 23 [(.t 73),(.t 74)],some (69,false)⟩]
def l6_40 : List COp:=[
 ⟨some 76,.call 17 [(.t 72),(.t 75)],some (69,false)⟩]
def l6_41 : List COp:=[
 ⟨some 77,.load true 1 (.t 14),some (69,false)⟩,
 ⟨some 78,.call 21 [(.t 76),(.t 77)],some (69,false)⟩]
def l6_42 : List COp:=[
 ⟨some 79,.un .not (.t 78),some (69,false)⟩,
 ⟨some 80,.pick (.t 69) (.k (.p (.bool true))) (.t 79),none⟩]
def c6_43 : CC:=.ops [] (l6_35 ++ (l6_36 ++ (l6_37 ++ (l6_38 ++ (l6_39 ++ (l6_40 ++ (l6_41 ++ (l6_42))))))))
def l6_44 : List COp:=[
 ⟨some 4,.mov (.k (.p (.bool false))),none⟩]
def c6_45 : CC:=.ops [] (l6_44)
def c6_46 : CC:=.seq c6_45 .ret
def c6_47 : CC:=.cond (.t 80) c6_46 .skip
def c6_48 : CC:=.seq c6_43 c6_47
def l6_49 : List COp:=[
 ⟨some 81,.mov (.t 11),none⟩,
 ⟨some 82,.len (.t 81),none⟩,
 ⟨some 83,.bin false .eql (.t 82) (.k (.p (.int .i64 0))),none⟩]
def c6_50 : CC:=.ops [] (l6_49)
def l6_51 : List COp:=[
 ⟨some 84,.load true 1 (.t 16),none⟩,
 ⟨some 85,.call 27 [(.t 84)],none⟩]
def l6_52 : List COp:=[
 ⟨some 86,.bin false .lss (.t 85) (.k (.p (.int .i64 0))),none⟩,
 ⟨some 87,.mov (.t 86),none⟩,
 ⟨some 88,.mov (.t 9),some (87,true)⟩,
 ⟨some 89,.len (.t 88),some (87,true)⟩,
 ⟨some 90,.bin false .gtr (.t 89) (.k (.p (.int .i64 0))),some (87,true)⟩,
 ⟨some 91,.mov (.t 90),some (87,true)⟩,
 ⟨some 92,.load true 1 (.t 15),some (91,false)⟩,
 ⟨some 93,.call 27 [(.t 92)],some (91,false)⟩]
def l6_53 : List COp:=[
 ⟨some 94,.bin false .lss (.t 93) (.k (.p (.int .i64 0))),some (91,false)⟩,
 ⟨some 95,.pick (.t 91) (.k (.p (.bool true))) (.t 94),some (87,true)⟩,
 ⟨some 96,.pick (.t 87) (.t 95) (.k (.p (.bool false))),none⟩,
 ⟨some 4,.mov (.t 96),none⟩]
def c6_54 : CC:=.ops [] (l6_51 ++ (l6_52 ++ (l6_53)))
def c6_55 : CC:=.seq c6_54 .ret
def c6_56 : CC:=.cond (.t 83) c6_55 .skip
def c6_57 : CC:=.seq c6_50 c6_56
def l6_58 : List COp:=[
 ⟨some 97,.load true 1 (.t 15),none⟩,
 ⟨some 98,.call 27 [(.t 97)],none⟩]
def l6_59 : List COp:=[
 ⟨some 99,.mov (.t 11),none⟩,
 ⟨some 100,.len (.t 99),none⟩,
 ⟨some 101,.mov (.t 13),none⟩,
 ⟨some 102,.len (.t 101),none⟩,
 ⟨some 103,.bin false .sub (.t 100) (.t 102),none⟩,
 ⟨some 104,.bin false .lss (.t 98) (.t 103),none⟩,
 ⟨some 105,.mov (.t 104),none⟩,
 ⟨some 106,.load true 1 (.t 15),some (105,false)⟩,
 ⟨some 107,.call 27 [(.t 106)],some (105,false)⟩]
def l6_60 : List COp:=[
 ⟨some 108,.bin false .lss (.t 107) (.k (.p (.int .i64 0))),some (105,false)⟩,
 ⟨some 109,.pick (.t 105) (.k (.p (.bool true))) (.t 108),none⟩,
 ⟨some 4,.mov (.t 109),none⟩]
def c6_61 : CC:=.ops [] (l6_58 ++ (l6_59 ++ (l6_60)))
def c6_62 : CC:=.seq c6_61 .ret
def c6_63 : CC:=.seq c6_57 c6_62
def c6_64 : CC:=.seq c6_48 c6_63
def c6_65 : CC:=.seq c6_34 c6_64
def c6_66 : CC:=.seq c6_31 c6_65
def c6_67 : CC:=.seq c6_28 c6_66
def c6_68 : CC:=.seq c6_21 c6_67
def c6_69 : CC:=.seq c6_13 c6_68
def c6_70 : CC:=.seq c6_10 c6_69
def c6_71 : CC:=.seq c6_7 c6_70
def c6_72 : CC:=.seq c6_4 c6_71
def c6_73 : CC:=.seq c6_1 c6_72
def c6 : CC:=c6_73
theorem fn6 : FnOk Tryz.prog 6 [25,27] c6 [(4,none)] 110:=
 ⟨Tryz.f6,[⟨11,[0,1,2,3,4,5,6,7,8,9,10,11,12,13,14,15,16,17,18,19,20,21,22,23],[0,0,3,0,15,31,63,127,127,511,1023,2047,4095,8191,8191,32767,8191,8191,262143,524287,8191,2097151,4194303,8388607],[]⟩],Tryz.func6,by kernel_rfl,by kernel_rfl,by kernel_rfl,by kernel_rfl,by kernel_rfl⟩
end Go.Proofs.YtkidkimjdiichaaGreat.M
