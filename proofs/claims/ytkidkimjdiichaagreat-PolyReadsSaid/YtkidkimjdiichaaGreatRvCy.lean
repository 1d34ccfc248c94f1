/- Functions of the program in the small machine's words: written by a program of mine. -/
import Derived.Test.YtkidkimjdiichaaGreatK4y
namespace Go.Proofs.YtkidkimjdiichaaGreat.M
open Go.RowKit
def l38_0 : List COp:=[
 ⟨some 1,.box 25 1 (.t 0),none⟩,
 ⟨some 2,.alloc 25 1 (.p (.agg [(.list 52 4 [])])),none⟩]
def c38_1 : CC:=.ops [] (l38_0)
def l38_2 : List COp:=[
 ⟨some 5,.fieldAddr 0 1 false (.t 1),none⟩,
 ⟨some 6,.load false 1 (.t 5),none⟩,
 ⟨some 7,.len (.t 6),none⟩,
 ⟨some 8,.bin false .eql (.t 7) (.k (.p (.int .i64 0))),none⟩]
def c38_3 : CC:=.ops [] (l38_2)
def l38_4 : List COp:=[
 ⟨some 9,.load true 1 (.t 1),none⟩,
 ⟨none,.store 1 (.t 2) (.t 9),none⟩]
def c38_5 : CC:=.ops [] (l38_4)
def c38_6 : CC:=.seq c38_5 .ret
def c38_7 : CC:=.cond (.t 8) c38_6 .skip
def c38_8 : CC:=.seq c38_3 c38_7
def l38_9 : List COp:=[
 ⟨some 11,.call 110 [(.k (.p (.int .i64 1)))],none⟩]
def l38_10 : List COp:=[
 ⟨some 12,.call 109 [(.t 11)],none⟩]
def l38_11 : List COp:=[
 ⟨some 13,.load true 1 (.t 1),none⟩,
 ⟨some 14,.call 36 [(.t 13)],none⟩]
def l38_12 : List COp:=[
 ⟨some 15,.call 112 [(.t 12),(.t 14)],none⟩]
def l38_13 : List COp:=[
 ⟨some 10,.mov (.t 15),none⟩,
 ⟨some 16,.extract (.t 10) 0,none⟩,
 ⟨some 17,.extract (.t 10) 1,none⟩,
 ⟨some 3,.alloc 52 4 (.p (.agg [(.bool false),(.list 247 1 []),(.bool false),(.list 247 1 [])])),none⟩,
 ⟨some 4,.alloc 27 2 (.p (.agg [(.int .i64 0),(.int .i64 0)])),none⟩,
 ⟨none,.store 4 (.t 3) (.t 16),none⟩,
 ⟨none,.store 2 (.t 4) (.t 17),none⟩]
def c38_14 : CC:=.ops [] (l38_9 ++ (l38_10 ++ (l38_11 ++ (l38_12 ++ (l38_13)))))
def l38_15 : List COp:=[
 ⟨some 18,.load true 1 (.t 1),none⟩,
 ⟨some 19,.load true 4 (.t 3),none⟩,
 ⟨some 20,.call 47 [(.t 18),(.t 19)],none⟩]
def l38_16 : List COp:=[
 ⟨none,.store 1 (.t 2) (.t 20),none⟩]
def c38_17 : CC:=.ops [] (l38_15 ++ (l38_16))
def c38_18 : CC:=.seq c38_17 .ret
def c38_19 : CC:=.seq c38_14 c38_18
def c38_20 : CC:=.seq c38_8 c38_19
def c38_21 : CC:=.seq c38_1 c38_20
def c38 : CC:=c38_21
theorem fn38 : FnOk Tryz.prog 38 [25,52,27] c38 [(2,some (true,1))] 21:=
 ⟨Tryz.f38,[⟨3,[0,1,2,3,4,5,6,7,8,9,10,11],[0,1,0,7,15,31,63,63,0,0,895,2047],[]⟩],Tryz.func38,by kernel_rfl,by kernel_rfl,by kernel_rfl,by kernel_rfl,by kernel_rfl⟩
def l40_0 : List COp:=[
 ⟨some 1,.box 25 1 (.t 0),none⟩,
 ⟨some 2,.alloc 25 1 (.p (.agg [(.list 52 4 [])])),none⟩]
def c40_1 : CC:=.ops [] (l40_0)
def l40_2 : List COp:=[
 ⟨some 3,.mov (.k (.nils 52 4)),none⟩]
def c40_3 : CC:=.ops [] (l40_2)
def l40_4 : List COp:=[
 ⟨some 6,.fieldAddr 0 1 false (.t 1),none⟩,
 ⟨some 7,.load false 1 (.t 6),none⟩,
 ⟨some 8,.len (.t 7),none⟩,
 ⟨some 9,.mov (.k (.p (.int .i64 0))),none⟩]
def c40_5 : CC:=.ops [] (l40_4)
def l40_6 : List COp:=[
 ⟨some 10,.bin false .lss (.t 9) (.t 8),none⟩]
def c40_7 : CC:=.ops [] (l40_6)
def c40_8 : CC:=.cond (.t 10) .skip (.exit 0)
def l40_9 : List COp:=[
 ⟨some 11,.mov (.t 9),none⟩,
 ⟨some 12,.indexAddr 4 (.t 7) (.t 9),none⟩,
 ⟨some 13,.load true 4 (.t 12),none⟩,
 ⟨some 5,.alloc 52 4 (.p (.agg [(.bool false),(.list 247 1 []),(.bool false),(.list 247 1 [])])),none⟩,
 ⟨some 4,.mov (.t 11),none⟩,
 ⟨none,.store 4 (.t 5) (.t 13),none⟩]
def c40_10 : CC:=.ops [] (l40_9)
def l40_11 : List COp:=[
 ⟨some 14,.mov (.t 4),none⟩,
 ⟨some 15,.bin false .gtr (.t 14) (.k (.p (.int .i64 0))),none⟩]
def c40_12 : CC:=.ops [] (l40_11)
def l40_13 : List COp:=[
 ⟨some 17,.load true 4 (.t 5),none⟩,
 ⟨some 16,.mov (.t 3),none⟩,
 ⟨some 18,.mov (.t 4),none⟩,
 ⟨some 19,.call 110 [(.t 18)],none⟩]
def l40_14 : List COp:=[
 ⟨some 20,.call 109 [(.t 19)],none⟩]
def l40_15 : List COp:=[
 ⟨some 21,.call 111 [(.t 17),(.t 20)],none⟩]
def l40_16 : List COp:=[
 ⟨some 22,.buildSlice 52 4 (.agg [(.bool false),(.list 247 1 []),(.bool false),(.list 247 1 [])]) 1 [(0,(.t 21))],none⟩,
 ⟨some 23,.append 52 4 64 (.t 16) (.t 22),none⟩,
 ⟨some 3,.mov (.t 23),none⟩]
def c40_17 : CC:=.ops [] (l40_13 ++ (l40_14 ++ (l40_15 ++ (l40_16))))
def c40_18 : CC:=.cond (.t 15) c40_17 .skip
def c40_19 : CC:=.seq c40_12 c40_18
def c40_20 : CC:=.seq c40_10 c40_19
def c40_21 : CC:=.block 1 c40_20
def l40_22 : List COp:=[
 ⟨some 24,.bin false .add (.t 9) (.k (.p (.int .i64 1))),none⟩,
 ⟨some 9,.mov (.t 24),none⟩]
def c40_23 : CC:=.ops [] (l40_22)
def c40_24 : CC:=.seq c40_21 c40_23
def c40_25 : CC:=.seq c40_8 c40_24
def c40_26 : CC:=.seq c40_7 c40_25
def c40_27 : CC:=.loop c40_26
def c40_28 : CC:=.block 0 c40_27
def c40_29 : CC:=.seq c40_5 c40_28
def l40_30 : List COp:=[
 ⟨some 25,.mov (.t 3),none⟩,
 ⟨some 26,.call 101 [(.t 25)],none⟩]
def l40_31 : List COp:=[
 ⟨none,.store 1 (.t 2) (.t 26),none⟩]
def c40_32 : CC:=.ops [] (l40_30 ++ (l40_31))
def c40_33 : CC:=.seq c40_32 .ret
def c40_34 : CC:=.seq c40_29 c40_33
def c40_35 : CC:=.seq c40_3 c40_34
def c40_36 : CC:=.seq c40_1 c40_35
def c40 : CC:=c40_36
theorem fn40 : FnOk Tryz.prog 40 [25,52] c40 [(2,some (true,1))] 27:=
 ⟨Tryz.f40,[⟨6,[1,0,2,3,4,5,6,7,8],[0,0,0,4,12,30,62,127,255],[]⟩],Tryz.func40,by kernel_rfl,by kernel_rfl,by kernel_rfl,by kernel_rfl,by kernel_rfl⟩
def l45_0 : List COp:=[
 ⟨some 2,.box 25 1 (.t 0),none⟩,
 ⟨some 3,.box 52 4 (.t 1),none⟩,
 ⟨some 4,.alloc 52 4 (.p (.agg [(.bool false),(.list 247 1 []),(.bool false),(.list 247 1 [])])),none⟩]
def c45_1 : CC:=.ops [] (l45_0)
def l45_2 : List COp:=[
 ⟨some 7,.build [(.p (.bool false)),(.p (.list 247 1 [])),(.p (.bool false)),(.p (.list 247 1 []))] [],none⟩,
 ⟨some 5,.alloc 52 4 (.p (.agg [(.bool false),(.list 247 1 []),(.bool false),(.list 247 1 [])])),none⟩,
 ⟨none,.store 4 (.t 5) (.t 7),none⟩]
def c45_3 : CC:=.ops [] (l45_2)
def l45_4 : List COp:=[
 ⟨some 8,.fieldAddr 0 1 false (.t 2),none⟩,
 ⟨some 9,.load false 1 (.t 8),none⟩,
 ⟨some 10,.len (.t 9),none⟩,
 ⟨some 11,.bin false .sub (.t 10) (.k (.p (.int .i64 1))),none⟩,
 ⟨some 6,.mov (.t 11),none⟩]
def c45_5 : CC:=.ops [] (l45_4)
def l45_6 : List COp:=[
 ⟨some 12,.mov (.t 6),none⟩,
 ⟨some 13,.bin false .geq (.t 12) (.k (.p (.int .i64 0))),none⟩]
def c45_7 : CC:=.ops [] (l45_6)
def c45_8 : CC:=.cond (.t 13) .skip (.exit 0)
def c45_9 : CC:=.seq c45_7 c45_8
def l45_10 : List COp:=[
 ⟨some 16,.load true 4 (.t 5),none⟩,
 ⟨some 17,.load true 4 (.t 3),none⟩,
 ⟨some 18,.call 111 [(.t 16),(.t 17)],none⟩]
def l45_11 : List COp:=[
 ⟨some 19,.fieldAddr 0 1 false (.t 2),none⟩,
 ⟨some 20,.load false 1 (.t 19),none⟩,
 ⟨some 21,.mov (.t 6),none⟩,
 ⟨some 22,.indexAddr 4 (.t 20) (.t 21),none⟩,
 ⟨some 23,.load true 4 (.t 22),none⟩,
 ⟨some 24,.call 106 [(.t 18),(.t 23)],none⟩]
def l45_12 : List COp:=[
 ⟨none,.store 4 (.t 5) (.t 24),none⟩]
def c45_13 : CC:=.ops [] (l45_10 ++ (l45_11 ++ (l45_12)))
def c45_14 : CC:=.block 1 c45_13
def l45_15 : List COp:=[
 ⟨some 14,.mov (.t 6),none⟩,
 ⟨some 15,.bin false .sub (.t 14) (.k (.p (.int .i64 1))),none⟩,
 ⟨some 6,.mov (.t 15),none⟩]
def c45_16 : CC:=.ops [] (l45_15)
def c45_17 : CC:=.seq c45_14 c45_16
def c45_18 : CC:=.seq c45_9 c45_17
def c45_19 : CC:=.loop c45_18
def c45_20 : CC:=.block 0 c45_19
def c45_21 : CC:=.seq c45_5 c45_20
def l45_22 : List COp:=[
 ⟨some 25,.load true 4 (.t 5),none⟩,
 ⟨none,.store 4 (.t 4) (.t 25),none⟩]
def c45_23 : CC:=.ops [] (l45_22)
def c45_24 : CC:=.seq c45_23 .ret
def c45_25 : CC:=.seq c45_21 c45_24
def c45_26 : CC:=.seq c45_3 c45_25
def c45_27 : CC:=.seq c45_1 c45_26
def c45 : CC:=c45_27
theorem fn45 : FnOk Tryz.prog 45 [25,52] c45 [(4,some (true,4))] 26:=
 ⟨Tryz.f45,[⟨5,[0,1,2,3,4,5,6,7,8,9],[0,0,3,0,8,0,56,120,255,511],[]⟩],Tryz.func45,by kernel_rfl,by kernel_rfl,by kernel_rfl,by kernel_rfl,by kernel_rfl⟩
def l44_0 : List COp:=[
 ⟨some 1,.box 25 1 (.t 0),none⟩,
 ⟨some 2,.alloc 52 4 (.p (.agg [(.bool false),(.list 247 1 []),(.bool false),(.list 247 1 [])])),none⟩,
 ⟨some 3,.alloc 25 1 (.p (.agg [(.list 52 4 [])])),none⟩]
def c44_1 : CC:=.ops [] (l44_0)
def l44_2 : List COp:=[
 ⟨some 17,.fieldAddr 0 1 false (.t 1),none⟩,
 ⟨some 18,.load false 1 (.t 17),none⟩,
 ⟨some 19,.len (.t 18),none⟩,
 ⟨some 20,.bin false .eql (.t 19) (.k (.p (.int .i64 0))),none⟩]
def c44_3 : CC:=.ops [] (l44_2)
def l44_4 : List COp:=[
 ⟨some 22,.load true 1 (.t 1),none⟩,
 ⟨some 21,.build [(.p (.bool false)),(.p (.list 247 1 [])),(.p (.bool false)),(.p (.list 247 1 []))] [],none⟩,
 ⟨none,.store 4 (.t 2) (.t 21),none⟩,
 ⟨none,.store 1 (.t 3) (.t 22),none⟩]
def c44_5 : CC:=.ops [(1,2)] (l44_4)
def c44_6 : CC:=.seq c44_5 .ret
def c44_7 : CC:=.cond (.t 20) c44_6 .skip
def c44_8 : CC:=.seq c44_3 c44_7
def l44_9 : List COp:=[
 ⟨some 23,.build [(.p (.bool false)),(.p (.list 247 1 []))] [],none⟩,
 ⟨some 24,.call 110 [(.k (.p (.int .i64 1)))],none⟩]
def l44_10 : List COp:=[
 ⟨some 4,.alloc 50 2 (.p (.agg [(.bool false),(.list 247 1 [])])),none⟩,
 ⟨some 5,.alloc 50 2 (.p (.agg [(.bool false),(.list 247 1 [])])),none⟩,
 ⟨none,.store 2 (.t 4) (.t 23),none⟩,
 ⟨none,.store 2 (.t 5) (.t 24),none⟩]
def c44_11 : CC:=.ops [] (l44_9 ++ (l44_10))
def l44_12 : List COp:=[
 ⟨some 25,.fieldAddr 0 1 false (.t 1),none⟩,
 ⟨some 26,.load false 1 (.t 25),none⟩,
 ⟨some 27,.len (.t 26),none⟩,
 ⟨some 28,.mov (.k (.p (.int .i64 0))),none⟩]
def c44_13 : CC:=.ops [] (l44_12)
def l44_14 : List COp:=[
 ⟨some 29,.bin false .lss (.t 28) (.t 27),none⟩]
def c44_15 : CC:=.ops [] (l44_14)
def c44_16 : CC:=.cond (.t 29) .skip (.exit 0)
def l44_17 : List COp:=[
 ⟨some 30,.indexAddr 4 (.t 26) (.t 28),none⟩,
 ⟨some 31,.load true 4 (.t 30),none⟩,
 ⟨some 7,.alloc 52 4 (.p (.agg [(.bool false),(.list 247 1 []),(.bool false),(.list 247 1 [])])),none⟩,
 ⟨none,.store 4 (.t 7) (.t 31),none⟩]
def c44_18 : CC:=.ops [] (l44_17)
def l44_19 : List COp:=[
 ⟨some 33,.load true 4 (.t 7),none⟩,
 ⟨some 34,.call 129 [(.t 33)],none⟩]
def l44_20 : List COp:=[
 ⟨some 32,.mov (.t 34),none⟩,
 ⟨some 35,.extract (.t 32) 0,none⟩,
 ⟨some 36,.extract (.t 32) 1,none⟩,
 ⟨some 8,.alloc 50 2 (.p (.agg [(.bool false),(.list 247 1 [])])),none⟩,
 ⟨some 9,.alloc 50 2 (.p (.agg [(.bool false),(.list 247 1 [])])),none⟩,
 ⟨none,.store 2 (.t 8) (.t 35),none⟩,
 ⟨none,.store 2 (.t 9) (.t 36),none⟩]
def c44_21 : CC:=.ops [] (l44_19 ++ (l44_20))
def l44_22 : List COp:=[
 ⟨some 37,.load true 2 (.t 4),none⟩,
 ⟨some 38,.load true 2 (.t 8),none⟩,
 ⟨some 39,.call 130 [(.t 37),(.t 38)],none⟩]
def l44_23 : List COp:=[
 ⟨none,.store 2 (.t 4) (.t 39),none⟩]
def c44_24 : CC:=.ops [] (l44_22 ++ (l44_23))
def l44_25 : List COp:=[
 ⟨some 41,.load true 2 (.t 9),none⟩,
 ⟨some 42,.load true 2 (.t 5),none⟩,
 ⟨some 43,.load true 2 (.t 9),none⟩,
 ⟨some 44,.call 130 [(.t 42),(.t 43)],none⟩]
def l44_26 : List COp:=[
 ⟨some 45,.call 131 [(.t 41),(.t 44)],none⟩]
def l44_27 : List COp:=[
 ⟨some 40,.mov (.t 45),none⟩,
 ⟨some 46,.extract (.t 40) 0,none⟩,
 ⟨some 47,.extract (.t 40) 1,none⟩,
 ⟨some 48,.extract (.t 40) 2,none⟩,
 ⟨some 10,.alloc 50 2 (.p (.agg [(.bool false),(.list 247 1 [])])),none⟩,
 ⟨some 11,.alloc 50 2 (.p (.agg [(.bool false),(.list 247 1 [])])),none⟩,
 ⟨some 12,.alloc 27 2 (.p (.agg [(.int .i64 0),(.int .i64 0)])),none⟩,
 ⟨none,.store 2 (.t 10) (.t 46),none⟩,
 ⟨none,.store 2 (.t 11) (.t 47),none⟩,
 ⟨none,.store 2 (.t 12) (.t 48),none⟩]
def c44_28 : CC:=.ops [] (l44_25 ++ (l44_26 ++ (l44_27)))
def l44_29 : List COp:=[
 ⟨some 49,.load true 2 (.t 5),none⟩,
 ⟨some 50,.load true 2 (.t 10),none⟩,
 ⟨some 51,.call 132 [(.t 49),(.t 50)],none⟩]
def l44_30 : List COp:=[
 ⟨none,.store 2 (.t 5) (.t 51),none⟩]
def c44_31 : CC:=.ops [] (l44_29 ++ (l44_30))
def c44_32 : CC:=.seq c44_28 c44_31
def c44_33 : CC:=.seq c44_24 c44_32
def c44_34 : CC:=.seq c44_21 c44_33
def c44_35 : CC:=.seq c44_18 c44_34
def c44_36 : CC:=.block 1 c44_35
def l44_37 : List COp:=[
 ⟨some 52,.bin false .add (.t 28) (.k (.p (.int .i64 1))),none⟩,
 ⟨some 28,.mov (.t 52),none⟩]
def c44_38 : CC:=.ops [] (l44_37)
def c44_39 : CC:=.seq c44_36 c44_38
def c44_40 : CC:=.seq c44_16 c44_39
def c44_41 : CC:=.seq c44_15 c44_40
def c44_42 : CC:=.loop c44_41
def c44_43 : CC:=.block 0 c44_42
def c44_44 : CC:=.seq c44_13 c44_43
def l44_45 : List COp:=[
 ⟨some 54,.load true 2 (.t 4),none⟩,
 ⟨some 55,.load true 2 (.t 5),none⟩,
 ⟨some 56,.call 133 [(.t 54),(.t 55)],none⟩]
def l44_46 : List COp:=[
 ⟨some 53,.mov (.t 56),none⟩,
 ⟨some 57,.extract (.t 53) 0,none⟩,
 ⟨some 58,.extract (.t 53) 1,none⟩,
 ⟨some 13,.alloc 52 4 (.p (.agg [(.bool false),(.list 247 1 []),(.bool false),(.list 247 1 [])])),none⟩,
 ⟨some 14,.alloc 27 2 (.p (.agg [(.int .i64 0),(.int .i64 0)])),none⟩,
 ⟨none,.store 4 (.t 13) (.t 57),none⟩,
 ⟨none,.store 2 (.t 14) (.t 58),none⟩]
def c44_47 : CC:=.ops [] (l44_45 ++ (l44_46))
def l44_48 : List COp:=[
 ⟨some 59,.load true 1 (.t 1),none⟩,
 ⟨some 60,.call 36 [(.t 59)],none⟩]
def l44_49 : List COp:=[
 ⟨some 61,.call 50 [(.t 60)],none⟩]
def l44_50 : List COp:=[
 ⟨some 62,.bin false .lss (.t 61) (.k (.p (.int .i64 0))),none⟩]
def c44_51 : CC:=.ops [] (l44_48 ++ (l44_49 ++ (l44_50)))
def l44_52 : List COp:=[
 ⟨some 63,.load true 4 (.t 13),none⟩,
 ⟨some 64,.call 134 [(.t 63)],none⟩]
def l44_53 : List COp:=[
 ⟨none,.store 4 (.t 13) (.t 64),none⟩]
def c44_54 : CC:=.ops [] (l44_52 ++ (l44_53))
def c44_55 : CC:=.cond (.t 62) c44_54 .skip
def c44_56 : CC:=.seq c44_51 c44_55
def l44_57 : List COp:=[
 ⟨some 66,.call 110 [(.k (.p (.int .i64 1)))],none⟩]
def l44_58 : List COp:=[
 ⟨some 67,.call 109 [(.t 66)],none⟩]
def l44_59 : List COp:=[
 ⟨some 68,.load true 4 (.t 13),none⟩,
 ⟨some 69,.call 112 [(.t 67),(.t 68)],none⟩]
def l44_60 : List COp:=[
 ⟨some 65,.mov (.t 69),none⟩,
 ⟨some 70,.extract (.t 65) 0,none⟩,
 ⟨some 71,.extract (.t 65) 1,none⟩,
 ⟨some 15,.alloc 52 4 (.p (.agg [(.bool false),(.list 247 1 []),(.bool false),(.list 247 1 [])])),none⟩,
 ⟨some 16,.alloc 27 2 (.p (.agg [(.int .i64 0),(.int .i64 0)])),none⟩,
 ⟨none,.store 4 (.t 15) (.t 70),none⟩,
 ⟨none,.store 2 (.t 16) (.t 71),none⟩]
def c44_61 : CC:=.ops [] (l44_57 ++ (l44_58 ++ (l44_59 ++ (l44_60))))
def l44_62 : List COp:=[
 ⟨some 72,.load true 4 (.t 13),none⟩,
 ⟨some 73,.load true 1 (.t 1),none⟩,
 ⟨some 74,.load true 4 (.t 15),none⟩,
 ⟨some 75,.call 47 [(.t 73),(.t 74)],none⟩]
def l44_63 : List COp:=[
 ⟨none,.store 4 (.t 2) (.t 72),none⟩,
 ⟨none,.store 1 (.t 3) (.t 75),none⟩]
def c44_64 : CC:=.ops [] (l44_62 ++ (l44_63))
def c44_65 : CC:=.seq c44_64 .ret
def c44_66 : CC:=.seq c44_61 c44_65
def c44_67 : CC:=.seq c44_56 c44_66
def c44_68 : CC:=.seq c44_47 c44_67
def c44_69 : CC:=.seq c44_44 c44_68
def c44_70 : CC:=.seq c44_11 c44_69
def c44_71 : CC:=.seq c44_8 c44_70
def c44_72 : CC:=.seq c44_1 c44_71
def c44 : CC:=c44_72
theorem fn44 : FnOk Tryz.prog 44 [25,52,50,27] c44 [(2,some (true,4)),(3,some (true,1))] 76:=
 ⟨Tryz.f44,[⟨2,[1,0,2,3],[0,0,1,7],[(1,2)]⟩,⟨9,[0,1,2,3,4,5,6,7,8,9,10,11,12,13,14],[0,0,0,6,15,31,63,63,63,0,0,0,3711,7935,16383],[]⟩,⟨15,[0,1,2,3,4,5,6,7,8,9,10],[0,1,0,7,15,31,31,0,0,447,1023],[]⟩,⟨16,[0,1,2,3,4,5],[0,0,0,6,15,31],[]⟩],Tryz.func44,by kernel_rfl,by kernel_rfl,by kernel_rfl,by kernel_rfl,by kernel_rfl⟩
def l133_0 : List COp:=[
 ⟨some 2,.box 50 2 (.t 0),none⟩,
 ⟨some 3,.box 50 2 (.t 1),none⟩,
 ⟨some 4,.alloc 52 4 (.p (.agg [(.bool false),(.list 247 1 []),(.bool false),(.list 247 1 [])])),none⟩,
 ⟨some 5,.alloc 27 2 (.p (.agg [(.int .i64 0),(.int .i64 0)])),none⟩]
def c133_1 : CC:=.ops [] (l133_0)
def l133_2 : List COp:=[
 ⟨some 6,.load true 2 (.t 3),none⟩,
 ⟨some 7,.call 116 [(.t 6)],none⟩]
def l133_3 : List COp:=[
 ⟨some 8,.bin false .eql (.t 7) (.k (.p (.int .i64 0))),none⟩]
def c133_4 : CC:=.ops [] (l133_2 ++ (l133_3))
def l133_5 : List COp:=[
 ⟨some 9,.build [(.p (.bool false)),(.p (.list 247 1 [])),(.p (.bool false)),(.p (.list 247 1 []))] [],none⟩,
 ⟨some 10,.build [(.p (.int .i64 0)),(.p (.int .i64 0))] [(0,1,(.k (.p (.int .i64 4))))],none⟩,
 ⟨none,.store 4 (.t 4) (.t 9),none⟩,
 ⟨none,.store 2 (.t 5) (.t 10),none⟩]
def c133_6 : CC:=.ops [] (l133_5)
def c133_7 : CC:=.seq c133_6 .ret
def c133_8 : CC:=.cond (.t 8) c133_7 .skip
def c133_9 : CC:=.seq c133_4 c133_8
def l133_10 : List COp:=[
 ⟨some 11,.load true 2 (.t 2),none⟩,
 ⟨some 12,.load true 2 (.t 3),none⟩,
 ⟨some 13,.call 123 [(.t 11),(.t 12)],none⟩]
def l133_11 : List COp:=[
 ⟨some 14,.build [(.p (.int .i64 0)),(.p (.int .i64 0))] [],none⟩,
 ⟨none,.store 4 (.t 4) (.t 13),none⟩,
 ⟨none,.store 2 (.t 5) (.t 14),none⟩]
def c133_12 : CC:=.ops [] (l133_10 ++ (l133_11))
def c133_13 : CC:=.seq c133_12 .ret
def c133_14 : CC:=.seq c133_9 c133_13
def c133_15 : CC:=.seq c133_1 c133_14
def c133 : CC:=c133_15
theorem fn133 : FnOk Tryz.prog 133 [50,52,27] c133 [(4,some (true,4)),(5,some (true,2))] 15:=
 ⟨Tryz.f133,[],Tryz.func133,by kernel_rfl,by kernel_rfl,by kernel_rfl,by kernel_rfl,by kernel_rfl⟩
def l129_0 : List COp:=[
 ⟨some 1,.box 52 4 (.t 0),none⟩,
 ⟨some 2,.alloc 50 2 (.p (.agg [(.bool false),(.list 247 1 [])])),none⟩,
 ⟨some 3,.alloc 50 2 (.p (.agg [(.bool false),(.list 247 1 [])])),none⟩]
def c129_1 : CC:=.ops [] (l129_0)
def l129_2 : List COp:=[
 ⟨some 6,.load true 4 (.t 1),none⟩,
 ⟨some 7,.call 118 [(.t 6)],none⟩]
def l129_3 : List COp:=[
 ⟨some 4,.fieldAddr 0 2 true (.t 1),none⟩,
 ⟨some 5,.load true 2 (.t 4),none⟩,
 ⟨none,.store 2 (.t 2) (.t 5),none⟩,
 ⟨none,.store 2 (.t 3) (.t 7),none⟩]
def c129_4 : CC:=.ops [] (l129_2 ++ (l129_3))
def c129_5 : CC:=.seq c129_4 .ret
def c129_6 : CC:=.seq c129_1 c129_5
def c129 : CC:=c129_6
theorem fn129 : FnOk Tryz.prog 129 [52,50] c129 [(2,some (true,2)),(3,some (true,2))] 8:=
 ⟨Tryz.f129,[⟨1,[2,3,0,1,4,5],[0,1,0,4,15,31],[]⟩],Tryz.func129,by kernel_rfl,by kernel_rfl,by kernel_rfl,by kernel_rfl,by kernel_rfl⟩
def l39_0 : List COp:=[
 ⟨some 2,.mov (.k (.nils 60 4)),none⟩]
def c39_1 : CC:=.ops [] (l39_0)
def l39_2 : List COp:=[
 ⟨some 5,.mov (.t 0),none⟩,
 ⟨some 6,.len (.t 5),none⟩,
 ⟨some 7,.bin false .eql (.t 6) (.k (.p (.int .i64 0))),none⟩]
def c39_3 : CC:=.ops [] (l39_2)
def l39_4 : List COp:=[
 ⟨some 8,.mov (.t 0),none⟩,
 ⟨some 2,.mov (.t 8),none⟩]
def c39_5 : CC:=.ops [] (l39_4)
def c39_6 : CC:=.seq c39_5 .ret
def c39_7 : CC:=.cond (.t 7) c39_6 .skip
def c39_8 : CC:=.seq c39_3 c39_7
def l39_9 : List COp:=[
 ⟨some 10,.call 53 [(.k (.p (.int .i64 1)))],none⟩]
def l39_10 : List COp:=[
 ⟨some 11,.mov (.t 0),none⟩,
 ⟨some 12,.call 37 [(.t 11)],none⟩]
def l39_11 : List COp:=[
 ⟨some 13,.call 114 [(.t 10),(.t 12)],none⟩]
def l39_12 : List COp:=[
 ⟨some 9,.mov (.t 13),none⟩,
 ⟨some 14,.extract (.t 9) 0,none⟩,
 ⟨some 15,.extract (.t 9) 1,none⟩,
 ⟨some 3,.alloc 60 4 (.p (.agg [(.bool false),(.list 3 1 []),(.bool false),(.list 3 1 [])])),none⟩,
 ⟨some 4,.alloc 27 2 (.p (.agg [(.int .i64 0),(.int .i64 0)])),none⟩,
 ⟨none,.store 4 (.t 3) (.t 14),none⟩,
 ⟨none,.store 2 (.t 4) (.t 15),none⟩]
def c39_13 : CC:=.ops [] (l39_9 ++ (l39_10 ++ (l39_11 ++ (l39_12))))
def l39_14 : List COp:=[
 ⟨some 16,.mov (.t 0),none⟩,
 ⟨some 17,.load true 4 (.t 3),none⟩,
 ⟨some 18,.call 48 [(.t 16),(.t 17)],none⟩]
def l39_15 : List COp:=[
 ⟨some 2,.mov (.t 18),none⟩]
def c39_16 : CC:=.ops [] (l39_14 ++ (l39_15))
def c39_17 : CC:=.seq c39_16 .ret
def c39_18 : CC:=.seq c39_13 c39_17
def c39_19 : CC:=.seq c39_8 c39_18
def c39_20 : CC:=.seq c39_1 c39_19
def c39 : CC:=c39_20
theorem fn39 : FnOk Tryz.prog 39 [60,27] c39 [(2,none)] 19:=
 ⟨Tryz.f39,[],Tryz.func39,by kernel_rfl,by kernel_rfl,by kernel_rfl,by kernel_rfl,by kernel_rfl⟩
def l41_0 : List COp:=[
 ⟨some 2,.mov (.k (.nils 60 4)),none⟩]
def c41_1 : CC:=.ops [] (l41_0)
def l41_2 : List COp:=[
 ⟨some 3,.mov (.k (.nils 60 4)),none⟩]
def c41_3 : CC:=.ops [] (l41_2)
def l41_4 : List COp:=[
 ⟨some 4,.mov (.k (.p (.int .i64 1))),none⟩]
def c41_5 : CC:=.ops [] (l41_4)
def l41_6 : List COp:=[
 ⟨some 5,.mov (.t 4),none⟩,
 ⟨some 6,.mov (.t 0),none⟩,
 ⟨some 7,.len (.t 6),none⟩,
 ⟨some 8,.bin false .lss (.t 5) (.t 7),none⟩]
def c41_7 : CC:=.ops [] (l41_6)
def c41_8 : CC:=.cond (.t 8) .skip (.exit 0)
def c41_9 : CC:=.seq c41_7 c41_8
def l41_10 : List COp:=[
 ⟨some 11,.mov (.t 3),none⟩,
 ⟨some 12,.mov (.t 0),none⟩,
 ⟨some 13,.mov (.t 4),none⟩,
 ⟨some 14,.indexAddr 4 (.t 12) (.t 13),none⟩,
 ⟨some 15,.load true 4 (.t 14),none⟩,
 ⟨some 16,.mov (.t 4),none⟩,
 ⟨some 17,.call 53 [(.t 16)],none⟩]
def l41_11 : List COp:=[
 ⟨some 18,.call 79 [(.t 15),(.t 17)],none⟩]
def l41_12 : List COp:=[
 ⟨some 19,.buildSlice 60 4 (.agg [(.bool false),(.list 3 1 []),(.bool false),(.list 3 1 [])]) 1 [(0,(.t 18))],none⟩,
 ⟨some 20,.append 60 4 64 (.t 11) (.t 19),none⟩,
 ⟨some 3,.mov (.t 20),none⟩]
def c41_13 : CC:=.ops [] (l41_10 ++ (l41_11 ++ (l41_12)))
def c41_14 : CC:=.block 1 c41_13
def l41_15 : List COp:=[
 ⟨some 9,.mov (.t 4),none⟩,
 ⟨some 10,.bin false .add (.t 9) (.k (.p (.int .i64 1))),none⟩,
 ⟨some 4,.mov (.t 10),none⟩]
def c41_16 : CC:=.ops [] (l41_15)
def c41_17 : CC:=.seq c41_14 c41_16
def c41_18 : CC:=.seq c41_9 c41_17
def c41_19 : CC:=.loop c41_18
def c41_20 : CC:=.block 0 c41_19
def c41_21 : CC:=.seq c41_5 c41_20
def l41_22 : List COp:=[
 ⟨some 21,.mov (.t 3),none⟩,
 ⟨some 22,.call 108 [(.t 21)],none⟩]
def l41_23 : List COp:=[
 ⟨some 2,.mov (.t 22),none⟩]
def c41_24 : CC:=.ops [] (l41_22 ++ (l41_23))
def c41_25 : CC:=.seq c41_24 .ret
def c41_26 : CC:=.seq c41_21 c41_25
def c41_27 : CC:=.seq c41_3 c41_26
def c41_28 : CC:=.seq c41_1 c41_27
def c41 : CC:=c41_28
theorem fn41 : FnOk Tryz.prog 41 [60] c41 [(2,none)] 23:=
 ⟨Tryz.f41,[⟨5,[0,1,2,3,4,5,6,7,8,9,10],[0,0,0,6,14,0,32,126,254,511,1023],[]⟩],Tryz.func41,by kernel_rfl,by kernel_rfl,by kernel_rfl,by kernel_rfl,by kernel_rfl⟩
def l46_0 : List COp:=[
 ⟨some 3,.box 60 4 (.t 1),none⟩,
 ⟨some 4,.alloc 60 4 (.p (.agg [(.bool false),(.list 3 1 []),(.bool false),(.list 3 1 [])])),none⟩]
def c46_1 : CC:=.ops [] (l46_0)
def l46_2 : List COp:=[
 ⟨some 8,.call 53 [(.k (.p (.int .i64 0)))],none⟩]
def l46_3 : List COp:=[
 ⟨some 5,.alloc 60 4 (.p (.agg [(.bool false),(.list 3 1 []),(.bool false),(.list 3 1 [])])),none⟩,
 ⟨none,.store 4 (.t 5) (.t 8),none⟩]
def c46_4 : CC:=.ops [] (l46_2 ++ (l46_3))
def l46_5 : List COp:=[
 ⟨some 9,.call 53 [(.k (.p (.int .i64 1)))],none⟩]
def l46_6 : List COp:=[
 ⟨some 6,.alloc 60 4 (.p (.agg [(.bool false),(.list 3 1 []),(.bool false),(.list 3 1 [])])),none⟩,
 ⟨none,.store 4 (.t 6) (.t 9),none⟩]
def c46_7 : CC:=.ops [] (l46_5 ++ (l46_6))
def l46_8 : List COp:=[
 ⟨some 7,.mov (.k (.p (.int .i64 0))),none⟩]
def c46_9 : CC:=.ops [] (l46_8)
def l46_10 : List COp:=[
 ⟨some 10,.mov (.t 7),none⟩,
 ⟨some 11,.mov (.t 0),none⟩,
 ⟨some 12,.len (.t 11),none⟩,
 ⟨some 13,.bin false .lss (.t 10) (.t 12),none⟩]
def c46_11 : CC:=.ops [] (l46_10)
def c46_12 : CC:=.cond (.t 13) .skip (.exit 0)
def c46_13 : CC:=.seq c46_11 c46_12
def l46_14 : List COp:=[
 ⟨some 16,.load true 4 (.t 5),none⟩,
 ⟨some 21,.load true 4 (.t 6),none⟩,
 ⟨some 17,.mov (.t 0),none⟩,
 ⟨some 18,.mov (.t 7),none⟩,
 ⟨some 19,.indexAddr 4 (.t 17) (.t 18),none⟩,
 ⟨some 20,.load true 4 (.t 19),none⟩,
 ⟨some 22,.call 79 [(.t 20),(.t 21)],none⟩]
def l46_15 : List COp:=[
 ⟨some 23,.call 107 [(.t 16),(.t 22)],none⟩]
def l46_16 : List COp:=[
 ⟨none,.store 4 (.t 5) (.t 23),none⟩]
def c46_17 : CC:=.ops [] (l46_14 ++ (l46_15 ++ (l46_16)))
def l46_18 : List COp:=[
 ⟨some 24,.load true 4 (.t 6),none⟩,
 ⟨some 25,.load true 4 (.t 3),none⟩,
 ⟨some 26,.call 79 [(.t 24),(.t 25)],none⟩]
def l46_19 : List COp:=[
 ⟨none,.store 4 (.t 6) (.t 26),none⟩]
def c46_20 : CC:=.ops [] (l46_18 ++ (l46_19))
def c46_21 : CC:=.seq c46_17 c46_20
def c46_22 : CC:=.block 1 c46_21
def l46_23 : List COp:=[
 ⟨some 14,.mov (.t 7),none⟩,
 ⟨some 15,.bin false .add (.t 14) (.k (.p (.int .i64 1))),none⟩,
 ⟨some 7,.mov (.t 15),none⟩]
def c46_24 : CC:=.ops [] (l46_23)
def c46_25 : CC:=.seq c46_22 c46_24
def c46_26 : CC:=.seq c46_13 c46_25
def c46_27 : CC:=.loop c46_26
def c46_28 : CC:=.block 0 c46_27
def c46_29 : CC:=.seq c46_9 c46_28
def l46_30 : List COp:=[
 ⟨some 27,.load true 4 (.t 5),none⟩,
 ⟨none,.store 4 (.t 4) (.t 27),none⟩]
def c46_31 : CC:=.ops [] (l46_30)
def c46_32 : CC:=.seq c46_31 .ret
def c46_33 : CC:=.seq c46_29 c46_32
def c46_34 : CC:=.seq c46_7 c46_33
def c46_35 : CC:=.seq c46_4 c46_34
def c46_36 : CC:=.seq c46_1 c46_35
def c46 : CC:=c46_36
theorem fn46 : FnOk Tryz.prog 46 [60] c46 [(4,some (true,4))] 28:=
 ⟨Tryz.f46,[⟨6,[0,5,1,2,3,4,6,7,8],[0,0,0,6,14,0,62,127,255],[]⟩],Tryz.func46,by kernel_rfl,by kernel_rfl,by kernel_rfl,by kernel_rfl,by kernel_rfl⟩
def l49_0 : List COp:=[
 ⟨some 2,.mov (.k (.nils 60 4)),none⟩]
def c49_1 : CC:=.ops [] (l49_0)
def l49_2 : List COp:=[
 ⟨some 10,.build [(.p (.bool false)),(.p (.list 3 1 []))] [],none⟩,
 ⟨some 3,.alloc 58 2 (.p (.agg [(.bool false),(.list 3 1 [])])),none⟩,
 ⟨none,.store 2 (.t 3) (.t 10),none⟩]
def c49_3 : CC:=.ops [] (l49_2)
def l49_4 : List COp:=[
 ⟨some 11,.call 124 [(.k (.p (.int .i64 1)))],none⟩]
def l49_5 : List COp:=[
 ⟨some 4,.alloc 58 2 (.p (.agg [(.bool false),(.list 3 1 [])])),none⟩,
 ⟨none,.store 2 (.t 4) (.t 11),none⟩]
def c49_6 : CC:=.ops [] (l49_4 ++ (l49_5))
def l49_7 : List COp:=[
 ⟨some 5,.mov (.k (.p (.int .i64 0))),none⟩]
def c49_8 : CC:=.ops [] (l49_7)
def l49_9 : List COp:=[
 ⟨some 12,.mov (.t 5),none⟩,
 ⟨some 13,.mov (.t 0),none⟩,
 ⟨some 14,.len (.t 13),none⟩,
 ⟨some 15,.bin false .lss (.t 12) (.t 14),none⟩]
def c49_10 : CC:=.ops [] (l49_9)
def c49_11 : CC:=.cond (.t 15) .skip (.exit 0)
def c49_12 : CC:=.seq c49_10 c49_11
def l49_13 : List COp:=[
 ⟨some 24,.load true 2 (.t 4),none⟩,
 ⟨some 19,.mov (.t 0),none⟩,
 ⟨some 20,.mov (.t 5),none⟩,
 ⟨some 21,.indexAddr 4 (.t 19) (.t 20),none⟩,
 ⟨some 22,.fieldAddr 2 2 true (.t 21),none⟩,
 ⟨some 23,.load true 2 (.t 22),none⟩,
 ⟨some 25,.mov (.t 0),none⟩,
 ⟨some 26,.mov (.t 5),none⟩,
 ⟨some 27,.indexAddr 4 (.t 25) (.t 26),none⟩,
 ⟨some 28,.fieldAddr 2 2 true (.t 27),none⟩,
 ⟨some 29,.load true 2 (.t 28),none⟩,
 ⟨some 30,.call 136 [(.t 24),(.t 29)],none⟩]
def l49_14 : List COp:=[
 ⟨some 31,.call 135 [(.t 23),(.t 30)],none⟩]
def l49_15 : List COp:=[
 ⟨some 18,.mov (.t 31),none⟩,
 ⟨some 32,.extract (.t 18) 0,none⟩,
 ⟨some 33,.extract (.t 18) 1,none⟩,
 ⟨some 34,.extract (.t 18) 2,none⟩,
 ⟨some 6,.alloc 58 2 (.p (.agg [(.bool false),(.list 3 1 [])])),none⟩,
 ⟨some 7,.alloc 58 2 (.p (.agg [(.bool false),(.list 3 1 [])])),none⟩,
 ⟨some 8,.alloc 27 2 (.p (.agg [(.int .i64 0),(.int .i64 0)])),none⟩,
 ⟨none,.store 2 (.t 6) (.t 32),none⟩,
 ⟨none,.store 2 (.t 7) (.t 33),none⟩,
 ⟨none,.store 2 (.t 8) (.t 34),none⟩]
def c49_16 : CC:=.ops [] (l49_13 ++ (l49_14 ++ (l49_15)))
def l49_17 : List COp:=[
 ⟨some 35,.load true 2 (.t 4),none⟩,
 ⟨some 36,.load true 2 (.t 6),none⟩,
 ⟨some 37,.call 137 [(.t 35),(.t 36)],none⟩]
def l49_18 : List COp:=[
 ⟨none,.store 2 (.t 4) (.t 37),none⟩]
def c49_19 : CC:=.ops [] (l49_17 ++ (l49_18))
def c49_20 : CC:=.seq c49_16 c49_19
def c49_21 : CC:=.block 1 c49_20
def l49_22 : List COp:=[
 ⟨some 16,.mov (.t 5),none⟩,
 ⟨some 17,.bin false .add (.t 16) (.k (.p (.int .i64 1))),none⟩,
 ⟨some 5,.mov (.t 17),none⟩]
def c49_23 : CC:=.ops [] (l49_22)
def c49_24 : CC:=.seq c49_21 c49_23
def c49_25 : CC:=.seq c49_12 c49_24
def c49_26 : CC:=.loop c49_25
def c49_27 : CC:=.block 0 c49_26
def c49_28 : CC:=.seq c49_8 c49_27
def l49_29 : List COp:=[
 ⟨some 39,.load true 2 (.t 4),none⟩,
 ⟨some 40,.call 124 [(.k (.p (.int .i64 1)))],none⟩]
def l49_30 : List COp:=[
 ⟨some 38,.mov (.t 0),none⟩,
 ⟨some 41,.build [(.p (.bool false)),(.p (.list 3 1 [])),(.p (.bool false)),(.p (.list 3 1 []))] [(0,2,(.t 39)),(2,2,(.t 40))],none⟩,
 ⟨some 42,.call 48 [(.t 38),(.t 41)],none⟩]
def l49_31 : List COp:=[
 ⟨some 0,.mov (.t 42),none⟩]
def c49_32 : CC:=.ops [] (l49_29 ++ (l49_30 ++ (l49_31)))
def l49_33 : List COp:=[
 ⟨some 9,.mov (.k (.p (.int .i64 0))),none⟩]
def c49_34 : CC:=.ops [] (l49_33)
def l49_35 : List COp:=[
 ⟨some 43,.mov (.t 9),none⟩,
 ⟨some 44,.mov (.t 0),none⟩,
 ⟨some 45,.len (.t 44),none⟩,
 ⟨some 46,.bin false .lss (.t 43) (.t 45),none⟩]
def c49_36 : CC:=.ops [] (l49_35)
def c49_37 : CC:=.cond (.t 46) .skip (.exit 2)
def c49_38 : CC:=.seq c49_36 c49_37
def l49_39 : List COp:=[
 ⟨some 49,.load true 2 (.t 3),none⟩,
 ⟨some 50,.mov (.t 0),none⟩,
 ⟨some 51,.mov (.t 9),none⟩,
 ⟨some 52,.indexAddr 4 (.t 50) (.t 51),none⟩,
 ⟨some 53,.fieldAddr 0 2 true (.t 52),none⟩,
 ⟨some 54,.load true 2 (.t 53),none⟩,
 ⟨some 55,.call 136 [(.t 49),(.t 54)],none⟩]
def l49_40 : List COp:=[
 ⟨none,.store 2 (.t 3) (.t 55),none⟩]
def c49_41 : CC:=.ops [] (l49_39 ++ (l49_40))
def c49_42 : CC:=.block 3 c49_41
def l49_43 : List COp:=[
 ⟨some 47,.mov (.t 9),none⟩,
 ⟨some 48,.bin false .add (.t 47) (.k (.p (.int .i64 1))),none⟩,
 ⟨some 9,.mov (.t 48),none⟩]
def c49_44 : CC:=.ops [] (l49_43)
def c49_45 : CC:=.seq c49_42 c49_44
def c49_46 : CC:=.seq c49_38 c49_45
def c49_47 : CC:=.loop c49_46
def c49_48 : CC:=.block 2 c49_47
def c49_49 : CC:=.seq c49_34 c49_48
def l49_50 : List COp:=[
 ⟨some 56,.mov (.t 0),none⟩,
 ⟨some 57,.len (.t 56),none⟩,
 ⟨some 58,.bin false .eql (.t 57) (.k (.p (.int .i64 0))),none⟩]
def c49_51 : CC:=.ops [] (l49_50)
def l49_52 : List COp:=[
 ⟨some 59,.mov (.t 0),none⟩,
 ⟨some 2,.mov (.t 59),none⟩]
def c49_53 : CC:=.ops [] (l49_52)
def c49_54 : CC:=.seq c49_53 .ret
def c49_55 : CC:=.cond (.t 58) c49_54 .skip
def c49_56 : CC:=.seq c49_51 c49_55
def l49_57 : List COp:=[
 ⟨some 60,.mov (.t 0),none⟩,
 ⟨some 61,.call 37 [(.t 60)],none⟩]
def l49_58 : List COp:=[
 ⟨some 62,.call 86 [(.t 61)],none⟩]
def l49_59 : List COp:=[
 ⟨some 63,.bin false .lss (.t 62) (.k (.p (.int .i64 0))),none⟩]
def c49_60 : CC:=.ops [] (l49_57 ++ (l49_58 ++ (l49_59)))
def l49_61 : List COp:=[
 ⟨some 64,.load true 2 (.t 3),none⟩,
 ⟨some 65,.call 138 [(.t 64)],none⟩]
def l49_62 : List COp:=[
 ⟨none,.store 2 (.t 3) (.t 65),none⟩]
def c49_63 : CC:=.ops [] (l49_61 ++ (l49_62))
def c49_64 : CC:=.cond (.t 63) c49_63 .skip
def c49_65 : CC:=.seq c49_60 c49_64
def l49_66 : List COp:=[
 ⟨some 67,.call 124 [(.k (.p (.int .i64 1)))],none⟩]
def l49_67 : List COp:=[
 ⟨some 68,.load true 2 (.t 3),none⟩,
 ⟨some 69,.call 128 [(.t 67),(.t 68)],none⟩]
def l49_68 : List COp:=[
 ⟨some 66,.mov (.t 0),none⟩,
 ⟨some 70,.call 48 [(.t 66),(.t 69)],none⟩]
def l49_69 : List COp:=[
 ⟨some 2,.mov (.t 70),none⟩]
def c49_70 : CC:=.ops [] (l49_66 ++ (l49_67 ++ (l49_68 ++ (l49_69))))
def c49_71 : CC:=.seq c49_70 .ret
def c49_72 : CC:=.seq c49_65 c49_71
def c49_73 : CC:=.seq c49_56 c49_72
def c49_74 : CC:=.seq c49_49 c49_73
def c49_75 : CC:=.seq c49_32 c49_74
def c49_76 : CC:=.seq c49_28 c49_75
def c49_77 : CC:=.seq c49_6 c49_76
def c49_78 : CC:=.seq c49_3 c49_77
def c49_79 : CC:=.seq c49_1 c49_78
def c49 : CC:=c49_79
theorem fn49 : FnOk Tryz.prog 49 [58,27] c49 [(2,none)] 71:=
 ⟨Tryz.f49,[⟨6,[5,0,1,2,3,4,6,7,8,9,10,11,12,13,14,15,16,17,18,19,20,21,22],[0,0,3,7,15,0,0,0,192,448,960,2016,4095,8191,16383,16383,16383,0,0,0,950271,2031615,4194303],[]⟩,⟨8,[1,2,0,3,4,5],[0,0,0,6,15,31],[]⟩,⟨12,[0,1,2,3,4,5,6,7],[0,0,0,6,14,30,63,127],[]⟩,⟨17,[1,2,3,0,4,5],[0,0,0,6,15,31],[]⟩],Tryz.func49,by kernel_rfl,by kernel_rfl,by kernel_rfl,by kernel_rfl,by kernel_rfl⟩
def l4_0 : List COp:=[
 ⟨some 6,.mov (.k (.p (.bool false))),none⟩]
def c4_1 : CC:=.ops [] (l4_0)
def l4_2 : List COp:=[
 ⟨some 18,.mov (.t 0),none⟩,
 ⟨some 19,.append 9 1 16 (.k (.nils 9 1)) (.t 18),none⟩,
 ⟨some 7,.mov (.t 19),none⟩]
def c4_3 : CC:=.ops [] (l4_2)
def l4_4 : List COp:=[
 ⟨some 21,.mov (.t 7),none⟩,
 ⟨some 22,.call 13 [(.t 21)],none⟩]
def l4_5 : List COp:=[
 ⟨some 20,.mov (.t 22),none⟩,
 ⟨some 23,.extract (.t 20) 0,none⟩,
 ⟨some 24,.extract (.t 20) 1,none⟩,
 ⟨some 8,.alloc 25 1 (.p (.agg [(.list 52 4 [])])),none⟩,
 ⟨some 9,.alloc 27 2 (.p (.agg [(.int .i64 0),(.int .i64 0)])),none⟩,
 ⟨none,.store 1 (.t 8) (.t 23),none⟩,
 ⟨none,.store 2 (.t 9) (.t 24),none⟩]
def c4_6 : CC:=.ops [] (l4_4 ++ (l4_5))
def l4_7 : List COp:=[
 ⟨some 26,.mov (.t 0),none⟩,
 ⟨some 27,.call 14 [(.t 26)],none⟩]
def l4_8 : List COp:=[
 ⟨some 25,.mov (.t 27),none⟩,
 ⟨some 28,.extract (.t 25) 0,none⟩,
 ⟨some 29,.extract (.t 25) 1,none⟩,
 ⟨some 11,.alloc 27 2 (.p (.agg [(.int .i64 0),(.int .i64 0)])),none⟩,
 ⟨some 10,.mov (.t 28),none⟩,
 ⟨none,.store 2 (.t 11) (.t 29),none⟩]
def c4_9 : CC:=.ops [] (l4_7 ++ (l4_8))
def l4_10 : List COp:=[
 ⟨some 30,.call 15 [],none⟩]
def l4_11 : List COp:=[
 ⟨some 31,.un .not (.t 30),none⟩,
 ⟨some 32,.mov (.t 31),none⟩,
 ⟨some 33,.load true 2 (.t 9),some (32,false)⟩,
 ⟨some 34,.load true 2 (.t 11),some (32,false)⟩,
 ⟨some 35,.eqs 2 true (.t 33) (.t 34),some (32,false)⟩,
 ⟨some 36,.pick (.t 32) (.k (.p (.bool true))) (.t 35),none⟩,
 ⟨some 37,.mov (.t 36),none⟩,
 ⟨some 38,.mov (.t 7),some (37,false)⟩,
 ⟨some 39,.mov (.t 0),some (37,false)⟩,
 ⟨some 40,.call 31 [(.t 38),(.t 39)],some (37,false)⟩]
def l4_12 : List COp:=[
 ⟨some 41,.un .not (.t 40),some (37,false)⟩,
 ⟨some 42,.pick (.t 37) (.k (.p (.bool true))) (.t 41),none⟩,
 ⟨some 43,.mov (.t 42),none⟩,
 ⟨some 44,.load true 1 (.t 8),some (43,false)⟩,
 ⟨some 45,.mov (.t 10),some (43,false)⟩,
 ⟨some 46,.call 16 [(.t 44),(.t 45)],some (43,false)⟩]
def l4_13 : List COp:=[
 ⟨some 47,.un .not (.t 46),some (43,false)⟩,
 ⟨some 48,.pick (.t 43) (.k (.p (.bool true))) (.t 47),none⟩,
 ⟨some 49,.mov (.t 48),none⟩,
 ⟨some 50,.load true 1 (.t 8),some (49,false)⟩,
 ⟨some 51,.call 27 [(.t 50)],some (49,false)⟩]
def l4_14 : List COp:=[
 ⟨some 52,.mov (.t 10),some (49,false)⟩,
 ⟨some 53,.len (.t 52),some (49,false)⟩,
 ⟨some 54,.bin false .sub (.t 53) (.k (.p (.int .i64 1))),some (49,false)⟩,
 ⟨some 55,.bin false .neq (.t 51) (.t 54),some (49,false)⟩,
 ⟨some 56,.pick (.t 49) (.k (.p (.bool true))) (.t 55),none⟩]
def c4_15 : CC:=.ops [] (l4_10 ++ (l4_11 ++ (l4_12 ++ (l4_13 ++ (l4_14)))))
def l4_16 : List COp:=[
 ⟨some 6,.mov (.k (.p (.bool false))),none⟩]
def c4_17 : CC:=.ops [] (l4_16)
def c4_18 : CC:=.seq c4_17 .ret
def c4_19 : CC:=.cond (.t 56) c4_18 .skip
def c4_20 : CC:=.seq c4_15 c4_19
def l4_21 : List COp:=[
 ⟨some 57,.load true 1 (.t 8),none⟩,
 ⟨some 58,.mov (.t 1),none⟩,
 ⟨some 59,.call 32 [(.t 57),(.t 58)],none⟩]
def l4_22 : List COp:=[
 ⟨some 60,.call 33 [(.t 59)],none⟩]
def l4_23 : List COp:=[
 ⟨some 61,.mov (.t 10),none⟩,
 ⟨some 62,.mov (.t 1),none⟩,
 ⟨some 63,.call 35 [(.t 61),(.t 62)],none⟩]
def l4_24 : List COp:=[
 ⟨some 64,.call 34 [(.t 63)],none⟩]
def l4_25 : List COp:=[
 ⟨some 65,.bin false .neq (.t 60) (.t 64),none⟩,
 ⟨some 66,.mov (.t 65),none⟩,
 ⟨some 67,.load true 1 (.t 8),some (66,false)⟩,
 ⟨some 68,.call 36 [(.t 67)],some (66,false)⟩]
def l4_26 : List COp:=[
 ⟨some 69,.call 33 [(.t 68)],some (66,false)⟩]
def l4_27 : List COp:=[
 ⟨some 70,.mov (.t 10),some (66,false)⟩,
 ⟨some 71,.call 37 [(.t 70)],some (66,false)⟩]
def l4_28 : List COp:=[
 ⟨some 72,.call 34 [(.t 71)],some (66,false)⟩]
def l4_29 : List COp:=[
 ⟨some 73,.bin false .neq (.t 69) (.t 72),some (66,false)⟩,
 ⟨some 74,.pick (.t 66) (.k (.p (.bool true))) (.t 73),none⟩,
 ⟨some 75,.mov (.t 74),none⟩,
 ⟨some 76,.load true 1 (.t 8),some (75,false)⟩,
 ⟨some 77,.call 38 [(.t 76)],some (75,false)⟩]
def l4_30 : List COp:=[
 ⟨some 78,.mov (.t 10),some (75,false)⟩,
 ⟨some 79,.call 39 [(.t 78)],some (75,false)⟩]
def l4_31 : List COp:=[
 ⟨some 80,.call 16 [(.t 77),(.t 79)],some (75,false)⟩]
def l4_32 : List COp:=[
 ⟨some 81,.un .not (.t 80),some (75,false)⟩,
 ⟨some 82,.pick (.t 75) (.k (.p (.bool true))) (.t 81),none⟩,
 ⟨some 83,.mov (.t 82),none⟩,
 ⟨some 84,.load true 1 (.t 8),some (83,false)⟩,
 ⟨some 85,.call 40 [(.t 84)],some (83,false)⟩]
def l4_33 : List COp:=[
 ⟨some 86,.mov (.t 10),some (83,false)⟩,
 ⟨some 87,.call 41 [(.t 86)],some (83,false)⟩]
def l4_34 : List COp:=[
 ⟨some 88,.call 16 [(.t 85),(.t 87)],some (83,false)⟩]
def l4_35 : List COp:=[
 ⟨some 89,.un .not (.t 88),some (83,false)⟩,
 ⟨some 90,.pick (.t 83) (.k (.p (.bool true))) (.t 89),none⟩]
def c4_36 : CC:=.ops [] (l4_21 ++ (l4_22 ++ (l4_23 ++ (l4_24 ++ (l4_25 ++ (l4_26 ++ (l4_27 ++ (l4_28 ++ (l4_29 ++ (l4_30 ++ (l4_31 ++ (l4_32 ++ (l4_33 ++ (l4_34 ++ (l4_35)))))))))))))))
def l4_37 : List COp:=[
 ⟨some 6,.mov (.k (.p (.bool false))),none⟩]
def c4_38 : CC:=.ops [] (l4_37)
def c4_39 : CC:=.seq c4_38 .ret
def c4_40 : CC:=.cond (.t 90) c4_39 .skip
def c4_41 : CC:=.seq c4_36 c4_40
def l4_42 : List COp:=[
 ⟨some 92,.mov (.t 2),none⟩,
 ⟨some 93,.call 42 [(.t 92)],none⟩]
def l4_43 : List COp:=[
 ⟨some 91,.mov (.t 93),none⟩,
 ⟨some 94,.extract (.t 91) 0,none⟩,
 ⟨some 95,.extract (.t 91) 1,none⟩,
 ⟨some 12,.alloc 52 4 (.p (.agg [(.bool false),(.list 247 1 []),(.bool false),(.list 247 1 [])])),none⟩,
 ⟨some 13,.alloc 27 2 (.p (.agg [(.int .i64 0),(.int .i64 0)])),none⟩,
 ⟨none,.store 4 (.t 12) (.t 94),none⟩,
 ⟨none,.store 2 (.t 13) (.t 95),none⟩]
def c4_44 : CC:=.ops [] (l4_42 ++ (l4_43))
def l4_45 : List COp:=[
 ⟨some 97,.mov (.t 2),none⟩,
 ⟨some 98,.call 43 [(.t 97)],none⟩]
def l4_46 : List COp:=[
 ⟨some 96,.mov (.t 98),none⟩,
 ⟨some 99,.extract (.t 96) 0,none⟩,
 ⟨some 100,.extract (.t 96) 1,none⟩,
 ⟨some 14,.alloc 60 4 (.p (.agg [(.bool false),(.list 3 1 []),(.bool false),(.list 3 1 [])])),none⟩,
 ⟨some 15,.alloc 27 2 (.p (.agg [(.int .i64 0),(.int .i64 0)])),none⟩,
 ⟨none,.store 4 (.t 14) (.t 99),none⟩,
 ⟨none,.store 2 (.t 15) (.t 100),none⟩]
def c4_47 : CC:=.ops [] (l4_45 ++ (l4_46))
def l4_48 : List COp:=[
 ⟨some 102,.load true 1 (.t 8),none⟩,
 ⟨some 103,.call 44 [(.t 102)],none⟩]
def l4_49 : List COp:=[
 ⟨some 101,.mov (.t 103),none⟩,
 ⟨some 104,.extract (.t 101) 0,none⟩,
 ⟨some 105,.extract (.t 101) 1,none⟩,
 ⟨some 16,.alloc 52 4 (.p (.agg [(.bool false),(.list 247 1 []),(.bool false),(.list 247 1 [])])),none⟩,
 ⟨some 17,.alloc 25 1 (.p (.agg [(.list 52 4 [])])),none⟩,
 ⟨none,.store 4 (.t 16) (.t 104),none⟩,
 ⟨none,.store 1 (.t 17) (.t 105),none⟩]
def c4_50 : CC:=.ops [] (l4_48 ++ (l4_49))
def l4_51 : List COp:=[
 ⟨some 106,.mov (.t 10),none⟩,
 ⟨some 107,.len (.t 106),none⟩,
 ⟨some 108,.mov (.t 2),none⟩,
 ⟨some 109,.lenS (.t 108),none⟩,
 ⟨some 110,.bin false .mul (.t 107) (.t 109),none⟩,
 ⟨some 111,.bin false .lss (.t 110) (.k (.p (.int .i64 2000))),none⟩,
 ⟨some 112,.mov (.t 111),none⟩,
 ⟨some 113,.load true 1 (.t 8),some (112,true)⟩,
 ⟨some 114,.load true 4 (.t 12),some (112,true)⟩,
 ⟨some 115,.call 45 [(.t 113),(.t 114)],some (112,true)⟩]
def l4_52 : List COp:=[
 ⟨some 116,.call 33 [(.t 115)],some (112,true)⟩]
def l4_53 : List COp:=[
 ⟨some 118,.load true 4 (.t 14),some (112,true)⟩,
 ⟨some 117,.mov (.t 10),some (112,true)⟩,
 ⟨some 119,.call 46 [(.t 117),(.t 118)],some (112,true)⟩]
def l4_54 : List COp:=[
 ⟨some 120,.call 34 [(.t 119)],some (112,true)⟩]
def l4_55 : List COp:=[
 ⟨some 121,.bin false .neq (.t 116) (.t 120),some (112,true)⟩,
 ⟨some 122,.pick (.t 112) (.t 121) (.k (.p (.bool false))),none⟩,
 ⟨some 123,.mov (.t 122),none⟩,
 ⟨some 124,.load true 1 (.t 8),some (123,false)⟩,
 ⟨some 125,.load true 4 (.t 12),some (123,false)⟩,
 ⟨some 126,.call 47 [(.t 124),(.t 125)],some (123,false)⟩]
def l4_56 : List COp:=[
 ⟨some 128,.load true 4 (.t 14),some (123,false)⟩,
 ⟨some 127,.mov (.t 10),some (123,false)⟩,
 ⟨some 129,.call 48 [(.t 127),(.t 128)],some (123,false)⟩]
def l4_57 : List COp:=[
 ⟨some 130,.call 16 [(.t 126),(.t 129)],some (123,false)⟩]
def l4_58 : List COp:=[
 ⟨some 131,.un .not (.t 130),some (123,false)⟩,
 ⟨some 132,.pick (.t 123) (.k (.p (.bool true))) (.t 131),none⟩]
def c4_59 : CC:=.ops [] (l4_51 ++ (l4_52 ++ (l4_53 ++ (l4_54 ++ (l4_55 ++ (l4_56 ++ (l4_57 ++ (l4_58))))))))
def l4_60 : List COp:=[
 ⟨some 6,.mov (.k (.p (.bool false))),none⟩]
def c4_61 : CC:=.ops [] (l4_60)
def c4_62 : CC:=.seq c4_61 .ret
def c4_63 : CC:=.cond (.t 132) c4_62 .skip
def c4_64 : CC:=.seq c4_59 c4_63
def l4_65 : List COp:=[
 ⟨some 133,.load true 1 (.t 17),none⟩,
 ⟨some 134,.mov (.t 10),none⟩,
 ⟨some 135,.call 49 [(.t 134)],none⟩]
def l4_66 : List COp:=[
 ⟨some 136,.call 16 [(.t 133),(.t 135)],none⟩]
def l4_67 : List COp:=[
 ⟨some 137,.mov (.t 136),none⟩,
 ⟨some 138,.load true 1 (.t 17),some (137,true)⟩,
 ⟨some 139,.load true 4 (.t 16),some (137,true)⟩,
 ⟨some 140,.call 47 [(.t 138),(.t 139)],some (137,true)⟩]
def l4_68 : List COp:=[
 ⟨some 141,.load true 1 (.t 8),some (137,true)⟩,
 ⟨some 142,.call 21 [(.t 140),(.t 141)],some (137,true)⟩]
def l4_69 : List COp:=[
 ⟨some 143,.pick (.t 137) (.t 142) (.k (.p (.bool false))),none⟩,
 ⟨some 144,.mov (.t 143),none⟩,
 ⟨some 145,.mov (.t 10),some (144,true)⟩,
 ⟨some 146,.len (.t 145),some (144,true)⟩,
 ⟨some 147,.bin false .gtr (.t 146) (.k (.p (.int .i64 0))),some (144,true)⟩,
 ⟨some 148,.mov (.t 147),some (144,true)⟩,
 ⟨some 149,.load true 4 (.t 16),some (148,false)⟩,
 ⟨some 150,.call 50 [(.t 149)],some (148,false)⟩]
def l4_70 : List COp:=[
 ⟨some 151,.bin false .eql (.t 150) (.k (.p (.int .i64 0))),some (148,false)⟩,
 ⟨some 152,.pick (.t 148) (.k (.p (.bool true))) (.t 151),some (144,true)⟩,
 ⟨some 153,.pick (.t 144) (.t 152) (.k (.p (.bool false))),none⟩,
 ⟨some 6,.mov (.t 153),none⟩]
def c4_71 : CC:=.ops [] (l4_65 ++ (l4_66 ++ (l4_67 ++ (l4_68 ++ (l4_69 ++ (l4_70))))))
def c4_72 : CC:=.seq c4_71 .ret
def c4_73 : CC:=.seq c4_64 c4_72
def c4_74 : CC:=.seq c4_50 c4_73
def c4_75 : CC:=.seq c4_47 c4_74
def c4_76 : CC:=.seq c4_44 c4_75
def c4_77 : CC:=.seq c4_41 c4_76
def c4_78 : CC:=.seq c4_20 c4_77
def c4_79 : CC:=.seq c4_9 c4_78
def c4_80 : CC:=.seq c4_6 c4_79
def c4_81 : CC:=.seq c4_3 c4_80
def c4_82 : CC:=.seq c4_1 c4_81
def c4 : CC:=c4_82
theorem fn4 : FnOk Tryz.prog 4 [9,25,27,52,60] c4 [(6,none)] 154:=
 ⟨Tryz.f4,[⟨11,[0,1,2,3,4,5,6,7,8,9,10,12,11,13,14,15,16,17,18,19,20,22,21,23,24,25,26],[0,1,0,4,15,31,63,127,127,511,1023,127,127,8191,16383,32767,65535,131071,262143,262143,1048575,262143,262143,8388607,16777215,33554431,67108863],[]⟩,⟨13,[0,1,2,3,4,5,6,7,8,9,10,11,12,13,14,15,16,17,18,19,20,21],[0,0,2,7,15,31,31,127,31,511,1023,2047,4095,8191,16383,32767,65535,131071,262143,524287,1048575,2097151],[]⟩],Tryz.func4,by kernel_rfl,by kernel_rfl,by kernel_rfl,by kernel_rfl,by kernel_rfl⟩
end Go.Proofs.YtkidkimjdiichaaGreat.M
