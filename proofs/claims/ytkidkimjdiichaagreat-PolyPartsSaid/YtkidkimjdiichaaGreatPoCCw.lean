/- Functions of the program in the small machine's words: written by a program of mine. -/
import Derived.Test.YtkidkimjdiichaaGreatK4w
namespace Go.Proofs.YtkidkimjdiichaaGreat.M
open Go.RowKit
def l101_0:List COp:=[
 ⟨some 2,.alloc 25 1 (.p (.agg [(.list 52 4 [])])),none⟩]
def c101_1:CC:=.ops [] (l101_0)
def l101_2:List COp:=[
 ⟨some 4,.mov (.t 0),none⟩,
 ⟨some 5,.len (.t 4),none⟩,
 ⟨some 3,.mov (.t 5),none⟩]
def c101_3:CC:=.ops [] (l101_2)
def l101_4:List COp:=[
 ⟨some 6,.mov (.t 3),none⟩,
 ⟨some 7,.bin false .gtr (.t 6) (.k (.p (.int .i64 0))),none⟩,
 ⟨some 8,.mov (.t 7),none⟩,
 ⟨some 9,.mov (.t 0),some (8,true)⟩,
 ⟨some 10,.mov (.t 3),some (8,true)⟩,
 ⟨some 11,.bin false .sub (.t 10) (.k (.p (.int .i64 1))),some (8,true)⟩,
 ⟨some 12,.indexAddr 4 (.t 9) (.t 11),some (8,true)⟩,
 ⟨some 13,.load true 4 (.t 12),some (8,true)⟩,
 ⟨some 14,.call 50 [(.t 13)],some (8,true)⟩]
def l101_5:List COp:=[
 ⟨some 15,.bin false .eql (.t 14) (.k (.p (.int .i64 0))),some (8,true)⟩,
 ⟨some 16,.pick (.t 8) (.t 15) (.k (.p (.bool false))),none⟩]
def c101_6:CC:=.ops [] (l101_4++(l101_5))
def c101_7:CC:=.cond (.t 16) .skip (.exit 0)
def c101_8:CC:=.seq c101_6 c101_7
def l101_9:List COp:=[
 ⟨some 17,.mov (.t 3),none⟩,
 ⟨some 18,.bin false .sub (.t 17) (.k (.p (.int .i64 1))),none⟩,
 ⟨some 3,.mov (.t 18),none⟩]
def c101_10:CC:=.ops [] (l101_9)
def c101_11:CC:=.block 1 c101_10
def c101_12:CC:=.seq c101_8 c101_11
def c101_13:CC:=.loop c101_12
def c101_14:CC:=.block 0 c101_13
def l101_15:List COp:=[
 ⟨some 19,.mov (.t 0),none⟩,
 ⟨some 20,.mov (.t 3),none⟩,
 ⟨some 21,.mov (.t 3),none⟩,
 ⟨some 22,.slice 4 (.t 19) none (some (.t 20)) (some (.t 21)),none⟩,
 ⟨some 23,.build [(.p (.list 52 4 []))] [(0,1,(.t 22))],none⟩,
 ⟨none,.store 1 (.t 2) (.t 23),none⟩]
def c101_16:CC:=.ops [] (l101_15)
def c101_17:CC:=.seq c101_16 .ret
def c101_18:CC:=.seq c101_14 c101_17
def c101_19:CC:=.seq c101_3 c101_18
def c101_20:CC:=.seq c101_1 c101_19
def c101:CC:=c101_20
theorem fn101:FnOk Tryz.prog 101 [25] c101 [(2,some (true,1))] 24:=
 ⟨Tryz.f101,[],Tryz.func101,by kernel_rfl,by kernel_rfl,by kernel_rfl,by kernel_rfl,by kernel_rfl⟩
def l32_0:List COp:=[
 ⟨some 2,.box 25 1 (.t 0),none⟩,
 ⟨some 4,.alloc 52 4 (.p (.agg [(.bool false),(.list 247 1 []),(.bool false),(.list 247 1 [])])),none⟩]
def c32_1:CC:=.ops [] (l32_0)
def l32_2:List COp:=[
 ⟨some 5,.mov (.t 1),none⟩,
 ⟨some 6,.bin false .lss (.t 5) (.k (.p (.int .i64 0))),none⟩,
 ⟨some 7,.mov (.t 6),none⟩,
 ⟨some 8,.mov (.t 1),some (7,false)⟩,
 ⟨some 9,.fieldAddr 0 1 false (.t 2),some (7,false)⟩,
 ⟨some 10,.load false 1 (.t 9),some (7,false)⟩,
 ⟨some 11,.len (.t 10),some (7,false)⟩,
 ⟨some 12,.bin false .geq (.t 8) (.t 11),some (7,false)⟩,
 ⟨some 13,.pick (.t 7) (.k (.p (.bool true))) (.t 12),none⟩]
def c32_3:CC:=.ops [] (l32_2)
def l32_4:List COp:=[
 ⟨some 14,.build [(.p (.bool false)),(.p (.list 247 1 [])),(.p (.bool false)),(.p (.list 247 1 []))] [],none⟩,
 ⟨none,.store 4 (.t 4) (.t 14),none⟩]
def c32_5:CC:=.ops [] (l32_4)
def c32_6:CC:=.seq c32_5 .ret
def c32_7:CC:=.cond (.t 13) c32_6 .skip
def c32_8:CC:=.seq c32_3 c32_7
def l32_9:List COp:=[
 ⟨some 15,.fieldAddr 0 1 false (.t 2),none⟩,
 ⟨some 16,.load false 1 (.t 15),none⟩,
 ⟨some 17,.mov (.t 1),none⟩,
 ⟨some 18,.indexAddr 4 (.t 16) (.t 17),none⟩,
 ⟨some 19,.load true 4 (.t 18),none⟩,
 ⟨none,.store 4 (.t 4) (.t 19),none⟩]
def c32_10:CC:=.ops [] (l32_9)
def c32_11:CC:=.seq c32_10 .ret
def c32_12:CC:=.seq c32_8 c32_11
def c32_13:CC:=.seq c32_1 c32_12
def c32:CC:=c32_13
theorem fn32:FnOk Tryz.prog 32 [25,52] c32 [(4,some (true,4))] 20:=
 ⟨Tryz.f32,[],Tryz.func32,by kernel_rfl,by kernel_rfl,by kernel_rfl,by kernel_rfl,by kernel_rfl⟩
def l36_0:List COp:=[
 ⟨some 1,.box 25 1 (.t 0),none⟩,
 ⟨some 2,.alloc 52 4 (.p (.agg [(.bool false),(.list 247 1 []),(.bool false),(.list 247 1 [])])),none⟩]
def c36_1:CC:=.ops [] (l36_0)
def l36_2:List COp:=[
 ⟨some 3,.load true 1 (.t 1),none⟩,
 ⟨some 4,.fieldAddr 0 1 false (.t 1),none⟩,
 ⟨some 5,.load false 1 (.t 4),none⟩,
 ⟨some 6,.len (.t 5),none⟩,
 ⟨some 7,.bin false .sub (.t 6) (.k (.p (.int .i64 1))),none⟩,
 ⟨some 8,.call 32 [(.t 3),(.t 7)],none⟩]
def l36_3:List COp:=[
 ⟨none,.store 4 (.t 2) (.t 8),none⟩]
def c36_4:CC:=.ops [] (l36_2++(l36_3))
def c36_5:CC:=.seq c36_4 .ret
def c36_6:CC:=.seq c36_1 c36_5
def c36:CC:=c36_6
theorem fn36:FnOk Tryz.prog 36 [25,52] c36 [(2,some (true,4))] 9:=
 ⟨Tryz.f36,[],Tryz.func36,by kernel_rfl,by kernel_rfl,by kernel_rfl,by kernel_rfl,by kernel_rfl⟩
def l27_0:List COp:=[
 ⟨some 1,.box 25 1 (.t 0),none⟩,
 ⟨some 2,.mov (.k (.p (.int .i64 0))),none⟩]
def c27_1:CC:=.ops [] (l27_0)
def l27_2:List COp:=[
 ⟨some 3,.fieldAddr 0 1 false (.t 1),none⟩,
 ⟨some 4,.load false 1 (.t 3),none⟩,
 ⟨some 5,.len (.t 4),none⟩,
 ⟨some 6,.bin false .sub (.t 5) (.k (.p (.int .i64 1))),none⟩,
 ⟨some 2,.mov (.t 6),none⟩]
def c27_3:CC:=.ops [] (l27_2)
def c27_4:CC:=.seq c27_3 .ret
def c27_5:CC:=.seq c27_1 c27_4
def c27:CC:=c27_5
theorem fn27:FnOk Tryz.prog 27 [25] c27 [(2,none)] 7:=
 ⟨Tryz.f27,[],Tryz.func27,by kernel_rfl,by kernel_rfl,by kernel_rfl,by kernel_rfl,by kernel_rfl⟩
def l100_0:List COp:=[
 ⟨some 4,.alloc 27 2 (.p (.agg [(.int .i64 0),(.int .i64 0)])),none⟩]
def c100_1:CC:=.ops [] (l100_0)
def l100_2:List COp:=[
 ⟨some 5,.mov (.t 0),none⟩,
 ⟨some 6,.mov (.t 1),none⟩,
 ⟨some 7,.build [(.p (.int .i64 0)),(.p (.int .i64 0))] [(0,1,(.t 5)),(1,1,(.t 6))],none⟩,
 ⟨none,.store 2 (.t 4) (.t 7),none⟩]
def c100_3:CC:=.ops [] (l100_2)
def c100_4:CC:=.seq c100_3 .ret
def c100_5:CC:=.seq c100_1 c100_4
def c100:CC:=c100_5
theorem fn100:FnOk Tryz.prog 100 [27] c100 [(4,some (true,2))] 8:=
 ⟨Tryz.f100,[],Tryz.func100,by kernel_rfl,by kernel_rfl,by kernel_rfl,by kernel_rfl,by kernel_rfl⟩
def l13_0:List COp:=[
 ⟨some 2,.alloc 25 1 (.p (.agg [(.list 52 4 [])])),none⟩,
 ⟨some 3,.alloc 27 2 (.p (.agg [(.int .i64 0),(.int .i64 0)])),none⟩]
def c13_1:CC:=.ops [] (l13_0)
def l13_2:List COp:=[
 ⟨some 10,.mov (.t 0),none⟩,
 ⟨some 11,.len (.t 10),none⟩,
 ⟨some 12,.bin false .gtr (.t 11) (.k (.p (.int .i64 201))),none⟩]
def c13_3:CC:=.ops [] (l13_2)
def l13_4:List COp:=[
 ⟨some 13,.build [(.p (.list 52 4 []))] [],none⟩,
 ⟨some 14,.call 100 [(.k (.p (.int .i64 9))),(.k (.p (.int .i64 0)))],none⟩]
def l13_5:List COp:=[
 ⟨none,.store 1 (.t 2) (.t 13),none⟩,
 ⟨none,.store 2 (.t 3) (.t 14),none⟩]
def c13_6:CC:=.ops [] (l13_4++(l13_5))
def c13_7:CC:=.seq c13_6 .ret
def c13_8:CC:=.cond (.t 12) c13_7 .skip
def c13_9:CC:=.seq c13_3 c13_8
def l13_10:List COp:=[
 ⟨some 4,.mov (.k (.nils 52 4)),none⟩]
def c13_11:CC:=.ops [] (l13_10)
def l13_12:List COp:=[
 ⟨some 15,.mov (.t 0),none⟩,
 ⟨some 16,.len (.t 15),none⟩,
 ⟨some 17,.mov (.k (.p (.int .i64 0))),none⟩]
def c13_13:CC:=.ops [] (l13_12)
def l13_14:List COp:=[
 ⟨some 18,.bin false .lss (.t 17) (.t 16),none⟩]
def c13_15:CC:=.ops [] (l13_14)
def c13_16:CC:=.cond (.t 18) .skip (.exit 0)
def l13_17:List COp:=[
 ⟨some 19,.mov (.t 17),none⟩,
 ⟨some 20,.indexAddr 1 (.t 15) (.t 17),none⟩,
 ⟨some 21,.load false 1 (.t 20),none⟩,
 ⟨some 5,.mov (.t 19),none⟩,
 ⟨some 6,.mov (.t 21),none⟩]
def c13_18:CC:=.ops [] (l13_17)
def l13_19:List COp:=[
 ⟨some 23,.mov (.t 6),none⟩,
 ⟨some 24,.call 42 [(.t 23)],none⟩]
def l13_20:List COp:=[
 ⟨some 22,.mov (.t 24),none⟩,
 ⟨some 25,.extract (.t 22) 0,none⟩,
 ⟨some 26,.extract (.t 22) 1,none⟩,
 ⟨some 7,.alloc 52 4 (.p (.agg [(.bool false),(.list 247 1 []),(.bool false),(.list 247 1 [])])),none⟩,
 ⟨some 8,.alloc 27 2 (.p (.agg [(.int .i64 0),(.int .i64 0)])),none⟩,
 ⟨none,.store 4 (.t 7) (.t 25),none⟩,
 ⟨none,.store 2 (.t 8) (.t 26),none⟩]
def c13_21:CC:=.ops [] (l13_19++(l13_20))
def l13_22:List COp:=[
 ⟨some 27,.fieldAddr 0 1 false (.t 8),none⟩,
 ⟨some 28,.load false 1 (.t 27),none⟩,
 ⟨some 29,.bin false .neq (.t 28) (.k (.p (.int .i64 0))),none⟩]
def c13_23:CC:=.ops [] (l13_22)
def l13_24:List COp:=[
 ⟨some 30,.build [(.p (.list 52 4 []))] [],none⟩,
 ⟨some 31,.fieldAddr 0 1 false (.t 8),none⟩,
 ⟨some 32,.load false 1 (.t 31),none⟩,
 ⟨some 33,.mov (.t 5),none⟩,
 ⟨some 34,.call 100 [(.t 32),(.t 33)],none⟩]
def l13_25:List COp:=[
 ⟨none,.store 1 (.t 2) (.t 30),none⟩,
 ⟨none,.store 2 (.t 3) (.t 34),none⟩]
def c13_26:CC:=.ops [] (l13_24++(l13_25))
def c13_27:CC:=.seq c13_26 .ret
def c13_28:CC:=.cond (.t 29) c13_27 .skip
def c13_29:CC:=.seq c13_23 c13_28
def l13_30:List COp:=[
 ⟨some 35,.mov (.t 4),none⟩,
 ⟨some 36,.load true 4 (.t 7),none⟩,
 ⟨some 37,.buildSlice 52 4 (.agg [(.bool false),(.list 247 1 []),(.bool false),(.list 247 1 [])]) 1 [(0,(.t 36))],none⟩,
 ⟨some 38,.append 52 4 64 (.t 35) (.t 37),none⟩,
 ⟨some 4,.mov (.t 38),none⟩]
def c13_31:CC:=.ops [] (l13_30)
def c13_32:CC:=.seq c13_29 c13_31
def c13_33:CC:=.seq c13_21 c13_32
def c13_34:CC:=.seq c13_18 c13_33
def c13_35:CC:=.block 1 c13_34
def l13_36:List COp:=[
 ⟨some 39,.bin false .add (.t 17) (.k (.p (.int .i64 1))),none⟩,
 ⟨some 17,.mov (.t 39),none⟩]
def c13_37:CC:=.ops [] (l13_36)
def c13_38:CC:=.seq c13_35 c13_37
def c13_39:CC:=.seq c13_16 c13_38
def c13_40:CC:=.seq c13_15 c13_39
def c13_41:CC:=.loop c13_40
def c13_42:CC:=.block 0 c13_41
def c13_43:CC:=.seq c13_13 c13_42
def l13_44:List COp:=[
 ⟨some 40,.mov (.t 4),none⟩,
 ⟨some 41,.len (.t 40),none⟩,
 ⟨some 9,.mov (.t 41),none⟩]
def c13_45:CC:=.ops [] (l13_44)
def l13_46:List COp:=[
 ⟨some 42,.mov (.t 9),none⟩,
 ⟨some 43,.bin false .gtr (.t 42) (.k (.p (.int .i64 0))),none⟩,
 ⟨some 44,.mov (.t 43),none⟩,
 ⟨some 45,.mov (.t 4),some (44,true)⟩,
 ⟨some 46,.mov (.t 9),some (44,true)⟩,
 ⟨some 47,.bin false .sub (.t 46) (.k (.p (.int .i64 1))),some (44,true)⟩,
 ⟨some 48,.indexAddr 4 (.t 45) (.t 47),some (44,true)⟩,
 ⟨some 49,.load true 4 (.t 48),some (44,true)⟩,
 ⟨some 50,.call 50 [(.t 49)],some (44,true)⟩]
def l13_47:List COp:=[
 ⟨some 51,.bin false .eql (.t 50) (.k (.p (.int .i64 0))),some (44,true)⟩,
 ⟨some 52,.pick (.t 44) (.t 51) (.k (.p (.bool false))),none⟩]
def c13_48:CC:=.ops [] (l13_46++(l13_47))
def l13_49:List COp:=[
 ⟨some 53,.build [(.p (.list 52 4 []))] [],none⟩,
 ⟨some 54,.mov (.t 9),none⟩,
 ⟨some 55,.bin false .sub (.t 54) (.k (.p (.int .i64 1))),none⟩,
 ⟨some 56,.call 100 [(.k (.p (.int .i64 3))),(.t 55)],none⟩]
def l13_50:List COp:=[
 ⟨none,.store 1 (.t 2) (.t 53),none⟩,
 ⟨none,.store 2 (.t 3) (.t 56),none⟩]
def c13_51:CC:=.ops [] (l13_49++(l13_50))
def c13_52:CC:=.seq c13_51 .ret
def c13_53:CC:=.cond (.t 52) c13_52 .skip
def c13_54:CC:=.seq c13_48 c13_53
def c13_55:CC:=.seq c13_45 c13_54
def l13_56:List COp:=[
 ⟨some 57,.mov (.t 4),none⟩,
 ⟨some 58,.call 101 [(.t 57)],none⟩]
def l13_57:List COp:=[
 ⟨some 59,.build [(.p (.int .i64 0)),(.p (.int .i64 0))] [],none⟩,
 ⟨none,.store 1 (.t 2) (.t 58),none⟩,
 ⟨none,.store 2 (.t 3) (.t 59),none⟩]
def c13_58:CC:=.ops [] (l13_56++(l13_57))
def c13_59:CC:=.seq c13_58 .ret
def c13_60:CC:=.seq c13_55 c13_59
def c13_61:CC:=.seq c13_43 c13_60
def c13_62:CC:=.seq c13_11 c13_61
def c13_63:CC:=.seq c13_9 c13_62
def c13_64:CC:=.seq c13_1 c13_63
def c13:CC:=c13_64
theorem fn13:FnOk Tryz.prog 13 [25,27,52] c13 [(2,some (true,1)),(3,some (true,2))] 60:=
 ⟨Tryz.f13,[],Tryz.func13,by kernel_rfl,by kernel_rfl,by kernel_rfl,by kernel_rfl,by kernel_rfl⟩
def l104_0:List COp:=[
 ⟨some 1,.box 25 1 (.t 0),none⟩,
 ⟨some 2,.mov (.k (.nils 9 1)),none⟩]
def c104_1:CC:=.ops [] (l104_0)
def l104_2:List COp:=[
 ⟨some 6,.fieldAddr 0 1 false (.t 1),none⟩,
 ⟨some 7,.load false 1 (.t 6),none⟩,
 ⟨some 8,.len (.t 7),none⟩,
 ⟨some 9,.makeSlice 9 1 16 (.str []) (.t 8) (.t 8),none⟩,
 ⟨some 3,.mov (.t 9),none⟩]
def c104_3:CC:=.ops [] (l104_2)
def l104_4:List COp:=[
 ⟨some 10,.fieldAddr 0 1 false (.t 1),none⟩,
 ⟨some 11,.load false 1 (.t 10),none⟩,
 ⟨some 12,.len (.t 11),none⟩,
 ⟨some 13,.mov (.k (.p (.int .i64 0))),none⟩]
def c104_5:CC:=.ops [] (l104_4)
def l104_6:List COp:=[
 ⟨some 14,.bin false .lss (.t 13) (.t 12),none⟩]
def c104_7:CC:=.ops [] (l104_6)
def c104_8:CC:=.cond (.t 14) .skip (.exit 0)
def l104_9:List COp:=[
 ⟨some 15,.mov (.t 13),none⟩,
 ⟨some 16,.indexAddr 4 (.t 11) (.t 13),none⟩,
 ⟨some 17,.load true 4 (.t 16),none⟩,
 ⟨some 5,.alloc 52 4 (.p (.agg [(.bool false),(.list 247 1 []),(.bool false),(.list 247 1 [])])),none⟩,
 ⟨some 4,.mov (.t 15),none⟩,
 ⟨none,.store 4 (.t 5) (.t 17),none⟩]
def c104_10:CC:=.ops [] (l104_9)
def l104_11:List COp:=[
 ⟨some 18,.mov (.t 3),none⟩,
 ⟨some 19,.mov (.t 4),none⟩,
 ⟨some 20,.load true 4 (.t 5),none⟩,
 ⟨some 21,.call 33 [(.t 20)],none⟩]
def l104_12:List COp:=[
 ⟨some 22,.indexAddr 1 (.t 18) (.t 19),none⟩,
 ⟨none,.store 1 (.t 22) (.t 21),none⟩]
def c104_13:CC:=.ops [] (l104_11++(l104_12))
def c104_14:CC:=.seq c104_10 c104_13
def c104_15:CC:=.block 1 c104_14
def l104_16:List COp:=[
 ⟨some 23,.bin false .add (.t 13) (.k (.p (.int .i64 1))),none⟩,
 ⟨some 13,.mov (.t 23),none⟩]
def c104_17:CC:=.ops [] (l104_16)
def c104_18:CC:=.seq c104_15 c104_17
def c104_19:CC:=.seq c104_8 c104_18
def c104_20:CC:=.seq c104_7 c104_19
def c104_21:CC:=.loop c104_20
def c104_22:CC:=.block 0 c104_21
def c104_23:CC:=.seq c104_5 c104_22
def l104_24:List COp:=[
 ⟨some 24,.mov (.t 3),none⟩,
 ⟨some 2,.mov (.t 24),none⟩]
def c104_25:CC:=.ops [] (l104_24)
def c104_26:CC:=.seq c104_25 .ret
def c104_27:CC:=.seq c104_23 c104_26
def c104_28:CC:=.seq c104_3 c104_27
def c104_29:CC:=.seq c104_1 c104_28
def c104:CC:=c104_29
theorem fn104:FnOk Tryz.prog 104 [25,9,52] c104 [(2,none)] 25:=
 ⟨Tryz.f104,[],Tryz.func104,by kernel_rfl,by kernel_rfl,by kernel_rfl,by kernel_rfl,by kernel_rfl⟩
def l17_0:List COp:=[
 ⟨some 2,.box 25 1 (.t 0),none⟩,
 ⟨some 3,.box 25 1 (.t 1),none⟩,
 ⟨some 4,.alloc 25 1 (.p (.agg [(.list 52 4 [])])),none⟩]
def c17_1:CC:=.ops [] (l17_0)
def l17_2:List COp:=[
 ⟨some 7,.fieldAddr 0 1 false (.t 2),none⟩,
 ⟨some 8,.load false 1 (.t 7),none⟩,
 ⟨some 9,.len (.t 8),none⟩,
 ⟨some 10,.fieldAddr 0 1 false (.t 3),none⟩,
 ⟨some 11,.load false 1 (.t 10),none⟩,
 ⟨some 12,.len (.t 11),none⟩,
 ⟨some 13,.mm true (.t 9) (.t 12),none⟩,
 ⟨some 14,.makeSlice 52 4 64 (.agg [(.bool false),(.list 247 1 []),(.bool false),(.list 247 1 [])]) (.t 13) (.t 13),none⟩,
 ⟨some 5,.mov (.t 14),none⟩]
def c17_3:CC:=.ops [] (l17_2)
def l17_4:List COp:=[
 ⟨some 15,.mov (.t 5),none⟩,
 ⟨some 16,.len (.t 15),none⟩,
 ⟨some 17,.mov (.k (.p (.int .i64 0))),none⟩]
def c17_5:CC:=.ops [] (l17_4)
def l17_6:List COp:=[
 ⟨some 18,.bin false .lss (.t 17) (.t 16),none⟩]
def c17_7:CC:=.ops [] (l17_6)
def c17_8:CC:=.cond (.t 18) .skip (.exit 0)
def l17_9:List COp:=[
 ⟨some 19,.mov (.t 17),none⟩,
 ⟨some 6,.mov (.t 19),none⟩]
def c17_10:CC:=.ops [] (l17_9)
def l17_11:List COp:=[
 ⟨some 22,.load true 1 (.t 2),none⟩,
 ⟨some 25,.load true 1 (.t 3),none⟩,
 ⟨some 20,.mov (.t 5),none⟩,
 ⟨some 21,.mov (.t 6),none⟩,
 ⟨some 23,.mov (.t 6),none⟩,
 ⟨some 24,.call 32 [(.t 22),(.t 23)],none⟩]
def l17_12:List COp:=[
 ⟨some 26,.mov (.t 6),none⟩,
 ⟨some 27,.call 32 [(.t 25),(.t 26)],none⟩]
def l17_13:List COp:=[
 ⟨some 28,.call 106 [(.t 24),(.t 27)],none⟩]
def l17_14:List COp:=[
 ⟨some 29,.indexAddr 4 (.t 20) (.t 21),none⟩,
 ⟨none,.store 4 (.t 29) (.t 28),none⟩]
def c17_15:CC:=.ops [] (l17_11++(l17_12++(l17_13++(l17_14))))
def c17_16:CC:=.seq c17_10 c17_15
def c17_17:CC:=.block 1 c17_16
def l17_18:List COp:=[
 ⟨some 30,.bin false .add (.t 17) (.k (.p (.int .i64 1))),none⟩,
 ⟨some 17,.mov (.t 30),none⟩]
def c17_19:CC:=.ops [] (l17_18)
def c17_20:CC:=.seq c17_17 c17_19
def c17_21:CC:=.seq c17_8 c17_20
def c17_22:CC:=.seq c17_7 c17_21
def c17_23:CC:=.loop c17_22
def c17_24:CC:=.block 0 c17_23
def c17_25:CC:=.seq c17_5 c17_24
def l17_26:List COp:=[
 ⟨some 31,.mov (.t 5),none⟩,
 ⟨some 32,.call 101 [(.t 31)],none⟩]
def l17_27:List COp:=[
 ⟨none,.store 1 (.t 4) (.t 32),none⟩]
def c17_28:CC:=.ops [] (l17_26++(l17_27))
def c17_29:CC:=.seq c17_28 .ret
def c17_30:CC:=.seq c17_25 c17_29
def c17_31:CC:=.seq c17_3 c17_30
def c17_32:CC:=.seq c17_1 c17_31
def c17:CC:=c17_32
theorem fn17:FnOk Tryz.prog 17 [25,52] c17 [(4,some (true,1))] 33:=
 ⟨Tryz.f17,[⟨5,[2,5,0,1,3,4,6,7,8,9,10],[0,0,0,0,12,0,0,124,252,511,1023],[]⟩],Tryz.func17,by kernel_rfl,by kernel_rfl,by kernel_rfl,by kernel_rfl,by kernel_rfl⟩
def l47_0:List COp:=[
 ⟨some 2,.box 25 1 (.t 0),none⟩,
 ⟨some 3,.box 52 4 (.t 1),none⟩,
 ⟨some 4,.alloc 25 1 (.p (.agg [(.list 52 4 [])])),none⟩]
def c47_1:CC:=.ops [] (l47_0)
def l47_2:List COp:=[
 ⟨some 8,.fieldAddr 0 1 false (.t 2),none⟩,
 ⟨some 9,.load false 1 (.t 8),none⟩,
 ⟨some 10,.len (.t 9),none⟩,
 ⟨some 11,.makeSlice 52 4 64 (.agg [(.bool false),(.list 247 1 []),(.bool false),(.list 247 1 [])]) (.t 10) (.t 10),none⟩,
 ⟨some 5,.mov (.t 11),none⟩]
def c47_3:CC:=.ops [] (l47_2)
def l47_4:List COp:=[
 ⟨some 12,.fieldAddr 0 1 false (.t 2),none⟩,
 ⟨some 13,.load false 1 (.t 12),none⟩,
 ⟨some 14,.len (.t 13),none⟩,
 ⟨some 15,.mov (.k (.p (.int .i64 0))),none⟩]
def c47_5:CC:=.ops [] (l47_4)
def l47_6:List COp:=[
 ⟨some 16,.bin false .lss (.t 15) (.t 14),none⟩]
def c47_7:CC:=.ops [] (l47_6)
def c47_8:CC:=.cond (.t 16) .skip (.exit 0)
def l47_9:List COp:=[
 ⟨some 17,.mov (.t 15),none⟩,
 ⟨some 18,.indexAddr 4 (.t 13) (.t 15),none⟩,
 ⟨some 19,.load true 4 (.t 18),none⟩,
 ⟨some 7,.alloc 52 4 (.p (.agg [(.bool false),(.list 247 1 []),(.bool false),(.list 247 1 [])])),none⟩,
 ⟨some 6,.mov (.t 17),none⟩,
 ⟨none,.store 4 (.t 7) (.t 19),none⟩]
def c47_10:CC:=.ops [] (l47_9)
def l47_11:List COp:=[
 ⟨some 20,.mov (.t 5),none⟩,
 ⟨some 21,.mov (.t 6),none⟩,
 ⟨some 22,.load true 4 (.t 7),none⟩,
 ⟨some 23,.load true 4 (.t 3),none⟩,
 ⟨some 24,.call 111 [(.t 22),(.t 23)],none⟩]
def l47_12:List COp:=[
 ⟨some 25,.indexAddr 4 (.t 20) (.t 21),none⟩,
 ⟨none,.store 4 (.t 25) (.t 24),none⟩]
def c47_13:CC:=.ops [] (l47_11++(l47_12))
def c47_14:CC:=.seq c47_10 c47_13
def c47_15:CC:=.block 1 c47_14
def l47_16:List COp:=[
 ⟨some 26,.bin false .add (.t 15) (.k (.p (.int .i64 1))),none⟩,
 ⟨some 15,.mov (.t 26),none⟩]
def c47_17:CC:=.ops [] (l47_16)
def c47_18:CC:=.seq c47_15 c47_17
def c47_19:CC:=.seq c47_8 c47_18
def c47_20:CC:=.seq c47_7 c47_19
def c47_21:CC:=.loop c47_20
def c47_22:CC:=.block 0 c47_21
def c47_23:CC:=.seq c47_5 c47_22
def l47_24:List COp:=[
 ⟨some 27,.mov (.t 5),none⟩,
 ⟨some 28,.call 101 [(.t 27)],none⟩]
def l47_25:List COp:=[
 ⟨none,.store 1 (.t 4) (.t 28),none⟩]
def c47_26:CC:=.ops [] (l47_24++(l47_25))
def c47_27:CC:=.seq c47_26 .ret
def c47_28:CC:=.seq c47_23 c47_27
def c47_29:CC:=.seq c47_3 c47_28
def c47_30:CC:=.seq c47_1 c47_29
def c47:CC:=c47_30
theorem fn47:FnOk Tryz.prog 47 [25,52] c47 [(4,some (true,1))] 29:=
 ⟨Tryz.f47,[],Tryz.func47,by kernel_rfl,by kernel_rfl,by kernel_rfl,by kernel_rfl,by kernel_rfl⟩
def l19_0:List COp:=[
 ⟨some 2,.box 25 1 (.t 0),none⟩,
 ⟨some 3,.box 25 1 (.t 1),none⟩,
 ⟨some 4,.alloc 25 1 (.p (.agg [(.list 52 4 [])])),none⟩]
def c19_1:CC:=.ops [] (l19_0)
def l19_2:List COp:=[
 ⟨some 5,.load true 1 (.t 2),none⟩,
 ⟨some 6,.load true 1 (.t 3),none⟩,
 ⟨some 7,.call 110 [(.k (.p (.int .i64 (-1))))],none⟩]
def l19_3:List COp:=[
 ⟨some 8,.call 109 [(.t 7)],none⟩]
def l19_4:List COp:=[
 ⟨some 9,.call 47 [(.t 6),(.t 8)],none⟩]
def l19_5:List COp:=[
 ⟨some 10,.call 17 [(.t 5),(.t 9)],none⟩]
def l19_6:List COp:=[
 ⟨none,.store 1 (.t 4) (.t 10),none⟩]
def c19_7:CC:=.ops [] (l19_2++(l19_3++(l19_4++(l19_5++(l19_6)))))
def c19_8:CC:=.seq c19_7 .ret
def c19_9:CC:=.seq c19_1 c19_8
def c19:CC:=c19_9
theorem fn19:FnOk Tryz.prog 19 [25] c19 [(4,some (true,1))] 11:=
 ⟨Tryz.f19,[⟨1,[0,1,2,3,4,5,6],[0,0,0,4,14,31,63],[]⟩],Tryz.func19,by kernel_rfl,by kernel_rfl,by kernel_rfl,by kernel_rfl,by kernel_rfl⟩
def l25_0:List COp:=[
 ⟨some 2,.box 25 1 (.t 0),none⟩,
 ⟨some 3,.box 25 1 (.t 1),none⟩,
 ⟨some 4,.alloc 25 1 (.p (.agg [(.list 52 4 [])])),none⟩,
 ⟨some 5,.alloc 25 1 (.p (.agg [(.list 52 4 [])])),none⟩,
 ⟨some 6,.alloc 27 2 (.p (.agg [(.int .i64 0),(.int .i64 0)])),none⟩]
def c25_1:CC:=.ops [] (l25_0)
def l25_2:List COp:=[
 ⟨some 14,.fieldAddr 0 1 false (.t 3),none⟩,
 ⟨some 15,.load false 1 (.t 14),none⟩,
 ⟨some 16,.len (.t 15),none⟩,
 ⟨some 17,.bin false .eql (.t 16) (.k (.p (.int .i64 0))),none⟩]
def c25_3:CC:=.ops [] (l25_2)
def l25_4:List COp:=[
 ⟨some 18,.build [(.p (.list 52 4 []))] [],none⟩,
 ⟨some 19,.build [(.p (.list 52 4 []))] [],none⟩,
 ⟨some 20,.call 100 [(.k (.p (.int .i64 4))),(.k (.p (.int .i64 0)))],none⟩]
def l25_5:List COp:=[
 ⟨none,.store 1 (.t 4) (.t 18),none⟩,
 ⟨none,.store 1 (.t 5) (.t 19),none⟩,
 ⟨none,.store 2 (.t 6) (.t 20),none⟩]
def c25_6:CC:=.ops [] (l25_4++(l25_5))
def c25_7:CC:=.seq c25_6 .ret
def c25_8:CC:=.cond (.t 17) c25_7 .skip
def c25_9:CC:=.seq c25_3 c25_8
def l25_10:List COp:=[
 ⟨some 21,.fieldAddr 0 1 false (.t 2),none⟩,
 ⟨some 22,.load false 1 (.t 21),none⟩,
 ⟨some 23,.append 52 4 64 (.k (.nils 52 4)) (.t 22),none⟩,
 ⟨some 7,.mov (.t 23),none⟩]
def c25_11:CC:=.ops [] (l25_10)
def l25_12:List COp:=[
 ⟨some 24,.mov (.t 7),none⟩,
 ⟨some 25,.len (.t 24),none⟩,
 ⟨some 26,.fieldAddr 0 1 false (.t 3),none⟩,
 ⟨some 27,.load false 1 (.t 26),none⟩,
 ⟨some 28,.len (.t 27),none⟩,
 ⟨some 29,.bin false .lss (.t 25) (.t 28),none⟩]
def c25_13:CC:=.ops [] (l25_12)
def l25_14:List COp:=[
 ⟨some 31,.load true 1 (.t 2),none⟩,
 ⟨some 30,.build [(.p (.list 52 4 []))] [],none⟩,
 ⟨some 32,.build [(.p (.int .i64 0)),(.p (.int .i64 0))] [],none⟩,
 ⟨none,.store 1 (.t 4) (.t 30),none⟩,
 ⟨none,.store 1 (.t 5) (.t 31),none⟩,
 ⟨none,.store 2 (.t 6) (.t 32),none⟩]
def c25_15:CC:=.ops [(2,4)] (l25_14)
def c25_16:CC:=.seq c25_15 .ret
def c25_17:CC:=.cond (.t 29) c25_16 .skip
def c25_18:CC:=.seq c25_13 c25_17
def l25_19:List COp:=[
 ⟨some 33,.mov (.t 7),none⟩,
 ⟨some 34,.len (.t 33),none⟩,
 ⟨some 35,.fieldAddr 0 1 false (.t 3),none⟩,
 ⟨some 36,.load false 1 (.t 35),none⟩,
 ⟨some 37,.len (.t 36),none⟩,
 ⟨some 38,.bin false .sub (.t 34) (.t 37),none⟩,
 ⟨some 39,.bin false .add (.t 38) (.k (.p (.int .i64 1))),none⟩,
 ⟨some 40,.makeSlice 52 4 64 (.agg [(.bool false),(.list 247 1 []),(.bool false),(.list 247 1 [])]) (.t 39) (.t 39),none⟩,
 ⟨some 8,.mov (.t 40),none⟩]
def c25_20:CC:=.ops [] (l25_19)
def l25_21:List COp:=[
 ⟨some 41,.mov (.t 8),none⟩,
 ⟨some 42,.len (.t 41),none⟩,
 ⟨some 43,.bin false .sub (.t 42) (.k (.p (.int .i64 1))),none⟩,
 ⟨some 9,.mov (.t 43),none⟩]
def c25_22:CC:=.ops [] (l25_21)
def l25_23:List COp:=[
 ⟨some 44,.mov (.t 9),none⟩,
 ⟨some 45,.bin false .geq (.t 44) (.k (.p (.int .i64 0))),none⟩]
def c25_24:CC:=.ops [] (l25_23)
def c25_25:CC:=.cond (.t 45) .skip (.exit 0)
def c25_26:CC:=.seq c25_24 c25_25
def l25_27:List COp:=[
 ⟨some 58,.load true 1 (.t 3),none⟩,
 ⟨some 59,.call 36 [(.t 58)],none⟩]
def l25_28:List COp:=[
 ⟨some 49,.mov (.t 7),none⟩,
 ⟨some 50,.mov (.t 9),none⟩,
 ⟨some 51,.fieldAddr 0 1 false (.t 3),none⟩,
 ⟨some 52,.load false 1 (.t 51),none⟩,
 ⟨some 53,.len (.t 52),none⟩,
 ⟨some 54,.bin false .add (.t 50) (.t 53),none⟩,
 ⟨some 55,.bin false .sub (.t 54) (.k (.p (.int .i64 1))),none⟩,
 ⟨some 56,.indexAddr 4 (.t 49) (.t 55),none⟩,
 ⟨some 57,.load true 4 (.t 56),none⟩,
 ⟨some 60,.call 112 [(.t 57),(.t 59)],none⟩]
def l25_29:List COp:=[
 ⟨some 48,.mov (.t 60),none⟩,
 ⟨some 61,.extract (.t 48) 0,none⟩,
 ⟨some 62,.extract (.t 48) 1,none⟩,
 ⟨some 10,.alloc 52 4 (.p (.agg [(.bool false),(.list 247 1 []),(.bool false),(.list 247 1 [])])),none⟩,
 ⟨some 11,.alloc 27 2 (.p (.agg [(.int .i64 0),(.int .i64 0)])),none⟩,
 ⟨none,.store 4 (.t 10) (.t 61),none⟩,
 ⟨none,.store 2 (.t 11) (.t 62),none⟩]
def c25_30:CC:=.ops [] (l25_27++(l25_28++(l25_29)))
def l25_31:List COp:=[
 ⟨some 63,.mov (.t 8),none⟩,
 ⟨some 64,.mov (.t 9),none⟩,
 ⟨some 65,.load true 4 (.t 10),none⟩,
 ⟨some 66,.indexAddr 4 (.t 63) (.t 64),none⟩,
 ⟨none,.store 4 (.t 66) (.t 65),none⟩]
def c25_32:CC:=.ops [] (l25_31)
def l25_33:List COp:=[
 ⟨some 67,.load true 4 (.t 10),none⟩,
 ⟨some 68,.call 50 [(.t 67)],none⟩]
def l25_34:List COp:=[
 ⟨some 69,.bin false .eql (.t 68) (.k (.p (.int .i64 0))),none⟩]
def c25_35:CC:=.ops [] (l25_33++(l25_34))
def c25_36:CC:=.cond (.t 69) (.exit 1) .skip
def c25_37:CC:=.seq c25_35 c25_36
def l25_38:List COp:=[
 ⟨some 70,.fieldAddr 0 1 false (.t 3),none⟩,
 ⟨some 71,.load false 1 (.t 70),none⟩,
 ⟨some 72,.len (.t 71),none⟩,
 ⟨some 73,.mov (.k (.p (.int .i64 0))),none⟩]
def c25_39:CC:=.ops [] (l25_38)
def l25_40:List COp:=[
 ⟨some 74,.bin false .lss (.t 73) (.t 72),none⟩]
def c25_41:CC:=.ops [] (l25_40)
def c25_42:CC:=.cond (.t 74) .skip (.exit 2)
def l25_43:List COp:=[
 ⟨some 75,.mov (.t 73),none⟩,
 ⟨some 76,.indexAddr 4 (.t 71) (.t 73),none⟩,
 ⟨some 77,.load true 4 (.t 76),none⟩,
 ⟨some 13,.alloc 52 4 (.p (.agg [(.bool false),(.list 247 1 []),(.bool false),(.list 247 1 [])])),none⟩,
 ⟨some 12,.mov (.t 75),none⟩,
 ⟨none,.store 4 (.t 13) (.t 77),none⟩]
def c25_44:CC:=.ops [] (l25_43)
def l25_45:List COp:=[
 ⟨some 88,.load true 4 (.t 10),none⟩,
 ⟨some 89,.load true 4 (.t 13),none⟩,
 ⟨some 90,.call 111 [(.t 88),(.t 89)],none⟩]
def l25_46:List COp:=[
 ⟨some 78,.mov (.t 7),none⟩,
 ⟨some 79,.mov (.t 9),none⟩,
 ⟨some 80,.mov (.t 12),none⟩,
 ⟨some 81,.bin false .add (.t 79) (.t 80),none⟩,
 ⟨some 82,.mov (.t 7),none⟩,
 ⟨some 83,.mov (.t 9),none⟩,
 ⟨some 84,.mov (.t 12),none⟩,
 ⟨some 85,.bin false .add (.t 83) (.t 84),none⟩,
 ⟨some 86,.indexAddr 4 (.t 82) (.t 85),none⟩,
 ⟨some 87,.load true 4 (.t 86),none⟩,
 ⟨some 91,.call 113 [(.t 87),(.t 90)],none⟩]
def l25_47:List COp:=[
 ⟨some 92,.indexAddr 4 (.t 78) (.t 81),none⟩,
 ⟨none,.store 4 (.t 92) (.t 91),none⟩]
def c25_48:CC:=.ops [] (l25_45++(l25_46++(l25_47)))
def c25_49:CC:=.seq c25_44 c25_48
def c25_50:CC:=.block 3 c25_49
def l25_51:List COp:=[
 ⟨some 93,.bin false .add (.t 73) (.k (.p (.int .i64 1))),none⟩,
 ⟨some 73,.mov (.t 93),none⟩]
def c25_52:CC:=.ops [] (l25_51)
def c25_53:CC:=.seq c25_50 c25_52
def c25_54:CC:=.seq c25_42 c25_53
def c25_55:CC:=.seq c25_41 c25_54
def c25_56:CC:=.loop c25_55
def c25_57:CC:=.block 2 c25_56
def c25_58:CC:=.seq c25_39 c25_57
def c25_59:CC:=.seq c25_37 c25_58
def c25_60:CC:=.seq c25_32 c25_59
def c25_61:CC:=.seq c25_30 c25_60
def c25_62:CC:=.block 1 c25_61
def l25_63:List COp:=[
 ⟨some 46,.mov (.t 9),none⟩,
 ⟨some 47,.bin false .sub (.t 46) (.k (.p (.int .i64 1))),none⟩,
 ⟨some 9,.mov (.t 47),none⟩]
def c25_64:CC:=.ops [] (l25_63)
def c25_65:CC:=.seq c25_62 c25_64
def c25_66:CC:=.seq c25_26 c25_65
def c25_67:CC:=.loop c25_66
def c25_68:CC:=.block 0 c25_67
def c25_69:CC:=.seq c25_22 c25_68
def l25_70:List COp:=[
 ⟨some 94,.mov (.t 8),none⟩,
 ⟨some 95,.call 101 [(.t 94)],none⟩]
def l25_71:List COp:=[
 ⟨some 96,.mov (.t 7),none⟩,
 ⟨some 97,.call 101 [(.t 96)],none⟩]
def l25_72:List COp:=[
 ⟨some 98,.build [(.p (.int .i64 0)),(.p (.int .i64 0))] [],none⟩,
 ⟨none,.store 1 (.t 4) (.t 95),none⟩,
 ⟨none,.store 1 (.t 5) (.t 97),none⟩,
 ⟨none,.store 2 (.t 6) (.t 98),none⟩]
def c25_73:CC:=.ops [] (l25_70++(l25_71++(l25_72)))
def c25_74:CC:=.seq c25_73 .ret
def c25_75:CC:=.seq c25_69 c25_74
def c25_76:CC:=.seq c25_20 c25_75
def c25_77:CC:=.seq c25_18 c25_76
def c25_78:CC:=.seq c25_11 c25_77
def c25_79:CC:=.seq c25_9 c25_78
def c25_80:CC:=.seq c25_1 c25_79
def c25:CC:=c25_80
theorem fn25:FnOk Tryz.prog 25 [25,27,52] c25 [(4,some (true,1)),(5,some (true,1)),(6,some (true,2))] 99:=
 ⟨Tryz.f25,[⟨5,[1,0,2,3,4,5],[0,0,0,1,11,31],[(2,4)]⟩,⟨10,[9,10,0,1,2,3,4,5,6,7,8,11,12,13,14,15,16,17,18],[0,0,0,4,12,30,62,127,255,0,512,2047,4095,8191,8191,0,0,114687,262143],[]⟩,⟨16,[10,11,12,0,1,2,3,4,5,6,7,8,9,13,14,15],[0,0,0,6,0,0,0,96,240,496,0,0,3072,8176,16383,32767],[]⟩],Tryz.func25,by kernel_rfl,by kernel_rfl,by kernel_rfl,by kernel_rfl,by kernel_rfl⟩
def l181_0:List COp:=[
 ⟨some 2,.box 52 4 (.t 0),none⟩,
 ⟨some 4,.alloc 52 4 (.p (.agg [(.bool false),(.list 247 1 []),(.bool false),(.list 247 1 [])])),none⟩]
def c181_1:CC:=.ops [] (l181_0)
def l181_2:List COp:=[
 ⟨some 6,.call 110 [(.k (.p (.int .i64 1)))],none⟩]
def l181_3:List COp:=[
 ⟨some 7,.call 109 [(.t 6)],none⟩]
def l181_4:List COp:=[
 ⟨some 5,.alloc 52 4 (.p (.agg [(.bool false),(.list 247 1 []),(.bool false),(.list 247 1 [])])),none⟩,
 ⟨none,.store 4 (.t 5) (.t 7),none⟩]
def c181_5:CC:=.ops [] (l181_2++(l181_3++(l181_4)))
def l181_6:List COp:=[
 ⟨some 8,.mov (.t 1),none⟩,
 ⟨some 9,.mov (.k (.p (.int .i64 0))),none⟩]
def c181_7:CC:=.ops [] (l181_6)
def l181_8:List COp:=[
 ⟨some 10,.bin false .lss (.t 9) (.t 8),none⟩]
def c181_9:CC:=.ops [] (l181_8)
def c181_10:CC:=.cond (.t 10) .skip (.exit 0)
def l181_11:List COp:=[
 ⟨some 11,.load true 4 (.t 5),none⟩,
 ⟨some 12,.load true 4 (.t 2),none⟩,
 ⟨some 13,.call 111 [(.t 11),(.t 12)],none⟩]
def l181_12:List COp:=[
 ⟨none,.store 4 (.t 5) (.t 13),none⟩]
def c181_13:CC:=.ops [] (l181_11++(l181_12))
def c181_14:CC:=.block 1 c181_13
def l181_15:List COp:=[
 ⟨some 14,.bin false .add (.t 9) (.k (.p (.int .i64 1))),none⟩,
 ⟨some 9,.mov (.t 14),none⟩]
def c181_16:CC:=.ops [] (l181_15)
def c181_17:CC:=.seq c181_14 c181_16
def c181_18:CC:=.seq c181_10 c181_17
def c181_19:CC:=.seq c181_9 c181_18
def c181_20:CC:=.loop c181_19
def c181_21:CC:=.block 0 c181_20
def c181_22:CC:=.seq c181_7 c181_21
def l181_23:List COp:=[
 ⟨some 15,.load true 4 (.t 5),none⟩,
 ⟨none,.store 4 (.t 4) (.t 15),none⟩]
def c181_24:CC:=.ops [] (l181_23)
def c181_25:CC:=.seq c181_24 .ret
def c181_26:CC:=.seq c181_22 c181_25
def c181_27:CC:=.seq c181_5 c181_26
def c181_28:CC:=.seq c181_1 c181_27
def c181:CC:=c181_28
theorem fn181:FnOk Tryz.prog 181 [52] c181 [(4,some (true,4))] 16:=
 ⟨Tryz.f181,[],Tryz.func181,by kernel_rfl,by kernel_rfl,by kernel_rfl,by kernel_rfl,by kernel_rfl⟩
def l103_0:List COp:=[
 ⟨some 2,.box 25 1 (.t 0),none⟩,
 ⟨some 3,.box 25 1 (.t 1),none⟩,
 ⟨some 4,.alloc 52 4 (.p (.agg [(.bool false),(.list 247 1 []),(.bool false),(.list 247 1 [])])),none⟩]
def c103_1:CC:=.ops [] (l103_0)
def l103_2:List COp:=[
 ⟨some 9,.call 110 [(.k (.p (.int .i64 1)))],none⟩]
def l103_3:List COp:=[
 ⟨some 10,.call 109 [(.t 9)],none⟩]
def l103_4:List COp:=[
 ⟨some 5,.alloc 52 4 (.p (.agg [(.bool false),(.list 247 1 []),(.bool false),(.list 247 1 [])])),none⟩,
 ⟨none,.store 4 (.t 5) (.t 10),none⟩]
def c103_5:CC:=.ops [] (l103_2++(l103_3++(l103_4)))
def l103_6:List COp:=[
 ⟨some 11,.fieldAddr 0 1 false (.t 2),none⟩,
 ⟨some 12,.load false 1 (.t 11),none⟩,
 ⟨some 13,.len (.t 12),none⟩,
 ⟨some 14,.bin false .eql (.t 13) (.k (.p (.int .i64 0))),none⟩,
 ⟨some 15,.mov (.t 14),none⟩,
 ⟨some 16,.fieldAddr 0 1 false (.t 3),some (15,false)⟩,
 ⟨some 17,.load false 1 (.t 16),some (15,false)⟩,
 ⟨some 18,.len (.t 17),some (15,false)⟩,
 ⟨some 19,.bin false .eql (.t 18) (.k (.p (.int .i64 0))),some (15,false)⟩,
 ⟨some 20,.pick (.t 15) (.k (.p (.bool true))) (.t 19),none⟩]
def c103_7:CC:=.ops [] (l103_6)
def l103_8:List COp:=[
 ⟨some 21,.build [(.p (.bool false)),(.p (.list 247 1 [])),(.p (.bool false)),(.p (.list 247 1 []))] [],none⟩,
 ⟨none,.store 4 (.t 4) (.t 21),none⟩]
def c103_9:CC:=.ops [] (l103_8)
def c103_10:CC:=.seq c103_9 .ret
def c103_11:CC:=.cond (.t 20) c103_10 .skip
def c103_12:CC:=.seq c103_7 c103_11
def l103_13:List COp:=[
 ⟨some 22,.load true 1 (.t 3),none⟩,
 ⟨some 23,.call 27 [(.t 22)],none⟩]
def l103_14:List COp:=[
 ⟨some 24,.bin false .eql (.t 23) (.k (.p (.int .i64 0))),none⟩]
def c103_15:CC:=.ops [] (l103_13++(l103_14))
def l103_16:List COp:=[
 ⟨some 25,.load true 4 (.t 5),none⟩,
 ⟨some 30,.load true 1 (.t 2),none⟩,
 ⟨some 31,.call 27 [(.t 30)],none⟩]
def l103_17:List COp:=[
 ⟨some 26,.fieldAddr 0 1 false (.t 3),none⟩,
 ⟨some 27,.load false 1 (.t 26),none⟩,
 ⟨some 28,.indexAddr 4 (.t 27) (.k (.p (.int .i64 0))),none⟩,
 ⟨some 29,.load true 4 (.t 28),none⟩,
 ⟨some 32,.call 181 [(.t 29),(.t 31)],none⟩]
def l103_18:List COp:=[
 ⟨some 33,.call 111 [(.t 25),(.t 32)],none⟩]
def l103_19:List COp:=[
 ⟨none,.store 4 (.t 4) (.t 33),none⟩]
def c103_20:CC:=.ops [] (l103_16++(l103_17++(l103_18++(l103_19))))
def c103_21:CC:=.seq c103_20 .ret
def c103_22:CC:=.cond (.t 24) c103_21 .skip
def c103_23:CC:=.seq c103_15 c103_22
def l103_24:List COp:=[
 ⟨some 34,.load true 1 (.t 2),none⟩,
 ⟨some 35,.call 27 [(.t 34)],none⟩]
def l103_25:List COp:=[
 ⟨some 36,.load true 1 (.t 3),none⟩,
 ⟨some 37,.call 27 [(.t 36)],none⟩]
def l103_26:List COp:=[
 ⟨some 38,.bin false .lss (.t 35) (.t 37),none⟩]
def c103_27:CC:=.ops [] (l103_24++(l103_25++(l103_26)))
def l103_28:List COp:=[
 ⟨some 39,.load true 1 (.t 2),none⟩,
 ⟨some 40,.call 27 [(.t 39)],none⟩]
def l103_29:List COp:=[
 ⟨some 41,.load true 1 (.t 3),none⟩,
 ⟨some 42,.call 27 [(.t 41)],none⟩]
def l103_30:List COp:=[
 ⟨some 43,.bin false .mul (.t 40) (.t 42),none⟩,
 ⟨some 44,.bin false .rem (.t 43) (.k (.p (.int .i64 2))),none⟩,
 ⟨some 45,.bin false .eql (.t 44) (.k (.p (.int .i64 1))),none⟩]
def c103_31:CC:=.ops [] (l103_28++(l103_29++(l103_30)))
def l103_32:List COp:=[
 ⟨some 46,.load true 4 (.t 5),none⟩,
 ⟨some 47,.call 134 [(.t 46)],none⟩]
def l103_33:List COp:=[
 ⟨none,.store 4 (.t 5) (.t 47),none⟩]
def c103_34:CC:=.ops [] (l103_32++(l103_33))
def c103_35:CC:=.cond (.t 45) c103_34 .skip
def c103_36:CC:=.seq c103_31 c103_35
def l103_37:List COp:=[
 ⟨some 48,.load true 1 (.t 3),none⟩,
 ⟨some 49,.load true 1 (.t 2),none⟩,
 ⟨none,.store 1 (.t 2) (.t 48),none⟩,
 ⟨none,.store 1 (.t 3) (.t 49),none⟩]
def c103_38:CC:=.ops [] (l103_37)
def c103_39:CC:=.seq c103_38 (.exit 1)
def c103_40:CC:=.seq c103_36 c103_39
def c103_41:CC:=.cond (.t 38) c103_40 .skip
def c103_42:CC:=.seq c103_27 c103_41
def l103_43:List COp:=[
 ⟨some 51,.load true 1 (.t 2),none⟩,
 ⟨some 52,.load true 1 (.t 3),none⟩,
 ⟨some 53,.call 25 [(.t 51),(.t 52)],none⟩]
def l103_44:List COp:=[
 ⟨some 50,.mov (.t 53),none⟩,
 ⟨some 54,.extract (.t 50) 0,none⟩,
 ⟨some 55,.extract (.t 50) 1,none⟩,
 ⟨some 56,.extract (.t 50) 2,none⟩,
 ⟨some 6,.alloc 25 1 (.p (.agg [(.list 52 4 [])])),none⟩,
 ⟨some 7,.alloc 25 1 (.p (.agg [(.list 52 4 [])])),none⟩,
 ⟨some 8,.alloc 27 2 (.p (.agg [(.int .i64 0),(.int .i64 0)])),none⟩,
 ⟨none,.store 1 (.t 6) (.t 54),none⟩,
 ⟨none,.store 1 (.t 7) (.t 55),none⟩,
 ⟨none,.store 2 (.t 8) (.t 56),none⟩]
def c103_45:CC:=.ops [] (l103_43++(l103_44))
def l103_46:List COp:=[
 ⟨some 57,.fieldAddr 0 1 false (.t 7),none⟩,
 ⟨some 58,.load false 1 (.t 57),none⟩,
 ⟨some 59,.len (.t 58),none⟩,
 ⟨some 60,.bin false .eql (.t 59) (.k (.p (.int .i64 0))),none⟩]
def c103_47:CC:=.ops [] (l103_46)
def l103_48:List COp:=[
 ⟨some 61,.build [(.p (.bool false)),(.p (.list 247 1 [])),(.p (.bool false)),(.p (.list 247 1 []))] [],none⟩,
 ⟨none,.store 4 (.t 4) (.t 61),none⟩]
def c103_49:CC:=.ops [] (l103_48)
def c103_50:CC:=.seq c103_49 .ret
def c103_51:CC:=.cond (.t 60) c103_50 .skip
def c103_52:CC:=.seq c103_47 c103_51
def l103_53:List COp:=[
 ⟨some 62,.load true 1 (.t 2),none⟩,
 ⟨some 63,.call 27 [(.t 62)],none⟩]
def l103_54:List COp:=[
 ⟨some 64,.load true 1 (.t 3),none⟩,
 ⟨some 65,.call 27 [(.t 64)],none⟩]
def l103_55:List COp:=[
 ⟨some 66,.bin false .mul (.t 63) (.t 65),none⟩,
 ⟨some 67,.bin false .rem (.t 66) (.k (.p (.int .i64 2))),none⟩,
 ⟨some 68,.bin false .eql (.t 67) (.k (.p (.int .i64 1))),none⟩]
def c103_56:CC:=.ops [] (l103_53++(l103_54++(l103_55)))
def l103_57:List COp:=[
 ⟨some 69,.load true 4 (.t 5),none⟩,
 ⟨some 70,.call 134 [(.t 69)],none⟩]
def l103_58:List COp:=[
 ⟨none,.store 4 (.t 5) (.t 70),none⟩]
def c103_59:CC:=.ops [] (l103_57++(l103_58))
def c103_60:CC:=.cond (.t 68) c103_59 .skip
def c103_61:CC:=.seq c103_56 c103_60
def l103_62:List COp:=[
 ⟨some 71,.load true 4 (.t 5),none⟩,
 ⟨some 72,.load true 1 (.t 3),none⟩,
 ⟨some 73,.call 36 [(.t 72)],none⟩]
def l103_63:List COp:=[
 ⟨some 74,.load true 1 (.t 2),none⟩,
 ⟨some 75,.call 27 [(.t 74)],none⟩]
def l103_64:List COp:=[
 ⟨some 76,.load true 1 (.t 7),none⟩,
 ⟨some 77,.call 27 [(.t 76)],none⟩]
def l103_65:List COp:=[
 ⟨some 78,.bin false .sub (.t 75) (.t 77),none⟩,
 ⟨some 79,.call 181 [(.t 73),(.t 78)],none⟩]
def l103_66:List COp:=[
 ⟨some 80,.call 111 [(.t 71),(.t 79)],none⟩]
def l103_67:List COp:=[
 ⟨none,.store 4 (.t 5) (.t 80),none⟩]
def c103_68:CC:=.ops [] (l103_62++(l103_63++(l103_64++(l103_65++(l103_66++(l103_67))))))
def l103_69:List COp:=[
 ⟨some 81,.load true 1 (.t 3),none⟩,
 ⟨some 82,.load true 1 (.t 7),none⟩,
 ⟨none,.store 1 (.t 2) (.t 81),none⟩,
 ⟨none,.store 1 (.t 3) (.t 82),none⟩]
def c103_70:CC:=.ops [(7,2)] (l103_69)
def c103_71:CC:=.seq c103_68 c103_70
def c103_72:CC:=.seq c103_61 c103_71
def c103_73:CC:=.seq c103_52 c103_72
def c103_74:CC:=.seq c103_45 c103_73
def c103_75:CC:=.seq c103_42 c103_74
def c103_76:CC:=.seq c103_23 c103_75
def c103_77:CC:=.seq c103_12 c103_76
def c103_78:CC:=.block 1 c103_77
def c103_79:CC:=.loop c103_78
def c103_80:CC:=.block 0 c103_79
def c103_81:CC:=.seq c103_5 c103_80
def c103_82:CC:=.seq c103_1 c103_81
def c103:CC:=c103_82
theorem fn103:FnOk Tryz.prog 103 [25,52,27] c103 [(4,some (true,4))] 83:=
 ⟨Tryz.f103,[⟨5,[0,5,6,1,2,3,4,7,8,9],[0,0,2,6,14,0,32,126,255,511],[]⟩,⟨6,[0,1,2,3,4],[0,1,0,7,15],[]⟩,⟨7,[0,1,2,3,4,5,6],[0,1,0,7,15,31,63],[]⟩,⟨13,[0,1,2,3,4,5,6],[0,1,0,7,15,31,63],[]⟩,⟨15,[0,1,2,3,4,5,6,7,8,9,10],[0,0,2,0,14,0,62,126,254,511,1023],[]⟩,⟨16,[0,1,2,3],[0,0,1,7],[(7,2)]⟩],Tryz.func103,by kernel_rfl,by kernel_rfl,by kernel_rfl,by kernel_rfl,by kernel_rfl⟩
end Go.Proofs.YtkidkimjdiichaaGreat.M
