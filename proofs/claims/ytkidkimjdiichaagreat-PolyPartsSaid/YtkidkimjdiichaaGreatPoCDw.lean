/- Functions of the program in the small machine's words: written by a program of mine. -/
import Derived.Test.YtkidkimjdiichaaGreatK4w
namespace Go.Proofs.YtkidkimjdiichaaGreat.M
open Go.RowKit
def l108_0:List COp:=[
 ⟨some 2,.mov (.k (.nils 60 4)),none⟩]
def c108_1:CC:=.ops [] (l108_0)
def l108_2:List COp:=[
 ⟨some 4,.mov (.t 0),none⟩,
 ⟨some 5,.len (.t 4),none⟩,
 ⟨some 3,.mov (.t 5),none⟩]
def c108_3:CC:=.ops [] (l108_2)
def l108_4:List COp:=[
 ⟨some 6,.mov (.t 3),none⟩,
 ⟨some 7,.bin false .gtr (.t 6) (.k (.p (.int .i64 0))),none⟩,
 ⟨some 8,.mov (.t 7),none⟩,
 ⟨some 9,.mov (.t 0),some (8,true)⟩,
 ⟨some 10,.mov (.t 3),some (8,true)⟩,
 ⟨some 11,.bin false .sub (.t 10) (.k (.p (.int .i64 1))),some (8,true)⟩,
 ⟨some 12,.indexAddr 4 (.t 9) (.t 11),some (8,true)⟩,
 ⟨some 13,.load true 4 (.t 12),some (8,true)⟩,
 ⟨some 14,.call 86 [(.t 13)],some (8,true)⟩]
def l108_5:List COp:=[
 ⟨some 15,.bin false .eql (.t 14) (.k (.p (.int .i64 0))),some (8,true)⟩,
 ⟨some 16,.pick (.t 8) (.t 15) (.k (.p (.bool false))),none⟩]
def c108_6:CC:=.ops [] (l108_4++(l108_5))
def c108_7:CC:=.cond (.t 16) .skip (.exit 0)
def c108_8:CC:=.seq c108_6 c108_7
def l108_9:List COp:=[
 ⟨some 17,.mov (.t 3),none⟩,
 ⟨some 18,.bin false .sub (.t 17) (.k (.p (.int .i64 1))),none⟩,
 ⟨some 3,.mov (.t 18),none⟩]
def c108_10:CC:=.ops [] (l108_9)
def c108_11:CC:=.block 1 c108_10
def c108_12:CC:=.seq c108_8 c108_11
def c108_13:CC:=.loop c108_12
def c108_14:CC:=.block 0 c108_13
def l108_15:List COp:=[
 ⟨some 19,.mov (.t 0),none⟩,
 ⟨some 20,.mov (.t 3),none⟩,
 ⟨some 21,.slice 4 (.t 19) none (some (.t 20)) none,none⟩,
 ⟨some 2,.mov (.t 21),none⟩]
def c108_16:CC:=.ops [] (l108_15)
def c108_17:CC:=.seq c108_16 .ret
def c108_18:CC:=.seq c108_14 c108_17
def c108_19:CC:=.seq c108_3 c108_18
def c108_20:CC:=.seq c108_1 c108_19
def c108:CC:=c108_20
theorem fn108:FnOk Tryz.prog 108 [] c108 [(2,none)] 22:=
 ⟨Tryz.f108,[],Tryz.func108,by kernel_rfl,by kernel_rfl,by kernel_rfl,by kernel_rfl,by kernel_rfl⟩
def l14_0:List COp:=[
 ⟨some 2,.mov (.k (.nils 60 4)),none⟩,
 ⟨some 3,.alloc 27 2 (.p (.agg [(.int .i64 0),(.int .i64 0)])),none⟩]
def c14_1:CC:=.ops [] (l14_0)
def l14_2:List COp:=[
 ⟨some 9,.mov (.t 0),none⟩,
 ⟨some 10,.len (.t 9),none⟩,
 ⟨some 11,.bin false .gtr (.t 10) (.k (.p (.int .i64 201))),none⟩]
def c14_3:CC:=.ops [] (l14_2)
def l14_4:List COp:=[
 ⟨some 12,.call 102 [(.k (.p (.int .i64 9))),(.k (.p (.int .i64 0)))],none⟩]
def l14_5:List COp:=[
 ⟨some 2,.mov (.k (.nils 60 4)),none⟩,
 ⟨none,.store 2 (.t 3) (.t 12),none⟩]
def c14_6:CC:=.ops [] (l14_4++(l14_5))
def c14_7:CC:=.seq c14_6 .ret
def c14_8:CC:=.cond (.t 11) c14_7 .skip
def c14_9:CC:=.seq c14_3 c14_8
def l14_10:List COp:=[
 ⟨some 4,.mov (.k (.nils 60 4)),none⟩]
def c14_11:CC:=.ops [] (l14_10)
def l14_12:List COp:=[
 ⟨some 5,.mov (.k (.p (.int .i64 0))),none⟩]
def c14_13:CC:=.ops [] (l14_12)
def l14_14:List COp:=[
 ⟨some 13,.mov (.t 5),none⟩,
 ⟨some 14,.mov (.t 0),none⟩,
 ⟨some 15,.len (.t 14),none⟩,
 ⟨some 16,.bin false .lss (.t 13) (.t 15),none⟩]
def c14_15:CC:=.ops [] (l14_14)
def c14_16:CC:=.cond (.t 16) .skip (.exit 0)
def c14_17:CC:=.seq c14_15 c14_16
def l14_18:List COp:=[
 ⟨some 20,.mov (.t 0),none⟩,
 ⟨some 21,.mov (.t 5),none⟩,
 ⟨some 22,.indexAddr 1 (.t 20) (.t 21),none⟩,
 ⟨some 23,.load false 1 (.t 22),none⟩,
 ⟨some 24,.call 43 [(.t 23)],none⟩]
def l14_19:List COp:=[
 ⟨some 19,.mov (.t 24),none⟩,
 ⟨some 25,.extract (.t 19) 0,none⟩,
 ⟨some 26,.extract (.t 19) 1,none⟩,
 ⟨some 6,.alloc 60 4 (.p (.agg [(.bool false),(.list 3 1 []),(.bool false),(.list 3 1 [])])),none⟩,
 ⟨some 7,.alloc 27 2 (.p (.agg [(.int .i64 0),(.int .i64 0)])),none⟩,
 ⟨none,.store 4 (.t 6) (.t 25),none⟩,
 ⟨none,.store 2 (.t 7) (.t 26),none⟩]
def c14_20:CC:=.ops [] (l14_18++(l14_19))
def l14_21:List COp:=[
 ⟨some 27,.fieldAddr 0 1 false (.t 7),none⟩,
 ⟨some 28,.load false 1 (.t 27),none⟩,
 ⟨some 29,.bin false .neq (.t 28) (.k (.p (.int .i64 0))),none⟩]
def c14_22:CC:=.ops [] (l14_21)
def l14_23:List COp:=[
 ⟨some 30,.fieldAddr 0 1 false (.t 7),none⟩,
 ⟨some 31,.load false 1 (.t 30),none⟩,
 ⟨some 32,.mov (.t 5),none⟩,
 ⟨some 33,.call 102 [(.t 31),(.t 32)],none⟩]
def l14_24:List COp:=[
 ⟨some 2,.mov (.k (.nils 60 4)),none⟩,
 ⟨none,.store 2 (.t 3) (.t 33),none⟩]
def c14_25:CC:=.ops [] (l14_23++(l14_24))
def c14_26:CC:=.seq c14_25 .ret
def c14_27:CC:=.cond (.t 29) c14_26 .skip
def c14_28:CC:=.seq c14_22 c14_27
def l14_29:List COp:=[
 ⟨some 34,.mov (.t 4),none⟩,
 ⟨some 35,.load true 4 (.t 6),none⟩,
 ⟨some 36,.buildSlice 60 4 (.agg [(.bool false),(.list 3 1 []),(.bool false),(.list 3 1 [])]) 1 [(0,(.t 35))],none⟩,
 ⟨some 37,.append 60 4 64 (.t 34) (.t 36),none⟩,
 ⟨some 4,.mov (.t 37),none⟩]
def c14_30:CC:=.ops [] (l14_29)
def c14_31:CC:=.seq c14_28 c14_30
def c14_32:CC:=.seq c14_20 c14_31
def c14_33:CC:=.block 1 c14_32
def l14_34:List COp:=[
 ⟨some 17,.mov (.t 5),none⟩,
 ⟨some 18,.bin false .add (.t 17) (.k (.p (.int .i64 1))),none⟩,
 ⟨some 5,.mov (.t 18),none⟩]
def c14_35:CC:=.ops [] (l14_34)
def c14_36:CC:=.seq c14_33 c14_35
def c14_37:CC:=.seq c14_17 c14_36
def c14_38:CC:=.loop c14_37
def c14_39:CC:=.block 0 c14_38
def c14_40:CC:=.seq c14_13 c14_39
def l14_41:List COp:=[
 ⟨some 38,.mov (.t 4),none⟩,
 ⟨some 39,.len (.t 38),none⟩,
 ⟨some 8,.mov (.t 39),none⟩]
def c14_42:CC:=.ops [] (l14_41)
def l14_43:List COp:=[
 ⟨some 40,.mov (.t 8),none⟩,
 ⟨some 41,.bin false .gtr (.t 40) (.k (.p (.int .i64 0))),none⟩,
 ⟨some 42,.mov (.t 41),none⟩,
 ⟨some 43,.mov (.t 4),some (42,true)⟩,
 ⟨some 44,.mov (.t 8),some (42,true)⟩,
 ⟨some 45,.bin false .sub (.t 44) (.k (.p (.int .i64 1))),some (42,true)⟩,
 ⟨some 46,.indexAddr 4 (.t 43) (.t 45),some (42,true)⟩,
 ⟨some 47,.load true 4 (.t 46),some (42,true)⟩,
 ⟨some 48,.call 86 [(.t 47)],some (42,true)⟩]
def l14_44:List COp:=[
 ⟨some 49,.bin false .eql (.t 48) (.k (.p (.int .i64 0))),some (42,true)⟩,
 ⟨some 50,.pick (.t 42) (.t 49) (.k (.p (.bool false))),none⟩]
def c14_45:CC:=.ops [] (l14_43++(l14_44))
def l14_46:List COp:=[
 ⟨some 51,.mov (.t 8),none⟩,
 ⟨some 52,.bin false .sub (.t 51) (.k (.p (.int .i64 1))),none⟩,
 ⟨some 53,.call 102 [(.k (.p (.int .i64 3))),(.t 52)],none⟩]
def l14_47:List COp:=[
 ⟨some 2,.mov (.k (.nils 60 4)),none⟩,
 ⟨none,.store 2 (.t 3) (.t 53),none⟩]
def c14_48:CC:=.ops [] (l14_46++(l14_47))
def c14_49:CC:=.seq c14_48 .ret
def c14_50:CC:=.cond (.t 50) c14_49 .skip
def c14_51:CC:=.seq c14_45 c14_50
def c14_52:CC:=.seq c14_42 c14_51
def l14_53:List COp:=[
 ⟨some 54,.mov (.t 4),none⟩,
 ⟨some 55,.build [(.p (.int .i64 0)),(.p (.int .i64 0))] [],none⟩,
 ⟨some 2,.mov (.t 54),none⟩,
 ⟨none,.store 2 (.t 3) (.t 55),none⟩]
def c14_54:CC:=.ops [] (l14_53)
def c14_55:CC:=.seq c14_54 .ret
def c14_56:CC:=.seq c14_52 c14_55
def c14_57:CC:=.seq c14_40 c14_56
def c14_58:CC:=.seq c14_11 c14_57
def c14_59:CC:=.seq c14_9 c14_58
def c14_60:CC:=.seq c14_1 c14_59
def c14:CC:=c14_60
theorem fn14:FnOk Tryz.prog 14 [27,60] c14 [(2,none),(3,some (true,2))] 56:=
 ⟨Tryz.f14,[],Tryz.func14,by kernel_rfl,by kernel_rfl,by kernel_rfl,by kernel_rfl,by kernel_rfl⟩
def l35_0:List COp:=[
 ⟨some 4,.alloc 60 4 (.p (.agg [(.bool false),(.list 3 1 []),(.bool false),(.list 3 1 [])])),none⟩]
def c35_1:CC:=.ops [] (l35_0)
def l35_2:List COp:=[
 ⟨some 5,.mov (.t 1),none⟩,
 ⟨some 6,.bin false .lss (.t 5) (.k (.p (.int .i64 0))),none⟩,
 ⟨some 7,.mov (.t 6),none⟩,
 ⟨some 8,.mov (.t 1),some (7,false)⟩,
 ⟨some 9,.mov (.t 0),some (7,false)⟩,
 ⟨some 10,.len (.t 9),some (7,false)⟩,
 ⟨some 11,.bin false .geq (.t 8) (.t 10),some (7,false)⟩,
 ⟨some 12,.pick (.t 7) (.k (.p (.bool true))) (.t 11),none⟩]
def c35_3:CC:=.ops [] (l35_2)
def l35_4:List COp:=[
 ⟨some 13,.call 53 [(.k (.p (.int .i64 0)))],none⟩]
def l35_5:List COp:=[
 ⟨none,.store 4 (.t 4) (.t 13),none⟩]
def c35_6:CC:=.ops [] (l35_4++(l35_5))
def c35_7:CC:=.seq c35_6 .ret
def c35_8:CC:=.cond (.t 12) c35_7 .skip
def c35_9:CC:=.seq c35_3 c35_8
def l35_10:List COp:=[
 ⟨some 14,.mov (.t 0),none⟩,
 ⟨some 15,.mov (.t 1),none⟩,
 ⟨some 16,.indexAddr 4 (.t 14) (.t 15),none⟩,
 ⟨some 17,.load true 4 (.t 16),none⟩,
 ⟨none,.store 4 (.t 4) (.t 17),none⟩]
def c35_11:CC:=.ops [] (l35_10)
def c35_12:CC:=.seq c35_11 .ret
def c35_13:CC:=.seq c35_9 c35_12
def c35_14:CC:=.seq c35_1 c35_13
def c35:CC:=c35_14
theorem fn35:FnOk Tryz.prog 35 [60] c35 [(4,some (true,4))] 18:=
 ⟨Tryz.f35,[],Tryz.func35,by kernel_rfl,by kernel_rfl,by kernel_rfl,by kernel_rfl,by kernel_rfl⟩
def l37_0:List COp:=[
 ⟨some 2,.alloc 60 4 (.p (.agg [(.bool false),(.list 3 1 []),(.bool false),(.list 3 1 [])])),none⟩]
def c37_1:CC:=.ops [] (l37_0)
def l37_2:List COp:=[
 ⟨some 3,.mov (.t 0),none⟩,
 ⟨some 4,.mov (.t 0),none⟩,
 ⟨some 5,.len (.t 4),none⟩,
 ⟨some 6,.bin false .sub (.t 5) (.k (.p (.int .i64 1))),none⟩,
 ⟨some 7,.call 35 [(.t 3),(.t 6)],none⟩]
def l37_3:List COp:=[
 ⟨none,.store 4 (.t 2) (.t 7),none⟩]
def c37_4:CC:=.ops [] (l37_2++(l37_3))
def c37_5:CC:=.seq c37_4 .ret
def c37_6:CC:=.seq c37_1 c37_5
def c37:CC:=c37_6
theorem fn37:FnOk Tryz.prog 37 [60] c37 [(2,some (true,4))] 8:=
 ⟨Tryz.f37,[],Tryz.func37,by kernel_rfl,by kernel_rfl,by kernel_rfl,by kernel_rfl,by kernel_rfl⟩
def l18_0:List COp:=[
 ⟨some 4,.mov (.k (.nils 60 4)),none⟩]
def c18_1:CC:=.ops [] (l18_0)
def l18_2:List COp:=[
 ⟨some 5,.mov (.k (.nils 60 4)),none⟩]
def c18_3:CC:=.ops [] (l18_2)
def l18_4:List COp:=[
 ⟨some 6,.mov (.k (.p (.int .i64 0))),none⟩]
def c18_5:CC:=.ops [] (l18_4)
def l18_6:List COp:=[
 ⟨some 7,.mov (.t 6),none⟩,
 ⟨some 8,.mov (.t 0),none⟩,
 ⟨some 9,.len (.t 8),none⟩,
 ⟨some 10,.bin false .lss (.t 7) (.t 9),none⟩,
 ⟨some 11,.mov (.t 10),none⟩,
 ⟨some 12,.mov (.t 6),some (11,false)⟩,
 ⟨some 13,.mov (.t 1),some (11,false)⟩,
 ⟨some 14,.len (.t 13),some (11,false)⟩,
 ⟨some 15,.bin false .lss (.t 12) (.t 14),some (11,false)⟩,
 ⟨some 16,.pick (.t 11) (.k (.p (.bool true))) (.t 15),none⟩]
def c18_7:CC:=.ops [] (l18_6)
def c18_8:CC:=.cond (.t 16) .skip (.exit 0)
def c18_9:CC:=.seq c18_7 c18_8
def l18_10:List COp:=[
 ⟨some 19,.mov (.t 5),none⟩,
 ⟨some 20,.mov (.t 0),none⟩,
 ⟨some 21,.mov (.t 6),none⟩,
 ⟨some 22,.call 35 [(.t 20),(.t 21)],none⟩]
def l18_11:List COp:=[
 ⟨some 23,.mov (.t 1),none⟩,
 ⟨some 24,.mov (.t 6),none⟩,
 ⟨some 25,.call 35 [(.t 23),(.t 24)],none⟩]
def l18_12:List COp:=[
 ⟨some 26,.call 107 [(.t 22),(.t 25)],none⟩]
def l18_13:List COp:=[
 ⟨some 27,.buildSlice 60 4 (.agg [(.bool false),(.list 3 1 []),(.bool false),(.list 3 1 [])]) 1 [(0,(.t 26))],none⟩,
 ⟨some 28,.append 60 4 64 (.t 19) (.t 27),none⟩,
 ⟨some 5,.mov (.t 28),none⟩]
def c18_14:CC:=.ops [] (l18_10++(l18_11++(l18_12++(l18_13))))
def c18_15:CC:=.block 1 c18_14
def l18_16:List COp:=[
 ⟨some 17,.mov (.t 6),none⟩,
 ⟨some 18,.bin false .add (.t 17) (.k (.p (.int .i64 1))),none⟩,
 ⟨some 6,.mov (.t 18),none⟩]
def c18_17:CC:=.ops [] (l18_16)
def c18_18:CC:=.seq c18_15 c18_17
def c18_19:CC:=.seq c18_9 c18_18
def c18_20:CC:=.loop c18_19
def c18_21:CC:=.block 0 c18_20
def c18_22:CC:=.seq c18_5 c18_21
def l18_23:List COp:=[
 ⟨some 29,.mov (.t 5),none⟩,
 ⟨some 30,.call 108 [(.t 29)],none⟩]
def l18_24:List COp:=[
 ⟨some 4,.mov (.t 30),none⟩]
def c18_25:CC:=.ops [] (l18_23++(l18_24))
def c18_26:CC:=.seq c18_25 .ret
def c18_27:CC:=.seq c18_22 c18_26
def c18_28:CC:=.seq c18_3 c18_27
def c18_29:CC:=.seq c18_1 c18_28
def c18:CC:=c18_29
theorem fn18:FnOk Tryz.prog 18 [60] c18 [(4,none)] 31:=
 ⟨Tryz.f18,[],Tryz.func18,by kernel_rfl,by kernel_rfl,by kernel_rfl,by kernel_rfl,by kernel_rfl⟩
def l48_0:List COp:=[
 ⟨some 3,.box 60 4 (.t 1),none⟩,
 ⟨some 4,.mov (.k (.nils 60 4)),none⟩]
def c48_1:CC:=.ops [] (l48_0)
def l48_2:List COp:=[
 ⟨some 5,.mov (.k (.nils 60 4)),none⟩]
def c48_3:CC:=.ops [] (l48_2)
def l48_4:List COp:=[
 ⟨some 6,.mov (.k (.p (.int .i64 0))),none⟩]
def c48_5:CC:=.ops [] (l48_4)
def l48_6:List COp:=[
 ⟨some 7,.mov (.t 6),none⟩,
 ⟨some 8,.mov (.t 0),none⟩,
 ⟨some 9,.len (.t 8),none⟩,
 ⟨some 10,.bin false .lss (.t 7) (.t 9),none⟩]
def c48_7:CC:=.ops [] (l48_6)
def c48_8:CC:=.cond (.t 10) .skip (.exit 0)
def c48_9:CC:=.seq c48_7 c48_8
def l48_10:List COp:=[
 ⟨some 18,.load true 4 (.t 3),none⟩,
 ⟨some 13,.mov (.t 5),none⟩,
 ⟨some 14,.mov (.t 0),none⟩,
 ⟨some 15,.mov (.t 6),none⟩,
 ⟨some 16,.indexAddr 4 (.t 14) (.t 15),none⟩,
 ⟨some 17,.load true 4 (.t 16),none⟩,
 ⟨some 19,.call 79 [(.t 17),(.t 18)],none⟩]
def l48_11:List COp:=[
 ⟨some 20,.buildSlice 60 4 (.agg [(.bool false),(.list 3 1 []),(.bool false),(.list 3 1 [])]) 1 [(0,(.t 19))],none⟩,
 ⟨some 21,.append 60 4 64 (.t 13) (.t 20),none⟩,
 ⟨some 5,.mov (.t 21),none⟩]
def c48_12:CC:=.ops [] (l48_10++(l48_11))
def c48_13:CC:=.block 1 c48_12
def l48_14:List COp:=[
 ⟨some 11,.mov (.t 6),none⟩,
 ⟨some 12,.bin false .add (.t 11) (.k (.p (.int .i64 1))),none⟩,
 ⟨some 6,.mov (.t 12),none⟩]
def c48_15:CC:=.ops [] (l48_14)
def c48_16:CC:=.seq c48_13 c48_15
def c48_17:CC:=.seq c48_9 c48_16
def c48_18:CC:=.loop c48_17
def c48_19:CC:=.block 0 c48_18
def c48_20:CC:=.seq c48_5 c48_19
def l48_21:List COp:=[
 ⟨some 22,.mov (.t 5),none⟩,
 ⟨some 23,.call 108 [(.t 22)],none⟩]
def l48_22:List COp:=[
 ⟨some 4,.mov (.t 23),none⟩]
def c48_23:CC:=.ops [] (l48_21++(l48_22))
def c48_24:CC:=.seq c48_23 .ret
def c48_25:CC:=.seq c48_20 c48_24
def c48_26:CC:=.seq c48_3 c48_25
def c48_27:CC:=.seq c48_1 c48_26
def c48:CC:=c48_27
theorem fn48:FnOk Tryz.prog 48 [60] c48 [(4,none)] 24:=
 ⟨Tryz.f48,[⟨5,[5,0,1,2,3,4,6,7,8,9],[0,0,0,6,14,0,62,126,255,511],[]⟩],Tryz.func48,by kernel_rfl,by kernel_rfl,by kernel_rfl,by kernel_rfl,by kernel_rfl⟩
def l20_0:List COp:=[
 ⟨some 4,.mov (.k (.nils 60 4)),none⟩]
def c20_1:CC:=.ops [] (l20_0)
def l20_2:List COp:=[
 ⟨some 5,.mov (.t 0),none⟩,
 ⟨some 6,.mov (.t 1),none⟩,
 ⟨some 7,.call 53 [(.k (.p (.int .i64 (-1))))],none⟩]
def l20_3:List COp:=[
 ⟨some 8,.call 48 [(.t 6),(.t 7)],none⟩]
def l20_4:List COp:=[
 ⟨some 9,.call 18 [(.t 5),(.t 8)],none⟩]
def l20_5:List COp:=[
 ⟨some 4,.mov (.t 9),none⟩]
def c20_6:CC:=.ops [] (l20_2++(l20_3++(l20_4++(l20_5))))
def c20_7:CC:=.seq c20_6 .ret
def c20_8:CC:=.seq c20_1 c20_7
def c20:CC:=c20_8
theorem fn20:FnOk Tryz.prog 20 [] c20 [(4,none)] 10:=
 ⟨Tryz.f20,[],Tryz.func20,by kernel_rfl,by kernel_rfl,by kernel_rfl,by kernel_rfl,by kernel_rfl⟩
def l24_0:List COp:=[
 ⟨some 4,.mov (.k (.nils 60 4)),none⟩]
def c24_1:CC:=.ops [] (l24_0)
def l24_2:List COp:=[
 ⟨some 5,.mov (.k (.nils 60 4)),none⟩]
def c24_3:CC:=.ops [] (l24_2)
def l24_4:List COp:=[
 ⟨some 6,.mov (.k (.p (.int .i64 0))),none⟩]
def c24_5:CC:=.ops [] (l24_4)
def l24_6:List COp:=[
 ⟨some 9,.mov (.t 6),none⟩,
 ⟨some 10,.mov (.t 0),none⟩,
 ⟨some 11,.len (.t 10),none⟩,
 ⟨some 12,.mov (.t 1),none⟩,
 ⟨some 13,.len (.t 12),none⟩,
 ⟨some 14,.bin false .add (.t 11) (.t 13),none⟩,
 ⟨some 15,.bin false .lss (.t 9) (.t 14),none⟩]
def c24_7:CC:=.ops [] (l24_6)
def c24_8:CC:=.cond (.t 15) .skip (.exit 0)
def c24_9:CC:=.seq c24_7 c24_8
def l24_10:List COp:=[
 ⟨some 18,.call 53 [(.k (.p (.int .i64 0)))],none⟩]
def l24_11:List COp:=[
 ⟨some 7,.alloc 60 4 (.p (.agg [(.bool false),(.list 3 1 []),(.bool false),(.list 3 1 [])])),none⟩,
 ⟨none,.store 4 (.t 7) (.t 18),none⟩]
def c24_12:CC:=.ops [] (l24_10++(l24_11))
def l24_13:List COp:=[
 ⟨some 8,.mov (.k (.p (.int .i64 0))),none⟩]
def c24_14:CC:=.ops [] (l24_13)
def l24_15:List COp:=[
 ⟨some 19,.mov (.t 8),none⟩,
 ⟨some 20,.mov (.t 6),none⟩,
 ⟨some 21,.bin false .leq (.t 19) (.t 20),none⟩]
def c24_16:CC:=.ops [] (l24_15)
def c24_17:CC:=.cond (.t 21) .skip (.exit 2)
def c24_18:CC:=.seq c24_16 c24_17
def l24_19:List COp:=[
 ⟨some 24,.mov (.t 8),none⟩,
 ⟨some 25,.mov (.t 0),none⟩,
 ⟨some 26,.len (.t 25),none⟩,
 ⟨some 27,.bin false .lss (.t 24) (.t 26),none⟩,
 ⟨some 28,.mov (.t 27),none⟩,
 ⟨some 29,.mov (.t 6),some (28,true)⟩,
 ⟨some 30,.mov (.t 8),some (28,true)⟩,
 ⟨some 31,.bin false .sub (.t 29) (.t 30),some (28,true)⟩,
 ⟨some 32,.mov (.t 1),some (28,true)⟩,
 ⟨some 33,.len (.t 32),some (28,true)⟩,
 ⟨some 34,.bin false .lss (.t 31) (.t 33),some (28,true)⟩,
 ⟨some 35,.pick (.t 28) (.t 34) (.k (.p (.bool false))),none⟩]
def c24_20:CC:=.ops [] (l24_19)
def l24_21:List COp:=[
 ⟨some 36,.load true 4 (.t 7),none⟩,
 ⟨some 37,.mov (.t 0),none⟩,
 ⟨some 38,.mov (.t 8),none⟩,
 ⟨some 39,.indexAddr 4 (.t 37) (.t 38),none⟩,
 ⟨some 40,.load true 4 (.t 39),none⟩,
 ⟨some 41,.mov (.t 1),none⟩,
 ⟨some 42,.mov (.t 6),none⟩,
 ⟨some 43,.mov (.t 8),none⟩,
 ⟨some 44,.bin false .sub (.t 42) (.t 43),none⟩,
 ⟨some 45,.indexAddr 4 (.t 41) (.t 44),none⟩,
 ⟨some 46,.load true 4 (.t 45),none⟩,
 ⟨some 47,.call 79 [(.t 40),(.t 46)],none⟩]
def l24_22:List COp:=[
 ⟨some 48,.call 107 [(.t 36),(.t 47)],none⟩]
def l24_23:List COp:=[
 ⟨none,.store 4 (.t 7) (.t 48),none⟩]
def c24_24:CC:=.ops [] (l24_21++(l24_22++(l24_23)))
def c24_25:CC:=.cond (.t 35) c24_24 .skip
def c24_26:CC:=.seq c24_20 c24_25
def c24_27:CC:=.block 3 c24_26
def l24_28:List COp:=[
 ⟨some 22,.mov (.t 8),none⟩,
 ⟨some 23,.bin false .add (.t 22) (.k (.p (.int .i64 1))),none⟩,
 ⟨some 8,.mov (.t 23),none⟩]
def c24_29:CC:=.ops [] (l24_28)
def c24_30:CC:=.seq c24_27 c24_29
def c24_31:CC:=.seq c24_18 c24_30
def c24_32:CC:=.loop c24_31
def c24_33:CC:=.block 2 c24_32
def c24_34:CC:=.seq c24_14 c24_33
def l24_35:List COp:=[
 ⟨some 49,.mov (.t 5),none⟩,
 ⟨some 50,.load true 4 (.t 7),none⟩,
 ⟨some 51,.buildSlice 60 4 (.agg [(.bool false),(.list 3 1 []),(.bool false),(.list 3 1 [])]) 1 [(0,(.t 50))],none⟩,
 ⟨some 52,.append 60 4 64 (.t 49) (.t 51),none⟩,
 ⟨some 5,.mov (.t 52),none⟩]
def c24_36:CC:=.ops [] (l24_35)
def c24_37:CC:=.seq c24_34 c24_36
def c24_38:CC:=.seq c24_12 c24_37
def c24_39:CC:=.block 1 c24_38
def l24_40:List COp:=[
 ⟨some 16,.mov (.t 6),none⟩,
 ⟨some 17,.bin false .add (.t 16) (.k (.p (.int .i64 1))),none⟩,
 ⟨some 6,.mov (.t 17),none⟩]
def c24_41:CC:=.ops [] (l24_40)
def c24_42:CC:=.seq c24_39 c24_41
def c24_43:CC:=.seq c24_9 c24_42
def c24_44:CC:=.loop c24_43
def c24_45:CC:=.block 0 c24_44
def c24_46:CC:=.seq c24_5 c24_45
def l24_47:List COp:=[
 ⟨some 53,.mov (.t 5),none⟩,
 ⟨some 54,.call 108 [(.t 53)],none⟩]
def l24_48:List COp:=[
 ⟨some 4,.mov (.t 54),none⟩]
def c24_49:CC:=.ops [] (l24_47++(l24_48))
def c24_50:CC:=.seq c24_49 .ret
def c24_51:CC:=.seq c24_46 c24_50
def c24_52:CC:=.seq c24_3 c24_51
def c24_53:CC:=.seq c24_1 c24_52
def c24:CC:=c24_53
theorem fn24:FnOk Tryz.prog 24 [60] c24 [(4,none)] 55:=
 ⟨Tryz.f24,[⟨10,[0,1,2,3,4,5,6,7,8,9,10,11,12,13],[0,0,0,6,14,0,0,0,192,480,992,2046,4095,8191],[]⟩],Tryz.func24,by kernel_rfl,by kernel_rfl,by kernel_rfl,by kernel_rfl,by kernel_rfl⟩
def l28_0:List COp:=[
 ⟨some 4,.mov (.k (.nils 60 4)),none⟩,
 ⟨some 5,.mov (.k (.nils 60 4)),none⟩]
def c28_1:CC:=.ops [] (l28_0)
def l28_2:List COp:=[
 ⟨some 12,.buildSlice 60 4 (.agg [(.bool false),(.list 3 1 []),(.bool false),(.list 3 1 [])]) 0 [],none⟩,
 ⟨some 6,.mov (.t 12),none⟩]
def c28_3:CC:=.ops [] (l28_2)
def l28_4:List COp:=[
 ⟨some 13,.mov (.t 0),none⟩,
 ⟨some 14,.len (.t 13),none⟩,
 ⟨some 15,.mov (.t 1),none⟩,
 ⟨some 16,.len (.t 15),none⟩,
 ⟨some 17,.bin false .geq (.t 14) (.t 16),none⟩]
def c28_5:CC:=.ops [] (l28_4)
def c28_6:CC:=.cond (.t 17) .skip (.exit 0)
def c28_7:CC:=.seq c28_5 c28_6
def l28_8:List COp:=[
 ⟨some 19,.mov (.t 0),none⟩,
 ⟨some 20,.call 37 [(.t 19)],none⟩]
def l28_9:List COp:=[
 ⟨some 21,.mov (.t 1),none⟩,
 ⟨some 22,.call 37 [(.t 21)],none⟩]
def l28_10:List COp:=[
 ⟨some 23,.call 114 [(.t 20),(.t 22)],none⟩]
def l28_11:List COp:=[
 ⟨some 18,.mov (.t 23),none⟩,
 ⟨some 24,.extract (.t 18) 0,none⟩,
 ⟨some 25,.extract (.t 18) 1,none⟩,
 ⟨some 7,.alloc 60 4 (.p (.agg [(.bool false),(.list 3 1 []),(.bool false),(.list 3 1 [])])),none⟩,
 ⟨some 8,.alloc 27 2 (.p (.agg [(.int .i64 0),(.int .i64 0)])),none⟩,
 ⟨none,.store 4 (.t 7) (.t 24),none⟩,
 ⟨none,.store 2 (.t 8) (.t 25),none⟩]
def c28_12:CC:=.ops [] (l28_8++(l28_9++(l28_10++(l28_11))))
def l28_13:List COp:=[
 ⟨some 26,.mov (.t 0),none⟩,
 ⟨some 27,.len (.t 26),none⟩,
 ⟨some 28,.mov (.t 1),none⟩,
 ⟨some 29,.len (.t 28),none⟩,
 ⟨some 30,.bin false .sub (.t 27) (.t 29),none⟩,
 ⟨some 31,.bin false .add (.t 30) (.k (.p (.int .i64 1))),none⟩,
 ⟨some 32,.makeSlice 60 4 64 (.agg [(.bool false),(.list 3 1 []),(.bool false),(.list 3 1 [])]) (.t 31) (.t 31),none⟩,
 ⟨some 9,.mov (.t 32),none⟩]
def c28_14:CC:=.ops [] (l28_13)
def l28_15:List COp:=[
 ⟨some 10,.mov (.k (.p (.int .i64 0))),none⟩]
def c28_16:CC:=.ops [] (l28_15)
def l28_17:List COp:=[
 ⟨some 33,.mov (.t 10),none⟩,
 ⟨some 34,.mov (.t 9),none⟩,
 ⟨some 35,.len (.t 34),none⟩,
 ⟨some 36,.bin false .lss (.t 33) (.t 35),none⟩]
def c28_18:CC:=.ops [] (l28_17)
def c28_19:CC:=.cond (.t 36) .skip (.exit 2)
def c28_20:CC:=.seq c28_18 c28_19
def l28_21:List COp:=[
 ⟨some 39,.mov (.t 9),none⟩,
 ⟨some 40,.mov (.t 10),none⟩,
 ⟨some 41,.call 53 [(.k (.p (.int .i64 0)))],none⟩]
def l28_22:List COp:=[
 ⟨some 42,.indexAddr 4 (.t 39) (.t 40),none⟩,
 ⟨none,.store 4 (.t 42) (.t 41),none⟩]
def c28_23:CC:=.ops [] (l28_21++(l28_22))
def c28_24:CC:=.block 3 c28_23
def l28_25:List COp:=[
 ⟨some 37,.mov (.t 10),none⟩,
 ⟨some 38,.bin false .add (.t 37) (.k (.p (.int .i64 1))),none⟩,
 ⟨some 10,.mov (.t 38),none⟩]
def c28_26:CC:=.ops [] (l28_25)
def c28_27:CC:=.seq c28_24 c28_26
def c28_28:CC:=.seq c28_20 c28_27
def c28_29:CC:=.loop c28_28
def c28_30:CC:=.block 2 c28_29
def c28_31:CC:=.seq c28_16 c28_30
def l28_32:List COp:=[
 ⟨some 43,.mov (.t 9),none⟩,
 ⟨some 44,.mov (.t 9),none⟩,
 ⟨some 45,.len (.t 44),none⟩,
 ⟨some 46,.bin false .sub (.t 45) (.k (.p (.int .i64 1))),none⟩,
 ⟨some 47,.load true 4 (.t 7),none⟩,
 ⟨some 48,.indexAddr 4 (.t 43) (.t 46),none⟩,
 ⟨none,.store 4 (.t 48) (.t 47),none⟩]
def c28_33:CC:=.ops [] (l28_32)
def l28_34:List COp:=[
 ⟨some 49,.mov (.t 6),none⟩,
 ⟨some 50,.mov (.t 9),none⟩,
 ⟨some 51,.call 18 [(.t 49),(.t 50)],none⟩]
def l28_35:List COp:=[
 ⟨some 6,.mov (.t 51),none⟩]
def c28_36:CC:=.ops [] (l28_34++(l28_35))
def l28_37:List COp:=[
 ⟨some 52,.mov (.t 0),none⟩,
 ⟨some 53,.mov (.t 9),none⟩,
 ⟨some 54,.mov (.t 1),none⟩,
 ⟨some 55,.call 24 [(.t 53),(.t 54)],none⟩]
def l28_38:List COp:=[
 ⟨some 56,.call 20 [(.t 52),(.t 55)],none⟩]
def l28_39:List COp:=[
 ⟨some 11,.mov (.t 56),none⟩]
def c28_40:CC:=.ops [] (l28_37++(l28_38++(l28_39)))
def l28_41:List COp:=[
 ⟨some 57,.mov (.t 11),none⟩,
 ⟨some 0,.mov (.t 57),none⟩]
def c28_42:CC:=.ops [] (l28_41)
def c28_43:CC:=.seq c28_40 c28_42
def c28_44:CC:=.seq c28_36 c28_43
def c28_45:CC:=.seq c28_33 c28_44
def c28_46:CC:=.seq c28_31 c28_45
def c28_47:CC:=.seq c28_14 c28_46
def c28_48:CC:=.seq c28_12 c28_47
def c28_49:CC:=.block 1 c28_48
def c28_50:CC:=.seq c28_7 c28_49
def c28_51:CC:=.loop c28_50
def c28_52:CC:=.block 0 c28_51
def l28_53:List COp:=[
 ⟨some 58,.mov (.t 6),none⟩,
 ⟨some 59,.mov (.t 0),none⟩,
 ⟨some 4,.mov (.t 58),none⟩,
 ⟨some 5,.mov (.t 59),none⟩]
def c28_54:CC:=.ops [] (l28_53)
def c28_55:CC:=.seq c28_54 .ret
def c28_56:CC:=.seq c28_52 c28_55
def c28_57:CC:=.seq c28_3 c28_56
def c28_58:CC:=.seq c28_1 c28_57
def c28:CC:=c28_58
theorem fn28:FnOk Tryz.prog 28 [60,27] c28 [(4,none),(5,none)] 60:=
 ⟨Tryz.f28,[],Tryz.func28,by kernel_rfl,by kernel_rfl,by kernel_rfl,by kernel_rfl,by kernel_rfl⟩
def l54_0:List COp:=[
 ⟨some 4,.mov (.k (.nils 60 4)),none⟩]
def c54_1:CC:=.ops [] (l54_0)
def l54_2:List COp:=[
 ⟨some 7,.call 53 [(.k (.p (.int .i64 1)))],none⟩]
def l54_3:List COp:=[
 ⟨some 8,.buildSlice 60 4 (.agg [(.bool false),(.list 3 1 []),(.bool false),(.list 3 1 [])]) 1 [(0,(.t 7))],none⟩,
 ⟨some 5,.mov (.t 8),none⟩]
def c54_4:CC:=.ops [] (l54_2++(l54_3))
def l54_5:List COp:=[
 ⟨some 6,.mov (.k (.p (.int .i64 0))),none⟩]
def c54_6:CC:=.ops [] (l54_5)
def l54_7:List COp:=[
 ⟨some 9,.mov (.t 6),none⟩,
 ⟨some 10,.mov (.t 1),none⟩,
 ⟨some 11,.bin false .lss (.t 9) (.t 10),none⟩]
def c54_8:CC:=.ops [] (l54_7)
def c54_9:CC:=.cond (.t 11) .skip (.exit 0)
def c54_10:CC:=.seq c54_8 c54_9
def l54_11:List COp:=[
 ⟨some 14,.mov (.t 5),none⟩,
 ⟨some 15,.mov (.t 0),none⟩,
 ⟨some 16,.call 24 [(.t 14),(.t 15)],none⟩]
def l54_12:List COp:=[
 ⟨some 5,.mov (.t 16),none⟩]
def c54_13:CC:=.ops [] (l54_11++(l54_12))
def c54_14:CC:=.block 1 c54_13
def l54_15:List COp:=[
 ⟨some 12,.mov (.t 6),none⟩,
 ⟨some 13,.bin false .add (.t 12) (.k (.p (.int .i64 1))),none⟩,
 ⟨some 6,.mov (.t 13),none⟩]
def c54_16:CC:=.ops [] (l54_15)
def c54_17:CC:=.seq c54_14 c54_16
def c54_18:CC:=.seq c54_10 c54_17
def c54_19:CC:=.loop c54_18
def c54_20:CC:=.block 0 c54_19
def c54_21:CC:=.seq c54_6 c54_20
def l54_22:List COp:=[
 ⟨some 17,.mov (.t 5),none⟩,
 ⟨some 4,.mov (.t 17),none⟩]
def c54_23:CC:=.ops [] (l54_22)
def c54_24:CC:=.seq c54_23 .ret
def c54_25:CC:=.seq c54_21 c54_24
def c54_26:CC:=.seq c54_4 c54_25
def c54_27:CC:=.seq c54_1 c54_26
def c54:CC:=c54_27
theorem fn54:FnOk Tryz.prog 54 [60] c54 [(4,none)] 18:=
 ⟨Tryz.f54,[],Tryz.func54,by kernel_rfl,by kernel_rfl,by kernel_rfl,by kernel_rfl,by kernel_rfl⟩
def l22_0:List COp:=[
 ⟨some 4,.mov (.k (.p (.bool false))),none⟩]
def c22_1:CC:=.ops [] (l22_0)
def l22_2:List COp:=[
 ⟨some 5,.mov (.t 0),none⟩,
 ⟨some 6,.mov (.t 1),none⟩,
 ⟨some 7,.call 20 [(.t 5),(.t 6)],none⟩]
def l22_3:List COp:=[
 ⟨some 8,.len (.t 7),none⟩,
 ⟨some 9,.bin false .eql (.t 8) (.k (.p (.int .i64 0))),none⟩,
 ⟨some 4,.mov (.t 9),none⟩]
def c22_4:CC:=.ops [] (l22_2++(l22_3))
def c22_5:CC:=.seq c22_4 .ret
def c22_6:CC:=.seq c22_1 c22_5
def c22:CC:=c22_6
theorem fn22:FnOk Tryz.prog 22 [] c22 [(4,none)] 10:=
 ⟨Tryz.f22,[],Tryz.func22,by kernel_rfl,by kernel_rfl,by kernel_rfl,by kernel_rfl,by kernel_rfl⟩
def l53_0:List COp:=[
 ⟨some 2,.alloc 60 4 (.p (.agg [(.bool false),(.list 3 1 []),(.bool false),(.list 3 1 [])])),none⟩]
def c53_1:CC:=.ops [] (l53_0)
def l53_2:List COp:=[
 ⟨some 3,.mov (.t 0),none⟩,
 ⟨some 4,.call 124 [(.t 3)],none⟩]
def l53_3:List COp:=[
 ⟨some 5,.call 124 [(.k (.p (.int .i64 1)))],none⟩]
def l53_4:List COp:=[
 ⟨some 6,.build [(.p (.bool false)),(.p (.list 3 1 [])),(.p (.bool false)),(.p (.list 3 1 []))] [(0,2,(.t 4)),(2,2,(.t 5))],none⟩,
 ⟨none,.store 4 (.t 2) (.t 6),none⟩]
def c53_5:CC:=.ops [] (l53_2++(l53_3++(l53_4)))
def c53_6:CC:=.seq c53_5 .ret
def c53_7:CC:=.seq c53_1 c53_6
def c53:CC:=c53_7
theorem fn53:FnOk Tryz.prog 53 [60] c53 [(2,some (true,4))] 7:=
 ⟨Tryz.f53,[],Tryz.func53,by kernel_rfl,by kernel_rfl,by kernel_rfl,by kernel_rfl,by kernel_rfl⟩
def l102_0:List COp:=[
 ⟨some 4,.alloc 27 2 (.p (.agg [(.int .i64 0),(.int .i64 0)])),none⟩]
def c102_1:CC:=.ops [] (l102_0)
def l102_2:List COp:=[
 ⟨some 5,.mov (.t 0),none⟩,
 ⟨some 6,.mov (.t 1),none⟩,
 ⟨some 7,.build [(.p (.int .i64 0)),(.p (.int .i64 0))] [(0,1,(.t 5)),(1,1,(.t 6))],none⟩,
 ⟨none,.store 2 (.t 4) (.t 7),none⟩]
def c102_3:CC:=.ops [] (l102_2)
def c102_4:CC:=.seq c102_3 .ret
def c102_5:CC:=.seq c102_1 c102_4
def c102:CC:=c102_5
theorem fn102:FnOk Tryz.prog 102 [27] c102 [(4,some (true,2))] 8:=
 ⟨Tryz.f102,[],Tryz.func102,by kernel_rfl,by kernel_rfl,by kernel_rfl,by kernel_rfl,by kernel_rfl⟩
def l26_0:List COp:=[
 ⟨some 4,.alloc 27 2 (.p (.agg [(.int .i64 0),(.int .i64 0)])),none⟩]
def c26_1:CC:=.ops [] (l26_0)
def l26_2:List COp:=[
 ⟨some 5,.mov (.t 0),none⟩,
 ⟨some 6,.mov (.t 1),none⟩,
 ⟨some 7,.build [(.p (.int .i64 0)),(.p (.int .i64 0))] [(0,1,(.t 5)),(1,1,(.t 6))],none⟩,
 ⟨none,.store 2 (.t 4) (.t 7),none⟩]
def c26_3:CC:=.ops [] (l26_2)
def c26_4:CC:=.seq c26_3 .ret
def c26_5:CC:=.seq c26_1 c26_4
def c26:CC:=c26_5
theorem fn26:FnOk Tryz.prog 26 [27] c26 [(4,some (true,2))] 8:=
 ⟨Tryz.f26,[],Tryz.func26,by kernel_rfl,by kernel_rfl,by kernel_rfl,by kernel_rfl,by kernel_rfl⟩
def l15_0:List COp:=[
 ⟨some 0,.mov (.k (.p (.bool false))),none⟩]
def c15_1:CC:=.ops [] (l15_0)
def l15_2:List COp:=[
 ⟨some 6,.buildSliceF 9 1 (.str []) 2 [(0,(.k (.p (.str [45,50])))),(1,(.k (.p (.str [49]))))],none⟩,
 ⟨some 7,.call 13 [(.t 6)],none⟩]
def l15_3:List COp:=[
 ⟨some 5,.mov (.t 7),none⟩,
 ⟨some 8,.extract (.t 5) 0,none⟩,
 ⟨some 9,.extract (.t 5) 1,none⟩,
 ⟨some 1,.alloc 25 1 (.p (.agg [(.list 52 4 [])])),none⟩,
 ⟨some 2,.alloc 27 2 (.p (.agg [(.int .i64 0),(.int .i64 0)])),none⟩,
 ⟨none,.store 1 (.t 1) (.t 8),none⟩,
 ⟨none,.store 2 (.t 2) (.t 9),none⟩]
def c15_4:CC:=.ops [] (l15_2++(l15_3))
def l15_5:List COp:=[
 ⟨some 11,.buildSliceF 9 1 (.str []) 2 [(0,(.k (.p (.str [45,53])))),(1,(.k (.p (.str [49]))))],none⟩,
 ⟨some 12,.call 13 [(.t 11)],none⟩]
def l15_6:List COp:=[
 ⟨some 10,.mov (.t 12),none⟩,
 ⟨some 13,.extract (.t 10) 0,none⟩,
 ⟨some 14,.extract (.t 10) 1,none⟩,
 ⟨some 3,.alloc 25 1 (.p (.agg [(.list 52 4 [])])),none⟩,
 ⟨some 4,.alloc 27 2 (.p (.agg [(.int .i64 0),(.int .i64 0)])),none⟩,
 ⟨none,.store 1 (.t 3) (.t 13),none⟩,
 ⟨none,.store 2 (.t 4) (.t 14),none⟩]
def c15_7:CC:=.ops [] (l15_5++(l15_6))
def l15_8:List COp:=[
 ⟨some 15,.fieldAddr 0 1 false (.t 2),none⟩,
 ⟨some 16,.load false 1 (.t 15),none⟩,
 ⟨some 17,.bin false .eql (.t 16) (.k (.p (.int .i64 0))),none⟩,
 ⟨some 18,.mov (.t 17),none⟩,
 ⟨some 19,.fieldAddr 0 1 false (.t 4),some (18,true)⟩,
 ⟨some 20,.load false 1 (.t 19),some (18,true)⟩,
 ⟨some 21,.bin false .eql (.t 20) (.k (.p (.int .i64 0))),some (18,true)⟩,
 ⟨some 22,.pick (.t 18) (.t 21) (.k (.p (.bool false))),none⟩,
 ⟨some 23,.mov (.t 22),none⟩,
 ⟨some 24,.load true 1 (.t 1),some (23,true)⟩,
 ⟨some 25,.load true 1 (.t 3),some (23,true)⟩,
 ⟨some 26,.call 103 [(.t 24),(.t 25)],some (23,true)⟩]
def l15_9:List COp:=[
 ⟨some 27,.call 33 [(.t 26)],some (23,true)⟩]
def l15_10:List COp:=[
 ⟨some 28,.bin false .eql (.t 27) (.k (.p (.str [45,51]))),some (23,true)⟩,
 ⟨some 29,.pick (.t 23) (.t 28) (.k (.p (.bool false))),none⟩,
 ⟨some 0,.mov (.t 29),none⟩]
def c15_11:CC:=.ops [] (l15_8++(l15_9++(l15_10)))
def c15_12:CC:=.seq c15_11 .ret
def c15_13:CC:=.seq c15_7 c15_12
def c15_14:CC:=.seq c15_4 c15_13
def c15_15:CC:=.seq c15_1 c15_14
def c15:CC:=c15_15
theorem fn15:FnOk Tryz.prog 15 [9,25,27,2000006,2000011] c15 [(0,none)] 30:=
 ⟨Tryz.f15,[],Tryz.func15,by kernel_rfl,by kernel_rfl,by kernel_rfl,by kernel_rfl,by kernel_rfl⟩
end Go.Proofs.YtkidkimjdiichaaGreat.M
