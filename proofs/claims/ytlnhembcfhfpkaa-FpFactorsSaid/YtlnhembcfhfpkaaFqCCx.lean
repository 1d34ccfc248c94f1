/- Polynomials modulo a prime: the functions in the small machine's words. -/
import Derived.Test.YtlnhembcfhfpkaaK3
namespace Go.Proofs.Ytlnhembcfhfpkaa.M
open Go.RowKit
set_option maxRecDepth 100000
def l3_0:List COp:=[
 ⟨some 6,.mov (.k (.p (.bool false))),none⟩]
def c3_1:CC:=.ops [] (l3_0)
def l3_2:List COp:=[
 ⟨some 11,.mov (.t 0),none⟩,
 ⟨some 12,.mov (.t 1),none⟩,
 ⟨some 13,.mov (.t 2),none⟩,
 ⟨some 14,.call 8 [(.t 11),(.t 12),(.t 13)],none⟩]
def l3_3:List COp:=[
 ⟨some 10,.mov (.t 14),none⟩,
 ⟨some 15,.extract (.t 10) 0,none⟩,
 ⟨some 16,.extract (.t 10) 1,none⟩,
 ⟨some 8,.alloc 24 2 (.p (.agg [(.int .i64 0),(.int .i64 0)])),none⟩,
 ⟨some 7,.mov (.t 15),none⟩,
 ⟨none,.store 2 (.t 8) (.t 16),none⟩]
def c3_4:CC:=.ops [] (l3_2++(l3_3))
def l3_5:List COp:=[
 ⟨some 17,.mov (.t 0),none⟩,
 ⟨some 18,.mov (.t 2),none⟩,
 ⟨some 19,.call 9 [(.t 17),(.t 18)],none⟩]
def l3_6:List COp:=[
 ⟨some 9,.alloc 24 2 (.p (.agg [(.int .i64 0),(.int .i64 0)])),none⟩,
 ⟨none,.store 2 (.t 9) (.t 19),none⟩]
def c3_7:CC:=.ops [] (l3_5++(l3_6))
def l3_8:List COp:=[
 ⟨some 20,.fieldAddr 0 1 false (.t 9),none⟩,
 ⟨some 21,.load false 1 (.t 20),none⟩,
 ⟨some 22,.bin false .eql (.t 21) (.k (.p (.int .i64 0))),none⟩]
def c3_9:CC:=.ops [] (l3_8)
def l3_10:List COp:=[
 ⟨some 23,.mov (.t 1),none⟩,
 ⟨some 24,.mov (.t 2),none⟩,
 ⟨some 25,.call 9 [(.t 23),(.t 24)],none⟩]
def l3_11:List COp:=[
 ⟨none,.store 2 (.t 9) (.t 25),none⟩]
def c3_12:CC:=.ops [] (l3_10++(l3_11))
def c3_13:CC:=.cond (.t 22) c3_12 .skip
def c3_14:CC:=.seq c3_9 c3_13
def l3_15:List COp:=[
 ⟨some 26,.call 10 [],none⟩]
def l3_16:List COp:=[
 ⟨some 27,.un .not (.t 26),none⟩,
 ⟨some 28,.mov (.t 27),none⟩,
 ⟨some 29,.load true 2 (.t 8),some (28,false)⟩,
 ⟨some 30,.load true 2 (.t 9),some (28,false)⟩,
 ⟨some 31,.eqs 2 true (.t 29) (.t 30),some (28,false)⟩,
 ⟨some 32,.pick (.t 28) (.k (.p (.bool true))) (.t 31),none⟩]
def c3_17:CC:=.ops [] (l3_15++(l3_16))
def l3_18:List COp:=[
 ⟨some 6,.mov (.k (.p (.bool false))),none⟩]
def c3_19:CC:=.ops [] (l3_18)
def c3_20:CC:=.seq c3_19 .ret
def c3_21:CC:=.cond (.t 32) c3_20 .skip
def c3_22:CC:=.seq c3_17 c3_21
def l3_23:List COp:=[
 ⟨some 33,.fieldAddr 0 1 false (.t 8),none⟩,
 ⟨some 34,.load false 1 (.t 33),none⟩,
 ⟨some 35,.bin false .neq (.t 34) (.k (.p (.int .i64 0))),none⟩]
def c3_24:CC:=.ops [] (l3_23)
def l3_25:List COp:=[
 ⟨some 36,.mov (.t 7),none⟩,
 ⟨some 37,.len (.t 36),none⟩,
 ⟨some 38,.bin false .eql (.t 37) (.k (.p (.int .i64 0))),none⟩,
 ⟨some 6,.mov (.t 38),none⟩]
def c3_26:CC:=.ops [] (l3_25)
def c3_27:CC:=.seq c3_26 .ret
def c3_28:CC:=.cond (.t 35) c3_27 .skip
def c3_29:CC:=.seq c3_24 c3_28
def l3_30:List COp:=[
 ⟨some 39,.mov (.t 2),none⟩,
 ⟨some 40,.bin false .gtr (.t 39) (.k (.p (.int .i64 5000))),none⟩,
 ⟨some 41,.mov (.t 40),none⟩,
 ⟨some 42,.mov (.t 7),some (41,false)⟩,
 ⟨some 43,.mov (.t 0),some (41,false)⟩,
 ⟨some 44,.mov (.t 1),some (41,false)⟩,
 ⟨some 45,.mov (.t 2),some (41,false)⟩,
 ⟨some 46,.call 12 [(.t 43),(.t 44),(.t 45)],some (41,false)⟩]
def l3_31:List COp:=[
 ⟨some 47,.call 11 [(.t 42),(.t 46)],some (41,false)⟩]
def l3_32:List COp:=[
 ⟨some 48,.pick (.t 41) (.k (.p (.bool true))) (.t 47),none⟩,
 ⟨some 6,.mov (.t 48),none⟩]
def c3_33:CC:=.ops [] (l3_30++(l3_31++(l3_32)))
def c3_34:CC:=.seq c3_33 .ret
def c3_35:CC:=.seq c3_29 c3_34
def c3_36:CC:=.seq c3_22 c3_35
def c3_37:CC:=.seq c3_14 c3_36
def c3_38:CC:=.seq c3_7 c3_37
def c3_39:CC:=.seq c3_4 c3_38
def c3_40:CC:=.seq c3_1 c3_39
def c3:CC:=c3_40
def l9_0:List COp:=[
 ⟨some 4,.alloc 24 2 (.p (.agg [(.int .i64 0),(.int .i64 0)])),none⟩]
def c9_1:CC:=.ops [] (l9_0)
def l9_2:List COp:=[
 ⟨some 6,.mov (.t 1),none⟩,
 ⟨some 7,.bin false .gtr (.t 6) (.k (.p (.int .i64 1073741824))),none⟩,
 ⟨some 8,.mov (.t 7),none⟩,
 ⟨some 9,.mov (.t 1),some (8,false)⟩,
 ⟨some 10,.call 30 [(.t 9)],some (8,false)⟩]
def l9_3:List COp:=[
 ⟨some 11,.un .not (.t 10),some (8,false)⟩,
 ⟨some 12,.pick (.t 8) (.k (.p (.bool true))) (.t 11),none⟩]
def c9_4:CC:=.ops [] (l9_2++(l9_3))
def l9_5:List COp:=[
 ⟨some 13,.call 31 [(.k (.p (.int .i64 6))),(.k (.p (.int .i64 0)))],none⟩]
def l9_6:List COp:=[
 ⟨none,.store 2 (.t 4) (.t 13),none⟩]
def c9_7:CC:=.ops [] (l9_5++(l9_6))
def c9_8:CC:=.seq c9_7 .ret
def c9_9:CC:=.cond (.t 12) c9_8 .skip
def c9_10:CC:=.seq c9_4 c9_9
def l9_11:List COp:=[
 ⟨some 14,.mov (.t 0),none⟩,
 ⟨some 15,.len (.t 14),none⟩,
 ⟨some 16,.bin false .gtr (.t 15) (.k (.p (.int .i64 65))),none⟩]
def c9_12:CC:=.ops [] (l9_11)
def l9_13:List COp:=[
 ⟨some 17,.call 31 [(.k (.p (.int .i64 9))),(.k (.p (.int .i64 0)))],none⟩]
def l9_14:List COp:=[
 ⟨none,.store 2 (.t 4) (.t 17),none⟩]
def c9_15:CC:=.ops [] (l9_13++(l9_14))
def c9_16:CC:=.seq c9_15 .ret
def c9_17:CC:=.cond (.t 16) c9_16 .skip
def c9_18:CC:=.seq c9_12 c9_17
def l9_19:List COp:=[
 ⟨some 5,.mov (.k (.p (.int .i64 0))),none⟩]
def c9_20:CC:=.ops [] (l9_19)
def l9_21:List COp:=[
 ⟨some 18,.mov (.t 5),none⟩,
 ⟨some 19,.mov (.t 0),none⟩,
 ⟨some 20,.len (.t 19),none⟩,
 ⟨some 21,.bin false .lss (.t 18) (.t 20),none⟩]
def c9_22:CC:=.ops [] (l9_21)
def c9_23:CC:=.cond (.t 21) .skip (.exit 0)
def c9_24:CC:=.seq c9_22 c9_23
def l9_25:List COp:=[
 ⟨some 24,.mov (.t 0),none⟩,
 ⟨some 25,.mov (.t 5),none⟩,
 ⟨some 26,.indexAddr 1 (.t 24) (.t 25),none⟩,
 ⟨some 27,.load false 1 (.t 26),none⟩,
 ⟨some 28,.bin false .lss (.t 27) (.k (.p (.int .i64 0))),none⟩,
 ⟨some 29,.mov (.t 28),none⟩,
 ⟨some 30,.mov (.t 0),some (29,false)⟩,
 ⟨some 31,.mov (.t 5),some (29,false)⟩,
 ⟨some 32,.indexAddr 1 (.t 30) (.t 31),some (29,false)⟩,
 ⟨some 33,.load false 1 (.t 32),some (29,false)⟩,
 ⟨some 34,.mov (.t 1),some (29,false)⟩,
 ⟨some 35,.bin false .geq (.t 33) (.t 34),some (29,false)⟩,
 ⟨some 36,.pick (.t 29) (.k (.p (.bool true))) (.t 35),none⟩]
def c9_26:CC:=.ops [] (l9_25)
def l9_27:List COp:=[
 ⟨some 37,.mov (.t 5),none⟩,
 ⟨some 38,.call 31 [(.k (.p (.int .i64 7))),(.t 37)],none⟩]
def l9_28:List COp:=[
 ⟨none,.store 2 (.t 4) (.t 38),none⟩]
def c9_29:CC:=.ops [] (l9_27++(l9_28))
def c9_30:CC:=.seq c9_29 .ret
def c9_31:CC:=.cond (.t 36) c9_30 .skip
def c9_32:CC:=.seq c9_26 c9_31
def c9_33:CC:=.block 1 c9_32
def l9_34:List COp:=[
 ⟨some 22,.mov (.t 5),none⟩,
 ⟨some 23,.bin false .add (.t 22) (.k (.p (.int .i64 1))),none⟩,
 ⟨some 5,.mov (.t 23),none⟩]
def c9_35:CC:=.ops [] (l9_34)
def c9_36:CC:=.seq c9_33 c9_35
def c9_37:CC:=.seq c9_24 c9_36
def c9_38:CC:=.loop c9_37
def c9_39:CC:=.block 0 c9_38
def c9_40:CC:=.seq c9_20 c9_39
def l9_41:List COp:=[
 ⟨some 39,.mov (.t 0),none⟩,
 ⟨some 40,.len (.t 39),none⟩,
 ⟨some 41,.bin false .gtr (.t 40) (.k (.p (.int .i64 0))),none⟩,
 ⟨some 42,.mov (.t 41),none⟩,
 ⟨some 43,.mov (.t 0),some (42,true)⟩,
 ⟨some 44,.mov (.t 0),some (42,true)⟩,
 ⟨some 45,.len (.t 44),some (42,true)⟩,
 ⟨some 46,.bin false .sub (.t 45) (.k (.p (.int .i64 1))),some (42,true)⟩,
 ⟨some 47,.indexAddr 1 (.t 43) (.t 46),some (42,true)⟩,
 ⟨some 48,.load false 1 (.t 47),some (42,true)⟩,
 ⟨some 49,.bin false .eql (.t 48) (.k (.p (.int .i64 0))),some (42,true)⟩,
 ⟨some 50,.pick (.t 42) (.t 49) (.k (.p (.bool false))),none⟩]
def c9_42:CC:=.ops [] (l9_41)
def l9_43:List COp:=[
 ⟨some 51,.mov (.t 0),none⟩,
 ⟨some 52,.len (.t 51),none⟩,
 ⟨some 53,.bin false .sub (.t 52) (.k (.p (.int .i64 1))),none⟩,
 ⟨some 54,.call 31 [(.k (.p (.int .i64 3))),(.t 53)],none⟩]
def l9_44:List COp:=[
 ⟨none,.store 2 (.t 4) (.t 54),none⟩]
def c9_45:CC:=.ops [] (l9_43++(l9_44))
def c9_46:CC:=.seq c9_45 .ret
def c9_47:CC:=.cond (.t 50) c9_46 .skip
def c9_48:CC:=.seq c9_42 c9_47
def l9_49:List COp:=[
 ⟨some 55,.build [(.p (.int .i64 0)),(.p (.int .i64 0))] [],none⟩,
 ⟨none,.store 2 (.t 4) (.t 55),none⟩]
def c9_50:CC:=.ops [] (l9_49)
def c9_51:CC:=.seq c9_50 .ret
def c9_52:CC:=.seq c9_48 c9_51
def c9_53:CC:=.seq c9_40 c9_52
def c9_54:CC:=.seq c9_18 c9_53
def c9_55:CC:=.seq c9_10 c9_54
def c9_56:CC:=.seq c9_1 c9_55
def c9:CC:=c9_56
theorem fn9:FnOk Try.prog 9 [24] c9 [(4,some (true,2))] 56:=
 ⟨Try.f9,[],Try.func9,by kernel_rfl,by kernel_rfl,by kernel_rfl,by kernel_rfl,by kernel_rfl⟩
def l19_0:List COp:=[
 ⟨some 6,.mov (.k (.nils 3 1)),none⟩]
def c19_1:CC:=.ops [] (l19_0)
def l19_2:List COp:=[
 ⟨some 7,.mov (.k (.nils 3 1)),none⟩]
def c19_3:CC:=.ops [] (l19_2)
def l19_4:List COp:=[
 ⟨some 8,.mov (.k (.p (.int .i64 0))),none⟩]
def c19_5:CC:=.ops [] (l19_4)
def l19_6:List COp:=[
 ⟨some 11,.mov (.t 8),none⟩,
 ⟨some 12,.mov (.t 0),none⟩,
 ⟨some 13,.len (.t 12),none⟩,
 ⟨some 14,.mov (.t 1),none⟩,
 ⟨some 15,.len (.t 14),none⟩,
 ⟨some 16,.bin false .add (.t 13) (.t 15),none⟩,
 ⟨some 17,.bin false .lss (.t 11) (.t 16),none⟩]
def c19_7:CC:=.ops [] (l19_6)
def c19_8:CC:=.cond (.t 17) .skip (.exit 0)
def c19_9:CC:=.seq c19_7 c19_8
def l19_10:List COp:=[
 ⟨some 9,.mov (.k (.p (.int .i64 0))),none⟩]
def c19_11:CC:=.ops [] (l19_10)
def l19_12:List COp:=[
 ⟨some 10,.mov (.k (.p (.int .i64 0))),none⟩]
def c19_13:CC:=.ops [] (l19_12)
def l19_14:List COp:=[
 ⟨some 20,.mov (.t 10),none⟩,
 ⟨some 21,.mov (.t 8),none⟩,
 ⟨some 22,.bin false .leq (.t 20) (.t 21),none⟩]
def c19_15:CC:=.ops [] (l19_14)
def c19_16:CC:=.cond (.t 22) .skip (.exit 2)
def c19_17:CC:=.seq c19_15 c19_16
def l19_18:List COp:=[
 ⟨some 25,.mov (.t 9),none⟩,
 ⟨some 26,.mov (.t 0),none⟩,
 ⟨some 27,.mov (.t 10),none⟩,
 ⟨some 28,.call 47 [(.t 26),(.t 27)],none⟩]
def l19_19:List COp:=[
 ⟨some 29,.mov (.t 1),none⟩,
 ⟨some 30,.mov (.t 8),none⟩,
 ⟨some 31,.mov (.t 10),none⟩,
 ⟨some 32,.bin false .sub (.t 30) (.t 31),none⟩,
 ⟨some 33,.call 47 [(.t 29),(.t 32)],none⟩]
def l19_20:List COp:=[
 ⟨some 34,.bin false .mul (.t 28) (.t 33),none⟩,
 ⟨some 35,.bin false .add (.t 25) (.t 34),none⟩,
 ⟨some 36,.mov (.t 2),none⟩,
 ⟨some 37,.bin false .rem (.t 35) (.t 36),none⟩,
 ⟨some 9,.mov (.t 37),none⟩]
def c19_21:CC:=.ops [] (l19_18++(l19_19++(l19_20)))
def c19_22:CC:=.block 3 c19_21
def l19_23:List COp:=[
 ⟨some 23,.mov (.t 10),none⟩,
 ⟨some 24,.bin false .add (.t 23) (.k (.p (.int .i64 1))),none⟩,
 ⟨some 10,.mov (.t 24),none⟩]
def c19_24:CC:=.ops [] (l19_23)
def c19_25:CC:=.seq c19_22 c19_24
def c19_26:CC:=.seq c19_17 c19_25
def c19_27:CC:=.loop c19_26
def c19_28:CC:=.block 2 c19_27
def c19_29:CC:=.seq c19_13 c19_28
def l19_30:List COp:=[
 ⟨some 38,.mov (.t 7),none⟩,
 ⟨some 39,.mov (.t 9),none⟩,
 ⟨some 40,.buildSlice 3 1 (.int .i64 0) 1 [(0,(.t 39))],none⟩,
 ⟨some 41,.append 3 1 8 (.t 38) (.t 40),none⟩,
 ⟨some 7,.mov (.t 41),none⟩]
def c19_31:CC:=.ops [] (l19_30)
def c19_32:CC:=.seq c19_29 c19_31
def c19_33:CC:=.seq c19_11 c19_32
def c19_34:CC:=.block 1 c19_33
def l19_35:List COp:=[
 ⟨some 18,.mov (.t 8),none⟩,
 ⟨some 19,.bin false .add (.t 18) (.k (.p (.int .i64 1))),none⟩,
 ⟨some 8,.mov (.t 19),none⟩]
def c19_36:CC:=.ops [] (l19_35)
def c19_37:CC:=.seq c19_34 c19_36
def c19_38:CC:=.seq c19_9 c19_37
def c19_39:CC:=.loop c19_38
def c19_40:CC:=.block 0 c19_39
def c19_41:CC:=.seq c19_5 c19_40
def l19_42:List COp:=[
 ⟨some 42,.mov (.t 7),none⟩,
 ⟨some 43,.call 48 [(.t 42)],none⟩]
def l19_43:List COp:=[
 ⟨some 6,.mov (.t 43),none⟩]
def c19_44:CC:=.ops [] (l19_42++(l19_43))
def c19_45:CC:=.seq c19_44 .ret
def c19_46:CC:=.seq c19_41 c19_45
def c19_47:CC:=.seq c19_3 c19_46
def c19_48:CC:=.seq c19_1 c19_47
def c19:CC:=c19_48
theorem fn19:FnOk Try.prog 19 [3] c19 [(6,none)] 44:=
 ⟨Try.f19,[],Try.func19,by kernel_rfl,by kernel_rfl,by kernel_rfl,by kernel_rfl,by kernel_rfl⟩
def l32_0:List COp:=[
 ⟨some 6,.mov (.k (.nils 3 1)),none⟩]
def c32_1:CC:=.ops [] (l32_0)
def l32_2:List COp:=[
 ⟨some 11,.mov (.t 0),none⟩,
 ⟨some 12,.len (.t 11),none⟩,
 ⟨some 13,.mov (.t 1),none⟩,
 ⟨some 14,.len (.t 13),none⟩,
 ⟨some 15,.bin false .geq (.t 12) (.t 14),none⟩]
def c32_3:CC:=.ops [] (l32_2)
def c32_4:CC:=.cond (.t 15) .skip (.exit 0)
def c32_5:CC:=.seq c32_3 c32_4
def l32_6:List COp:=[
 ⟨some 16,.mov (.t 0),none⟩,
 ⟨some 17,.mov (.t 0),none⟩,
 ⟨some 18,.len (.t 17),none⟩,
 ⟨some 19,.bin false .sub (.t 18) (.k (.p (.int .i64 1))),none⟩,
 ⟨some 20,.indexAddr 1 (.t 16) (.t 19),none⟩,
 ⟨some 21,.load false 1 (.t 20),none⟩,
 ⟨some 7,.mov (.t 21),none⟩]
def c32_7:CC:=.ops [] (l32_6)
def l32_8:List COp:=[
 ⟨some 22,.mov (.t 0),none⟩,
 ⟨some 23,.copyS 3 1 8 (.t 22),none⟩,
 ⟨some 8,.mov (.t 23),none⟩]
def c32_9:CC:=.ops [] (l32_8)
def l32_10:List COp:=[
 ⟨some 9,.mov (.k (.p (.int .i64 0))),none⟩]
def c32_11:CC:=.ops [] (l32_10)
def l32_12:List COp:=[
 ⟨some 24,.mov (.t 9),none⟩,
 ⟨some 25,.mov (.t 1),none⟩,
 ⟨some 26,.len (.t 25),none⟩,
 ⟨some 27,.bin false .lss (.t 24) (.t 26),none⟩]
def c32_13:CC:=.ops [] (l32_12)
def c32_14:CC:=.cond (.t 27) .skip (.exit 2)
def c32_15:CC:=.seq c32_13 c32_14
def l32_16:List COp:=[
 ⟨some 30,.mov (.t 0),none⟩,
 ⟨some 31,.len (.t 30),none⟩,
 ⟨some 32,.mov (.t 1),none⟩,
 ⟨some 33,.len (.t 32),none⟩,
 ⟨some 34,.bin false .sub (.t 31) (.t 33),none⟩,
 ⟨some 35,.mov (.t 9),none⟩,
 ⟨some 36,.bin false .add (.t 34) (.t 35),none⟩,
 ⟨some 10,.mov (.t 36),none⟩]
def c32_17:CC:=.ops [] (l32_16)
def l32_18:List COp:=[
 ⟨some 37,.mov (.t 8),none⟩,
 ⟨some 38,.mov (.t 10),none⟩,
 ⟨some 39,.mov (.t 8),none⟩,
 ⟨some 40,.mov (.t 10),none⟩,
 ⟨some 41,.indexAddr 1 (.t 39) (.t 40),none⟩,
 ⟨some 42,.load false 1 (.t 41),none⟩,
 ⟨some 43,.mov (.t 7),none⟩,
 ⟨some 44,.mov (.t 1),none⟩,
 ⟨some 45,.mov (.t 9),none⟩,
 ⟨some 46,.indexAddr 1 (.t 44) (.t 45),none⟩,
 ⟨some 47,.load false 1 (.t 46),none⟩,
 ⟨some 48,.bin false .mul (.t 43) (.t 47),none⟩,
 ⟨some 49,.bin false .sub (.t 42) (.t 48),none⟩,
 ⟨some 50,.mov (.t 2),none⟩,
 ⟨some 51,.call 52 [(.t 49),(.t 50)],none⟩]
def l32_19:List COp:=[
 ⟨some 52,.indexAddr 1 (.t 37) (.t 38),none⟩,
 ⟨none,.store 1 (.t 52) (.t 51),none⟩]
def c32_20:CC:=.ops [] (l32_18++(l32_19))
def c32_21:CC:=.seq c32_17 c32_20
def c32_22:CC:=.block 3 c32_21
def l32_23:List COp:=[
 ⟨some 28,.mov (.t 9),none⟩,
 ⟨some 29,.bin false .add (.t 28) (.k (.p (.int .i64 1))),none⟩,
 ⟨some 9,.mov (.t 29),none⟩]
def c32_24:CC:=.ops [] (l32_23)
def c32_25:CC:=.seq c32_22 c32_24
def c32_26:CC:=.seq c32_15 c32_25
def c32_27:CC:=.loop c32_26
def c32_28:CC:=.block 2 c32_27
def c32_29:CC:=.seq c32_11 c32_28
def l32_30:List COp:=[
 ⟨some 53,.mov (.t 8),none⟩,
 ⟨some 54,.call 48 [(.t 53)],none⟩]
def l32_31:List COp:=[
 ⟨some 0,.mov (.t 54),none⟩]
def c32_32:CC:=.ops [] (l32_30++(l32_31))
def c32_33:CC:=.seq c32_29 c32_32
def c32_34:CC:=.seq c32_9 c32_33
def c32_35:CC:=.seq c32_7 c32_34
def c32_36:CC:=.block 1 c32_35
def c32_37:CC:=.seq c32_5 c32_36
def c32_38:CC:=.loop c32_37
def c32_39:CC:=.block 0 c32_38
def l32_40:List COp:=[
 ⟨some 55,.mov (.t 0),none⟩,
 ⟨some 6,.mov (.t 55),none⟩]
def c32_41:CC:=.ops [] (l32_40)
def c32_42:CC:=.seq c32_41 .ret
def c32_43:CC:=.seq c32_39 c32_42
def c32_44:CC:=.seq c32_1 c32_43
def c32:CC:=c32_44
theorem fn32:FnOk Try.prog 32 [3] c32 [(6,none)] 56:=
 ⟨Try.f32,[⟨8,[0,1,2,3,4,5,6,7,8,9,10,11,12,13,14,15,16],[0,0,0,0,12,28,0,0,0,384,896,1984,4092,0,16380,32767,65535],[]⟩],Try.func32,by kernel_rfl,by kernel_rfl,by kernel_rfl,by kernel_rfl,by kernel_rfl⟩
def l48_0:List COp:=[
 ⟨some 2,.mov (.k (.nils 3 1)),none⟩]
def c48_1:CC:=.ops [] (l48_0)
def l48_2:List COp:=[
 ⟨some 4,.mov (.t 0),none⟩,
 ⟨some 5,.len (.t 4),none⟩,
 ⟨some 3,.mov (.t 5),none⟩]
def c48_3:CC:=.ops [] (l48_2)
def l48_4:List COp:=[
 ⟨some 6,.mov (.t 3),none⟩,
 ⟨some 7,.bin false .gtr (.t 6) (.k (.p (.int .i64 0))),none⟩,
 ⟨some 8,.mov (.t 7),none⟩,
 ⟨some 9,.mov (.t 0),some (8,true)⟩,
 ⟨some 10,.mov (.t 3),some (8,true)⟩,
 ⟨some 11,.bin false .sub (.t 10) (.k (.p (.int .i64 1))),some (8,true)⟩,
 ⟨some 12,.indexAddr 1 (.t 9) (.t 11),some (8,true)⟩,
 ⟨some 13,.load false 1 (.t 12),some (8,true)⟩,
 ⟨some 14,.bin false .eql (.t 13) (.k (.p (.int .i64 0))),some (8,true)⟩,
 ⟨some 15,.pick (.t 8) (.t 14) (.k (.p (.bool false))),none⟩]
def c48_5:CC:=.ops [] (l48_4)
def c48_6:CC:=.cond (.t 15) .skip (.exit 0)
def c48_7:CC:=.seq c48_5 c48_6
def l48_8:List COp:=[
 ⟨some 16,.mov (.t 3),none⟩,
 ⟨some 17,.bin false .sub (.t 16) (.k (.p (.int .i64 1))),none⟩,
 ⟨some 3,.mov (.t 17),none⟩]
def c48_9:CC:=.ops [] (l48_8)
def c48_10:CC:=.block 1 c48_9
def c48_11:CC:=.seq c48_7 c48_10
def c48_12:CC:=.loop c48_11
def c48_13:CC:=.block 0 c48_12
def l48_14:List COp:=[
 ⟨some 18,.mov (.t 0),none⟩,
 ⟨some 19,.mov (.t 3),none⟩,
 ⟨some 20,.slice 1 (.t 18) none (some (.t 19)) none,none⟩,
 ⟨some 2,.mov (.t 20),none⟩]
def c48_15:CC:=.ops [] (l48_14)
def c48_16:CC:=.seq c48_15 .ret
def c48_17:CC:=.seq c48_13 c48_16
def c48_18:CC:=.seq c48_3 c48_17
def c48_19:CC:=.seq c48_1 c48_18
def c48:CC:=c48_19
theorem fn48:FnOk Try.prog 48 [] c48 [(2,none)] 21:=
 ⟨Try.f48,[],Try.func48,by kernel_rfl,by kernel_rfl,by kernel_rfl,by kernel_rfl,by kernel_rfl⟩
def l47_0:List COp:=[
 ⟨some 4,.mov (.k (.p (.int .i64 0))),none⟩]
def c47_1:CC:=.ops [] (l47_0)
def l47_2:List COp:=[
 ⟨some 5,.mov (.t 1),none⟩,
 ⟨some 6,.bin false .lss (.t 5) (.k (.p (.int .i64 0))),none⟩,
 ⟨some 7,.mov (.t 6),none⟩,
 ⟨some 8,.mov (.t 1),some (7,false)⟩,
 ⟨some 9,.mov (.t 0),some (7,false)⟩,
 ⟨some 10,.len (.t 9),some (7,false)⟩,
 ⟨some 11,.bin false .geq (.t 8) (.t 10),some (7,false)⟩,
 ⟨some 12,.pick (.t 7) (.k (.p (.bool true))) (.t 11),none⟩]
def c47_3:CC:=.ops [] (l47_2)
def l47_4:List COp:=[
 ⟨some 4,.mov (.k (.p (.int .i64 0))),none⟩]
def c47_5:CC:=.ops [] (l47_4)
def c47_6:CC:=.seq c47_5 .ret
def c47_7:CC:=.cond (.t 12) c47_6 .skip
def c47_8:CC:=.seq c47_3 c47_7
def l47_9:List COp:=[
 ⟨some 13,.mov (.t 0),none⟩,
 ⟨some 14,.mov (.t 1),none⟩,
 ⟨some 15,.indexAddr 1 (.t 13) (.t 14),none⟩,
 ⟨some 16,.load false 1 (.t 15),none⟩,
 ⟨some 4,.mov (.t 16),none⟩]
def c47_10:CC:=.ops [] (l47_9)
def c47_11:CC:=.seq c47_10 .ret
def c47_12:CC:=.seq c47_8 c47_11
def c47_13:CC:=.seq c47_1 c47_12
def c47:CC:=c47_13
theorem fn47:FnOk Try.prog 47 [] c47 [(4,none)] 17:=
 ⟨Try.f47,[],Try.func47,by kernel_rfl,by kernel_rfl,by kernel_rfl,by kernel_rfl,by kernel_rfl⟩
def l52_0:List COp:=[
 ⟨some 4,.mov (.k (.p (.int .i64 0))),none⟩]
def c52_1:CC:=.ops [] (l52_0)
def l52_2:List COp:=[
 ⟨some 5,.mov (.t 0),none⟩,
 ⟨some 6,.mov (.t 1),none⟩,
 ⟨some 7,.bin false .rem (.t 5) (.t 6),none⟩,
 ⟨some 0,.mov (.t 7),none⟩]
def c52_3:CC:=.ops [] (l52_2)
def l52_4:List COp:=[
 ⟨some 8,.mov (.t 0),none⟩,
 ⟨some 9,.bin false .lss (.t 8) (.k (.p (.int .i64 0))),none⟩]
def c52_5:CC:=.ops [] (l52_4)
def l52_6:List COp:=[
 ⟨some 10,.mov (.t 0),none⟩,
 ⟨some 11,.mov (.t 1),none⟩,
 ⟨some 12,.bin false .add (.t 10) (.t 11),none⟩,
 ⟨some 0,.mov (.t 12),none⟩]
def c52_7:CC:=.ops [] (l52_6)
def c52_8:CC:=.cond (.t 9) c52_7 .skip
def c52_9:CC:=.seq c52_5 c52_8
def l52_10:List COp:=[
 ⟨some 13,.mov (.t 0),none⟩,
 ⟨some 4,.mov (.t 13),none⟩]
def c52_11:CC:=.ops [] (l52_10)
def c52_12:CC:=.seq c52_11 .ret
def c52_13:CC:=.seq c52_9 c52_12
def c52_14:CC:=.seq c52_3 c52_13
def c52_15:CC:=.seq c52_1 c52_14
def c52:CC:=c52_15
theorem fn52:FnOk Try.prog 52 [] c52 [(4,none)] 14:=
 ⟨Try.f52,[],Try.func52,by kernel_rfl,by kernel_rfl,by kernel_rfl,by kernel_rfl,by kernel_rfl⟩
def l30_0:List COp:=[
 ⟨some 2,.mov (.k (.p (.bool false))),none⟩]
def c30_1:CC:=.ops [] (l30_0)
def l30_2:List COp:=[
 ⟨some 4,.mov (.t 0),none⟩,
 ⟨some 5,.bin false .lss (.t 4) (.k (.p (.int .i64 2))),none⟩]
def c30_3:CC:=.ops [] (l30_2)
def l30_4:List COp:=[
 ⟨some 2,.mov (.k (.p (.bool false))),none⟩]
def c30_5:CC:=.ops [] (l30_4)
def c30_6:CC:=.seq c30_5 .ret
def c30_7:CC:=.cond (.t 5) c30_6 .skip
def c30_8:CC:=.seq c30_3 c30_7
def l30_9:List COp:=[
 ⟨some 3,.mov (.k (.p (.int .i64 2))),none⟩]
def c30_10:CC:=.ops [] (l30_9)
def l30_11:List COp:=[
 ⟨some 6,.mov (.t 3),none⟩,
 ⟨some 7,.mov (.t 3),none⟩,
 ⟨some 8,.bin false .mul (.t 6) (.t 7),none⟩,
 ⟨some 9,.mov (.t 0),none⟩,
 ⟨some 10,.bin false .leq (.t 8) (.t 9),none⟩]
def c30_12:CC:=.ops [] (l30_11)
def c30_13:CC:=.cond (.t 10) .skip (.exit 0)
def c30_14:CC:=.seq c30_12 c30_13
def l30_15:List COp:=[
 ⟨some 13,.mov (.t 0),none⟩,
 ⟨some 14,.mov (.t 3),none⟩,
 ⟨some 15,.bin false .rem (.t 13) (.t 14),none⟩,
 ⟨some 16,.bin false .eql (.t 15) (.k (.p (.int .i64 0))),none⟩]
def c30_16:CC:=.ops [] (l30_15)
def l30_17:List COp:=[
 ⟨some 2,.mov (.k (.p (.bool false))),none⟩]
def c30_18:CC:=.ops [] (l30_17)
def c30_19:CC:=.seq c30_18 .ret
def c30_20:CC:=.cond (.t 16) c30_19 .skip
def c30_21:CC:=.seq c30_16 c30_20
def c30_22:CC:=.block 1 c30_21
def l30_23:List COp:=[
 ⟨some 11,.mov (.t 3),none⟩,
 ⟨some 12,.bin false .add (.t 11) (.k (.p (.int .i64 1))),none⟩,
 ⟨some 3,.mov (.t 12),none⟩]
def c30_24:CC:=.ops [] (l30_23)
def c30_25:CC:=.seq c30_22 c30_24
def c30_26:CC:=.seq c30_14 c30_25
def c30_27:CC:=.loop c30_26
def c30_28:CC:=.block 0 c30_27
def c30_29:CC:=.seq c30_10 c30_28
def l30_30:List COp:=[
 ⟨some 2,.mov (.k (.p (.bool true))),none⟩]
def c30_31:CC:=.ops [] (l30_30)
def c30_32:CC:=.seq c30_31 .ret
def c30_33:CC:=.seq c30_29 c30_32
def c30_34:CC:=.seq c30_8 c30_33
def c30_35:CC:=.seq c30_1 c30_34
def c30:CC:=c30_35
theorem fn30:FnOk Try.prog 30 [] c30 [(2,none)] 17:=
 ⟨Try.f30,[],Try.func30,by kernel_rfl,by kernel_rfl,by kernel_rfl,by kernel_rfl,by kernel_rfl⟩
def l31_0:List COp:=[
 ⟨some 4,.alloc 24 2 (.p (.agg [(.int .i64 0),(.int .i64 0)])),none⟩]
def c31_1:CC:=.ops [] (l31_0)
def l31_2:List COp:=[
 ⟨some 5,.mov (.t 0),none⟩,
 ⟨some 6,.mov (.t 1),none⟩,
 ⟨some 7,.build [(.p (.int .i64 0)),(.p (.int .i64 0))] [(0,1,(.t 5)),(1,1,(.t 6))],none⟩,
 ⟨none,.store 2 (.t 4) (.t 7),none⟩]
def c31_3:CC:=.ops [] (l31_2)
def c31_4:CC:=.seq c31_3 .ret
def c31_5:CC:=.seq c31_1 c31_4
def c31:CC:=c31_5
theorem fn31:FnOk Try.prog 31 [24] c31 [(4,some (true,2))] 8:=
 ⟨Try.f31,[],Try.func31,by kernel_rfl,by kernel_rfl,by kernel_rfl,by kernel_rfl,by kernel_rfl⟩
def l20_0:List COp:=[
 ⟨some 4,.alloc 24 2 (.p (.agg [(.int .i64 0),(.int .i64 0)])),none⟩]
def c20_1:CC:=.ops [] (l20_0)
def l20_2:List COp:=[
 ⟨some 5,.mov (.t 0),none⟩,
 ⟨some 6,.mov (.t 1),none⟩,
 ⟨some 7,.build [(.p (.int .i64 0)),(.p (.int .i64 0))] [(0,1,(.t 5)),(1,1,(.t 6))],none⟩,
 ⟨none,.store 2 (.t 4) (.t 7),none⟩]
def c20_3:CC:=.ops [] (l20_2)
def c20_4:CC:=.seq c20_3 .ret
def c20_5:CC:=.seq c20_1 c20_4
def c20:CC:=c20_5
theorem fn20:FnOk Try.prog 20 [24] c20 [(4,some (true,2))] 8:=
 ⟨Try.f20,[],Try.func20,by kernel_rfl,by kernel_rfl,by kernel_rfl,by kernel_rfl,by kernel_rfl⟩
def l10_0:List COp:=[
 ⟨some 0,.mov (.k (.p (.bool false))),none⟩]
def c10_1:CC:=.ops [] (l10_0)
def l10_2:List COp:=[
 ⟨some 5,.buildSliceF 3 1 (.int .i64 0) 5 [(0,(.k (.p (.int .i64 1)))),(1,(.k (.p (.int .i64 0)))),(2,(.k (.p (.int .i64 1)))),(3,(.k (.p (.int .i64 0)))),(4,(.k (.p (.int .i64 1))))],none⟩,
 ⟨some 6,.call 13 [(.t 5),(.k (.p (.int .i64 2)))],none⟩]
def l10_3:List COp:=[
 ⟨some 4,.mov (.t 6),none⟩,
 ⟨some 7,.extract (.t 4) 0,none⟩,
 ⟨some 8,.extract (.t 4) 1,none⟩,
 ⟨some 9,.extract (.t 4) 2,none⟩,
 ⟨some 3,.alloc 24 2 (.p (.agg [(.int .i64 0),(.int .i64 0)])),none⟩,
 ⟨some 1,.mov (.t 7),none⟩,
 ⟨some 2,.mov (.t 8),none⟩,
 ⟨none,.store 2 (.t 3) (.t 9),none⟩]
def c10_4:CC:=.ops [] (l10_2++(l10_3))
def l10_5:List COp:=[
 ⟨some 10,.fieldAddr 0 1 false (.t 3),none⟩,
 ⟨some 11,.load false 1 (.t 10),none⟩,
 ⟨some 12,.bin false .eql (.t 11) (.k (.p (.int .i64 0))),none⟩,
 ⟨some 13,.mov (.t 12),none⟩,
 ⟨some 14,.mov (.t 1),some (13,true)⟩,
 ⟨some 15,.bin false .eql (.t 14) (.k (.p (.int .i64 1))),some (13,true)⟩,
 ⟨some 16,.pick (.t 13) (.t 15) (.k (.p (.bool false))),none⟩,
 ⟨some 17,.mov (.t 16),none⟩,
 ⟨some 18,.mov (.t 2),some (17,true)⟩,
 ⟨some 19,.len (.t 18),some (17,true)⟩,
 ⟨some 20,.bin false .eql (.t 19) (.k (.p (.int .i64 1))),some (17,true)⟩,
 ⟨some 21,.pick (.t 17) (.t 20) (.k (.p (.bool false))),none⟩,
 ⟨some 22,.mov (.t 21),none⟩,
 ⟨some 23,.mov (.t 2),some (22,true)⟩,
 ⟨some 24,.indexAddr 2 (.t 23) (.k (.p (.int .i64 0))),some (22,true)⟩,
 ⟨some 25,.fieldAddr 1 1 false (.t 24),some (22,true)⟩,
 ⟨some 26,.load false 1 (.t 25),some (22,true)⟩,
 ⟨some 27,.bin false .eql (.t 26) (.k (.p (.int .i64 2))),some (22,true)⟩,
 ⟨some 28,.pick (.t 22) (.t 27) (.k (.p (.bool false))),none⟩,
 ⟨some 29,.mov (.t 28),none⟩,
 ⟨some 30,.mov (.t 2),some (29,true)⟩,
 ⟨some 31,.indexAddr 2 (.t 30) (.k (.p (.int .i64 0))),some (29,true)⟩,
 ⟨some 32,.fieldAddr 0 1 false (.t 31),some (29,true)⟩,
 ⟨some 33,.load false 1 (.t 32),some (29,true)⟩,
 ⟨some 34,.buildSliceF 3 1 (.int .i64 0) 3 [(0,(.k (.p (.int .i64 1)))),(1,(.k (.p (.int .i64 1)))),(2,(.k (.p (.int .i64 1))))],some (29,true)⟩,
 ⟨some 35,.call 11 [(.t 33),(.t 34)],some (29,true)⟩]
def l10_6:List COp:=[
 ⟨some 36,.pick (.t 29) (.t 35) (.k (.p (.bool false))),none⟩,
 ⟨some 0,.mov (.t 36),none⟩]
def c10_7:CC:=.ops [] (l10_5++(l10_6))
def c10_8:CC:=.seq c10_7 .ret
def c10_9:CC:=.seq c10_4 c10_8
def c10_10:CC:=.seq c10_1 c10_9
def c10:CC:=c10_10
theorem fn10:FnOk Try.prog 10 [3,24,2000005,2000034] c10 [(0,none)] 37:=
 ⟨Try.f10,[],Try.func10,by kernel_rfl,by kernel_rfl,by kernel_rfl,by kernel_rfl,by kernel_rfl⟩
def l11_0:List COp:=[
 ⟨some 4,.mov (.k (.p (.bool false))),none⟩]
def c11_1:CC:=.ops [] (l11_0)
def l11_2:List COp:=[
 ⟨some 6,.mov (.t 0),none⟩,
 ⟨some 7,.len (.t 6),none⟩,
 ⟨some 8,.mov (.t 1),none⟩,
 ⟨some 9,.len (.t 8),none⟩,
 ⟨some 10,.bin false .neq (.t 7) (.t 9),none⟩]
def c11_3:CC:=.ops [] (l11_2)
def l11_4:List COp:=[
 ⟨some 4,.mov (.k (.p (.bool false))),none⟩]
def c11_5:CC:=.ops [] (l11_4)
def c11_6:CC:=.seq c11_5 .ret
def c11_7:CC:=.cond (.t 10) c11_6 .skip
def c11_8:CC:=.seq c11_3 c11_7
def l11_9:List COp:=[
 ⟨some 5,.mov (.k (.p (.int .i64 0))),none⟩]
def c11_10:CC:=.ops [] (l11_9)
def l11_11:List COp:=[
 ⟨some 11,.mov (.t 5),none⟩,
 ⟨some 12,.mov (.t 0),none⟩,
 ⟨some 13,.len (.t 12),none⟩,
 ⟨some 14,.bin false .lss (.t 11) (.t 13),none⟩]
def c11_12:CC:=.ops [] (l11_11)
def c11_13:CC:=.cond (.t 14) .skip (.exit 0)
def c11_14:CC:=.seq c11_12 c11_13
def l11_15:List COp:=[
 ⟨some 17,.mov (.t 0),none⟩,
 ⟨some 18,.mov (.t 5),none⟩,
 ⟨some 19,.indexAddr 1 (.t 17) (.t 18),none⟩,
 ⟨some 20,.load false 1 (.t 19),none⟩,
 ⟨some 21,.mov (.t 1),none⟩,
 ⟨some 22,.mov (.t 5),none⟩,
 ⟨some 23,.indexAddr 1 (.t 21) (.t 22),none⟩,
 ⟨some 24,.load false 1 (.t 23),none⟩,
 ⟨some 25,.bin false .neq (.t 20) (.t 24),none⟩]
def c11_16:CC:=.ops [] (l11_15)
def l11_17:List COp:=[
 ⟨some 4,.mov (.k (.p (.bool false))),none⟩]
def c11_18:CC:=.ops [] (l11_17)
def c11_19:CC:=.seq c11_18 .ret
def c11_20:CC:=.cond (.t 25) c11_19 .skip
def c11_21:CC:=.seq c11_16 c11_20
def c11_22:CC:=.block 1 c11_21
def l11_23:List COp:=[
 ⟨some 15,.mov (.t 5),none⟩,
 ⟨some 16,.bin false .add (.t 15) (.k (.p (.int .i64 1))),none⟩,
 ⟨some 5,.mov (.t 16),none⟩]
def c11_24:CC:=.ops [] (l11_23)
def c11_25:CC:=.seq c11_22 c11_24
def c11_26:CC:=.seq c11_14 c11_25
def c11_27:CC:=.loop c11_26
def c11_28:CC:=.block 0 c11_27
def c11_29:CC:=.seq c11_10 c11_28
def l11_30:List COp:=[
 ⟨some 4,.mov (.k (.p (.bool true))),none⟩]
def c11_31:CC:=.ops [] (l11_30)
def c11_32:CC:=.seq c11_31 .ret
def c11_33:CC:=.seq c11_29 c11_32
def c11_34:CC:=.seq c11_8 c11_33
def c11_35:CC:=.seq c11_1 c11_34
def c11:CC:=c11_35
theorem fn11:FnOk Try.prog 11 [] c11 [(4,none)] 26:=
 ⟨Try.f11,[⟨6,[0,1,2,3,4,5,6,7,8],[0,0,3,7,0,0,48,112,255],[]⟩],Try.func11,by kernel_rfl,by kernel_rfl,by kernel_rfl,by kernel_rfl,by kernel_rfl⟩
def l13_0:List COp:=[
 ⟨some 4,.mov (.k (.p (.int .i64 0))),none⟩,
 ⟨some 5,.mov (.k (.nils 36 2)),none⟩,
 ⟨some 6,.alloc 24 2 (.p (.agg [(.int .i64 0),(.int .i64 0)])),none⟩]
def c13_1:CC:=.ops [] (l13_0)
def l13_2:List COp:=[
 ⟨some 13,.mov (.t 0),none⟩,
 ⟨some 14,.mov (.t 1),none⟩,
 ⟨some 15,.call 18 [(.t 13),(.t 14)],none⟩]
def l13_3:List COp:=[
 ⟨some 7,.alloc 24 2 (.p (.agg [(.int .i64 0),(.int .i64 0)])),none⟩,
 ⟨none,.store 2 (.t 7) (.t 15),none⟩]
def c13_4:CC:=.ops [] (l13_2++(l13_3))
def l13_5:List COp:=[
 ⟨some 16,.fieldAddr 0 1 false (.t 7),none⟩,
 ⟨some 17,.load false 1 (.t 16),none⟩,
 ⟨some 18,.bin false .neq (.t 17) (.k (.p (.int .i64 0))),none⟩]
def c13_6:CC:=.ops [] (l13_5)
def l13_7:List COp:=[
 ⟨some 19,.load true 2 (.t 7),none⟩,
 ⟨some 4,.mov (.k (.p (.int .i64 0))),none⟩,
 ⟨some 5,.mov (.k (.nils 36 2)),none⟩,
 ⟨none,.store 2 (.t 6) (.t 19),none⟩]
def c13_8:CC:=.ops [] (l13_7)
def c13_9:CC:=.seq c13_8 .ret
def c13_10:CC:=.cond (.t 18) c13_9 .skip
def c13_11:CC:=.seq c13_6 c13_10
def c13_12:CC:=.seq c13_4 c13_11
def l13_13:List COp:=[
 ⟨some 20,.mov (.t 0),none⟩,
 ⟨some 21,.len (.t 20),none⟩,
 ⟨some 22,.bin false .eql (.t 21) (.k (.p (.int .i64 0))),none⟩]
def c13_14:CC:=.ops [] (l13_13)
def l13_15:List COp:=[
 ⟨some 23,.call 34 [(.k (.p (.int .i64 4))),(.k (.p (.int .i64 0)))],none⟩]
def l13_16:List COp:=[
 ⟨some 4,.mov (.k (.p (.int .i64 0))),none⟩,
 ⟨some 5,.mov (.k (.nils 36 2)),none⟩,
 ⟨none,.store 2 (.t 6) (.t 23),none⟩]
def c13_17:CC:=.ops [] (l13_15++(l13_16))
def c13_18:CC:=.seq c13_17 .ret
def c13_19:CC:=.cond (.t 22) c13_18 .skip
def c13_20:CC:=.seq c13_14 c13_19
def l13_21:List COp:=[
 ⟨some 8,.mov (.k (.nils 36 2)),none⟩]
def c13_22:CC:=.ops [] (l13_21)
def l13_23:List COp:=[
 ⟨some 24,.mov (.t 0),none⟩,
 ⟨some 25,.mov (.t 1),none⟩,
 ⟨some 26,.call 36 [(.t 24),(.t 25)],none⟩]
def l13_24:List COp:=[
 ⟨some 27,.mov (.t 1),none⟩,
 ⟨some 28,.call 35 [(.t 26),(.t 27),(.k (.p (.int .i64 1)))],none⟩]
def l13_25:List COp:=[
 ⟨some 29,.len (.t 28),none⟩,
 ⟨some 30,.mov (.k (.p (.int .i64 0))),none⟩]
def c13_26:CC:=.ops [] (l13_23++(l13_24++(l13_25)))
def l13_27:List COp:=[
 ⟨some 31,.bin false .lss (.t 30) (.t 29),none⟩]
def c13_28:CC:=.ops [] (l13_27)
def c13_29:CC:=.cond (.t 31) .skip (.exit 0)
def l13_30:List COp:=[
 ⟨some 32,.indexAddr 2 (.t 28) (.t 30),none⟩,
 ⟨some 33,.load true 2 (.t 32),none⟩,
 ⟨some 10,.alloc 56 2 (.p (.agg [(.list 3 1 []),(.int .i64 0)])),none⟩,
 ⟨none,.store 2 (.t 10) (.t 33),none⟩]
def c13_31:CC:=.ops [] (l13_30)
def l13_32:List COp:=[
 ⟨some 34,.fieldAddr 0 1 false (.t 10),none⟩,
 ⟨some 35,.load false 1 (.t 34),none⟩,
 ⟨some 36,.mov (.t 1),none⟩,
 ⟨some 37,.call 37 [(.t 35),(.t 36)],none⟩]
def l13_33:List COp:=[
 ⟨some 38,.len (.t 37),none⟩,
 ⟨some 39,.mov (.k (.p (.int .i64 0))),none⟩]
def c13_34:CC:=.ops [] (l13_32++(l13_33))
def l13_35:List COp:=[
 ⟨some 40,.bin false .lss (.t 39) (.t 38),none⟩]
def c13_36:CC:=.ops [] (l13_35)
def c13_37:CC:=.cond (.t 40) .skip (.exit 2)
def l13_38:List COp:=[
 ⟨some 41,.indexAddr 1 (.t 37) (.t 39),none⟩,
 ⟨some 42,.load false 1 (.t 41),none⟩,
 ⟨some 12,.mov (.t 42),none⟩]
def c13_39:CC:=.ops [] (l13_38)
def l13_40:List COp:=[
 ⟨some 43,.mov (.t 8),none⟩,
 ⟨some 44,.mov (.t 12),none⟩,
 ⟨some 45,.call 38 [(.t 44)],none⟩]
def l13_41:List COp:=[
 ⟨some 46,.fieldAddr 1 1 false (.t 10),none⟩,
 ⟨some 47,.load false 1 (.t 46),none⟩,
 ⟨some 48,.build [(.p (.list 3 1 [])),(.p (.int .i64 0))] [(0,1,(.t 45)),(1,1,(.t 47))],none⟩,
 ⟨some 49,.buildSlice 36 2 (.agg [(.list 3 1 []),(.int .i64 0)]) 1 [(0,(.t 48))],none⟩,
 ⟨some 50,.append 36 2 32 (.t 43) (.t 49),none⟩,
 ⟨some 8,.mov (.t 50),none⟩]
def c13_42:CC:=.ops [] (l13_40++(l13_41))
def c13_43:CC:=.seq c13_39 c13_42
def c13_44:CC:=.block 3 c13_43
def l13_45:List COp:=[
 ⟨some 51,.bin false .add (.t 39) (.k (.p (.int .i64 1))),none⟩,
 ⟨some 39,.mov (.t 51),none⟩]
def c13_46:CC:=.ops [] (l13_45)
def c13_47:CC:=.seq c13_44 c13_46
def c13_48:CC:=.seq c13_37 c13_47
def c13_49:CC:=.seq c13_36 c13_48
def c13_50:CC:=.loop c13_49
def c13_51:CC:=.block 2 c13_50
def c13_52:CC:=.seq c13_34 c13_51
def c13_53:CC:=.seq c13_31 c13_52
def c13_54:CC:=.block 1 c13_53
def l13_55:List COp:=[
 ⟨some 52,.bin false .add (.t 30) (.k (.p (.int .i64 1))),none⟩,
 ⟨some 30,.mov (.t 52),none⟩]
def c13_56:CC:=.ops [] (l13_55)
def c13_57:CC:=.seq c13_54 c13_56
def c13_58:CC:=.seq c13_29 c13_57
def c13_59:CC:=.seq c13_28 c13_58
def c13_60:CC:=.loop c13_59
def c13_61:CC:=.block 0 c13_60
def c13_62:CC:=.seq c13_26 c13_61
def l13_63:List COp:=[
 ⟨some 53,.mov (.t 8),none⟩,
 ⟨some 54,.callL 39 0 [(.t 53),(.k (.p (.fn (.func 40) [] [])))],none⟩]
def c13_64:CC:=.ops [] (l13_63)
def l13_65:List COp:=[
 ⟨some 55,.mov (.t 0),none⟩,
 ⟨some 56,.mov (.t 0),none⟩,
 ⟨some 57,.len (.t 56),none⟩,
 ⟨some 58,.bin false .sub (.t 57) (.k (.p (.int .i64 1))),none⟩,
 ⟨some 59,.indexAddr 1 (.t 55) (.t 58),none⟩,
 ⟨some 60,.load false 1 (.t 59),none⟩,
 ⟨some 61,.mov (.t 8),none⟩,
 ⟨some 62,.build [(.p (.int .i64 0)),(.p (.int .i64 0))] [],none⟩,
 ⟨some 4,.mov (.t 60),none⟩,
 ⟨some 5,.mov (.t 61),none⟩,
 ⟨none,.store 2 (.t 6) (.t 62),none⟩]
def c13_66:CC:=.ops [] (l13_65)
def c13_67:CC:=.seq c13_66 .ret
def c13_68:CC:=.seq c13_64 c13_67
def c13_69:CC:=.seq c13_62 c13_68
def c13_70:CC:=.seq c13_22 c13_69
def c13_71:CC:=.seq c13_20 c13_70
def c13_72:CC:=.seq c13_12 c13_71
def c13_73:CC:=.seq c13_1 c13_72
def c13:CC:=c13_73
theorem fn13:FnOk Try.prog 13 [4000312,24,56,36] c13 [(4,none),(5,none),(6,some (true,2))] 63:=
 ⟨Try.f13,[⟨3,[0,1,2,3],[0,0,2,7],[]⟩,⟨13,[0,1,2,3,4,5,6,7,8],[0,0,2,0,8,30,62,127,255],[]⟩],Try.func13,by kernel_rfl,by kernel_rfl,by kernel_rfl,by kernel_rfl,by kernel_rfl⟩
def l18_0:List COp:=[
 ⟨some 4,.alloc 24 2 (.p (.agg [(.int .i64 0),(.int .i64 0)])),none⟩]
def c18_1:CC:=.ops [] (l18_0)
def l18_2:List COp:=[
 ⟨some 8,.mov (.t 1),none⟩,
 ⟨some 9,.call 46 [(.t 8)],none⟩]
def l18_3:List COp:=[
 ⟨some 10,.un .not (.t 9),none⟩]
def c18_4:CC:=.ops [] (l18_2++(l18_3))
def l18_5:List COp:=[
 ⟨some 11,.call 34 [(.k (.p (.int .i64 6))),(.k (.p (.int .i64 0)))],none⟩]
def l18_6:List COp:=[
 ⟨none,.store 2 (.t 4) (.t 11),none⟩]
def c18_7:CC:=.ops [] (l18_5++(l18_6))
def c18_8:CC:=.seq c18_7 .ret
def c18_9:CC:=.cond (.t 10) c18_8 .skip
def c18_10:CC:=.seq c18_4 c18_9
def l18_11:List COp:=[
 ⟨some 12,.mov (.t 0),none⟩,
 ⟨some 13,.len (.t 12),none⟩,
 ⟨some 14,.bin false .gtr (.t 13) (.k (.p (.int .i64 65))),none⟩]
def c18_12:CC:=.ops [] (l18_11)
def l18_13:List COp:=[
 ⟨some 15,.call 34 [(.k (.p (.int .i64 9))),(.k (.p (.int .i64 0)))],none⟩]
def l18_14:List COp:=[
 ⟨none,.store 2 (.t 4) (.t 15),none⟩]
def c18_15:CC:=.ops [] (l18_13++(l18_14))
def c18_16:CC:=.seq c18_15 .ret
def c18_17:CC:=.cond (.t 14) c18_16 .skip
def c18_18:CC:=.seq c18_12 c18_17
def l18_19:List COp:=[
 ⟨some 16,.mov (.t 0),none⟩,
 ⟨some 17,.len (.t 16),none⟩,
 ⟨some 18,.mov (.k (.p (.int .i64 0))),none⟩]
def c18_20:CC:=.ops [] (l18_19)
def l18_21:List COp:=[
 ⟨some 19,.bin false .lss (.t 18) (.t 17),none⟩]
def c18_22:CC:=.ops [] (l18_21)
def c18_23:CC:=.cond (.t 19) .skip (.exit 0)
def l18_24:List COp:=[
 ⟨some 20,.mov (.t 18),none⟩,
 ⟨some 21,.indexAddr 1 (.t 16) (.t 18),none⟩,
 ⟨some 22,.load false 1 (.t 21),none⟩,
 ⟨some 5,.mov (.t 20),none⟩,
 ⟨some 6,.mov (.t 22),none⟩]
def c18_25:CC:=.ops [] (l18_24)
def l18_26:List COp:=[
 ⟨some 23,.mov (.t 6),none⟩,
 ⟨some 24,.bin false .lss (.t 23) (.k (.p (.int .i64 0))),none⟩,
 ⟨some 25,.mov (.t 24),none⟩,
 ⟨some 26,.mov (.t 6),some (25,false)⟩,
 ⟨some 27,.mov (.t 1),some (25,false)⟩,
 ⟨some 28,.bin false .geq (.t 26) (.t 27),some (25,false)⟩,
 ⟨some 29,.pick (.t 25) (.k (.p (.bool true))) (.t 28),none⟩]
def c18_27:CC:=.ops [] (l18_26)
def l18_28:List COp:=[
 ⟨some 30,.mov (.t 5),none⟩,
 ⟨some 31,.call 34 [(.k (.p (.int .i64 7))),(.t 30)],none⟩]
def l18_29:List COp:=[
 ⟨none,.store 2 (.t 4) (.t 31),none⟩]
def c18_30:CC:=.ops [] (l18_28++(l18_29))
def c18_31:CC:=.seq c18_30 .ret
def c18_32:CC:=.cond (.t 29) c18_31 .skip
def c18_33:CC:=.seq c18_27 c18_32
def c18_34:CC:=.seq c18_25 c18_33
def c18_35:CC:=.block 1 c18_34
def l18_36:List COp:=[
 ⟨some 32,.bin false .add (.t 18) (.k (.p (.int .i64 1))),none⟩,
 ⟨some 18,.mov (.t 32),none⟩]
def c18_37:CC:=.ops [] (l18_36)
def c18_38:CC:=.seq c18_35 c18_37
def c18_39:CC:=.seq c18_23 c18_38
def c18_40:CC:=.seq c18_22 c18_39
def c18_41:CC:=.loop c18_40
def c18_42:CC:=.block 0 c18_41
def c18_43:CC:=.seq c18_20 c18_42
def l18_44:List COp:=[
 ⟨some 33,.mov (.t 0),none⟩,
 ⟨some 34,.len (.t 33),none⟩,
 ⟨some 7,.mov (.t 34),none⟩]
def c18_45:CC:=.ops [] (l18_44)
def l18_46:List COp:=[
 ⟨some 35,.mov (.t 7),none⟩,
 ⟨some 36,.bin false .gtr (.t 35) (.k (.p (.int .i64 0))),none⟩,
 ⟨some 37,.mov (.t 36),none⟩,
 ⟨some 38,.mov (.t 0),some (37,true)⟩,
 ⟨some 39,.mov (.t 7),some (37,true)⟩,
 ⟨some 40,.bin false .sub (.t 39) (.k (.p (.int .i64 1))),some (37,true)⟩,
 ⟨some 41,.indexAddr 1 (.t 38) (.t 40),some (37,true)⟩,
 ⟨some 42,.load false 1 (.t 41),some (37,true)⟩,
 ⟨some 43,.bin false .eql (.t 42) (.k (.p (.int .i64 0))),some (37,true)⟩,
 ⟨some 44,.pick (.t 37) (.t 43) (.k (.p (.bool false))),none⟩]
def c18_47:CC:=.ops [] (l18_46)
def l18_48:List COp:=[
 ⟨some 45,.mov (.t 7),none⟩,
 ⟨some 46,.bin false .sub (.t 45) (.k (.p (.int .i64 1))),none⟩,
 ⟨some 47,.call 34 [(.k (.p (.int .i64 3))),(.t 46)],none⟩]
def l18_49:List COp:=[
 ⟨none,.store 2 (.t 4) (.t 47),none⟩]
def c18_50:CC:=.ops [] (l18_48++(l18_49))
def c18_51:CC:=.seq c18_50 .ret
def c18_52:CC:=.cond (.t 44) c18_51 .skip
def c18_53:CC:=.seq c18_47 c18_52
def c18_54:CC:=.seq c18_45 c18_53
def l18_55:List COp:=[
 ⟨some 48,.build [(.p (.int .i64 0)),(.p (.int .i64 0))] [],none⟩,
 ⟨none,.store 2 (.t 4) (.t 48),none⟩]
def c18_56:CC:=.ops [] (l18_55)
def c18_57:CC:=.seq c18_56 .ret
def c18_58:CC:=.seq c18_54 c18_57
def c18_59:CC:=.seq c18_43 c18_58
def c18_60:CC:=.seq c18_18 c18_59
def c18_61:CC:=.seq c18_10 c18_60
def c18_62:CC:=.seq c18_1 c18_61
def c18:CC:=c18_62
theorem fn18:FnOk Try.prog 18 [24] c18 [(4,some (true,2))] 49:=
 ⟨Try.f18,[],Try.func18,by kernel_rfl,by kernel_rfl,by kernel_rfl,by kernel_rfl,by kernel_rfl⟩
def l34_0:List COp:=[
 ⟨some 4,.alloc 24 2 (.p (.agg [(.int .i64 0),(.int .i64 0)])),none⟩]
def c34_1:CC:=.ops [] (l34_0)
def l34_2:List COp:=[
 ⟨some 5,.mov (.t 0),none⟩,
 ⟨some 6,.mov (.t 1),none⟩,
 ⟨some 7,.build [(.p (.int .i64 0)),(.p (.int .i64 0))] [(0,1,(.t 5)),(1,1,(.t 6))],none⟩,
 ⟨none,.store 2 (.t 4) (.t 7),none⟩]
def c34_3:CC:=.ops [] (l34_2)
def c34_4:CC:=.seq c34_3 .ret
def c34_5:CC:=.seq c34_1 c34_4
def c34:CC:=c34_5
theorem fn34:FnOk Try.prog 34 [24] c34 [(4,some (true,2))] 8:=
 ⟨Try.f34,[],Try.func34,by kernel_rfl,by kernel_rfl,by kernel_rfl,by kernel_rfl,by kernel_rfl⟩
def l35_0:List COp:=[
 ⟨some 6,.mov (.k (.nils 56 2)),none⟩]
def c35_1:CC:=.ops [] (l35_0)
def l35_2:List COp:=[
 ⟨some 7,.mov (.k (.nils 56 2)),none⟩]
def c35_3:CC:=.ops [] (l35_2)
def l35_4:List COp:=[
 ⟨some 16,.mov (.t 0),none⟩,
 ⟨some 17,.len (.t 16),none⟩,
 ⟨some 18,.bin false .lss (.t 17) (.k (.p (.int .i64 2))),none⟩]
def c35_5:CC:=.ops [] (l35_4)
def l35_6:List COp:=[
 ⟨some 6,.mov (.k (.nils 56 2)),none⟩]
def c35_7:CC:=.ops [] (l35_6)
def c35_8:CC:=.seq c35_7 .ret
def c35_9:CC:=.cond (.t 18) c35_8 .skip
def c35_10:CC:=.seq c35_5 c35_9
def l35_11:List COp:=[
 ⟨some 19,.mov (.t 0),none⟩,
 ⟨some 20,.mov (.t 1),none⟩,
 ⟨some 21,.call 53 [(.t 19),(.t 20)],none⟩]
def l35_12:List COp:=[
 ⟨some 8,.mov (.t 21),none⟩]
def c35_13:CC:=.ops [] (l35_11++(l35_12))
def l35_14:List COp:=[
 ⟨some 22,.mov (.t 8),none⟩,
 ⟨some 23,.len (.t 22),none⟩,
 ⟨some 24,.bin false .eql (.t 23) (.k (.p (.int .i64 0))),none⟩]
def c35_15:CC:=.ops [] (l35_14)
def l35_16:List COp:=[
 ⟨some 25,.mov (.t 0),none⟩,
 ⟨some 26,.mov (.t 1),none⟩,
 ⟨some 27,.call 54 [(.t 25),(.t 26)],none⟩]
def l35_17:List COp:=[
 ⟨some 28,.mov (.t 1),none⟩,
 ⟨some 29,.mov (.t 2),none⟩,
 ⟨some 30,.mov (.t 1),none⟩,
 ⟨some 31,.bin false .mul (.t 29) (.t 30),none⟩,
 ⟨some 32,.call 35 [(.t 27),(.t 28),(.t 31)],none⟩]
def l35_18:List COp:=[
 ⟨some 6,.mov (.t 32),none⟩]
def c35_19:CC:=.ops [] (l35_16++(l35_17++(l35_18)))
def c35_20:CC:=.seq c35_19 .ret
def c35_21:CC:=.cond (.t 24) c35_20 .skip
def c35_22:CC:=.seq c35_15 c35_21
def l35_23:List COp:=[
 ⟨some 33,.mov (.t 0),none⟩,
 ⟨some 34,.mov (.t 8),none⟩,
 ⟨some 35,.mov (.t 1),none⟩,
 ⟨some 36,.call 29 [(.t 33),(.t 34),(.t 35)],none⟩]
def l35_24:List COp:=[
 ⟨some 9,.mov (.t 36),none⟩]
def c35_25:CC:=.ops [] (l35_23++(l35_24))
def l35_26:List COp:=[
 ⟨some 38,.mov (.t 0),none⟩,
 ⟨some 39,.mov (.t 9),none⟩,
 ⟨some 40,.mov (.t 1),none⟩,
 ⟨some 41,.call 45 [(.t 38),(.t 39),(.t 40)],none⟩]
def l35_27:List COp:=[
 ⟨some 37,.mov (.t 41),none⟩,
 ⟨some 42,.extract (.t 37) 0,none⟩,
 ⟨some 43,.extract (.t 37) 1,none⟩,
 ⟨some 10,.mov (.t 42),none⟩,
 ⟨some 11,.mov (.t 43),none⟩]
def c35_28:CC:=.ops [] (l35_26++(l35_27))
def l35_29:List COp:=[
 ⟨some 12,.mov (.k (.p (.int .i64 1))),none⟩]
def c35_30:CC:=.ops [] (l35_29)
def l35_31:List COp:=[
 ⟨some 44,.mov (.t 10),none⟩,
 ⟨some 45,.len (.t 44),none⟩,
 ⟨some 46,.bin false .gtr (.t 45) (.k (.p (.int .i64 1))),none⟩]
def c35_32:CC:=.ops [] (l35_31)
def c35_33:CC:=.cond (.t 46) .skip (.exit 0)
def c35_34:CC:=.seq c35_32 c35_33
def l35_35:List COp:=[
 ⟨some 49,.mov (.t 10),none⟩,
 ⟨some 50,.mov (.t 9),none⟩,
 ⟨some 51,.mov (.t 1),none⟩,
 ⟨some 52,.call 29 [(.t 49),(.t 50),(.t 51)],none⟩]
def l35_36:List COp:=[
 ⟨some 13,.mov (.t 52),none⟩]
def c35_37:CC:=.ops [] (l35_35++(l35_36))
def l35_38:List COp:=[
 ⟨some 54,.mov (.t 10),none⟩,
 ⟨some 55,.mov (.t 13),none⟩,
 ⟨some 56,.mov (.t 1),none⟩,
 ⟨some 57,.call 45 [(.t 54),(.t 55),(.t 56)],none⟩]
def l35_39:List COp:=[
 ⟨some 53,.mov (.t 57),none⟩,
 ⟨some 58,.extract (.t 53) 0,none⟩,
 ⟨some 59,.extract (.t 53) 1,none⟩,
 ⟨some 14,.mov (.t 58),none⟩,
 ⟨some 15,.mov (.t 59),none⟩]
def c35_40:CC:=.ops [] (l35_38++(l35_39))
def l35_41:List COp:=[
 ⟨some 60,.mov (.t 14),none⟩,
 ⟨some 61,.len (.t 60),none⟩,
 ⟨some 62,.bin false .gtr (.t 61) (.k (.p (.int .i64 1))),none⟩]
def c35_42:CC:=.ops [] (l35_41)
def l35_43:List COp:=[
 ⟨some 63,.mov (.t 7),none⟩,
 ⟨some 64,.mov (.t 14),none⟩,
 ⟨some 65,.mov (.t 12),none⟩,
 ⟨some 66,.mov (.t 2),none⟩,
 ⟨some 67,.bin false .mul (.t 65) (.t 66),none⟩,
 ⟨some 68,.build [(.p (.list 3 1 [])),(.p (.int .i64 0))] [(0,1,(.t 64)),(1,1,(.t 67))],none⟩,
 ⟨some 69,.buildSlice 56 2 (.agg [(.list 3 1 []),(.int .i64 0)]) 1 [(0,(.t 68))],none⟩,
 ⟨some 70,.append 56 2 32 (.t 63) (.t 69),none⟩,
 ⟨some 7,.mov (.t 70),none⟩]
def c35_44:CC:=.ops [] (l35_43)
def c35_45:CC:=.cond (.t 62) c35_44 .skip
def c35_46:CC:=.seq c35_42 c35_45
def c35_47:CC:=.seq c35_40 c35_46
def l35_48:List COp:=[
 ⟨some 71,.mov (.t 13),none⟩,
 ⟨some 10,.mov (.t 71),none⟩]
def c35_49:CC:=.ops [] (l35_48)
def l35_50:List COp:=[
 ⟨some 73,.mov (.t 9),none⟩,
 ⟨some 74,.mov (.t 13),none⟩,
 ⟨some 75,.mov (.t 1),none⟩,
 ⟨some 76,.call 45 [(.t 73),(.t 74),(.t 75)],none⟩]
def l35_51:List COp:=[
 ⟨some 72,.mov (.t 76),none⟩,
 ⟨some 77,.extract (.t 72) 0,none⟩,
 ⟨some 78,.extract (.t 72) 1,none⟩,
 ⟨some 9,.mov (.t 77),none⟩]
def c35_52:CC:=.ops [] (l35_50++(l35_51))
def c35_53:CC:=.seq c35_49 c35_52
def c35_54:CC:=.seq c35_47 c35_53
def c35_55:CC:=.seq c35_37 c35_54
def c35_56:CC:=.block 1 c35_55
def l35_57:List COp:=[
 ⟨some 47,.mov (.t 12),none⟩,
 ⟨some 48,.bin false .add (.t 47) (.k (.p (.int .i64 1))),none⟩,
 ⟨some 12,.mov (.t 48),none⟩]
def c35_58:CC:=.ops [] (l35_57)
def c35_59:CC:=.seq c35_56 c35_58
def c35_60:CC:=.seq c35_34 c35_59
def c35_61:CC:=.loop c35_60
def c35_62:CC:=.block 0 c35_61
def c35_63:CC:=.seq c35_30 c35_62
def l35_64:List COp:=[
 ⟨some 79,.mov (.t 9),none⟩,
 ⟨some 80,.len (.t 79),none⟩,
 ⟨some 81,.bin false .gtr (.t 80) (.k (.p (.int .i64 1))),none⟩]
def c35_65:CC:=.ops [] (l35_64)
def l35_66:List COp:=[
 ⟨some 82,.mov (.t 7),none⟩,
 ⟨some 83,.mov (.t 9),none⟩,
 ⟨some 84,.mov (.t 1),none⟩,
 ⟨some 85,.call 54 [(.t 83),(.t 84)],none⟩]
def l35_67:List COp:=[
 ⟨some 86,.mov (.t 1),none⟩,
 ⟨some 87,.mov (.t 2),none⟩,
 ⟨some 88,.mov (.t 1),none⟩,
 ⟨some 89,.bin false .mul (.t 87) (.t 88),none⟩,
 ⟨some 90,.call 35 [(.t 85),(.t 86),(.t 89)],none⟩]
def l35_68:List COp:=[
 ⟨some 91,.append 56 2 32 (.t 82) (.t 90),none⟩,
 ⟨some 7,.mov (.t 91),none⟩]
def c35_69:CC:=.ops [] (l35_66++(l35_67++(l35_68)))
def c35_70:CC:=.cond (.t 81) c35_69 .skip
def c35_71:CC:=.seq c35_65 c35_70
def l35_72:List COp:=[
 ⟨some 92,.mov (.t 7),none⟩,
 ⟨some 6,.mov (.t 92),none⟩]
def c35_73:CC:=.ops [] (l35_72)
def c35_74:CC:=.seq c35_73 .ret
def c35_75:CC:=.seq c35_71 c35_74
def c35_76:CC:=.seq c35_63 c35_75
def c35_77:CC:=.seq c35_28 c35_76
def c35_78:CC:=.seq c35_25 c35_77
def c35_79:CC:=.seq c35_22 c35_78
def c35_80:CC:=.seq c35_13 c35_79
def c35_81:CC:=.seq c35_10 c35_80
def c35_82:CC:=.seq c35_3 c35_81
def c35_83:CC:=.seq c35_1 c35_82
def c35:CC:=c35_83
theorem fn35:FnOk Try.prog 35 [56] c35 [(6,none)] 93:=
 ⟨Try.f35,[],Try.func35,by kernel_rfl,by kernel_rfl,by kernel_rfl,by kernel_rfl,by kernel_rfl⟩
def l36_0:List COp:=[
 ⟨some 4,.mov (.k (.nils 3 1)),none⟩]
def c36_1:CC:=.ops [] (l36_0)
def l36_2:List COp:=[
 ⟨some 9,.mov (.t 0),none⟩,
 ⟨some 10,.len (.t 9),none⟩,
 ⟨some 11,.bin false .eql (.t 10) (.k (.p (.int .i64 0))),none⟩]
def c36_3:CC:=.ops [] (l36_2)
def l36_4:List COp:=[
 ⟨some 4,.mov (.k (.nils 3 1)),none⟩]
def c36_5:CC:=.ops [] (l36_4)
def c36_6:CC:=.seq c36_5 .ret
def c36_7:CC:=.cond (.t 11) c36_6 .skip
def c36_8:CC:=.seq c36_3 c36_7
def l36_9:List COp:=[
 ⟨some 12,.mov (.t 0),none⟩,
 ⟨some 13,.mov (.t 0),none⟩,
 ⟨some 14,.len (.t 13),none⟩,
 ⟨some 15,.bin false .sub (.t 14) (.k (.p (.int .i64 1))),none⟩,
 ⟨some 16,.indexAddr 1 (.t 12) (.t 15),none⟩,
 ⟨some 17,.load false 1 (.t 16),none⟩,
 ⟨some 18,.mov (.t 1),none⟩,
 ⟨some 19,.call 55 [(.t 17),(.t 18)],none⟩]
def l36_10:List COp:=[
 ⟨some 20,.mov (.t 0),none⟩,
 ⟨some 21,.len (.t 20),none⟩,
 ⟨some 5,.mov (.t 19),none⟩,
 ⟨some 22,.makeSlice 3 1 8 (.int .i64 0) (.t 21) (.t 21),none⟩,
 ⟨some 6,.mov (.t 22),none⟩]
def c36_11:CC:=.ops [] (l36_9++(l36_10))
def l36_12:List COp:=[
 ⟨some 23,.mov (.t 0),none⟩,
 ⟨some 24,.len (.t 23),none⟩,
 ⟨some 25,.mov (.k (.p (.int .i64 0))),none⟩]
def c36_13:CC:=.ops [] (l36_12)
def l36_14:List COp:=[
 ⟨some 26,.bin false .lss (.t 25) (.t 24),none⟩]
def c36_15:CC:=.ops [] (l36_14)
def c36_16:CC:=.cond (.t 26) .skip (.exit 0)
def l36_17:List COp:=[
 ⟨some 27,.mov (.t 25),none⟩,
 ⟨some 28,.indexAddr 1 (.t 23) (.t 25),none⟩,
 ⟨some 29,.load false 1 (.t 28),none⟩,
 ⟨some 7,.mov (.t 27),none⟩,
 ⟨some 8,.mov (.t 29),none⟩]
def c36_18:CC:=.ops [] (l36_17)
def l36_19:List COp:=[
 ⟨some 30,.mov (.t 6),none⟩,
 ⟨some 31,.mov (.t 7),none⟩,
 ⟨some 32,.mov (.t 8),none⟩,
 ⟨some 33,.mov (.t 5),none⟩,
 ⟨some 34,.bin false .mul (.t 32) (.t 33),none⟩,
 ⟨some 35,.mov (.t 1),none⟩,
 ⟨some 36,.bin false .rem (.t 34) (.t 35),none⟩,
 ⟨some 37,.indexAddr 1 (.t 30) (.t 31),none⟩,
 ⟨none,.store 1 (.t 37) (.t 36),none⟩]
def c36_20:CC:=.ops [] (l36_19)
def c36_21:CC:=.seq c36_18 c36_20
def c36_22:CC:=.block 1 c36_21
def l36_23:List COp:=[
 ⟨some 38,.bin false .add (.t 25) (.k (.p (.int .i64 1))),none⟩,
 ⟨some 25,.mov (.t 38),none⟩]
def c36_24:CC:=.ops [] (l36_23)
def c36_25:CC:=.seq c36_22 c36_24
def c36_26:CC:=.seq c36_16 c36_25
def c36_27:CC:=.seq c36_15 c36_26
def c36_28:CC:=.loop c36_27
def c36_29:CC:=.block 0 c36_28
def c36_30:CC:=.seq c36_13 c36_29
def l36_31:List COp:=[
 ⟨some 39,.mov (.t 6),none⟩,
 ⟨some 4,.mov (.t 39),none⟩]
def c36_32:CC:=.ops [] (l36_31)
def c36_33:CC:=.seq c36_32 .ret
def c36_34:CC:=.seq c36_30 c36_33
def c36_35:CC:=.seq c36_11 c36_34
def c36_36:CC:=.seq c36_8 c36_35
def c36_37:CC:=.seq c36_1 c36_36
def c36:CC:=c36_37
theorem fn36:FnOk Try.prog 36 [3] c36 [(4,none)] 40:=
 ⟨Try.f36,[⟨3,[0,1,2,3,4,5,6,7,8,9,11,10,12],[0,0,2,6,15,31,0,127,0,256,768,255,4095],[]⟩],Try.func36,by kernel_rfl,by kernel_rfl,by kernel_rfl,by kernel_rfl,by kernel_rfl⟩
def l37_0:List COp:=[
 ⟨some 4,.mov (.k (.nils 22 1)),none⟩]
def c37_1:CC:=.ops [] (l37_0)
def l37_2:List COp:=[
 ⟨some 14,.mov (.t 0),none⟩,
 ⟨some 15,.mov (.t 1),none⟩,
 ⟨some 16,.call 56 [(.t 14),(.t 15)],none⟩]
def l37_3:List COp:=[
 ⟨some 5,.mov (.t 16),none⟩]
def c37_4:CC:=.ops [] (l37_2++(l37_3))
def l37_5:List COp:=[
 ⟨some 17,.mov (.t 0),none⟩,
 ⟨some 18,.buildSlice 22 1 (.list 3 1 []) 1 [(0,(.t 17))],none⟩,
 ⟨some 6,.mov (.t 18),none⟩]
def c37_6:CC:=.ops [] (l37_5)
def l37_7:List COp:=[
 ⟨some 19,.mov (.t 5),none⟩,
 ⟨some 20,.len (.t 19),none⟩,
 ⟨some 21,.mov (.k (.p (.int .i64 0))),none⟩]
def c37_8:CC:=.ops [] (l37_7)
def l37_9:List COp:=[
 ⟨some 22,.bin false .lss (.t 21) (.t 20),none⟩]
def c37_10:CC:=.ops [] (l37_9)
def c37_11:CC:=.cond (.t 22) .skip (.exit 0)
def l37_12:List COp:=[
 ⟨some 23,.indexAddr 1 (.t 19) (.t 21),none⟩,
 ⟨some 24,.load false 1 (.t 23),none⟩,
 ⟨some 8,.mov (.t 24),none⟩]
def c37_13:CC:=.ops [] (l37_12)
def l37_14:List COp:=[
 ⟨some 9,.mov (.k (.p (.int .i64 0))),none⟩]
def c37_15:CC:=.ops [] (l37_14)
def l37_16:List COp:=[
 ⟨some 25,.mov (.t 9),none⟩,
 ⟨some 26,.mov (.t 6),none⟩,
 ⟨some 27,.len (.t 26),none⟩,
 ⟨some 28,.bin false .lss (.t 25) (.t 27),none⟩,
 ⟨some 29,.mov (.t 28),none⟩,
 ⟨some 30,.mov (.t 6),some (29,true)⟩,
 ⟨some 31,.len (.t 30),some (29,true)⟩,
 ⟨some 32,.mov (.t 5),some (29,true)⟩,
 ⟨some 33,.len (.t 32),some (29,true)⟩,
 ⟨some 34,.bin false .lss (.t 31) (.t 33),some (29,true)⟩,
 ⟨some 35,.pick (.t 29) (.t 34) (.k (.p (.bool false))),none⟩]
def c37_17:CC:=.ops [] (l37_16)
def c37_18:CC:=.cond (.t 35) .skip (.exit 2)
def c37_19:CC:=.seq c37_17 c37_18
def l37_20:List COp:=[
 ⟨some 10,.mov (.k (.p (.int .i64 0))),none⟩]
def c37_21:CC:=.ops [] (l37_20)
def l37_22:List COp:=[
 ⟨some 38,.mov (.t 10),none⟩,
 ⟨some 39,.mov (.t 1),none⟩,
 ⟨some 40,.bin false .lss (.t 38) (.t 39),none⟩,
 ⟨some 41,.mov (.t 40),none⟩,
 ⟨some 42,.mov (.t 6),some (41,true)⟩,
 ⟨some 43,.len (.t 42),some (41,true)⟩,
 ⟨some 44,.mov (.t 5),some (41,true)⟩,
 ⟨some 45,.len (.t 44),some (41,true)⟩,
 ⟨some 46,.bin false .lss (.t 43) (.t 45),some (41,true)⟩,
 ⟨some 47,.pick (.t 41) (.t 46) (.k (.p (.bool false))),none⟩,
 ⟨some 48,.mov (.t 47),none⟩,
 ⟨some 49,.mov (.t 6),some (48,true)⟩,
 ⟨some 50,.mov (.t 9),some (48,true)⟩,
 ⟨some 51,.indexAddr 1 (.t 49) (.t 50),some (48,true)⟩,
 ⟨some 52,.load false 1 (.t 51),some (48,true)⟩,
 ⟨some 53,.len (.t 52),some (48,true)⟩,
 ⟨some 54,.bin false .gtr (.t 53) (.k (.p (.int .i64 2))),some (48,true)⟩,
 ⟨some 55,.pick (.t 48) (.t 54) (.k (.p (.bool false))),none⟩]
def c37_23:CC:=.ops [] (l37_22)
def c37_24:CC:=.cond (.t 55) .skip (.exit 4)
def c37_25:CC:=.seq c37_23 c37_24
def l37_26:List COp:=[
 ⟨some 58,.mov (.t 6),none⟩,
 ⟨some 59,.mov (.t 9),none⟩,
 ⟨some 60,.indexAddr 1 (.t 58) (.t 59),none⟩,
 ⟨some 61,.load false 1 (.t 60),none⟩,
 ⟨some 62,.mov (.t 8),none⟩,
 ⟨some 63,.mov (.t 10),none⟩,
 ⟨some 65,.mov (.t 10),none⟩,
 ⟨some 66,.mm false (.t 65) (.k (.p (.int .i64 1))),none⟩,
 ⟨some 68,.mov (.t 1),none⟩,
 ⟨some 70,.mov (.t 1),none⟩,
 ⟨some 64,.buildSliceF 3 1 (.int .i64 0) 1 [(0,(.t 63))],none⟩,
 ⟨some 67,.slice 1 (.t 64) none (some (.t 66)) none,none⟩,
 ⟨some 69,.call 57 [(.t 62),(.t 67),(.t 68)],none⟩]
def l37_27:List COp:=[
 ⟨some 71,.call 29 [(.t 61),(.t 69),(.t 70)],none⟩]
def l37_28:List COp:=[
 ⟨some 11,.mov (.t 71),none⟩]
def c37_29:CC:=.ops [] (l37_26++(l37_27++(l37_28)))
def l37_30:List COp:=[
 ⟨some 72,.mov (.t 11),none⟩,
 ⟨some 73,.len (.t 72),none⟩,
 ⟨some 74,.bin false .gtr (.t 73) (.k (.p (.int .i64 1))),none⟩,
 ⟨some 75,.mov (.t 74),none⟩,
 ⟨some 76,.mov (.t 11),some (75,true)⟩,
 ⟨some 77,.len (.t 76),some (75,true)⟩,
 ⟨some 78,.mov (.t 6),some (75,true)⟩,
 ⟨some 79,.mov (.t 9),some (75,true)⟩,
 ⟨some 80,.indexAddr 1 (.t 78) (.t 79),some (75,true)⟩,
 ⟨some 81,.load false 1 (.t 80),some (75,true)⟩,
 ⟨some 82,.len (.t 81),some (75,true)⟩,
 ⟨some 83,.bin false .lss (.t 77) (.t 82),some (75,true)⟩,
 ⟨some 84,.pick (.t 75) (.t 83) (.k (.p (.bool false))),none⟩]
def c37_31:CC:=.ops [] (l37_30)
def l37_32:List COp:=[
 ⟨some 86,.mov (.t 6),none⟩,
 ⟨some 87,.mov (.t 9),none⟩,
 ⟨some 88,.indexAddr 1 (.t 86) (.t 87),none⟩,
 ⟨some 89,.load false 1 (.t 88),none⟩,
 ⟨some 90,.mov (.t 11),none⟩,
 ⟨some 91,.mov (.t 1),none⟩,
 ⟨some 92,.call 45 [(.t 89),(.t 90),(.t 91)],none⟩]
def l37_33:List COp:=[
 ⟨some 85,.mov (.t 92),none⟩,
 ⟨some 93,.extract (.t 85) 0,none⟩,
 ⟨some 94,.extract (.t 85) 1,none⟩,
 ⟨some 12,.mov (.t 93),none⟩,
 ⟨some 13,.mov (.t 94),none⟩]
def c37_34:CC:=.ops [] (l37_32++(l37_33))
def l37_35:List COp:=[
 ⟨some 95,.mov (.t 6),none⟩,
 ⟨some 96,.mov (.t 9),none⟩,
 ⟨some 97,.mov (.t 12),none⟩,
 ⟨some 98,.indexAddr 1 (.t 95) (.t 96),none⟩,
 ⟨none,.store 1 (.t 98) (.t 97),none⟩]
def c37_36:CC:=.ops [] (l37_35)
def l37_37:List COp:=[
 ⟨some 99,.mov (.t 6),none⟩,
 ⟨some 100,.mov (.t 11),none⟩,
 ⟨some 101,.buildSlice 22 1 (.list 3 1 []) 1 [(0,(.t 100))],none⟩,
 ⟨some 102,.append 22 1 24 (.t 99) (.t 101),none⟩,
 ⟨some 6,.mov (.t 102),none⟩]
def c37_38:CC:=.ops [] (l37_37)
def c37_39:CC:=.seq c37_36 c37_38
def c37_40:CC:=.seq c37_34 c37_39
def c37_41:CC:=.cond (.t 84) c37_40 .skip
def c37_42:CC:=.seq c37_31 c37_41
def c37_43:CC:=.seq c37_29 c37_42
def c37_44:CC:=.block 5 c37_43
def l37_45:List COp:=[
 ⟨some 56,.mov (.t 10),none⟩,
 ⟨some 57,.bin false .add (.t 56) (.k (.p (.int .i64 1))),none⟩,
 ⟨some 10,.mov (.t 57),none⟩]
def c37_46:CC:=.ops [] (l37_45)
def c37_47:CC:=.seq c37_44 c37_46
def c37_48:CC:=.seq c37_25 c37_47
def c37_49:CC:=.loop c37_48
def c37_50:CC:=.block 4 c37_49
def c37_51:CC:=.seq c37_21 c37_50
def c37_52:CC:=.block 3 c37_51
def l37_53:List COp:=[
 ⟨some 36,.mov (.t 9),none⟩,
 ⟨some 37,.bin false .add (.t 36) (.k (.p (.int .i64 1))),none⟩,
 ⟨some 9,.mov (.t 37),none⟩]
def c37_54:CC:=.ops [] (l37_53)
def c37_55:CC:=.seq c37_52 c37_54
def c37_56:CC:=.seq c37_19 c37_55
def c37_57:CC:=.loop c37_56
def c37_58:CC:=.block 2 c37_57
def c37_59:CC:=.seq c37_15 c37_58
def c37_60:CC:=.seq c37_13 c37_59
def c37_61:CC:=.block 1 c37_60
def l37_62:List COp:=[
 ⟨some 103,.bin false .add (.t 21) (.k (.p (.int .i64 1))),none⟩,
 ⟨some 21,.mov (.t 103),none⟩]
def c37_63:CC:=.ops [] (l37_62)
def c37_64:CC:=.seq c37_61 c37_63
def c37_65:CC:=.seq c37_11 c37_64
def c37_66:CC:=.seq c37_10 c37_65
def c37_67:CC:=.loop c37_66
def c37_68:CC:=.block 0 c37_67
def c37_69:CC:=.seq c37_8 c37_68
def l37_70:List COp:=[
 ⟨some 104,.mov (.t 6),none⟩,
 ⟨some 4,.mov (.t 104),none⟩]
def c37_71:CC:=.ops [] (l37_70)
def c37_72:CC:=.seq c37_71 .ret
def c37_73:CC:=.seq c37_69 c37_72
def c37_74:CC:=.seq c37_6 c37_73
def c37_75:CC:=.seq c37_4 c37_74
def c37_76:CC:=.seq c37_1 c37_75
def c37:CC:=c37_76
theorem fn37:FnOk Try.prog 37 [22,3,2000064] c37 [(4,none)] 105:=
 ⟨Try.f37,[⟨12,[0,1,2,3,4,5,7,8,10,12,6,9,11,13,14],[0,0,3,7,0,0,32,0,128,480,0,2032,0,8191,16383],[]⟩],Try.func37,by kernel_rfl,by kernel_rfl,by kernel_rfl,by kernel_rfl,by kernel_rfl⟩
def l38_0:List COp:=[
 ⟨some 2,.mov (.k (.nils 3 1)),none⟩]
def c38_1:CC:=.ops [] (l38_0)
def l38_2:List COp:=[
 ⟨some 3,.mov (.t 0),none⟩,
 ⟨some 4,.isNil false (.t 3),none⟩]
def c38_3:CC:=.ops [] (l38_2)
def l38_4:List COp:=[
 ⟨some 2,.mov (.k (.nils 3 1)),none⟩]
def c38_5:CC:=.ops [] (l38_4)
def c38_6:CC:=.seq c38_5 .ret
def c38_7:CC:=.cond (.t 4) c38_6 .skip
def c38_8:CC:=.seq c38_3 c38_7
def l38_9:List COp:=[
 ⟨some 5,.buildSlice 3 1 (.int .i64 0) 0 [],none⟩,
 ⟨some 6,.mov (.t 0),none⟩,
 ⟨some 7,.append 3 1 8 (.t 5) (.t 6),none⟩,
 ⟨some 2,.mov (.t 7),none⟩]
def c38_10:CC:=.ops [] (l38_9)
def c38_11:CC:=.seq c38_10 .ret
def c38_12:CC:=.seq c38_8 c38_11
def c38_13:CC:=.seq c38_1 c38_12
def c38:CC:=c38_13
theorem fn38:FnOk Try.prog 38 [3] c38 [(2,none)] 8:=
 ⟨Try.f38,[],Try.func38,by kernel_rfl,by kernel_rfl,by kernel_rfl,by kernel_rfl,by kernel_rfl⟩
def l39_0:List COp:=[
 ⟨some 5,.mov (.t 0),none⟩,
 ⟨some 6,.len (.t 5),none⟩,
 ⟨some 4,.mov (.t 6),none⟩]
def c39_1:CC:=.ops [] (l39_0)
def l39_2:List COp:=[
 ⟨some 7,.mov (.t 0),none⟩,
 ⟨some 8,.mov (.t 4),none⟩,
 ⟨some 9,.mov (.t 4),none⟩,
 ⟨some 10,.conv .u64 (.t 9),none⟩,
 ⟨some 11,.call 59 [(.t 10)],none⟩]
def l39_3:List COp:=[
 ⟨some 12,.mov (.t 1),none⟩,
 ⟨some 13,.callL 58 0 [(.t 7),(.k (.p (.int .i64 0))),(.t 8),(.t 11),(.t 12)],none⟩]
def c39_4:CC:=.ops [] (l39_2++(l39_3))
def c39_5:CC:=.seq c39_1 c39_4
def c39:CC:=c39_5
theorem fn39:FnOk Try.prog 39 [4000464,36] c39 [] 14:=
 ⟨Try.f39,[],Try.func39,by kernel_rfl,by kernel_rfl,by kernel_rfl,by kernel_rfl,by kernel_rfl⟩
def l42_0:List COp:=[
 ⟨some 6,.mov (.k (.nils 3 1)),none⟩]
def c42_1:CC:=.ops [] (l42_0)
def l42_2:List COp:=[
 ⟨some 12,.mov (.t 0),none⟩,
 ⟨some 13,.len (.t 12),none⟩,
 ⟨some 14,.bin false .eql (.t 13) (.k (.p (.int .i64 0))),none⟩,
 ⟨some 15,.mov (.t 14),none⟩,
 ⟨some 16,.mov (.t 1),some (15,false)⟩,
 ⟨some 17,.len (.t 16),some (15,false)⟩,
 ⟨some 18,.bin false .eql (.t 17) (.k (.p (.int .i64 0))),some (15,false)⟩,
 ⟨some 19,.pick (.t 15) (.k (.p (.bool true))) (.t 18),none⟩]
def c42_3:CC:=.ops [] (l42_2)
def l42_4:List COp:=[
 ⟨some 6,.mov (.k (.nils 3 1)),none⟩]
def c42_5:CC:=.ops [] (l42_4)
def c42_6:CC:=.seq c42_5 .ret
def c42_7:CC:=.cond (.t 19) c42_6 .skip
def c42_8:CC:=.seq c42_3 c42_7
def l42_9:List COp:=[
 ⟨some 20,.mov (.t 0),none⟩,
 ⟨some 21,.len (.t 20),none⟩,
 ⟨some 22,.mov (.t 1),none⟩,
 ⟨some 23,.len (.t 22),none⟩,
 ⟨some 24,.bin false .add (.t 21) (.t 23),none⟩,
 ⟨some 25,.bin false .sub (.t 24) (.k (.p (.int .i64 1))),none⟩,
 ⟨some 26,.makeSlice 3 1 8 (.int .i64 0) (.t 25) (.t 25),none⟩,
 ⟨some 7,.mov (.t 26),none⟩]
def c42_10:CC:=.ops [] (l42_9)
def l42_11:List COp:=[
 ⟨some 27,.mov (.t 0),none⟩,
 ⟨some 28,.len (.t 27),none⟩,
 ⟨some 29,.mov (.k (.p (.int .i64 0))),none⟩]
def c42_12:CC:=.ops [] (l42_11)
def l42_13:List COp:=[
 ⟨some 30,.bin false .lss (.t 29) (.t 28),none⟩]
def c42_14:CC:=.ops [] (l42_13)
def c42_15:CC:=.cond (.t 30) .skip (.exit 0)
def l42_16:List COp:=[
 ⟨some 31,.mov (.t 29),none⟩,
 ⟨some 32,.indexAddr 1 (.t 27) (.t 29),none⟩,
 ⟨some 33,.load false 1 (.t 32),none⟩,
 ⟨some 8,.mov (.t 31),none⟩,
 ⟨some 9,.mov (.t 33),none⟩]
def c42_17:CC:=.ops [] (l42_16)
def l42_18:List COp:=[
 ⟨some 34,.mov (.t 1),none⟩,
 ⟨some 35,.len (.t 34),none⟩,
 ⟨some 36,.mov (.k (.p (.int .i64 0))),none⟩]
def c42_19:CC:=.ops [] (l42_18)
def l42_20:List COp:=[
 ⟨some 37,.bin false .lss (.t 36) (.t 35),none⟩]
def c42_21:CC:=.ops [] (l42_20)
def c42_22:CC:=.cond (.t 37) .skip (.exit 2)
def l42_23:List COp:=[
 ⟨some 38,.mov (.t 36),none⟩,
 ⟨some 39,.indexAddr 1 (.t 34) (.t 36),none⟩,
 ⟨some 40,.load false 1 (.t 39),none⟩,
 ⟨some 10,.mov (.t 38),none⟩,
 ⟨some 11,.mov (.t 40),none⟩]
def c42_24:CC:=.ops [] (l42_23)
def l42_25:List COp:=[
 ⟨some 41,.mov (.t 7),none⟩,
 ⟨some 42,.mov (.t 8),none⟩,
 ⟨some 43,.mov (.t 10),none⟩,
 ⟨some 44,.bin false .add (.t 42) (.t 43),none⟩,
 ⟨some 45,.mov (.t 7),none⟩,
 ⟨some 46,.mov (.t 8),none⟩,
 ⟨some 47,.mov (.t 10),none⟩,
 ⟨some 48,.bin false .add (.t 46) (.t 47),none⟩,
 ⟨some 49,.indexAddr 1 (.t 45) (.t 48),none⟩,
 ⟨some 50,.load false 1 (.t 49),none⟩,
 ⟨some 51,.mov (.t 9),none⟩,
 ⟨some 52,.mov (.t 11),none⟩,
 ⟨some 53,.bin false .mul (.t 51) (.t 52),none⟩,
 ⟨some 54,.bin false .add (.t 50) (.t 53),none⟩,
 ⟨some 55,.mov (.t 2),none⟩,
 ⟨some 56,.bin false .rem (.t 54) (.t 55),none⟩,
 ⟨some 57,.indexAddr 1 (.t 41) (.t 44),none⟩,
 ⟨none,.store 1 (.t 57) (.t 56),none⟩]
def c42_26:CC:=.ops [] (l42_25)
def c42_27:CC:=.seq c42_24 c42_26
def c42_28:CC:=.block 3 c42_27
def l42_29:List COp:=[
 ⟨some 58,.bin false .add (.t 36) (.k (.p (.int .i64 1))),none⟩,
 ⟨some 36,.mov (.t 58),none⟩]
def c42_30:CC:=.ops [] (l42_29)
def c42_31:CC:=.seq c42_28 c42_30
def c42_32:CC:=.seq c42_22 c42_31
def c42_33:CC:=.seq c42_21 c42_32
def c42_34:CC:=.loop c42_33
def c42_35:CC:=.block 2 c42_34
def c42_36:CC:=.seq c42_19 c42_35
def c42_37:CC:=.seq c42_17 c42_36
def c42_38:CC:=.block 1 c42_37
def l42_39:List COp:=[
 ⟨some 59,.bin false .add (.t 29) (.k (.p (.int .i64 1))),none⟩,
 ⟨some 29,.mov (.t 59),none⟩]
def c42_40:CC:=.ops [] (l42_39)
def c42_41:CC:=.seq c42_38 c42_40
def c42_42:CC:=.seq c42_15 c42_41
def c42_43:CC:=.seq c42_14 c42_42
def c42_44:CC:=.loop c42_43
def c42_45:CC:=.block 0 c42_44
def c42_46:CC:=.seq c42_12 c42_45
def l42_47:List COp:=[
 ⟨some 60,.mov (.t 7),none⟩,
 ⟨some 61,.call 61 [(.t 60)],none⟩]
def l42_48:List COp:=[
 ⟨some 6,.mov (.t 61),none⟩]
def c42_49:CC:=.ops [] (l42_47++(l42_48))
def c42_50:CC:=.seq c42_49 .ret
def c42_51:CC:=.seq c42_46 c42_50
def c42_52:CC:=.seq c42_10 c42_51
def c42_53:CC:=.seq c42_8 c42_52
def c42_54:CC:=.seq c42_1 c42_53
def c42:CC:=c42_54
theorem fn42:FnOk Try.prog 42 [3] c42 [(6,none)] 62:=
 ⟨Try.f42,[],Try.func42,by kernel_rfl,by kernel_rfl,by kernel_rfl,by kernel_rfl,by kernel_rfl⟩
def l29_0:List COp:=[
 ⟨some 6,.mov (.k (.nils 3 1)),none⟩]
def c29_1:CC:=.ops [] (l29_0)
def l29_2:List COp:=[
 ⟨some 9,.mov (.t 1),none⟩,
 ⟨some 10,.len (.t 9),none⟩,
 ⟨some 11,.bin false .gtr (.t 10) (.k (.p (.int .i64 0))),none⟩]
def c29_3:CC:=.ops [] (l29_2)
def c29_4:CC:=.cond (.t 11) .skip (.exit 0)
def c29_5:CC:=.seq c29_3 c29_4
def l29_6:List COp:=[
 ⟨some 13,.mov (.t 0),none⟩,
 ⟨some 14,.mov (.t 1),none⟩,
 ⟨some 15,.mov (.t 2),none⟩,
 ⟨some 16,.call 45 [(.t 13),(.t 14),(.t 15)],none⟩]
def l29_7:List COp:=[
 ⟨some 12,.mov (.t 16),none⟩,
 ⟨some 17,.extract (.t 12) 0,none⟩,
 ⟨some 18,.extract (.t 12) 1,none⟩,
 ⟨some 7,.mov (.t 17),none⟩,
 ⟨some 8,.mov (.t 18),none⟩]
def c29_8:CC:=.ops [] (l29_6++(l29_7))
def l29_9:List COp:=[
 ⟨some 19,.mov (.t 1),none⟩,
 ⟨some 20,.mov (.t 8),none⟩,
 ⟨some 0,.mov (.t 19),none⟩,
 ⟨some 1,.mov (.t 20),none⟩]
def c29_10:CC:=.ops [] (l29_9)
def c29_11:CC:=.seq c29_8 c29_10
def c29_12:CC:=.block 1 c29_11
def c29_13:CC:=.seq c29_5 c29_12
def c29_14:CC:=.loop c29_13
def c29_15:CC:=.block 0 c29_14
def l29_16:List COp:=[
 ⟨some 21,.mov (.t 0),none⟩,
 ⟨some 22,.mov (.t 2),none⟩,
 ⟨some 23,.call 36 [(.t 21),(.t 22)],none⟩]
def l29_17:List COp:=[
 ⟨some 6,.mov (.t 23),none⟩]
def c29_18:CC:=.ops [] (l29_16++(l29_17))
def c29_19:CC:=.seq c29_18 .ret
def c29_20:CC:=.seq c29_15 c29_19
def c29_21:CC:=.seq c29_1 c29_20
def c29:CC:=c29_21
theorem fn29:FnOk Try.prog 29 [] c29 [(6,none)] 24:=
 ⟨Try.f29,[],Try.func29,by kernel_rfl,by kernel_rfl,by kernel_rfl,by kernel_rfl,by kernel_rfl⟩
def l44_0:List COp:=[
 ⟨some 8,.mov (.k (.nils 3 1)),none⟩]
def c44_1:CC:=.ops [] (l44_0)
def l44_2:List COp:=[
 ⟨some 12,.buildSliceF 3 1 (.int .i64 0) 1 [(0,(.k (.p (.int .i64 1))))],none⟩,
 ⟨some 13,.mov (.t 2),none⟩,
 ⟨some 14,.mov (.t 3),none⟩,
 ⟨some 15,.call 45 [(.t 12),(.t 13),(.t 14)],none⟩]
def l44_3:List COp:=[
 ⟨some 11,.mov (.t 15),none⟩,
 ⟨some 16,.extract (.t 11) 0,none⟩,
 ⟨some 17,.extract (.t 11) 1,none⟩,
 ⟨some 9,.mov (.t 16),none⟩,
 ⟨some 10,.mov (.t 17),none⟩]
def c44_4:CC:=.ops [] (l44_2++(l44_3))
def l44_5:List COp:=[
 ⟨some 19,.mov (.t 0),none⟩,
 ⟨some 20,.mov (.t 2),none⟩,
 ⟨some 21,.mov (.t 3),none⟩,
 ⟨some 22,.call 45 [(.t 19),(.t 20),(.t 21)],none⟩]
def l44_6:List COp:=[
 ⟨some 18,.mov (.t 22),none⟩,
 ⟨some 23,.extract (.t 18) 0,none⟩,
 ⟨some 24,.extract (.t 18) 1,none⟩,
 ⟨some 0,.mov (.t 24),none⟩]
def c44_7:CC:=.ops [] (l44_5++(l44_6))
def l44_8:List COp:=[
 ⟨some 25,.mov (.t 1),none⟩,
 ⟨some 26,.bin false .gtr (.t 25) (.k (.p (.int .i64 0))),none⟩]
def c44_9:CC:=.ops [] (l44_8)
def c44_10:CC:=.cond (.t 26) .skip (.exit 0)
def c44_11:CC:=.seq c44_9 c44_10
def l44_12:List COp:=[
 ⟨some 29,.mov (.t 1),none⟩,
 ⟨some 30,.bin false .and (.t 29) (.k (.p (.int .i64 1))),none⟩,
 ⟨some 31,.bin false .eql (.t 30) (.k (.p (.int .i64 1))),none⟩]
def c44_13:CC:=.ops [] (l44_12)
def l44_14:List COp:=[
 ⟨some 33,.mov (.t 10),none⟩,
 ⟨some 34,.mov (.t 0),none⟩,
 ⟨some 35,.mov (.t 3),none⟩,
 ⟨some 36,.call 42 [(.t 33),(.t 34),(.t 35)],none⟩]
def l44_15:List COp:=[
 ⟨some 37,.mov (.t 2),none⟩,
 ⟨some 38,.mov (.t 3),none⟩,
 ⟨some 39,.call 45 [(.t 36),(.t 37),(.t 38)],none⟩]
def l44_16:List COp:=[
 ⟨some 32,.mov (.t 39),none⟩,
 ⟨some 40,.extract (.t 32) 0,none⟩,
 ⟨some 41,.extract (.t 32) 1,none⟩,
 ⟨some 10,.mov (.t 41),none⟩]
def c44_17:CC:=.ops [] (l44_14++(l44_15++(l44_16)))
def c44_18:CC:=.cond (.t 31) c44_17 .skip
def c44_19:CC:=.seq c44_13 c44_18
def l44_20:List COp:=[
 ⟨some 43,.mov (.t 0),none⟩,
 ⟨some 44,.mov (.t 0),none⟩,
 ⟨some 45,.mov (.t 3),none⟩,
 ⟨some 46,.call 42 [(.t 43),(.t 44),(.t 45)],none⟩]
def l44_21:List COp:=[
 ⟨some 47,.mov (.t 2),none⟩,
 ⟨some 48,.mov (.t 3),none⟩,
 ⟨some 49,.call 45 [(.t 46),(.t 47),(.t 48)],none⟩]
def l44_22:List COp:=[
 ⟨some 42,.mov (.t 49),none⟩,
 ⟨some 50,.extract (.t 42) 0,none⟩,
 ⟨some 51,.extract (.t 42) 1,none⟩,
 ⟨some 0,.mov (.t 51),none⟩]
def c44_23:CC:=.ops [] (l44_20++(l44_21++(l44_22)))
def c44_24:CC:=.seq c44_19 c44_23
def c44_25:CC:=.block 1 c44_24
def l44_26:List COp:=[
 ⟨some 27,.mov (.t 1),none⟩,
 ⟨some 28,.bin false .shr (.t 27) (.k (.p (.int .u64 1))),none⟩,
 ⟨some 1,.mov (.t 28),none⟩]
def c44_27:CC:=.ops [] (l44_26)
def c44_28:CC:=.seq c44_25 c44_27
def c44_29:CC:=.seq c44_11 c44_28
def c44_30:CC:=.loop c44_29
def c44_31:CC:=.block 0 c44_30
def l44_32:List COp:=[
 ⟨some 52,.mov (.t 10),none⟩,
 ⟨some 8,.mov (.t 52),none⟩]
def c44_33:CC:=.ops [] (l44_32)
def c44_34:CC:=.seq c44_33 .ret
def c44_35:CC:=.seq c44_31 c44_34
def c44_36:CC:=.seq c44_7 c44_35
def c44_37:CC:=.seq c44_4 c44_36
def c44_38:CC:=.seq c44_1 c44_37
def c44:CC:=c44_38
theorem fn44:FnOk Try.prog 44 [3,2000012] c44 [(8,none)] 53:=
 ⟨Try.f44,[],Try.func44,by kernel_rfl,by kernel_rfl,by kernel_rfl,by kernel_rfl,by kernel_rfl⟩
def l45_0:List COp:=[
 ⟨some 6,.mov (.k (.nils 3 1)),none⟩,
 ⟨some 7,.mov (.k (.nils 3 1)),none⟩]
def c45_1:CC:=.ops [] (l45_0)
def l45_2:List COp:=[
 ⟨some 15,.mov (.t 0),none⟩,
 ⟨some 16,.callN 38 3 [(.t 15)],none⟩]
def l45_3:List COp:=[
 ⟨some 8,.mov (.t 16),none⟩]
def c45_4:CC:=.ops [] (l45_2++(l45_3))
def l45_5:List COp:=[
 ⟨some 17,.mov (.t 0),none⟩,
 ⟨some 18,.len (.t 17),none⟩,
 ⟨some 19,.mov (.t 1),none⟩,
 ⟨some 20,.len (.t 19),none⟩,
 ⟨some 21,.bin false .lss (.t 18) (.t 20),none⟩]
def c45_6:CC:=.ops [] (l45_5)
def l45_7:List COp:=[
 ⟨some 22,.mov (.t 8),none⟩,
 ⟨some 6,.mov (.k (.nils 3 1)),none⟩,
 ⟨some 7,.mov (.t 22),none⟩]
def c45_8:CC:=.ops [] (l45_7)
def c45_9:CC:=.seq c45_8 .ret
def c45_10:CC:=.cond (.t 21) c45_9 .skip
def c45_11:CC:=.seq c45_6 c45_10
def l45_12:List COp:=[
 ⟨some 23,.mov (.t 0),none⟩,
 ⟨some 24,.len (.t 23),none⟩,
 ⟨some 25,.mov (.t 1),none⟩,
 ⟨some 26,.len (.t 25),none⟩,
 ⟨some 27,.bin false .sub (.t 24) (.t 26),none⟩,
 ⟨some 28,.bin false .add (.t 27) (.k (.p (.int .i64 1))),none⟩,
 ⟨some 29,.makeSlice 3 1 8 (.int .i64 0) (.t 28) (.t 28),none⟩,
 ⟨some 9,.mov (.t 29),none⟩]
def c45_13:CC:=.ops [] (l45_12)
def l45_14:List COp:=[
 ⟨some 30,.mov (.t 1),none⟩,
 ⟨some 31,.mov (.t 1),none⟩,
 ⟨some 32,.len (.t 31),none⟩,
 ⟨some 33,.bin false .sub (.t 32) (.k (.p (.int .i64 1))),none⟩,
 ⟨some 34,.indexAddr 1 (.t 30) (.t 33),none⟩,
 ⟨some 35,.load false 1 (.t 34),none⟩,
 ⟨some 36,.mov (.t 2),none⟩,
 ⟨some 37,.call 55 [(.t 35),(.t 36)],none⟩]
def l45_15:List COp:=[
 ⟨some 10,.mov (.t 37),none⟩]
def c45_16:CC:=.ops [] (l45_14++(l45_15))
def l45_17:List COp:=[
 ⟨some 38,.mov (.t 9),none⟩,
 ⟨some 39,.len (.t 38),none⟩,
 ⟨some 40,.bin false .sub (.t 39) (.k (.p (.int .i64 1))),none⟩,
 ⟨some 11,.mov (.t 40),none⟩]
def c45_18:CC:=.ops [] (l45_17)
def l45_19:List COp:=[
 ⟨some 41,.mov (.t 11),none⟩,
 ⟨some 42,.bin false .geq (.t 41) (.k (.p (.int .i64 0))),none⟩]
def c45_20:CC:=.ops [] (l45_19)
def c45_21:CC:=.cond (.t 42) .skip (.exit 0)
def c45_22:CC:=.seq c45_20 c45_21
def l45_23:List COp:=[
 ⟨some 45,.mov (.t 8),none⟩,
 ⟨some 46,.mov (.t 11),none⟩,
 ⟨some 47,.mov (.t 1),none⟩,
 ⟨some 48,.len (.t 47),none⟩,
 ⟨some 49,.bin false .add (.t 46) (.t 48),none⟩,
 ⟨some 50,.bin false .sub (.t 49) (.k (.p (.int .i64 1))),none⟩,
 ⟨some 51,.indexAddr 1 (.t 45) (.t 50),none⟩,
 ⟨some 52,.load false 1 (.t 51),none⟩,
 ⟨some 53,.mov (.t 10),none⟩,
 ⟨some 54,.bin false .mul (.t 52) (.t 53),none⟩,
 ⟨some 55,.mov (.t 2),none⟩,
 ⟨some 56,.bin false .rem (.t 54) (.t 55),none⟩,
 ⟨some 12,.mov (.t 56),none⟩]
def c45_24:CC:=.ops [] (l45_23)
def l45_25:List COp:=[
 ⟨some 57,.mov (.t 9),none⟩,
 ⟨some 58,.mov (.t 11),none⟩,
 ⟨some 59,.mov (.t 12),none⟩,
 ⟨some 60,.indexAddr 1 (.t 57) (.t 58),none⟩,
 ⟨none,.store 1 (.t 60) (.t 59),none⟩]
def c45_26:CC:=.ops [] (l45_25)
def l45_27:List COp:=[
 ⟨some 61,.mov (.t 1),none⟩,
 ⟨some 62,.len (.t 61),none⟩,
 ⟨some 63,.mov (.k (.p (.int .i64 0))),none⟩]
def c45_28:CC:=.ops [] (l45_27)
def l45_29:List COp:=[
 ⟨some 64,.bin false .lss (.t 63) (.t 62),none⟩]
def c45_30:CC:=.ops [] (l45_29)
def c45_31:CC:=.cond (.t 64) .skip (.exit 2)
def l45_32:List COp:=[
 ⟨some 65,.mov (.t 63),none⟩,
 ⟨some 66,.indexAddr 1 (.t 61) (.t 63),none⟩,
 ⟨some 67,.load false 1 (.t 66),none⟩,
 ⟨some 13,.mov (.t 65),none⟩,
 ⟨some 14,.mov (.t 67),none⟩]
def c45_33:CC:=.ops [] (l45_32)
def l45_34:List COp:=[
 ⟨some 68,.mov (.t 8),none⟩,
 ⟨some 69,.mov (.t 11),none⟩,
 ⟨some 70,.mov (.t 13),none⟩,
 ⟨some 71,.bin false .add (.t 69) (.t 70),none⟩,
 ⟨some 72,.mov (.t 8),none⟩,
 ⟨some 73,.mov (.t 11),none⟩,
 ⟨some 74,.mov (.t 13),none⟩,
 ⟨some 75,.bin false .add (.t 73) (.t 74),none⟩,
 ⟨some 76,.indexAddr 1 (.t 72) (.t 75),none⟩,
 ⟨some 77,.load false 1 (.t 76),none⟩,
 ⟨some 78,.mov (.t 2),none⟩,
 ⟨some 79,.mov (.t 12),none⟩,
 ⟨some 80,.bin false .sub (.t 78) (.t 79),none⟩,
 ⟨some 81,.mov (.t 14),none⟩,
 ⟨some 82,.bin false .mul (.t 80) (.t 81),none⟩,
 ⟨some 83,.bin false .add (.t 77) (.t 82),none⟩,
 ⟨some 84,.mov (.t 2),none⟩,
 ⟨some 85,.bin false .rem (.t 83) (.t 84),none⟩,
 ⟨some 86,.indexAddr 1 (.t 68) (.t 71),none⟩,
 ⟨none,.store 1 (.t 86) (.t 85),none⟩]
def c45_35:CC:=.ops [] (l45_34)
def c45_36:CC:=.seq c45_33 c45_35
def c45_37:CC:=.block 3 c45_36
def l45_38:List COp:=[
 ⟨some 87,.bin false .add (.t 63) (.k (.p (.int .i64 1))),none⟩,
 ⟨some 63,.mov (.t 87),none⟩]
def c45_39:CC:=.ops [] (l45_38)
def c45_40:CC:=.seq c45_37 c45_39
def c45_41:CC:=.seq c45_31 c45_40
def c45_42:CC:=.seq c45_30 c45_41
def c45_43:CC:=.loop c45_42
def c45_44:CC:=.block 2 c45_43
def c45_45:CC:=.seq c45_28 c45_44
def c45_46:CC:=.seq c45_26 c45_45
def c45_47:CC:=.seq c45_24 c45_46
def c45_48:CC:=.block 1 c45_47
def l45_49:List COp:=[
 ⟨some 43,.mov (.t 11),none⟩,
 ⟨some 44,.bin false .sub (.t 43) (.k (.p (.int .i64 1))),none⟩,
 ⟨some 11,.mov (.t 44),none⟩]
def c45_50:CC:=.ops [] (l45_49)
def c45_51:CC:=.seq c45_48 c45_50
def c45_52:CC:=.seq c45_22 c45_51
def c45_53:CC:=.loop c45_52
def c45_54:CC:=.block 0 c45_53
def c45_55:CC:=.seq c45_18 c45_54
def l45_56:List COp:=[
 ⟨some 88,.mov (.t 9),none⟩,
 ⟨some 89,.call 61 [(.t 88)],none⟩]
def l45_57:List COp:=[
 ⟨some 90,.mov (.t 8),none⟩,
 ⟨some 91,.call 61 [(.t 90)],none⟩]
def l45_58:List COp:=[
 ⟨some 6,.mov (.t 89),none⟩,
 ⟨some 7,.mov (.t 91),none⟩]
def c45_59:CC:=.ops [] (l45_56++(l45_57++(l45_58)))
def c45_60:CC:=.seq c45_59 .ret
def c45_61:CC:=.seq c45_55 c45_60
def c45_62:CC:=.seq c45_16 c45_61
def c45_63:CC:=.seq c45_13 c45_62
def c45_64:CC:=.seq c45_11 c45_63
def c45_65:CC:=.seq c45_4 c45_64
def c45_66:CC:=.seq c45_1 c45_65
def c45:CC:=c45_66
theorem fn45:FnOk Try.prog 45 [6155651,3] c45 [(6,none),(7,none)] 92:=
 ⟨Try.f45,[],Try.func45,by kernel_rfl,by kernel_rfl,by kernel_rfl,by kernel_rfl,by kernel_rfl⟩
def l46_0:List COp:=[
 ⟨some 2,.mov (.k (.p (.bool false))),none⟩]
def c46_1:CC:=.ops [] (l46_0)
def l46_2:List COp:=[
 ⟨some 4,.mov (.t 0),none⟩,
 ⟨some 5,.bin false .lss (.t 4) (.k (.p (.int .i64 2))),none⟩,
 ⟨some 6,.mov (.t 5),none⟩,
 ⟨some 7,.mov (.t 0),some (6,false)⟩,
 ⟨some 8,.bin false .gtr (.t 7) (.k (.p (.int .i64 1073741824))),some (6,false)⟩,
 ⟨some 9,.pick (.t 6) (.k (.p (.bool true))) (.t 8),none⟩]
def c46_3:CC:=.ops [] (l46_2)
def l46_4:List COp:=[
 ⟨some 2,.mov (.k (.p (.bool false))),none⟩]
def c46_5:CC:=.ops [] (l46_4)
def c46_6:CC:=.seq c46_5 .ret
def c46_7:CC:=.cond (.t 9) c46_6 .skip
def c46_8:CC:=.seq c46_3 c46_7
def l46_9:List COp:=[
 ⟨some 3,.mov (.k (.p (.int .i64 2))),none⟩]
def c46_10:CC:=.ops [] (l46_9)
def l46_11:List COp:=[
 ⟨some 10,.mov (.t 3),none⟩,
 ⟨some 11,.mov (.t 3),none⟩,
 ⟨some 12,.bin false .mul (.t 10) (.t 11),none⟩,
 ⟨some 13,.mov (.t 0),none⟩,
 ⟨some 14,.bin false .leq (.t 12) (.t 13),none⟩]
def c46_12:CC:=.ops [] (l46_11)
def c46_13:CC:=.cond (.t 14) .skip (.exit 0)
def c46_14:CC:=.seq c46_12 c46_13
def l46_15:List COp:=[
 ⟨some 17,.mov (.t 0),none⟩,
 ⟨some 18,.mov (.t 3),none⟩,
 ⟨some 19,.bin false .rem (.t 17) (.t 18),none⟩,
 ⟨some 20,.bin false .eql (.t 19) (.k (.p (.int .i64 0))),none⟩]
def c46_16:CC:=.ops [] (l46_15)
def l46_17:List COp:=[
 ⟨some 2,.mov (.k (.p (.bool false))),none⟩]
def c46_18:CC:=.ops [] (l46_17)
def c46_19:CC:=.seq c46_18 .ret
def c46_20:CC:=.cond (.t 20) c46_19 .skip
def c46_21:CC:=.seq c46_16 c46_20
def c46_22:CC:=.block 1 c46_21
def l46_23:List COp:=[
 ⟨some 15,.mov (.t 3),none⟩,
 ⟨some 16,.bin false .add (.t 15) (.k (.p (.int .i64 1))),none⟩,
 ⟨some 3,.mov (.t 16),none⟩]
def c46_24:CC:=.ops [] (l46_23)
def c46_25:CC:=.seq c46_22 c46_24
def c46_26:CC:=.seq c46_14 c46_25
def c46_27:CC:=.loop c46_26
def c46_28:CC:=.block 0 c46_27
def c46_29:CC:=.seq c46_10 c46_28
def l46_30:List COp:=[
 ⟨some 2,.mov (.k (.p (.bool true))),none⟩]
def c46_31:CC:=.ops [] (l46_30)
def c46_32:CC:=.seq c46_31 .ret
def c46_33:CC:=.seq c46_29 c46_32
def c46_34:CC:=.seq c46_8 c46_33
def c46_35:CC:=.seq c46_1 c46_34
def c46:CC:=c46_35
theorem fn46:FnOk Try.prog 46 [] c46 [(2,none)] 21:=
 ⟨Try.f46,[],Try.func46,by kernel_rfl,by kernel_rfl,by kernel_rfl,by kernel_rfl,by kernel_rfl⟩
def l53_0:List COp:=[
 ⟨some 4,.mov (.k (.nils 3 1)),none⟩]
def c53_1:CC:=.ops [] (l53_0)
def l53_2:List COp:=[
 ⟨some 5,.mov (.k (.nils 3 1)),none⟩]
def c53_3:CC:=.ops [] (l53_2)
def l53_4:List COp:=[
 ⟨some 6,.mov (.k (.p (.int .i64 1))),none⟩]
def c53_5:CC:=.ops [] (l53_4)
def l53_6:List COp:=[
 ⟨some 7,.mov (.t 6),none⟩,
 ⟨some 8,.mov (.t 0),none⟩,
 ⟨some 9,.len (.t 8),none⟩,
 ⟨some 10,.bin false .lss (.t 7) (.t 9),none⟩]
def c53_7:CC:=.ops [] (l53_6)
def c53_8:CC:=.cond (.t 10) .skip (.exit 0)
def c53_9:CC:=.seq c53_7 c53_8
def l53_10:List COp:=[
 ⟨some 13,.mov (.t 5),none⟩,
 ⟨some 14,.mov (.t 6),none⟩,
 ⟨some 15,.mov (.t 0),none⟩,
 ⟨some 16,.mov (.t 6),none⟩,
 ⟨some 17,.indexAddr 1 (.t 15) (.t 16),none⟩,
 ⟨some 18,.load false 1 (.t 17),none⟩,
 ⟨some 19,.bin false .mul (.t 14) (.t 18),none⟩,
 ⟨some 20,.mov (.t 1),none⟩,
 ⟨some 21,.bin false .rem (.t 19) (.t 20),none⟩,
 ⟨some 22,.buildSlice 3 1 (.int .i64 0) 1 [(0,(.t 21))],none⟩,
 ⟨some 23,.append 3 1 8 (.t 13) (.t 22),none⟩,
 ⟨some 5,.mov (.t 23),none⟩]
def c53_11:CC:=.ops [] (l53_10)
def c53_12:CC:=.block 1 c53_11
def l53_13:List COp:=[
 ⟨some 11,.mov (.t 6),none⟩,
 ⟨some 12,.bin false .add (.t 11) (.k (.p (.int .i64 1))),none⟩,
 ⟨some 6,.mov (.t 12),none⟩]
def c53_14:CC:=.ops [] (l53_13)
def c53_15:CC:=.seq c53_12 c53_14
def c53_16:CC:=.seq c53_9 c53_15
def c53_17:CC:=.loop c53_16
def c53_18:CC:=.block 0 c53_17
def c53_19:CC:=.seq c53_5 c53_18
def l53_20:List COp:=[
 ⟨some 24,.mov (.t 5),none⟩,
 ⟨some 25,.call 61 [(.t 24)],none⟩]
def l53_21:List COp:=[
 ⟨some 4,.mov (.t 25),none⟩]
def c53_22:CC:=.ops [] (l53_20++(l53_21))
def c53_23:CC:=.seq c53_22 .ret
def c53_24:CC:=.seq c53_19 c53_23
def c53_25:CC:=.seq c53_3 c53_24
def c53_26:CC:=.seq c53_1 c53_25
def c53:CC:=c53_26
theorem fn53:FnOk Try.prog 53 [3] c53 [(4,none)] 26:=
 ⟨Try.f53,[],Try.func53,by kernel_rfl,by kernel_rfl,by kernel_rfl,by kernel_rfl,by kernel_rfl⟩
def l54_0:List COp:=[
 ⟨some 4,.mov (.k (.nils 3 1)),none⟩]
def c54_1:CC:=.ops [] (l54_0)
def l54_2:List COp:=[
 ⟨some 5,.mov (.k (.nils 3 1)),none⟩]
def c54_3:CC:=.ops [] (l54_2)
def l54_4:List COp:=[
 ⟨some 6,.mov (.k (.p (.int .i64 0))),none⟩]
def c54_5:CC:=.ops [] (l54_4)
def l54_6:List COp:=[
 ⟨some 7,.mov (.t 6),none⟩,
 ⟨some 8,.mov (.t 0),none⟩,
 ⟨some 9,.len (.t 8),none⟩,
 ⟨some 10,.bin false .lss (.t 7) (.t 9),none⟩]
def c54_7:CC:=.ops [] (l54_6)
def c54_8:CC:=.cond (.t 10) .skip (.exit 0)
def c54_9:CC:=.seq c54_7 c54_8
def l54_10:List COp:=[
 ⟨some 14,.mov (.t 5),none⟩,
 ⟨some 15,.mov (.t 0),none⟩,
 ⟨some 16,.mov (.t 6),none⟩,
 ⟨some 17,.indexAddr 1 (.t 15) (.t 16),none⟩,
 ⟨some 18,.load false 1 (.t 17),none⟩,
 ⟨some 19,.buildSlice 3 1 (.int .i64 0) 1 [(0,(.t 18))],none⟩,
 ⟨some 20,.append 3 1 8 (.t 14) (.t 19),none⟩,
 ⟨some 5,.mov (.t 20),none⟩]
def c54_11:CC:=.ops [] (l54_10)
def c54_12:CC:=.block 1 c54_11
def l54_13:List COp:=[
 ⟨some 11,.mov (.t 6),none⟩,
 ⟨some 12,.mov (.t 1),none⟩,
 ⟨some 13,.bin false .add (.t 11) (.t 12),none⟩,
 ⟨some 6,.mov (.t 13),none⟩]
def c54_14:CC:=.ops [] (l54_13)
def c54_15:CC:=.seq c54_12 c54_14
def c54_16:CC:=.seq c54_9 c54_15
def c54_17:CC:=.loop c54_16
def c54_18:CC:=.block 0 c54_17
def c54_19:CC:=.seq c54_5 c54_18
def l54_20:List COp:=[
 ⟨some 21,.mov (.t 5),none⟩,
 ⟨some 4,.mov (.t 21),none⟩]
def c54_21:CC:=.ops [] (l54_20)
def c54_22:CC:=.seq c54_21 .ret
def c54_23:CC:=.seq c54_19 c54_22
def c54_24:CC:=.seq c54_3 c54_23
def c54_25:CC:=.seq c54_1 c54_24
def c54:CC:=c54_25
theorem fn54:FnOk Try.prog 54 [3] c54 [(4,none)] 22:=
 ⟨Try.f54,[],Try.func54,by kernel_rfl,by kernel_rfl,by kernel_rfl,by kernel_rfl,by kernel_rfl⟩
def l55_0:List COp:=[
 ⟨some 4,.mov (.k (.p (.int .i64 0))),none⟩]
def c55_1:CC:=.ops [] (l55_0)
def l55_2:List COp:=[
 ⟨some 10,.mov (.t 0),none⟩,
 ⟨some 11,.mov (.t 1),none⟩,
 ⟨some 5,.mov (.t 10),none⟩,
 ⟨some 6,.mov (.t 11),none⟩,
 ⟨some 7,.mov (.k (.p (.int .i64 1))),none⟩,
 ⟨some 8,.mov (.k (.p (.int .i64 0))),none⟩]
def c55_3:CC:=.ops [] (l55_2)
def l55_4:List COp:=[
 ⟨some 12,.mov (.t 6),none⟩,
 ⟨some 13,.bin false .neq (.t 12) (.k (.p (.int .i64 0))),none⟩]
def c55_5:CC:=.ops [] (l55_4)
def c55_6:CC:=.cond (.t 13) .skip (.exit 0)
def c55_7:CC:=.seq c55_5 c55_6
def l55_8:List COp:=[
 ⟨some 14,.mov (.t 5),none⟩,
 ⟨some 15,.mov (.t 6),none⟩,
 ⟨some 16,.bin false .quo (.t 14) (.t 15),none⟩,
 ⟨some 9,.mov (.t 16),none⟩]
def c55_9:CC:=.ops [] (l55_8)
def l55_10:List COp:=[
 ⟨some 17,.mov (.t 6),none⟩,
 ⟨some 18,.mov (.t 5),none⟩,
 ⟨some 19,.mov (.t 9),none⟩,
 ⟨some 20,.mov (.t 6),none⟩,
 ⟨some 21,.bin false .mul (.t 19) (.t 20),none⟩,
 ⟨some 22,.bin false .sub (.t 18) (.t 21),none⟩,
 ⟨some 23,.mov (.t 8),none⟩,
 ⟨some 24,.mov (.t 7),none⟩,
 ⟨some 25,.mov (.t 9),none⟩,
 ⟨some 26,.mov (.t 8),none⟩,
 ⟨some 27,.bin false .mul (.t 25) (.t 26),none⟩,
 ⟨some 28,.bin false .sub (.t 24) (.t 27),none⟩,
 ⟨some 5,.mov (.t 17),none⟩,
 ⟨some 6,.mov (.t 22),none⟩,
 ⟨some 7,.mov (.t 23),none⟩,
 ⟨some 8,.mov (.t 28),none⟩]
def c55_11:CC:=.ops [] (l55_10)
def c55_12:CC:=.seq c55_9 c55_11
def c55_13:CC:=.block 1 c55_12
def c55_14:CC:=.seq c55_7 c55_13
def c55_15:CC:=.loop c55_14
def c55_16:CC:=.block 0 c55_15
def l55_17:List COp:=[
 ⟨some 29,.mov (.t 7),none⟩,
 ⟨some 30,.mov (.t 1),none⟩,
 ⟨some 31,.bin false .rem (.t 29) (.t 30),none⟩,
 ⟨some 32,.mov (.t 1),none⟩,
 ⟨some 33,.bin false .add (.t 31) (.t 32),none⟩,
 ⟨some 34,.mov (.t 1),none⟩,
 ⟨some 35,.bin false .rem (.t 33) (.t 34),none⟩,
 ⟨some 4,.mov (.t 35),none⟩]
def c55_18:CC:=.ops [] (l55_17)
def c55_19:CC:=.seq c55_18 .ret
def c55_20:CC:=.seq c55_16 c55_19
def c55_21:CC:=.seq c55_3 c55_20
def c55_22:CC:=.seq c55_1 c55_21
def c55:CC:=c55_22
theorem fn55:FnOk Try.prog 55 [] c55 [(4,none)] 36:=
 ⟨Try.f55,[],Try.func55,by kernel_rfl,by kernel_rfl,by kernel_rfl,by kernel_rfl,by kernel_rfl⟩
def l56_0:List COp:=[
 ⟨some 4,.mov (.k (.nils 22 1)),none⟩]
def c56_1:CC:=.ops [] (l56_0)
def l56_2:List COp:=[
 ⟨some 21,.mov (.t 0),none⟩,
 ⟨some 22,.len (.t 21),none⟩,
 ⟨some 23,.bin false .sub (.t 22) (.k (.p (.int .i64 1))),none⟩,
 ⟨some 5,.mov (.t 23),none⟩]
def c56_3:CC:=.ops [] (l56_2)
def l56_4:List COp:=[
 ⟨some 24,.mov (.t 5),none⟩,
 ⟨some 25,.makeSlice 22 1 24 (.list 3 1 []) (.t 24) (.t 24),none⟩,
 ⟨some 6,.mov (.t 25),none⟩]
def c56_5:CC:=.ops [] (l56_4)
def l56_6:List COp:=[
 ⟨some 26,.buildSliceF 3 1 (.int .i64 0) 2 [(0,(.k (.p (.int .i64 0)))),(1,(.k (.p (.int .i64 1))))],none⟩,
 ⟨some 27,.mov (.t 1),none⟩,
 ⟨some 28,.mov (.t 0),none⟩,
 ⟨some 29,.mov (.t 1),none⟩,
 ⟨some 30,.call 44 [(.t 26),(.t 27),(.t 28),(.t 29)],none⟩]
def l56_7:List COp:=[
 ⟨some 7,.mov (.t 30),none⟩]
def c56_8:CC:=.ops [] (l56_6++(l56_7))
def l56_9:List COp:=[
 ⟨some 31,.buildSlice 3 1 (.int .i64 0) 1 [(0,(.k (.p (.int .i64 1))))],none⟩,
 ⟨some 8,.mov (.t 31),none⟩]
def c56_10:CC:=.ops [] (l56_9)
def l56_11:List COp:=[
 ⟨some 32,.mov (.t 6),none⟩,
 ⟨some 33,.len (.t 32),none⟩,
 ⟨some 34,.mov (.k (.p (.int .i64 0))),none⟩]
def c56_12:CC:=.ops [] (l56_11)
def l56_13:List COp:=[
 ⟨some 35,.bin false .lss (.t 34) (.t 33),none⟩]
def c56_14:CC:=.ops [] (l56_13)
def c56_15:CC:=.cond (.t 35) .skip (.exit 0)
def l56_16:List COp:=[
 ⟨some 36,.mov (.t 34),none⟩,
 ⟨some 9,.mov (.t 36),none⟩]
def c56_17:CC:=.ops [] (l56_16)
def l56_18:List COp:=[
 ⟨some 37,.mov (.t 6),none⟩,
 ⟨some 38,.mov (.t 9),none⟩,
 ⟨some 39,.mov (.t 5),none⟩,
 ⟨some 40,.bin false .mul (.k (.p (.int .i64 2))) (.t 39),none⟩,
 ⟨some 41,.makeSlice 3 1 8 (.int .i64 0) (.t 40) (.t 40),none⟩,
 ⟨some 42,.indexAddr 1 (.t 37) (.t 38),none⟩,
 ⟨none,.store 1 (.t 42) (.t 41),none⟩]
def c56_19:CC:=.ops [] (l56_18)
def l56_20:List COp:=[
 ⟨some 43,.mov (.t 5),none⟩,
 ⟨some 44,.mov (.k (.p (.int .i64 0))),none⟩]
def c56_21:CC:=.ops [] (l56_20)
def l56_22:List COp:=[
 ⟨some 45,.bin false .lss (.t 44) (.t 43),none⟩]
def c56_23:CC:=.ops [] (l56_22)
def c56_24:CC:=.cond (.t 45) .skip (.exit 2)
def l56_25:List COp:=[
 ⟨some 46,.mov (.t 44),none⟩,
 ⟨some 10,.mov (.t 46),none⟩]
def c56_26:CC:=.ops [] (l56_25)
def l56_27:List COp:=[
 ⟨some 47,.mov (.t 6),none⟩,
 ⟨some 48,.mov (.t 9),none⟩,
 ⟨some 49,.indexAddr 1 (.t 47) (.t 48),none⟩,
 ⟨some 50,.load false 1 (.t 49),none⟩,
 ⟨some 51,.mov (.t 10),none⟩,
 ⟨some 52,.mov (.t 8),none⟩,
 ⟨some 53,.mov (.t 10),none⟩,
 ⟨some 54,.call 63 [(.t 52),(.t 53)],none⟩]
def l56_28:List COp:=[
 ⟨some 55,.indexAddr 1 (.t 50) (.t 51),none⟩,
 ⟨none,.store 1 (.t 55) (.t 54),none⟩]
def c56_29:CC:=.ops [] (l56_27++(l56_28))
def c56_30:CC:=.seq c56_26 c56_29
def c56_31:CC:=.block 3 c56_30
def l56_32:List COp:=[
 ⟨some 56,.bin false .add (.t 44) (.k (.p (.int .i64 1))),none⟩,
 ⟨some 44,.mov (.t 56),none⟩]
def c56_33:CC:=.ops [] (l56_32)
def c56_34:CC:=.seq c56_31 c56_33
def c56_35:CC:=.seq c56_24 c56_34
def c56_36:CC:=.seq c56_23 c56_35
def c56_37:CC:=.loop c56_36
def c56_38:CC:=.block 2 c56_37
def c56_39:CC:=.seq c56_21 c56_38
def l56_40:List COp:=[
 ⟨some 57,.mov (.t 6),none⟩,
 ⟨some 58,.mov (.t 9),none⟩,
 ⟨some 59,.indexAddr 1 (.t 57) (.t 58),none⟩,
 ⟨some 60,.load false 1 (.t 59),none⟩,
 ⟨some 61,.mov (.t 9),none⟩,
 ⟨some 62,.mov (.t 6),none⟩,
 ⟨some 63,.mov (.t 9),none⟩,
 ⟨some 64,.indexAddr 1 (.t 62) (.t 63),none⟩,
 ⟨some 65,.load false 1 (.t 64),none⟩,
 ⟨some 66,.mov (.t 9),none⟩,
 ⟨some 67,.indexAddr 1 (.t 65) (.t 66),none⟩,
 ⟨some 68,.load false 1 (.t 67),none⟩,
 ⟨some 69,.mov (.t 1),none⟩,
 ⟨some 70,.bin false .add (.t 68) (.t 69),none⟩,
 ⟨some 71,.bin false .sub (.t 70) (.k (.p (.int .i64 1))),none⟩,
 ⟨some 72,.mov (.t 1),none⟩,
 ⟨some 73,.bin false .rem (.t 71) (.t 72),none⟩,
 ⟨some 74,.indexAddr 1 (.t 60) (.t 61),none⟩,
 ⟨none,.store 1 (.t 74) (.t 73),none⟩]
def c56_41:CC:=.ops [] (l56_40)
def l56_42:List COp:=[
 ⟨some 75,.mov (.t 6),none⟩,
 ⟨some 76,.mov (.t 9),none⟩,
 ⟨some 77,.indexAddr 1 (.t 75) (.t 76),none⟩,
 ⟨some 78,.load false 1 (.t 77),none⟩,
 ⟨some 79,.mov (.t 5),none⟩,
 ⟨some 80,.mov (.t 9),none⟩,
 ⟨some 81,.bin false .add (.t 79) (.t 80),none⟩,
 ⟨some 82,.indexAddr 1 (.t 78) (.t 81),none⟩,
 ⟨none,.store 1 (.t 82) (.k (.p (.int .i64 1))),none⟩]
def c56_43:CC:=.ops [] (l56_42)
def l56_44:List COp:=[
 ⟨some 84,.mov (.t 8),none⟩,
 ⟨some 85,.mov (.t 7),none⟩,
 ⟨some 86,.mov (.t 1),none⟩,
 ⟨some 87,.call 42 [(.t 84),(.t 85),(.t 86)],none⟩]
def l56_45:List COp:=[
 ⟨some 88,.mov (.t 0),none⟩,
 ⟨some 89,.mov (.t 1),none⟩,
 ⟨some 90,.call 45 [(.t 87),(.t 88),(.t 89)],none⟩]
def l56_46:List COp:=[
 ⟨some 83,.mov (.t 90),none⟩,
 ⟨some 91,.extract (.t 83) 0,none⟩,
 ⟨some 92,.extract (.t 83) 1,none⟩,
 ⟨some 8,.mov (.t 92),none⟩]
def c56_47:CC:=.ops [] (l56_44++(l56_45++(l56_46)))
def c56_48:CC:=.seq c56_43 c56_47
def c56_49:CC:=.seq c56_41 c56_48
def c56_50:CC:=.seq c56_39 c56_49
def c56_51:CC:=.seq c56_19 c56_50
def c56_52:CC:=.seq c56_17 c56_51
def c56_53:CC:=.block 1 c56_52
def l56_54:List COp:=[
 ⟨some 93,.bin false .add (.t 34) (.k (.p (.int .i64 1))),none⟩,
 ⟨some 34,.mov (.t 93),none⟩]
def c56_55:CC:=.ops [] (l56_54)
def c56_56:CC:=.seq c56_53 c56_55
def c56_57:CC:=.seq c56_15 c56_56
def c56_58:CC:=.seq c56_14 c56_57
def c56_59:CC:=.loop c56_58
def c56_60:CC:=.block 0 c56_59
def c56_61:CC:=.seq c56_12 c56_60
def l56_62:List COp:=[
 ⟨some 11,.mov (.k (.p (.int .i64 0))),none⟩]
def c56_63:CC:=.ops [] (l56_62)
def l56_64:List COp:=[
 ⟨some 94,.mov (.t 5),none⟩,
 ⟨some 95,.mov (.k (.p (.int .i64 0))),none⟩]
def c56_65:CC:=.ops [] (l56_64)
def l56_66:List COp:=[
 ⟨some 96,.bin false .lss (.t 95) (.t 94),none⟩]
def c56_67:CC:=.ops [] (l56_66)
def c56_68:CC:=.cond (.t 96) .skip (.exit 4)
def l56_69:List COp:=[
 ⟨some 97,.mov (.t 95),none⟩,
 ⟨some 12,.mov (.t 97),none⟩]
def c56_70:CC:=.ops [] (l56_69)
def l56_71:List COp:=[
 ⟨some 98,.mov (.t 11),none⟩,
 ⟨some 13,.mov (.t 98),none⟩]
def c56_72:CC:=.ops [] (l56_71)
def l56_73:List COp:=[
 ⟨some 99,.mov (.t 13),none⟩,
 ⟨some 100,.mov (.t 5),none⟩,
 ⟨some 101,.bin false .lss (.t 99) (.t 100),none⟩,
 ⟨some 102,.mov (.t 101),none⟩,
 ⟨some 103,.mov (.t 6),some (102,true)⟩,
 ⟨some 104,.mov (.t 13),some (102,true)⟩,
 ⟨some 105,.indexAddr 1 (.t 103) (.t 104),some (102,true)⟩,
 ⟨some 106,.load false 1 (.t 105),some (102,true)⟩,
 ⟨some 107,.mov (.t 12),some (102,true)⟩,
 ⟨some 108,.indexAddr 1 (.t 106) (.t 107),some (102,true)⟩,
 ⟨some 109,.load false 1 (.t 108),some (102,true)⟩,
 ⟨some 110,.bin false .eql (.t 109) (.k (.p (.int .i64 0))),some (102,true)⟩,
 ⟨some 111,.pick (.t 102) (.t 110) (.k (.p (.bool false))),none⟩]
def c56_74:CC:=.ops [] (l56_73)
def c56_75:CC:=.cond (.t 111) .skip (.exit 6)
def c56_76:CC:=.seq c56_74 c56_75
def l56_77:List COp:=[
 ⟨some 112,.mov (.t 13),none⟩,
 ⟨some 113,.bin false .add (.t 112) (.k (.p (.int .i64 1))),none⟩,
 ⟨some 13,.mov (.t 113),none⟩]
def c56_78:CC:=.ops [] (l56_77)
def c56_79:CC:=.block 7 c56_78
def c56_80:CC:=.seq c56_76 c56_79
def c56_81:CC:=.loop c56_80
def c56_82:CC:=.block 6 c56_81
def l56_83:List COp:=[
 ⟨some 114,.mov (.t 13),none⟩,
 ⟨some 115,.mov (.t 5),none⟩,
 ⟨some 116,.bin false .eql (.t 114) (.t 115),none⟩]
def c56_84:CC:=.ops [] (l56_83)
def c56_85:CC:=.cond (.t 116) (.exit 5) .skip
def c56_86:CC:=.seq c56_84 c56_85
def l56_87:List COp:=[
 ⟨some 117,.mov (.t 6),none⟩,
 ⟨some 118,.mov (.t 13),none⟩,
 ⟨some 119,.mov (.t 6),none⟩,
 ⟨some 120,.mov (.t 11),none⟩,
 ⟨some 121,.mov (.t 6),none⟩,
 ⟨some 122,.mov (.t 11),none⟩,
 ⟨some 123,.indexAddr 1 (.t 121) (.t 122),none⟩,
 ⟨some 124,.load false 1 (.t 123),none⟩,
 ⟨some 125,.mov (.t 6),none⟩,
 ⟨some 126,.mov (.t 13),none⟩,
 ⟨some 127,.indexAddr 1 (.t 125) (.t 126),none⟩,
 ⟨some 128,.load false 1 (.t 127),none⟩,
 ⟨some 129,.indexAddr 1 (.t 117) (.t 118),none⟩,
 ⟨none,.store 1 (.t 129) (.t 124),none⟩,
 ⟨some 130,.indexAddr 1 (.t 119) (.t 120),none⟩,
 ⟨none,.store 1 (.t 130) (.t 128),none⟩]
def c56_88:CC:=.ops [] (l56_87)
def l56_89:List COp:=[
 ⟨some 131,.mov (.t 6),none⟩,
 ⟨some 132,.mov (.t 11),none⟩,
 ⟨some 133,.indexAddr 1 (.t 131) (.t 132),none⟩,
 ⟨some 134,.load false 1 (.t 133),none⟩,
 ⟨some 135,.mov (.t 12),none⟩,
 ⟨some 136,.indexAddr 1 (.t 134) (.t 135),none⟩,
 ⟨some 137,.load false 1 (.t 136),none⟩,
 ⟨some 138,.mov (.t 1),none⟩,
 ⟨some 139,.call 55 [(.t 137),(.t 138)],none⟩]
def l56_90:List COp:=[
 ⟨some 14,.mov (.t 139),none⟩]
def c56_91:CC:=.ops [] (l56_89++(l56_90))
def l56_92:List COp:=[
 ⟨some 140,.mov (.t 6),none⟩,
 ⟨some 141,.len (.t 140),none⟩,
 ⟨some 142,.mov (.k (.p (.int .i64 0))),none⟩]
def c56_93:CC:=.ops [] (l56_92)
def l56_94:List COp:=[
 ⟨some 143,.bin false .lss (.t 142) (.t 141),none⟩]
def c56_95:CC:=.ops [] (l56_94)
def c56_96:CC:=.cond (.t 143) .skip (.exit 8)
def l56_97:List COp:=[
 ⟨some 144,.mov (.t 142),none⟩,
 ⟨some 15,.mov (.t 144),none⟩]
def c56_98:CC:=.ops [] (l56_97)
def l56_99:List COp:=[
 ⟨some 145,.mov (.t 6),none⟩,
 ⟨some 146,.mov (.t 15),none⟩,
 ⟨some 147,.indexAddr 1 (.t 145) (.t 146),none⟩,
 ⟨some 148,.load false 1 (.t 147),none⟩,
 ⟨some 149,.mov (.t 12),none⟩,
 ⟨some 150,.indexAddr 1 (.t 148) (.t 149),none⟩,
 ⟨some 151,.load false 1 (.t 150),none⟩,
 ⟨some 152,.mov (.t 14),none⟩,
 ⟨some 153,.bin false .mul (.t 151) (.t 152),none⟩,
 ⟨some 154,.mov (.t 1),none⟩,
 ⟨some 155,.bin false .rem (.t 153) (.t 154),none⟩,
 ⟨some 16,.mov (.t 155),none⟩]
def c56_100:CC:=.ops [] (l56_99)
def l56_101:List COp:=[
 ⟨some 156,.mov (.t 15),none⟩,
 ⟨some 157,.mov (.t 11),none⟩,
 ⟨some 158,.bin false .gtr (.t 156) (.t 157),none⟩,
 ⟨some 159,.mov (.t 158),none⟩,
 ⟨some 160,.mov (.t 16),some (159,true)⟩,
 ⟨some 161,.bin false .neq (.t 160) (.k (.p (.int .i64 0))),some (159,true)⟩,
 ⟨some 162,.pick (.t 159) (.t 161) (.k (.p (.bool false))),none⟩]
def c56_102:CC:=.ops [] (l56_101)
def l56_103:List COp:=[
 ⟨some 163,.mov (.t 6),none⟩,
 ⟨some 164,.mov (.t 15),none⟩,
 ⟨some 165,.indexAddr 1 (.t 163) (.t 164),none⟩,
 ⟨some 166,.load false 1 (.t 165),none⟩,
 ⟨some 167,.len (.t 166),none⟩,
 ⟨some 168,.mov (.k (.p (.int .i64 0))),none⟩]
def c56_104:CC:=.ops [] (l56_103)
def l56_105:List COp:=[
 ⟨some 169,.bin false .lss (.t 168) (.t 167),none⟩]
def c56_106:CC:=.ops [] (l56_105)
def c56_107:CC:=.cond (.t 169) .skip (.exit 10)
def l56_108:List COp:=[
 ⟨some 170,.mov (.t 168),none⟩,
 ⟨some 17,.mov (.t 170),none⟩]
def c56_109:CC:=.ops [] (l56_108)
def l56_110:List COp:=[
 ⟨some 171,.mov (.t 6),none⟩,
 ⟨some 172,.mov (.t 15),none⟩,
 ⟨some 173,.indexAddr 1 (.t 171) (.t 172),none⟩,
 ⟨some 174,.load false 1 (.t 173),none⟩,
 ⟨some 175,.mov (.t 17),none⟩,
 ⟨some 176,.mov (.t 6),none⟩,
 ⟨some 177,.mov (.t 15),none⟩,
 ⟨some 178,.indexAddr 1 (.t 176) (.t 177),none⟩,
 ⟨some 179,.load false 1 (.t 178),none⟩,
 ⟨some 180,.mov (.t 17),none⟩,
 ⟨some 181,.indexAddr 1 (.t 179) (.t 180),none⟩,
 ⟨some 182,.load false 1 (.t 181),none⟩,
 ⟨some 183,.mov (.t 1),none⟩,
 ⟨some 184,.mov (.t 16),none⟩,
 ⟨some 185,.bin false .sub (.t 183) (.t 184),none⟩,
 ⟨some 186,.mov (.t 6),none⟩,
 ⟨some 187,.mov (.t 11),none⟩,
 ⟨some 188,.indexAddr 1 (.t 186) (.t 187),none⟩,
 ⟨some 189,.load false 1 (.t 188),none⟩,
 ⟨some 190,.mov (.t 17),none⟩,
 ⟨some 191,.indexAddr 1 (.t 189) (.t 190),none⟩,
 ⟨some 192,.load false 1 (.t 191),none⟩,
 ⟨some 193,.bin false .mul (.t 185) (.t 192),none⟩,
 ⟨some 194,.bin false .add (.t 182) (.t 193),none⟩,
 ⟨some 195,.mov (.t 1),none⟩,
 ⟨some 196,.bin false .rem (.t 194) (.t 195),none⟩,
 ⟨some 197,.indexAddr 1 (.t 174) (.t 175),none⟩,
 ⟨none,.store 1 (.t 197) (.t 196),none⟩]
def c56_111:CC:=.ops [] (l56_110)
def c56_112:CC:=.seq c56_109 c56_111
def c56_113:CC:=.block 11 c56_112
def l56_114:List COp:=[
 ⟨some 198,.bin false .add (.t 168) (.k (.p (.int .i64 1))),none⟩,
 ⟨some 168,.mov (.t 198),none⟩]
def c56_115:CC:=.ops [] (l56_114)
def c56_116:CC:=.seq c56_113 c56_115
def c56_117:CC:=.seq c56_107 c56_116
def c56_118:CC:=.seq c56_106 c56_117
def c56_119:CC:=.loop c56_118
def c56_120:CC:=.block 10 c56_119
def c56_121:CC:=.seq c56_104 c56_120
def c56_122:CC:=.cond (.t 162) c56_121 .skip
def c56_123:CC:=.seq c56_102 c56_122
def c56_124:CC:=.seq c56_100 c56_123
def c56_125:CC:=.seq c56_98 c56_124
def c56_126:CC:=.block 9 c56_125
def l56_127:List COp:=[
 ⟨some 199,.bin false .add (.t 142) (.k (.p (.int .i64 1))),none⟩,
 ⟨some 142,.mov (.t 199),none⟩]
def c56_128:CC:=.ops [] (l56_127)
def c56_129:CC:=.seq c56_126 c56_128
def c56_130:CC:=.seq c56_96 c56_129
def c56_131:CC:=.seq c56_95 c56_130
def c56_132:CC:=.loop c56_131
def c56_133:CC:=.block 8 c56_132
def c56_134:CC:=.seq c56_93 c56_133
def l56_135:List COp:=[
 ⟨some 200,.mov (.t 11),none⟩,
 ⟨some 201,.bin false .add (.t 200) (.k (.p (.int .i64 1))),none⟩,
 ⟨some 11,.mov (.t 201),none⟩]
def c56_136:CC:=.ops [] (l56_135)
def c56_137:CC:=.seq c56_134 c56_136
def c56_138:CC:=.seq c56_91 c56_137
def c56_139:CC:=.seq c56_88 c56_138
def c56_140:CC:=.seq c56_86 c56_139
def c56_141:CC:=.seq c56_82 c56_140
def c56_142:CC:=.seq c56_72 c56_141
def c56_143:CC:=.seq c56_70 c56_142
def c56_144:CC:=.block 5 c56_143
def l56_145:List COp:=[
 ⟨some 202,.bin false .add (.t 95) (.k (.p (.int .i64 1))),none⟩,
 ⟨some 95,.mov (.t 202),none⟩]
def c56_146:CC:=.ops [] (l56_145)
def c56_147:CC:=.seq c56_144 c56_146
def c56_148:CC:=.seq c56_68 c56_147
def c56_149:CC:=.seq c56_67 c56_148
def c56_150:CC:=.loop c56_149
def c56_151:CC:=.block 4 c56_150
def c56_152:CC:=.seq c56_65 c56_151
def l56_153:List COp:=[
 ⟨some 18,.mov (.k (.nils 22 1)),none⟩]
def c56_154:CC:=.ops [] (l56_153)
def l56_155:List COp:=[
 ⟨some 203,.mov (.t 6),none⟩,
 ⟨some 204,.mov (.t 11),none⟩,
 ⟨some 205,.slice 1 (.t 203) (some (.t 204)) none none,none⟩,
 ⟨some 206,.len (.t 205),none⟩,
 ⟨some 207,.mov (.k (.p (.int .i64 0))),none⟩]
def c56_156:CC:=.ops [] (l56_155)
def l56_157:List COp:=[
 ⟨some 208,.bin false .lss (.t 207) (.t 206),none⟩]
def c56_158:CC:=.ops [] (l56_157)
def c56_159:CC:=.cond (.t 208) .skip (.exit 12)
def l56_160:List COp:=[
 ⟨some 209,.indexAddr 1 (.t 205) (.t 207),none⟩,
 ⟨some 210,.load false 1 (.t 209),none⟩,
 ⟨some 20,.mov (.t 210),none⟩]
def c56_161:CC:=.ops [] (l56_160)
def l56_162:List COp:=[
 ⟨some 211,.mov (.t 18),none⟩,
 ⟨some 212,.mov (.t 20),none⟩,
 ⟨some 213,.mov (.t 5),none⟩,
 ⟨some 214,.slice 1 (.t 212) (some (.t 213)) none none,none⟩,
 ⟨some 215,.call 38 [(.t 214)],none⟩]
def l56_163:List COp:=[
 ⟨some 216,.call 61 [(.t 215)],none⟩]
def l56_164:List COp:=[
 ⟨some 217,.buildSlice 22 1 (.list 3 1 []) 1 [(0,(.t 216))],none⟩,
 ⟨some 218,.append 22 1 24 (.t 211) (.t 217),none⟩,
 ⟨some 18,.mov (.t 218),none⟩]
def c56_165:CC:=.ops [] (l56_162++(l56_163++(l56_164)))
def c56_166:CC:=.seq c56_161 c56_165
def c56_167:CC:=.block 13 c56_166
def l56_168:List COp:=[
 ⟨some 219,.bin false .add (.t 207) (.k (.p (.int .i64 1))),none⟩,
 ⟨some 207,.mov (.t 219),none⟩]
def c56_169:CC:=.ops [] (l56_168)
def c56_170:CC:=.seq c56_167 c56_169
def c56_171:CC:=.seq c56_159 c56_170
def c56_172:CC:=.seq c56_158 c56_171
def c56_173:CC:=.loop c56_172
def c56_174:CC:=.block 12 c56_173
def c56_175:CC:=.seq c56_156 c56_174
def l56_176:List COp:=[
 ⟨some 220,.mov (.t 18),none⟩,
 ⟨some 4,.mov (.t 220),none⟩]
def c56_177:CC:=.ops [] (l56_176)
def c56_178:CC:=.seq c56_177 .ret
def c56_179:CC:=.seq c56_175 c56_178
def c56_180:CC:=.seq c56_154 c56_179
def c56_181:CC:=.seq c56_152 c56_180
def c56_182:CC:=.seq c56_63 c56_181
def c56_183:CC:=.seq c56_61 c56_182
def c56_184:CC:=.seq c56_10 c56_183
def c56_185:CC:=.seq c56_8 c56_184
def c56_186:CC:=.seq c56_5 c56_185
def c56_187:CC:=.seq c56_3 c56_186
def c56_188:CC:=.seq c56_1 c56_187
def c56:CC:=c56_188
theorem fn56:FnOk Try.prog 56 [22,3,2000026] c56 [(4,none)] 221:=
 ⟨Try.f56,[⟨12,[0,1,2,3,4,5,6,7,8,9],[0,0,3,7,0,0,0,96,255,511],[]⟩,⟨14,[0,1,2,3,4,5,6,7,8,9,10,11,12,13,14,15,16,17,18],[0,0,3,7,0,0,0,96,224,0,992,2016,0,8160,16352,0,65504,131071,262143],[]⟩,⟨26,[0,1,2,3,4,5,6,7,8,9,10,11,12,13,14,15],[0,0,0,0,0,0,48,112,0,0,768,1792,4083,8179,16383,32767],[]⟩,⟨36,[0,1,2,3,4,5,6,7,8,9,10,11,12,13,14,15,16,17,18,19,20,21,22,23,24,25,26,27],[0,0,3,7,0,0,0,96,224,0,992,2016,0,0,12288,0,0,98304,229376,0,1015808,2064384,4190208,8388576,0,33554400,67108863,134217727],[]⟩],Try.func56,by kernel_rfl,by kernel_rfl,by kernel_rfl,by kernel_rfl,by kernel_rfl⟩
def l57_0:List COp:=[
 ⟨some 6,.mov (.k (.nils 3 1)),none⟩]
def c57_1:CC:=.ops [] (l57_0)
def l57_2:List COp:=[
 ⟨some 9,.mov (.t 0),none⟩,
 ⟨some 10,.len (.t 9),none⟩,
 ⟨some 11,.mov (.t 1),none⟩,
 ⟨some 12,.len (.t 11),none⟩,
 ⟨some 13,.mm true (.t 10) (.t 12),none⟩,
 ⟨some 14,.makeSlice 3 1 8 (.int .i64 0) (.t 13) (.t 13),none⟩,
 ⟨some 7,.mov (.t 14),none⟩]
def c57_3:CC:=.ops [] (l57_2)
def l57_4:List COp:=[
 ⟨some 15,.mov (.t 7),none⟩,
 ⟨some 16,.len (.t 15),none⟩,
 ⟨some 17,.mov (.k (.p (.int .i64 0))),none⟩]
def c57_5:CC:=.ops [] (l57_4)
def l57_6:List COp:=[
 ⟨some 18,.bin false .lss (.t 17) (.t 16),none⟩]
def c57_7:CC:=.ops [] (l57_6)
def c57_8:CC:=.cond (.t 18) .skip (.exit 0)
def l57_9:List COp:=[
 ⟨some 19,.mov (.t 17),none⟩,
 ⟨some 8,.mov (.t 19),none⟩]
def c57_10:CC:=.ops [] (l57_9)
def l57_11:List COp:=[
 ⟨some 20,.mov (.t 7),none⟩,
 ⟨some 21,.mov (.t 8),none⟩,
 ⟨some 22,.mov (.t 0),none⟩,
 ⟨some 23,.mov (.t 8),none⟩,
 ⟨some 24,.call 63 [(.t 22),(.t 23)],none⟩]
def l57_12:List COp:=[
 ⟨some 25,.mov (.t 1),none⟩,
 ⟨some 26,.mov (.t 8),none⟩,
 ⟨some 27,.call 63 [(.t 25),(.t 26)],none⟩]
def l57_13:List COp:=[
 ⟨some 28,.bin false .sub (.t 24) (.t 27),none⟩,
 ⟨some 29,.mov (.t 2),none⟩,
 ⟨some 30,.bin false .add (.t 28) (.t 29),none⟩,
 ⟨some 31,.mov (.t 2),none⟩,
 ⟨some 32,.bin false .rem (.t 30) (.t 31),none⟩,
 ⟨some 33,.indexAddr 1 (.t 20) (.t 21),none⟩,
 ⟨none,.store 1 (.t 33) (.t 32),none⟩]
def c57_14:CC:=.ops [] (l57_11++(l57_12++(l57_13)))
def c57_15:CC:=.seq c57_10 c57_14
def c57_16:CC:=.block 1 c57_15
def l57_17:List COp:=[
 ⟨some 34,.bin false .add (.t 17) (.k (.p (.int .i64 1))),none⟩,
 ⟨some 17,.mov (.t 34),none⟩]
def c57_18:CC:=.ops [] (l57_17)
def c57_19:CC:=.seq c57_16 c57_18
def c57_20:CC:=.seq c57_8 c57_19
def c57_21:CC:=.seq c57_7 c57_20
def c57_22:CC:=.loop c57_21
def c57_23:CC:=.block 0 c57_22
def c57_24:CC:=.seq c57_5 c57_23
def l57_25:List COp:=[
 ⟨some 35,.mov (.t 7),none⟩,
 ⟨some 36,.call 61 [(.t 35)],none⟩]
def l57_26:List COp:=[
 ⟨some 6,.mov (.t 36),none⟩]
def c57_27:CC:=.ops [] (l57_25++(l57_26))
def c57_28:CC:=.seq c57_27 .ret
def c57_29:CC:=.seq c57_24 c57_28
def c57_30:CC:=.seq c57_3 c57_29
def c57_31:CC:=.seq c57_1 c57_30
def c57:CC:=c57_31
theorem fn57:FnOk Try.prog 57 [3] c57 [(6,none)] 37:=
 ⟨Try.f57,[],Try.func57,by kernel_rfl,by kernel_rfl,by kernel_rfl,by kernel_rfl,by kernel_rfl⟩
def l58_0:List COp:=[
 ⟨some 10,.mov (.k (.p (.bool true))),none⟩]
def c58_1:CC:=.ops [] (l58_0)
def l58_2:List COp:=[
 ⟨some 11,.mov (.k (.p (.bool true))),none⟩]
def c58_3:CC:=.ops [] (l58_2)
def l58_4:List COp:=[
 ⟨some 21,.mov (.t 2),none⟩,
 ⟨some 22,.mov (.t 1),none⟩,
 ⟨some 23,.bin false .sub (.t 21) (.t 22),none⟩,
 ⟨some 12,.mov (.t 23),none⟩]
def c58_5:CC:=.ops [] (l58_4)
def l58_6:List COp:=[
 ⟨some 24,.mov (.t 12),none⟩,
 ⟨some 25,.bin false .leq (.t 24) (.k (.p (.int .i64 12))),none⟩]
def c58_7:CC:=.ops [] (l58_6)
def l58_8:List COp:=[
 ⟨some 26,.mov (.t 0),none⟩,
 ⟨some 27,.mov (.t 1),none⟩,
 ⟨some 28,.mov (.t 2),none⟩,
 ⟨some 29,.mov (.t 4),none⟩,
 ⟨some 30,.callL 64 0 [(.t 26),(.t 27),(.t 28),(.t 29)],none⟩]
def c58_9:CC:=.ops [] (l58_8)
def c58_10:CC:=.seq c58_9 .ret
def c58_11:CC:=.cond (.t 25) c58_10 .skip
def c58_12:CC:=.seq c58_7 c58_11
def l58_13:List COp:=[
 ⟨some 31,.mov (.t 3),none⟩,
 ⟨some 32,.bin false .eql (.t 31) (.k (.p (.int .i64 0))),none⟩]
def c58_14:CC:=.ops [] (l58_13)
def l58_15:List COp:=[
 ⟨some 33,.mov (.t 0),none⟩,
 ⟨some 34,.mov (.t 1),none⟩,
 ⟨some 35,.mov (.t 2),none⟩,
 ⟨some 36,.mov (.t 4),none⟩,
 ⟨some 37,.call 65 [(.t 33),(.t 34),(.t 35),(.t 36)],none⟩]
def c58_16:CC:=.ops [] (l58_15)
def c58_17:CC:=.seq c58_16 .ret
def c58_18:CC:=.cond (.t 32) c58_17 .skip
def c58_19:CC:=.seq c58_14 c58_18
def l58_20:List COp:=[
 ⟨some 38,.mov (.t 10),none⟩,
 ⟨some 39,.un .not (.t 38),none⟩]
def c58_21:CC:=.ops [] (l58_20)
def l58_22:List COp:=[
 ⟨some 40,.mov (.t 0),none⟩,
 ⟨some 41,.mov (.t 1),none⟩,
 ⟨some 42,.mov (.t 2),none⟩,
 ⟨some 43,.mov (.t 4),none⟩,
 ⟨some 44,.call 66 [(.t 40),(.t 41),(.t 42),(.t 43)],none⟩]
def c58_23:CC:=.ops [] (l58_22)
def l58_24:List COp:=[
 ⟨some 45,.mov (.t 3),none⟩,
 ⟨some 46,.bin false .sub (.t 45) (.k (.p (.int .i64 1))),none⟩,
 ⟨some 3,.mov (.t 46),none⟩]
def c58_25:CC:=.ops [] (l58_24)
def c58_26:CC:=.seq c58_23 c58_25
def c58_27:CC:=.cond (.t 39) c58_26 .skip
def c58_28:CC:=.seq c58_21 c58_27
def l58_29:List COp:=[
 ⟨some 48,.mov (.t 0),none⟩,
 ⟨some 49,.mov (.t 1),none⟩,
 ⟨some 50,.mov (.t 2),none⟩,
 ⟨some 51,.mov (.t 4),none⟩,
 ⟨some 52,.call 67 [(.t 48),(.t 49),(.t 50),(.t 51)],none⟩]
def l58_30:List COp:=[
 ⟨some 47,.mov (.t 52),none⟩,
 ⟨some 53,.extract (.t 47) 0,none⟩,
 ⟨some 54,.extract (.t 47) 1,none⟩,
 ⟨some 13,.mov (.t 53),none⟩,
 ⟨some 14,.mov (.t 54),none⟩]
def c58_31:CC:=.ops [] (l58_29++(l58_30))
def l58_32:List COp:=[
 ⟨some 55,.mov (.t 14),none⟩,
 ⟨some 56,.bin false .eql (.t 55) (.k (.p (.int .i64 2))),none⟩]
def c58_33:CC:=.ops [] (l58_32)
def l58_34:List COp:=[
 ⟨some 57,.mov (.t 0),none⟩,
 ⟨some 58,.mov (.t 1),none⟩,
 ⟨some 59,.mov (.t 2),none⟩,
 ⟨some 60,.mov (.t 4),none⟩,
 ⟨some 61,.call 68 [(.t 57),(.t 58),(.t 59),(.t 60)],none⟩]
def c58_35:CC:=.ops [] (l58_34)
def l58_36:List COp:=[
 ⟨some 62,.mov (.t 2),none⟩,
 ⟨some 63,.bin false .sub (.t 62) (.k (.p (.int .i64 1))),none⟩,
 ⟨some 64,.mov (.t 13),none⟩,
 ⟨some 65,.mov (.t 1),none⟩,
 ⟨some 66,.bin false .sub (.t 64) (.t 65),none⟩,
 ⟨some 67,.bin false .sub (.t 63) (.t 66),none⟩,
 ⟨some 13,.mov (.t 67),none⟩]
def c58_37:CC:=.ops [] (l58_36)
def l58_38:List COp:=[
 ⟨some 14,.mov (.k (.p (.int .i64 1))),none⟩]
def c58_39:CC:=.ops [] (l58_38)
def c58_40:CC:=.seq c58_37 c58_39
def c58_41:CC:=.seq c58_35 c58_40
def c58_42:CC:=.cond (.t 56) c58_41 .skip
def c58_43:CC:=.seq c58_33 c58_42
def l58_44:List COp:=[
 ⟨some 68,.mov (.t 10),none⟩,
 ⟨some 69,.mov (.t 68),none⟩,
 ⟨some 70,.mov (.t 11),some (69,true)⟩,
 ⟨some 71,.pick (.t 69) (.t 70) (.k (.p (.bool false))),none⟩,
 ⟨some 72,.mov (.t 71),none⟩,
 ⟨some 73,.mov (.t 14),some (72,true)⟩,
 ⟨some 74,.bin false .eql (.t 73) (.k (.p (.int .i64 1))),some (72,true)⟩,
 ⟨some 75,.pick (.t 72) (.t 74) (.k (.p (.bool false))),none⟩]
def c58_45:CC:=.ops [] (l58_44)
def l58_46:List COp:=[
 ⟨some 76,.mov (.t 0),none⟩,
 ⟨some 77,.mov (.t 1),none⟩,
 ⟨some 78,.mov (.t 2),none⟩,
 ⟨some 79,.mov (.t 4),none⟩,
 ⟨some 80,.call 69 [(.t 76),(.t 77),(.t 78),(.t 79)],none⟩]
def c58_47:CC:=.ops [] (l58_46)
def c58_48:CC:=.cond (.t 80) .ret .skip
def c58_49:CC:=.seq c58_47 c58_48
def c58_50:CC:=.cond (.t 75) c58_49 .skip
def c58_51:CC:=.seq c58_45 c58_50
def l58_52:List COp:=[
 ⟨some 81,.mov (.t 1),none⟩,
 ⟨some 82,.bin false .gtr (.t 81) (.k (.p (.int .i64 0))),none⟩,
 ⟨some 83,.mov (.t 82),none⟩,
 ⟨some 84,.mov (.t 4),some (83,true)⟩,
 ⟨some 85,.mov (.t 0),some (83,true)⟩,
 ⟨some 86,.mov (.t 1),some (83,true)⟩,
 ⟨some 87,.bin false .sub (.t 86) (.k (.p (.int .i64 1))),some (83,true)⟩,
 ⟨some 88,.indexAddr 2 (.t 85) (.t 87),some (83,true)⟩,
 ⟨some 89,.load true 2 (.t 88),some (83,true)⟩,
 ⟨some 90,.mov (.t 0),some (83,true)⟩,
 ⟨some 91,.mov (.t 13),some (83,true)⟩,
 ⟨some 92,.indexAddr 2 (.t 90) (.t 91),some (83,true)⟩,
 ⟨some 93,.load true 2 (.t 92),some (83,true)⟩,
 ⟨some 94,.callv [] (.t 84) [(.t 89),(.t 93)],some (83,true)⟩]
def l58_53:List COp:=[
 ⟨some 95,.bin false .lss (.t 94) (.k (.p (.int .i64 0))),some (83,true)⟩,
 ⟨some 96,.un .not (.t 95),some (83,true)⟩,
 ⟨some 97,.pick (.t 83) (.t 96) (.k (.p (.bool false))),none⟩]
def c58_54:CC:=.ops [] (l58_52++(l58_53))
def l58_55:List COp:=[
 ⟨some 98,.mov (.t 0),none⟩,
 ⟨some 99,.mov (.t 1),none⟩,
 ⟨some 100,.mov (.t 2),none⟩,
 ⟨some 101,.mov (.t 13),none⟩,
 ⟨some 102,.mov (.t 4),none⟩,
 ⟨some 103,.call 70 [(.t 98),(.t 99),(.t 100),(.t 101),(.t 102)],none⟩]
def l58_56:List COp:=[
 ⟨some 15,.mov (.t 103),none⟩]
def c58_57:CC:=.ops [] (l58_55++(l58_56))
def l58_58:List COp:=[
 ⟨some 104,.mov (.t 15),none⟩,
 ⟨some 1,.mov (.t 104),none⟩]
def c58_59:CC:=.ops [] (l58_58)
def c58_60:CC:=.seq c58_59 (.exit 1)
def c58_61:CC:=.seq c58_57 c58_60
def c58_62:CC:=.cond (.t 97) c58_61 .skip
def c58_63:CC:=.seq c58_54 c58_62
def l58_64:List COp:=[
 ⟨some 106,.mov (.t 0),none⟩,
 ⟨some 107,.mov (.t 1),none⟩,
 ⟨some 108,.mov (.t 2),none⟩,
 ⟨some 109,.mov (.t 13),none⟩,
 ⟨some 110,.mov (.t 4),none⟩,
 ⟨some 111,.call 71 [(.t 106),(.t 107),(.t 108),(.t 109),(.t 110)],none⟩]
def l58_65:List COp:=[
 ⟨some 105,.mov (.t 111),none⟩,
 ⟨some 112,.extract (.t 105) 0,none⟩,
 ⟨some 113,.extract (.t 105) 1,none⟩,
 ⟨some 16,.mov (.t 112),none⟩,
 ⟨some 17,.mov (.t 113),none⟩]
def c58_66:CC:=.ops [] (l58_64++(l58_65))
def l58_67:List COp:=[
 ⟨some 114,.mov (.t 17),none⟩,
 ⟨some 11,.mov (.t 114),none⟩]
def c58_68:CC:=.ops [] (l58_67)
def l58_69:List COp:=[
 ⟨some 115,.mov (.t 16),none⟩,
 ⟨some 116,.mov (.t 1),none⟩,
 ⟨some 117,.bin false .sub (.t 115) (.t 116),none⟩,
 ⟨some 118,.mov (.t 2),none⟩,
 ⟨some 119,.mov (.t 16),none⟩,
 ⟨some 120,.bin false .sub (.t 118) (.t 119),none⟩,
 ⟨some 18,.mov (.t 117),none⟩,
 ⟨some 19,.mov (.t 120),none⟩]
def c58_70:CC:=.ops [] (l58_69)
def l58_71:List COp:=[
 ⟨some 121,.mov (.t 12),none⟩,
 ⟨some 122,.bin false .quo (.t 121) (.k (.p (.int .i64 8))),none⟩,
 ⟨some 20,.mov (.t 122),none⟩]
def c58_72:CC:=.ops [] (l58_71)
def l58_73:List COp:=[
 ⟨some 123,.mov (.t 18),none⟩,
 ⟨some 124,.mov (.t 19),none⟩,
 ⟨some 125,.bin false .lss (.t 123) (.t 124),none⟩]
def c58_74:CC:=.ops [] (l58_73)
def l58_75:List COp:=[
 ⟨some 126,.mov (.t 18),none⟩,
 ⟨some 127,.mov (.t 20),none⟩,
 ⟨some 128,.bin false .geq (.t 126) (.t 127),none⟩,
 ⟨some 10,.mov (.t 128),none⟩]
def c58_76:CC:=.ops [] (l58_75)
def l58_77:List COp:=[
 ⟨some 129,.mov (.t 0),none⟩,
 ⟨some 130,.mov (.t 1),none⟩,
 ⟨some 131,.mov (.t 16),none⟩,
 ⟨some 132,.mov (.t 3),none⟩,
 ⟨some 133,.mov (.t 4),none⟩,
 ⟨some 134,.callL 58 0 [(.t 129),(.t 130),(.t 131),(.t 132),(.t 133)],none⟩]
def c58_78:CC:=.ops [] (l58_77)
def l58_79:List COp:=[
 ⟨some 135,.mov (.t 16),none⟩,
 ⟨some 136,.bin false .add (.t 135) (.k (.p (.int .i64 1))),none⟩,
 ⟨some 1,.mov (.t 136),none⟩]
def c58_80:CC:=.ops [] (l58_79)
def c58_81:CC:=.seq c58_78 c58_80
def c58_82:CC:=.seq c58_76 c58_81
def l58_83:List COp:=[
 ⟨some 137,.mov (.t 19),none⟩,
 ⟨some 138,.mov (.t 20),none⟩,
 ⟨some 139,.bin false .geq (.t 137) (.t 138),none⟩,
 ⟨some 10,.mov (.t 139),none⟩]
def c58_84:CC:=.ops [] (l58_83)
def l58_85:List COp:=[
 ⟨some 140,.mov (.t 0),none⟩,
 ⟨some 141,.mov (.t 16),none⟩,
 ⟨some 142,.bin false .add (.t 141) (.k (.p (.int .i64 1))),none⟩,
 ⟨some 143,.mov (.t 2),none⟩,
 ⟨some 144,.mov (.t 3),none⟩,
 ⟨some 145,.mov (.t 4),none⟩,
 ⟨some 146,.callL 58 0 [(.t 140),(.t 142),(.t 143),(.t 144),(.t 145)],none⟩]
def c58_86:CC:=.ops [] (l58_85)
def l58_87:List COp:=[
 ⟨some 147,.mov (.t 16),none⟩,
 ⟨some 2,.mov (.t 147),none⟩]
def c58_88:CC:=.ops [] (l58_87)
def c58_89:CC:=.seq c58_86 c58_88
def c58_90:CC:=.seq c58_84 c58_89
def c58_91:CC:=.cond (.t 125) c58_82 c58_90
def c58_92:CC:=.seq c58_74 c58_91
def c58_93:CC:=.seq c58_72 c58_92
def c58_94:CC:=.seq c58_70 c58_93
def c58_95:CC:=.seq c58_68 c58_94
def c58_96:CC:=.seq c58_66 c58_95
def c58_97:CC:=.seq c58_63 c58_96
def c58_98:CC:=.seq c58_51 c58_97
def c58_99:CC:=.seq c58_43 c58_98
def c58_100:CC:=.seq c58_31 c58_99
def c58_101:CC:=.seq c58_28 c58_100
def c58_102:CC:=.seq c58_19 c58_101
def c58_103:CC:=.seq c58_12 c58_102
def c58_104:CC:=.seq c58_5 c58_103
def c58_105:CC:=.block 1 c58_104
def c58_106:CC:=.loop c58_105
def c58_107:CC:=.block 0 c58_106
def c58_108:CC:=.seq c58_3 c58_107
def c58_109:CC:=.seq c58_1 c58_108
def c58:CC:=c58_109
theorem fn58:FnOk Try.prog 58 [4000512,4000464,36] c58 [] 148:=
 ⟨Try.f58,[⟨17,[0,1,2,3,4,5,6,7,8,9,10,11,12,13,14,15,16],[0,1,3,7,7,7,39,119,247,7,7,1543,3591,8191,16383,32767,65535],[]⟩],Try.func58,by kernel_rfl,by kernel_rfl,by kernel_rfl,by kernel_rfl,by kernel_rfl⟩
def l59_0:List COp:=[
 ⟨some 2,.mov (.k (.p (.int .i64 0))),none⟩]
def c59_1:CC:=.ops [] (l59_0)
def l59_2:List COp:=[
 ⟨some 3,.mov (.t 0),none⟩,
 ⟨some 4,.conv .u32 (.t 3),none⟩,
 ⟨some 5,.call 72 [(.t 4)],none⟩]
def l59_3:List COp:=[
 ⟨some 2,.mov (.t 5),none⟩]
def c59_4:CC:=.ops [] (l59_2++(l59_3))
def c59_5:CC:=.seq c59_4 .ret
def c59_6:CC:=.cond (.k (.p (.bool false))) c59_5 .skip
def l59_7:List COp:=[
 ⟨some 6,.mov (.t 0),none⟩,
 ⟨some 7,.call 73 [(.t 6)],none⟩]
def l59_8:List COp:=[
 ⟨some 2,.mov (.t 7),none⟩]
def c59_9:CC:=.ops [] (l59_7++(l59_8))
def c59_10:CC:=.seq c59_9 .ret
def c59_11:CC:=.seq c59_6 c59_10
def c59_12:CC:=.seq c59_1 c59_11
def c59:CC:=c59_12
theorem fn59:FnOk Try.prog 59 [] c59 [(2,none)] 8:=
 ⟨Try.f59,[],Try.func59,by kernel_rfl,by kernel_rfl,by kernel_rfl,by kernel_rfl,by kernel_rfl⟩
def l73_0:List COp:=[
 ⟨some 2,.mov (.k (.p (.int .i64 0))),none⟩]
def c73_1:CC:=.ops [] (l73_0)
def l73_2:List COp:=[
 ⟨some 3,.mov (.t 0),none⟩,
 ⟨some 4,.bin false .geq (.t 3) (.k (.p (.int .u64 4294967296))),none⟩]
def c73_3:CC:=.ops [] (l73_2)
def l73_4:List COp:=[
 ⟨some 5,.mov (.t 0),none⟩,
 ⟨some 6,.bin false .shr (.t 5) (.k (.p (.int .u64 32))),none⟩,
 ⟨some 0,.mov (.t 6),none⟩]
def c73_5:CC:=.ops [] (l73_4)
def l73_6:List COp:=[
 ⟨some 2,.mov (.k (.p (.int .i64 32))),none⟩]
def c73_7:CC:=.ops [] (l73_6)
def c73_8:CC:=.seq c73_5 c73_7
def c73_9:CC:=.cond (.t 4) c73_8 .skip
def c73_10:CC:=.seq c73_3 c73_9
def l73_11:List COp:=[
 ⟨some 7,.mov (.t 0),none⟩,
 ⟨some 8,.bin false .geq (.t 7) (.k (.p (.int .u64 65536))),none⟩]
def c73_12:CC:=.ops [] (l73_11)
def l73_13:List COp:=[
 ⟨some 9,.mov (.t 0),none⟩,
 ⟨some 10,.bin false .shr (.t 9) (.k (.p (.int .u64 16))),none⟩,
 ⟨some 0,.mov (.t 10),none⟩]
def c73_14:CC:=.ops [] (l73_13)
def l73_15:List COp:=[
 ⟨some 11,.mov (.t 2),none⟩,
 ⟨some 12,.bin false .add (.t 11) (.k (.p (.int .i64 16))),none⟩,
 ⟨some 2,.mov (.t 12),none⟩]
def c73_16:CC:=.ops [] (l73_15)
def c73_17:CC:=.seq c73_14 c73_16
def c73_18:CC:=.cond (.t 8) c73_17 .skip
def c73_19:CC:=.seq c73_12 c73_18
def l73_20:List COp:=[
 ⟨some 13,.mov (.t 0),none⟩,
 ⟨some 14,.bin false .geq (.t 13) (.k (.p (.int .u64 256))),none⟩]
def c73_21:CC:=.ops [] (l73_20)
def l73_22:List COp:=[
 ⟨some 15,.mov (.t 0),none⟩,
 ⟨some 16,.bin false .shr (.t 15) (.k (.p (.int .u64 8))),none⟩,
 ⟨some 0,.mov (.t 16),none⟩]
def c73_23:CC:=.ops [] (l73_22)
def l73_24:List COp:=[
 ⟨some 17,.mov (.t 2),none⟩,
 ⟨some 18,.bin false .add (.t 17) (.k (.p (.int .i64 8))),none⟩,
 ⟨some 2,.mov (.t 18),none⟩]
def c73_25:CC:=.ops [] (l73_24)
def c73_26:CC:=.seq c73_23 c73_25
def c73_27:CC:=.cond (.t 14) c73_26 .skip
def c73_28:CC:=.seq c73_21 c73_27
def l73_29:List COp:=[
 ⟨some 19,.mov (.t 2),none⟩,
 ⟨some 20,.mov (.t 0),none⟩,
 ⟨some 21,.conv .u8 (.t 20),none⟩,
 ⟨some 22,.index (.k (.p (.str [0,1,2,2,3,3,3,3,4,4,4,4,4,4,4,4,5,5,5,5,5,5,5,5,5,5,5,5,5,5,5,5,6,6,6,6,6,6,6,6,6,6,6,6,6,6,6,6,6,6,6,6,6,6,6,6,6,6,6,6,6,6,6,6,7,7,7,7,7,7,7,7,7,7,7,7,7,7,7,7,7,7,7,7,7,7,7,7,7,7,7,7,7,7,7,7,7,7,7,7,7,7,7,7,7,7,7,7,7,7,7,7,7,7,7,7,7,7,7,7,7,7,7,7,7,7,7,7,8,8,8,8,8,8,8,8,8,8,8,8,8,8,8,8,8,8,8,8,8,8,8,8,8,8,8,8,8,8,8,8,8,8,8,8,8,8,8,8,8,8,8,8,8,8,8,8,8,8,8,8,8,8,8,8,8,8,8,8,8,8,8,8,8,8,8,8,8,8,8,8,8,8,8,8,8,8,8,8,8,8,8,8,8,8,8,8,8,8,8,8,8,8,8,8,8,8,8,8,8,8,8,8,8,8,8,8,8,8,8,8,8,8,8,8,8,8,8,8,8,8,8,8,8,8,8,8]))) (.t 21),none⟩,
 ⟨some 23,.conv .i64 (.t 22),none⟩,
 ⟨some 24,.bin false .add (.t 19) (.t 23),none⟩,
 ⟨some 2,.mov (.t 24),none⟩]
def c73_30:CC:=.ops [] (l73_29)
def c73_31:CC:=.seq c73_30 .ret
def c73_32:CC:=.seq c73_28 c73_31
def c73_33:CC:=.seq c73_19 c73_32
def c73_34:CC:=.seq c73_10 c73_33
def c73_35:CC:=.seq c73_1 c73_34
def c73:CC:=c73_35
theorem fn73:FnOk Try.prog 73 [] c73 [(2,none)] 25:=
 ⟨Try.f73,[],Try.func73,by kernel_rfl,by kernel_rfl,by kernel_rfl,by kernel_rfl,by kernel_rfl⟩
def l61_0:List COp:=[
 ⟨some 2,.mov (.k (.nils 3 1)),none⟩]
def c61_1:CC:=.ops [] (l61_0)
def l61_2:List COp:=[
 ⟨some 4,.mov (.t 0),none⟩,
 ⟨some 5,.len (.t 4),none⟩,
 ⟨some 3,.mov (.t 5),none⟩]
def c61_3:CC:=.ops [] (l61_2)
def l61_4:List COp:=[
 ⟨some 6,.mov (.t 3),none⟩,
 ⟨some 7,.bin false .gtr (.t 6) (.k (.p (.int .i64 0))),none⟩,
 ⟨some 8,.mov (.t 7),none⟩,
 ⟨some 9,.mov (.t 0),some (8,true)⟩,
 ⟨some 10,.mov (.t 3),some (8,true)⟩,
 ⟨some 11,.bin false .sub (.t 10) (.k (.p (.int .i64 1))),some (8,true)⟩,
 ⟨some 12,.indexAddr 1 (.t 9) (.t 11),some (8,true)⟩,
 ⟨some 13,.load false 1 (.t 12),some (8,true)⟩,
 ⟨some 14,.bin false .eql (.t 13) (.k (.p (.int .i64 0))),some (8,true)⟩,
 ⟨some 15,.pick (.t 8) (.t 14) (.k (.p (.bool false))),none⟩]
def c61_5:CC:=.ops [] (l61_4)
def c61_6:CC:=.cond (.t 15) .skip (.exit 0)
def c61_7:CC:=.seq c61_5 c61_6
def l61_8:List COp:=[
 ⟨some 16,.mov (.t 3),none⟩,
 ⟨some 17,.bin false .sub (.t 16) (.k (.p (.int .i64 1))),none⟩,
 ⟨some 3,.mov (.t 17),none⟩]
def c61_9:CC:=.ops [] (l61_8)
def c61_10:CC:=.block 1 c61_9
def c61_11:CC:=.seq c61_7 c61_10
def c61_12:CC:=.loop c61_11
def c61_13:CC:=.block 0 c61_12
def l61_14:List COp:=[
 ⟨some 18,.mov (.t 0),none⟩,
 ⟨some 19,.mov (.t 3),none⟩,
 ⟨some 20,.mov (.t 3),none⟩,
 ⟨some 21,.slice 1 (.t 18) none (some (.t 19)) (some (.t 20)),none⟩,
 ⟨some 2,.mov (.t 21),none⟩]
def c61_15:CC:=.ops [] (l61_14)
def c61_16:CC:=.seq c61_15 .ret
def c61_17:CC:=.seq c61_13 c61_16
def c61_18:CC:=.seq c61_3 c61_17
def c61_19:CC:=.seq c61_1 c61_18
def c61:CC:=c61_19
theorem fn61:FnOk Try.prog 61 [] c61 [(2,none)] 22:=
 ⟨Try.f61,[],Try.func61,by kernel_rfl,by kernel_rfl,by kernel_rfl,by kernel_rfl,by kernel_rfl⟩
def l63_0:List COp:=[
 ⟨some 4,.mov (.k (.p (.int .i64 0))),none⟩]
def c63_1:CC:=.ops [] (l63_0)
def l63_2:List COp:=[
 ⟨some 5,.mov (.t 1),none⟩,
 ⟨some 6,.mov (.t 0),none⟩,
 ⟨some 7,.len (.t 6),none⟩,
 ⟨some 8,.bin false .lss (.t 5) (.t 7),none⟩]
def c63_3:CC:=.ops [] (l63_2)
def l63_4:List COp:=[
 ⟨some 9,.mov (.t 0),none⟩,
 ⟨some 10,.mov (.t 1),none⟩,
 ⟨some 11,.indexAddr 1 (.t 9) (.t 10),none⟩,
 ⟨some 12,.load false 1 (.t 11),none⟩,
 ⟨some 4,.mov (.t 12),none⟩]
def c63_5:CC:=.ops [] (l63_4)
def c63_6:CC:=.seq c63_5 .ret
def c63_7:CC:=.cond (.t 8) c63_6 .skip
def c63_8:CC:=.seq c63_3 c63_7
def l63_9:List COp:=[
 ⟨some 4,.mov (.k (.p (.int .i64 0))),none⟩]
def c63_10:CC:=.ops [] (l63_9)
def c63_11:CC:=.seq c63_10 .ret
def c63_12:CC:=.seq c63_8 c63_11
def c63_13:CC:=.seq c63_1 c63_12
def c63:CC:=c63_13
theorem fn63:FnOk Try.prog 63 [] c63 [(4,none)] 13:=
 ⟨Try.f63,[],Try.func63,by kernel_rfl,by kernel_rfl,by kernel_rfl,by kernel_rfl,by kernel_rfl⟩
def l64_0:List COp:=[
 ⟨some 10,.mov (.t 1),none⟩,
 ⟨some 11,.bin false .add (.t 10) (.k (.p (.int .i64 1))),none⟩,
 ⟨some 8,.mov (.t 11),none⟩]
def c64_1:CC:=.ops [] (l64_0)
def l64_2:List COp:=[
 ⟨some 12,.mov (.t 8),none⟩,
 ⟨some 13,.mov (.t 2),none⟩,
 ⟨some 14,.bin false .lss (.t 12) (.t 13),none⟩]
def c64_3:CC:=.ops [] (l64_2)
def c64_4:CC:=.cond (.t 14) .skip (.exit 0)
def c64_5:CC:=.seq c64_3 c64_4
def l64_6:List COp:=[
 ⟨some 17,.mov (.t 8),none⟩,
 ⟨some 9,.mov (.t 17),none⟩]
def c64_7:CC:=.ops [] (l64_6)
def l64_8:List COp:=[
 ⟨some 18,.mov (.t 9),none⟩,
 ⟨some 19,.mov (.t 1),none⟩,
 ⟨some 20,.bin false .gtr (.t 18) (.t 19),none⟩,
 ⟨some 21,.mov (.t 20),none⟩,
 ⟨some 22,.mov (.t 3),some (21,true)⟩,
 ⟨some 23,.mov (.t 0),some (21,true)⟩,
 ⟨some 24,.mov (.t 9),some (21,true)⟩,
 ⟨some 25,.indexAddr 2 (.t 23) (.t 24),some (21,true)⟩,
 ⟨some 26,.load true 2 (.t 25),some (21,true)⟩,
 ⟨some 27,.mov (.t 0),some (21,true)⟩,
 ⟨some 28,.mov (.t 9),some (21,true)⟩,
 ⟨some 29,.bin false .sub (.t 28) (.k (.p (.int .i64 1))),some (21,true)⟩,
 ⟨some 30,.indexAddr 2 (.t 27) (.t 29),some (21,true)⟩,
 ⟨some 31,.load true 2 (.t 30),some (21,true)⟩,
 ⟨some 32,.callv [] (.t 22) [(.t 26),(.t 31)],some (21,true)⟩]
def l64_9:List COp:=[
 ⟨some 33,.bin false .lss (.t 32) (.k (.p (.int .i64 0))),some (21,true)⟩,
 ⟨some 34,.pick (.t 21) (.t 33) (.k (.p (.bool false))),none⟩]
def c64_10:CC:=.ops [] (l64_8++(l64_9))
def c64_11:CC:=.cond (.t 34) .skip (.exit 2)
def c64_12:CC:=.seq c64_10 c64_11
def l64_13:List COp:=[
 ⟨some 37,.mov (.t 0),none⟩,
 ⟨some 38,.mov (.t 9),none⟩,
 ⟨some 39,.mov (.t 0),none⟩,
 ⟨some 40,.mov (.t 9),none⟩,
 ⟨some 41,.bin false .sub (.t 40) (.k (.p (.int .i64 1))),none⟩,
 ⟨some 42,.mov (.t 0),none⟩,
 ⟨some 43,.mov (.t 9),none⟩,
 ⟨some 44,.bin false .sub (.t 43) (.k (.p (.int .i64 1))),none⟩,
 ⟨some 45,.indexAddr 2 (.t 42) (.t 44),none⟩,
 ⟨some 46,.load true 2 (.t 45),none⟩,
 ⟨some 47,.mov (.t 0),none⟩,
 ⟨some 48,.mov (.t 9),none⟩,
 ⟨some 49,.indexAddr 2 (.t 47) (.t 48),none⟩,
 ⟨some 50,.load true 2 (.t 49),none⟩,
 ⟨some 51,.indexAddr 2 (.t 37) (.t 38),none⟩,
 ⟨none,.store 2 (.t 51) (.t 46),none⟩,
 ⟨some 52,.indexAddr 2 (.t 39) (.t 41),none⟩,
 ⟨none,.store 2 (.t 52) (.t 50),none⟩]
def c64_14:CC:=.ops [] (l64_13)
def c64_15:CC:=.block 3 c64_14
def l64_16:List COp:=[
 ⟨some 35,.mov (.t 9),none⟩,
 ⟨some 36,.bin false .sub (.t 35) (.k (.p (.int .i64 1))),none⟩,
 ⟨some 9,.mov (.t 36),none⟩]
def c64_17:CC:=.ops [] (l64_16)
def c64_18:CC:=.seq c64_15 c64_17
def c64_19:CC:=.seq c64_12 c64_18
def c64_20:CC:=.loop c64_19
def c64_21:CC:=.block 2 c64_20
def c64_22:CC:=.seq c64_7 c64_21
def c64_23:CC:=.block 1 c64_22
def l64_24:List COp:=[
 ⟨some 15,.mov (.t 8),none⟩,
 ⟨some 16,.bin false .add (.t 15) (.k (.p (.int .i64 1))),none⟩,
 ⟨some 8,.mov (.t 16),none⟩]
def c64_25:CC:=.ops [] (l64_24)
def c64_26:CC:=.seq c64_23 c64_25
def c64_27:CC:=.seq c64_5 c64_26
def c64_28:CC:=.loop c64_27
def c64_29:CC:=.block 0 c64_28
def c64_30:CC:=.seq c64_1 c64_29
def c64:CC:=c64_30
theorem fn64:FnOk Try.prog 64 [36] c64 [] 53:=
 ⟨Try.f64,[⟨4,[0,1,2,3,4,5,6,7,8,9,10,11,12,13,14,15,16],[0,0,3,7,15,15,15,111,239,15,15,1039,3599,7695,16383,32767,65535],[]⟩,⟨6,[0,1,2,3,4,5,6,7,8,9,10,11,12,13,14,15,16,17],[0,0,0,0,8,0,0,64,224,480,0,0,3072,7168,16355,32739,65535,131071],[]⟩],Try.func64,by kernel_rfl,by kernel_rfl,by kernel_rfl,by kernel_rfl,by kernel_rfl⟩
end Go.Proofs.Ytlnhembcfhfpkaa.M
