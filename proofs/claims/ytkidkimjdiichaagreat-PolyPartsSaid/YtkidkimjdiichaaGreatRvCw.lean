/- Functions of the program in the small machine's words: written by a program of mine. Functions of the program in the small machine's words: written by a program of mine. Functions of the program in the small machine's words: written by a program of mine. -/
import Derived.Test.YtkidkimjdiichaaGreatK4w
section
namespace Go.Proofs.YtkidkimjdiichaaGreat.M
open Go.RowKit
def l38_0:List COp:=[
 ⟨some 1,.box 25 1 (.t 0),none⟩,
 ⟨some 2,.alloc 25 1 (.p (.agg [(.list 52 4 [])])),none⟩]
def c38_1:CC:=.ops [] (l38_0)
def l38_2:List COp:=[
 ⟨some 5,.fieldAddr 0 1 false (.t 1),none⟩,
 ⟨some 6,.load false 1 (.t 5),none⟩,
 ⟨some 7,.len (.t 6),none⟩,
 ⟨some 8,.bin false .eql (.t 7) (.k (.p (.int .i64 0))),none⟩]
def c38_3:CC:=.ops [] (l38_2)
def l38_4:List COp:=[
 ⟨some 9,.load true 1 (.t 1),none⟩,
 ⟨none,.store 1 (.t 2) (.t 9),none⟩]
def c38_5:CC:=.ops [] (l38_4)
def c38_6:CC:=.seq c38_5 .ret
def c38_7:CC:=.cond (.t 8) c38_6 .skip
def c38_8:CC:=.seq c38_3 c38_7
def l38_9:List COp:=[
 ⟨some 11,.call 110 [(.k (.p (.int .i64 1)))],none⟩]
def l38_10:List COp:=[
 ⟨some 12,.call 109 [(.t 11)],none⟩]
def l38_11:List COp:=[
 ⟨some 13,.load true 1 (.t 1),none⟩,
 ⟨some 14,.call 36 [(.t 13)],none⟩]
def l38_12:List COp:=[
 ⟨some 15,.call 112 [(.t 12),(.t 14)],none⟩]
def l38_13:List COp:=[
 ⟨some 10,.mov (.t 15),none⟩,
 ⟨some 16,.extract (.t 10) 0,none⟩,
 ⟨some 17,.extract (.t 10) 1,none⟩,
 ⟨some 3,.alloc 52 4 (.p (.agg [(.bool false),(.list 247 1 []),(.bool false),(.list 247 1 [])])),none⟩,
 ⟨some 4,.alloc 27 2 (.p (.agg [(.int .i64 0),(.int .i64 0)])),none⟩,
 ⟨none,.store 4 (.t 3) (.t 16),none⟩,
 ⟨none,.store 2 (.t 4) (.t 17),none⟩]
def c38_14:CC:=.ops [] (l38_9++(l38_10++(l38_11++(l38_12++(l38_13)))))
def l38_15:List COp:=[
 ⟨some 18,.load true 1 (.t 1),none⟩,
 ⟨some 19,.load true 4 (.t 3),none⟩,
 ⟨some 20,.call 47 [(.t 18),(.t 19)],none⟩]
def l38_16:List COp:=[
 ⟨none,.store 1 (.t 2) (.t 20),none⟩]
def c38_17:CC:=.ops [] (l38_15++(l38_16))
def c38_18:CC:=.seq c38_17 .ret
def c38_19:CC:=.seq c38_14 c38_18
def c38_20:CC:=.seq c38_8 c38_19
def c38_21:CC:=.seq c38_1 c38_20
def c38:CC:=c38_21
theorem fn38:FnOk Tryz.prog 38 [25,52,27] c38 [(2,some (true,1))] 21:=
 ⟨Tryz.f38,[⟨3,[0,1,2,3,4,5,6,7,8,9,10,11],[0,1,0,7,15,31,63,63,0,0,895,2047],[]⟩],Tryz.func38,by kernel_rfl,by kernel_rfl,by kernel_rfl,by kernel_rfl,by kernel_rfl⟩
def l40_0:List COp:=[
 ⟨some 1,.box 25 1 (.t 0),none⟩,
 ⟨some 2,.alloc 25 1 (.p (.agg [(.list 52 4 [])])),none⟩]
def c40_1:CC:=.ops [] (l40_0)
def l40_2:List COp:=[
 ⟨some 3,.mov (.k (.nils 52 4)),none⟩]
def c40_3:CC:=.ops [] (l40_2)
def l40_4:List COp:=[
 ⟨some 6,.fieldAddr 0 1 false (.t 1),none⟩,
 ⟨some 7,.load false 1 (.t 6),none⟩,
 ⟨some 8,.len (.t 7),none⟩,
 ⟨some 9,.mov (.k (.p (.int .i64 0))),none⟩]
def c40_5:CC:=.ops [] (l40_4)
def l40_6:List COp:=[
 ⟨some 10,.bin false .lss (.t 9) (.t 8),none⟩]
def c40_7:CC:=.ops [] (l40_6)
def c40_8:CC:=.cond (.t 10) .skip (.exit 0)
def l40_9:List COp:=[
 ⟨some 11,.mov (.t 9),none⟩,
 ⟨some 12,.indexAddr 4 (.t 7) (.t 9),none⟩,
 ⟨some 13,.load true 4 (.t 12),none⟩,
 ⟨some 5,.alloc 52 4 (.p (.agg [(.bool false),(.list 247 1 []),(.bool false),(.list 247 1 [])])),none⟩,
 ⟨some 4,.mov (.t 11),none⟩,
 ⟨none,.store 4 (.t 5) (.t 13),none⟩]
def c40_10:CC:=.ops [] (l40_9)
def l40_11:List COp:=[
 ⟨some 14,.mov (.t 4),none⟩,
 ⟨some 15,.bin false .gtr (.t 14) (.k (.p (.int .i64 0))),none⟩]
def c40_12:CC:=.ops [] (l40_11)
def l40_13:List COp:=[
 ⟨some 17,.load true 4 (.t 5),none⟩,
 ⟨some 16,.mov (.t 3),none⟩,
 ⟨some 18,.mov (.t 4),none⟩,
 ⟨some 19,.call 110 [(.t 18)],none⟩]
def l40_14:List COp:=[
 ⟨some 20,.call 109 [(.t 19)],none⟩]
def l40_15:List COp:=[
 ⟨some 21,.call 111 [(.t 17),(.t 20)],none⟩]
def l40_16:List COp:=[
 ⟨some 22,.buildSlice 52 4 (.agg [(.bool false),(.list 247 1 []),(.bool false),(.list 247 1 [])]) 1 [(0,(.t 21))],none⟩,
 ⟨some 23,.append 52 4 64 (.t 16) (.t 22),none⟩,
 ⟨some 3,.mov (.t 23),none⟩]
def c40_17:CC:=.ops [] (l40_13++(l40_14++(l40_15++(l40_16))))
def c40_18:CC:=.cond (.t 15) c40_17 .skip
def c40_19:CC:=.seq c40_12 c40_18
def c40_20:CC:=.seq c40_10 c40_19
def c40_21:CC:=.block 1 c40_20
def l40_22:List COp:=[
 ⟨some 24,.bin false .add (.t 9) (.k (.p (.int .i64 1))),none⟩,
 ⟨some 9,.mov (.t 24),none⟩]
def c40_23:CC:=.ops [] (l40_22)
def c40_24:CC:=.seq c40_21 c40_23
def c40_25:CC:=.seq c40_8 c40_24
def c40_26:CC:=.seq c40_7 c40_25
def c40_27:CC:=.loop c40_26
def c40_28:CC:=.block 0 c40_27
def c40_29:CC:=.seq c40_5 c40_28
def l40_30:List COp:=[
 ⟨some 25,.mov (.t 3),none⟩,
 ⟨some 26,.call 101 [(.t 25)],none⟩]
def l40_31:List COp:=[
 ⟨none,.store 1 (.t 2) (.t 26),none⟩]
def c40_32:CC:=.ops [] (l40_30++(l40_31))
def c40_33:CC:=.seq c40_32 .ret
def c40_34:CC:=.seq c40_29 c40_33
def c40_35:CC:=.seq c40_3 c40_34
def c40_36:CC:=.seq c40_1 c40_35
def c40:CC:=c40_36
theorem fn40:FnOk Tryz.prog 40 [25,52] c40 [(2,some (true,1))] 27:=
 ⟨Tryz.f40,[⟨6,[1,0,2,3,4,5,6,7,8],[0,0,0,4,12,30,62,127,255],[]⟩],Tryz.func40,by kernel_rfl,by kernel_rfl,by kernel_rfl,by kernel_rfl,by kernel_rfl⟩
def l39_0:List COp:=[
 ⟨some 2,.mov (.k (.nils 60 4)),none⟩]
def c39_1:CC:=.ops [] (l39_0)
def l39_2:List COp:=[
 ⟨some 5,.mov (.t 0),none⟩,
 ⟨some 6,.len (.t 5),none⟩,
 ⟨some 7,.bin false .eql (.t 6) (.k (.p (.int .i64 0))),none⟩]
def c39_3:CC:=.ops [] (l39_2)
def l39_4:List COp:=[
 ⟨some 8,.mov (.t 0),none⟩,
 ⟨some 2,.mov (.t 8),none⟩]
def c39_5:CC:=.ops [] (l39_4)
def c39_6:CC:=.seq c39_5 .ret
def c39_7:CC:=.cond (.t 7) c39_6 .skip
def c39_8:CC:=.seq c39_3 c39_7
def l39_9:List COp:=[
 ⟨some 10,.call 53 [(.k (.p (.int .i64 1)))],none⟩]
def l39_10:List COp:=[
 ⟨some 11,.mov (.t 0),none⟩,
 ⟨some 12,.call 37 [(.t 11)],none⟩]
def l39_11:List COp:=[
 ⟨some 13,.call 114 [(.t 10),(.t 12)],none⟩]
def l39_12:List COp:=[
 ⟨some 9,.mov (.t 13),none⟩,
 ⟨some 14,.extract (.t 9) 0,none⟩,
 ⟨some 15,.extract (.t 9) 1,none⟩,
 ⟨some 3,.alloc 60 4 (.p (.agg [(.bool false),(.list 3 1 []),(.bool false),(.list 3 1 [])])),none⟩,
 ⟨some 4,.alloc 27 2 (.p (.agg [(.int .i64 0),(.int .i64 0)])),none⟩,
 ⟨none,.store 4 (.t 3) (.t 14),none⟩,
 ⟨none,.store 2 (.t 4) (.t 15),none⟩]
def c39_13:CC:=.ops [] (l39_9++(l39_10++(l39_11++(l39_12))))
def l39_14:List COp:=[
 ⟨some 16,.mov (.t 0),none⟩,
 ⟨some 17,.load true 4 (.t 3),none⟩,
 ⟨some 18,.call 48 [(.t 16),(.t 17)],none⟩]
def l39_15:List COp:=[
 ⟨some 2,.mov (.t 18),none⟩]
def c39_16:CC:=.ops [] (l39_14++(l39_15))
def c39_17:CC:=.seq c39_16 .ret
def c39_18:CC:=.seq c39_13 c39_17
def c39_19:CC:=.seq c39_8 c39_18
def c39_20:CC:=.seq c39_1 c39_19
def c39:CC:=c39_20
theorem fn39:FnOk Tryz.prog 39 [60,27] c39 [(2,none)] 19:=
 ⟨Tryz.f39,[],Tryz.func39,by kernel_rfl,by kernel_rfl,by kernel_rfl,by kernel_rfl,by kernel_rfl⟩
def l41_0:List COp:=[
 ⟨some 2,.mov (.k (.nils 60 4)),none⟩]
def c41_1:CC:=.ops [] (l41_0)
def l41_2:List COp:=[
 ⟨some 3,.mov (.k (.nils 60 4)),none⟩]
def c41_3:CC:=.ops [] (l41_2)
def l41_4:List COp:=[
 ⟨some 4,.mov (.k (.p (.int .i64 1))),none⟩]
def c41_5:CC:=.ops [] (l41_4)
def l41_6:List COp:=[
 ⟨some 5,.mov (.t 4),none⟩,
 ⟨some 6,.mov (.t 0),none⟩,
 ⟨some 7,.len (.t 6),none⟩,
 ⟨some 8,.bin false .lss (.t 5) (.t 7),none⟩]
def c41_7:CC:=.ops [] (l41_6)
def c41_8:CC:=.cond (.t 8) .skip (.exit 0)
def c41_9:CC:=.seq c41_7 c41_8
def l41_10:List COp:=[
 ⟨some 11,.mov (.t 3),none⟩,
 ⟨some 12,.mov (.t 0),none⟩,
 ⟨some 13,.mov (.t 4),none⟩,
 ⟨some 14,.indexAddr 4 (.t 12) (.t 13),none⟩,
 ⟨some 15,.load true 4 (.t 14),none⟩,
 ⟨some 16,.mov (.t 4),none⟩,
 ⟨some 17,.call 53 [(.t 16)],none⟩]
def l41_11:List COp:=[
 ⟨some 18,.call 79 [(.t 15),(.t 17)],none⟩]
def l41_12:List COp:=[
 ⟨some 19,.buildSlice 60 4 (.agg [(.bool false),(.list 3 1 []),(.bool false),(.list 3 1 [])]) 1 [(0,(.t 18))],none⟩,
 ⟨some 20,.append 60 4 64 (.t 11) (.t 19),none⟩,
 ⟨some 3,.mov (.t 20),none⟩]
def c41_13:CC:=.ops [] (l41_10++(l41_11++(l41_12)))
def c41_14:CC:=.block 1 c41_13
def l41_15:List COp:=[
 ⟨some 9,.mov (.t 4),none⟩,
 ⟨some 10,.bin false .add (.t 9) (.k (.p (.int .i64 1))),none⟩,
 ⟨some 4,.mov (.t 10),none⟩]
def c41_16:CC:=.ops [] (l41_15)
def c41_17:CC:=.seq c41_14 c41_16
def c41_18:CC:=.seq c41_9 c41_17
def c41_19:CC:=.loop c41_18
def c41_20:CC:=.block 0 c41_19
def c41_21:CC:=.seq c41_5 c41_20
def l41_22:List COp:=[
 ⟨some 21,.mov (.t 3),none⟩,
 ⟨some 22,.call 108 [(.t 21)],none⟩]
def l41_23:List COp:=[
 ⟨some 2,.mov (.t 22),none⟩]
def c41_24:CC:=.ops [] (l41_22++(l41_23))
def c41_25:CC:=.seq c41_24 .ret
def c41_26:CC:=.seq c41_21 c41_25
def c41_27:CC:=.seq c41_3 c41_26
def c41_28:CC:=.seq c41_1 c41_27
def c41:CC:=c41_28
theorem fn41:FnOk Tryz.prog 41 [60] c41 [(2,none)] 23:=
 ⟨Tryz.f41,[⟨5,[0,1,2,3,4,5,6,7,8,9,10],[0,0,0,6,14,0,32,126,254,511,1023],[]⟩],Tryz.func41,by kernel_rfl,by kernel_rfl,by kernel_rfl,by kernel_rfl,by kernel_rfl⟩
end Go.Proofs.YtkidkimjdiichaaGreat.M
end

section
namespace Go.Proofs.YtkidkimjdiichaaGreat.M
open Go.RowKit
def l57_0:List COp:=[
 ⟨some 2,.box 25 1 (.t 0),none⟩,
 ⟨some 3,.box 25 1 (.t 1),none⟩,
 ⟨some 4,.alloc 25 1 (.p (.agg [(.list 52 4 [])])),none⟩]
def c57_1:CC:=.ops [] (l57_0)
def l57_2:List COp:=[
 ⟨some 8,.fieldAddr 0 1 false (.t 3),none⟩,
 ⟨some 9,.load false 1 (.t 8),none⟩,
 ⟨some 10,.len (.t 9),none⟩,
 ⟨some 11,.bin false .gtr (.t 10) (.k (.p (.int .i64 0))),none⟩]
def c57_3:CC:=.ops [] (l57_2)
def c57_4:CC:=.cond (.t 11) .skip (.exit 0)
def c57_5:CC:=.seq c57_3 c57_4
def l57_6:List COp:=[
 ⟨some 13,.load true 1 (.t 2),none⟩,
 ⟨some 14,.load true 1 (.t 3),none⟩,
 ⟨some 15,.call 25 [(.t 13),(.t 14)],none⟩]
def l57_7:List COp:=[
 ⟨some 12,.mov (.t 15),none⟩,
 ⟨some 16,.extract (.t 12) 0,none⟩,
 ⟨some 17,.extract (.t 12) 1,none⟩,
 ⟨some 18,.extract (.t 12) 2,none⟩,
 ⟨some 5,.alloc 25 1 (.p (.agg [(.list 52 4 [])])),none⟩,
 ⟨some 6,.alloc 25 1 (.p (.agg [(.list 52 4 [])])),none⟩,
 ⟨some 7,.alloc 27 2 (.p (.agg [(.int .i64 0),(.int .i64 0)])),none⟩,
 ⟨none,.store 1 (.t 5) (.t 16),none⟩,
 ⟨none,.store 1 (.t 6) (.t 17),none⟩,
 ⟨none,.store 2 (.t 7) (.t 18),none⟩]
def c57_8:CC:=.ops [] (l57_6++(l57_7))
def l57_9:List COp:=[
 ⟨some 19,.load true 1 (.t 3),none⟩,
 ⟨some 20,.load true 1 (.t 6),none⟩,
 ⟨some 21,.call 38 [(.t 20)],none⟩]
def l57_10:List COp:=[
 ⟨none,.store 1 (.t 2) (.t 19),none⟩,
 ⟨none,.store 1 (.t 3) (.t 21),none⟩]
def c57_11:CC:=.ops [] (l57_9++(l57_10))
def c57_12:CC:=.seq c57_8 c57_11
def c57_13:CC:=.block 1 c57_12
def c57_14:CC:=.seq c57_5 c57_13
def c57_15:CC:=.loop c57_14
def c57_16:CC:=.block 0 c57_15
def l57_17:List COp:=[
 ⟨some 22,.load true 1 (.t 2),none⟩,
 ⟨some 23,.call 38 [(.t 22)],none⟩]
def l57_18:List COp:=[
 ⟨none,.store 1 (.t 4) (.t 23),none⟩]
def c57_19:CC:=.ops [] (l57_17++(l57_18))
def c57_20:CC:=.seq c57_19 .ret
def c57_21:CC:=.seq c57_16 c57_20
def c57_22:CC:=.seq c57_1 c57_21
def c57:CC:=c57_22
theorem fn57:FnOk Tryz.prog 57 [25,27] c57 [(4,some (true,1))] 24:=
 ⟨Tryz.f57,[⟨3,[0,1,2,3,4],[0,0,2,7,15],[]⟩],Tryz.func57,by kernel_rfl,by kernel_rfl,by kernel_rfl,by kernel_rfl,by kernel_rfl⟩
def l55_0:List COp:=[
 ⟨some 4,.mov (.k (.nils 60 4)),none⟩]
def c55_1:CC:=.ops [] (l55_0)
def l55_2:List COp:=[
 ⟨some 7,.mov (.t 1),none⟩,
 ⟨some 8,.len (.t 7),none⟩,
 ⟨some 9,.bin false .gtr (.t 8) (.k (.p (.int .i64 0))),none⟩]
def c55_3:CC:=.ops [] (l55_2)
def c55_4:CC:=.cond (.t 9) .skip (.exit 0)
def c55_5:CC:=.seq c55_3 c55_4
def l55_6:List COp:=[
 ⟨some 11,.mov (.t 0),none⟩,
 ⟨some 12,.mov (.t 1),none⟩,
 ⟨some 13,.call 28 [(.t 11),(.t 12)],none⟩]
def l55_7:List COp:=[
 ⟨some 10,.mov (.t 13),none⟩,
 ⟨some 14,.extract (.t 10) 0,none⟩,
 ⟨some 15,.extract (.t 10) 1,none⟩,
 ⟨some 5,.mov (.t 14),none⟩,
 ⟨some 6,.mov (.t 15),none⟩]
def c55_8:CC:=.ops [] (l55_6++(l55_7))
def l55_9:List COp:=[
 ⟨some 16,.mov (.t 1),none⟩,
 ⟨some 17,.mov (.t 6),none⟩,
 ⟨some 18,.call 39 [(.t 17)],none⟩]
def l55_10:List COp:=[
 ⟨some 0,.mov (.t 16),none⟩,
 ⟨some 1,.mov (.t 18),none⟩]
def c55_11:CC:=.ops [] (l55_9++(l55_10))
def c55_12:CC:=.seq c55_8 c55_11
def c55_13:CC:=.block 1 c55_12
def c55_14:CC:=.seq c55_5 c55_13
def c55_15:CC:=.loop c55_14
def c55_16:CC:=.block 0 c55_15
def l55_17:List COp:=[
 ⟨some 19,.mov (.t 0),none⟩,
 ⟨some 20,.call 39 [(.t 19)],none⟩]
def l55_18:List COp:=[
 ⟨some 4,.mov (.t 20),none⟩]
def c55_19:CC:=.ops [] (l55_17++(l55_18))
def c55_20:CC:=.seq c55_19 .ret
def c55_21:CC:=.seq c55_16 c55_20
def c55_22:CC:=.seq c55_1 c55_21
def c55:CC:=c55_22
theorem fn55:FnOk Tryz.prog 55 [] c55 [(4,none)] 21:=
 ⟨Tryz.f55,[],Tryz.func55,by kernel_rfl,by kernel_rfl,by kernel_rfl,by kernel_rfl,by kernel_rfl⟩
end Go.Proofs.YtkidkimjdiichaaGreat.M
end

section
namespace Go.Proofs.YtkidkimjdiichaaGreat.M
open Go.RowKit
def l139_0:List COp:=[
 ⟨some 1,.box 25 1 (.t 0),none⟩,
 ⟨some 2,.mov (.k (.nils 181 2)),none⟩]
def c139_1:CC:=.ops [] (l139_0)
def l139_2:List COp:=[
 ⟨some 3,.mov (.k (.nils 181 2)),none⟩]
def c139_3:CC:=.ops [] (l139_2)
def l139_4:List COp:=[
 ⟨some 15,.load true 1 (.t 1),none⟩,
 ⟨some 16,.call 40 [(.t 15)],none⟩]
def l139_5:List COp:=[
 ⟨some 4,.alloc 25 1 (.p (.agg [(.list 52 4 [])])),none⟩,
 ⟨none,.store 1 (.t 4) (.t 16),none⟩]
def c139_6:CC:=.ops [] (l139_4++(l139_5))
def l139_7:List COp:=[
 ⟨some 17,.load true 1 (.t 1),none⟩,
 ⟨some 18,.load true 1 (.t 4),none⟩,
 ⟨some 19,.call 57 [(.t 17),(.t 18)],none⟩]
def l139_8:List COp:=[
 ⟨some 5,.alloc 25 1 (.p (.agg [(.list 52 4 [])])),none⟩,
 ⟨none,.store 1 (.t 5) (.t 19),none⟩]
def c139_9:CC:=.ops [] (l139_7++(l139_8))
def l139_10:List COp:=[
 ⟨some 21,.load true 1 (.t 1),none⟩,
 ⟨some 22,.load true 1 (.t 5),none⟩,
 ⟨some 23,.call 25 [(.t 21),(.t 22)],none⟩]
def l139_11:List COp:=[
 ⟨some 20,.mov (.t 23),none⟩,
 ⟨some 24,.extract (.t 20) 0,none⟩,
 ⟨some 25,.extract (.t 20) 1,none⟩,
 ⟨some 26,.extract (.t 20) 2,none⟩,
 ⟨some 6,.alloc 25 1 (.p (.agg [(.list 52 4 [])])),none⟩,
 ⟨some 7,.alloc 25 1 (.p (.agg [(.list 52 4 [])])),none⟩,
 ⟨some 8,.alloc 27 2 (.p (.agg [(.int .i64 0),(.int .i64 0)])),none⟩,
 ⟨none,.store 1 (.t 6) (.t 24),none⟩,
 ⟨none,.store 1 (.t 7) (.t 25),none⟩,
 ⟨none,.store 2 (.t 8) (.t 26),none⟩]
def c139_12:CC:=.ops [] (l139_10++(l139_11))
def l139_13:List COp:=[
 ⟨some 28,.load true 1 (.t 4),none⟩,
 ⟨some 29,.load true 1 (.t 5),none⟩,
 ⟨some 30,.call 25 [(.t 28),(.t 29)],none⟩]
def l139_14:List COp:=[
 ⟨some 27,.mov (.t 30),none⟩,
 ⟨some 31,.extract (.t 27) 0,none⟩,
 ⟨some 32,.extract (.t 27) 1,none⟩,
 ⟨some 33,.extract (.t 27) 2,none⟩,
 ⟨some 9,.alloc 25 1 (.p (.agg [(.list 52 4 [])])),none⟩,
 ⟨some 10,.alloc 25 1 (.p (.agg [(.list 52 4 [])])),none⟩,
 ⟨some 11,.alloc 27 2 (.p (.agg [(.int .i64 0),(.int .i64 0)])),none⟩,
 ⟨none,.store 1 (.t 9) (.t 31),none⟩,
 ⟨none,.store 1 (.t 10) (.t 32),none⟩,
 ⟨none,.store 2 (.t 11) (.t 33),none⟩]
def c139_15:CC:=.ops [] (l139_13++(l139_14))
def l139_16:List COp:=[
 ⟨some 12,.mov (.k (.p (.int .i64 1))),none⟩]
def c139_17:CC:=.ops [] (l139_16)
def l139_18:List COp:=[
 ⟨some 34,.load true 1 (.t 6),none⟩,
 ⟨some 35,.call 27 [(.t 34)],none⟩]
def l139_19:List COp:=[
 ⟨some 36,.bin false .gtr (.t 35) (.k (.p (.int .i64 0))),none⟩]
def c139_20:CC:=.ops [] (l139_18++(l139_19))
def c139_21:CC:=.cond (.t 36) .skip (.exit 0)
def c139_22:CC:=.seq c139_20 c139_21
def l139_23:List COp:=[
 ⟨some 39,.load true 1 (.t 9),none⟩,
 ⟨some 40,.load true 1 (.t 6),none⟩,
 ⟨some 41,.call 40 [(.t 40)],none⟩]
def l139_24:List COp:=[
 ⟨some 42,.call 19 [(.t 39),(.t 41)],none⟩]
def l139_25:List COp:=[
 ⟨some 13,.alloc 25 1 (.p (.agg [(.list 52 4 [])])),none⟩,
 ⟨none,.store 1 (.t 13) (.t 42),none⟩]
def c139_26:CC:=.ops [] (l139_23++(l139_24++(l139_25)))
def l139_27:List COp:=[
 ⟨some 43,.load true 1 (.t 6),none⟩,
 ⟨some 44,.load true 1 (.t 13),none⟩,
 ⟨some 45,.call 57 [(.t 43),(.t 44)],none⟩]
def l139_28:List COp:=[
 ⟨some 14,.alloc 25 1 (.p (.agg [(.list 52 4 [])])),none⟩,
 ⟨none,.store 1 (.t 14) (.t 45),none⟩]
def c139_29:CC:=.ops [] (l139_27++(l139_28))
def l139_30:List COp:=[
 ⟨some 46,.load true 1 (.t 14),none⟩,
 ⟨some 47,.call 27 [(.t 46)],none⟩]
def l139_31:List COp:=[
 ⟨some 48,.bin false .gtr (.t 47) (.k (.p (.int .i64 0))),none⟩]
def c139_32:CC:=.ops [] (l139_30++(l139_31))
def l139_33:List COp:=[
 ⟨some 49,.mov (.t 3),none⟩,
 ⟨some 50,.load true 1 (.t 14),none⟩,
 ⟨some 51,.mov (.t 12),none⟩,
 ⟨some 52,.build [(.p (.list 52 4 [])),(.p (.int .i64 0))] [(0,1,(.t 50)),(1,1,(.t 51))],none⟩,
 ⟨some 53,.buildSlice 181 2 (.agg [(.list 52 4 []),(.int .i64 0)]) 1 [(0,(.t 52))],none⟩,
 ⟨some 54,.append 181 2 32 (.t 49) (.t 53),none⟩,
 ⟨some 3,.mov (.t 54),none⟩]
def c139_34:CC:=.ops [] (l139_33)
def c139_35:CC:=.cond (.t 48) c139_34 .skip
def c139_36:CC:=.seq c139_32 c139_35
def l139_37:List COp:=[
 ⟨some 56,.load true 1 (.t 6),none⟩,
 ⟨some 57,.load true 1 (.t 14),none⟩,
 ⟨some 58,.call 25 [(.t 56),(.t 57)],none⟩]
def l139_38:List COp:=[
 ⟨some 55,.mov (.t 58),none⟩,
 ⟨some 59,.extract (.t 55) 0,none⟩,
 ⟨some 60,.extract (.t 55) 1,none⟩,
 ⟨some 61,.extract (.t 55) 2,none⟩,
 ⟨none,.store 1 (.t 6) (.t 59),none⟩]
def c139_39:CC:=.ops [] (l139_37++(l139_38))
def l139_40:List COp:=[
 ⟨some 63,.load true 1 (.t 13),none⟩,
 ⟨some 64,.load true 1 (.t 14),none⟩,
 ⟨some 65,.call 25 [(.t 63),(.t 64)],none⟩]
def l139_41:List COp:=[
 ⟨some 62,.mov (.t 65),none⟩,
 ⟨some 66,.extract (.t 62) 0,none⟩,
 ⟨some 67,.extract (.t 62) 1,none⟩,
 ⟨some 68,.extract (.t 62) 2,none⟩,
 ⟨none,.store 1 (.t 9) (.t 66),none⟩]
def c139_42:CC:=.ops [] (l139_40++(l139_41))
def c139_43:CC:=.seq c139_39 c139_42
def c139_44:CC:=.seq c139_36 c139_43
def c139_45:CC:=.seq c139_29 c139_44
def c139_46:CC:=.seq c139_26 c139_45
def c139_47:CC:=.block 1 c139_46
def l139_48:List COp:=[
 ⟨some 37,.mov (.t 12),none⟩,
 ⟨some 38,.bin false .add (.t 37) (.k (.p (.int .i64 1))),none⟩,
 ⟨some 12,.mov (.t 38),none⟩]
def c139_49:CC:=.ops [] (l139_48)
def c139_50:CC:=.seq c139_47 c139_49
def c139_51:CC:=.seq c139_22 c139_50
def c139_52:CC:=.loop c139_51
def c139_53:CC:=.block 0 c139_52
def c139_54:CC:=.seq c139_17 c139_53
def l139_55:List COp:=[
 ⟨some 69,.mov (.t 3),none⟩,
 ⟨some 2,.mov (.t 69),none⟩]
def c139_56:CC:=.ops [] (l139_55)
def c139_57:CC:=.seq c139_56 .ret
def c139_58:CC:=.seq c139_54 c139_57
def c139_59:CC:=.seq c139_15 c139_58
def c139_60:CC:=.seq c139_12 c139_59
def c139_61:CC:=.seq c139_9 c139_60
def c139_62:CC:=.seq c139_6 c139_61
def c139_63:CC:=.seq c139_3 c139_62
def c139_64:CC:=.seq c139_1 c139_63
def c139:CC:=c139_64
theorem fn139:FnOk Tryz.prog 139 [25,27,181] c139 [(2,none)] 70:=
 ⟨Tryz.f139,[⟨9,[0,1,2,3,4,5],[0,0,2,7,0,31],[]⟩],Tryz.func139,by kernel_rfl,by kernel_rfl,by kernel_rfl,by kernel_rfl,by kernel_rfl⟩
def l51_0:List COp:=[
 ⟨some 1,.box 25 1 (.t 0),none⟩,
 ⟨some 2,.alloc 52 4 (.p (.agg [(.bool false),(.list 247 1 []),(.bool false),(.list 247 1 [])])),none⟩,
 ⟨some 3,.mov (.k (.nils 83 2)),none⟩,
 ⟨some 4,.alloc 27 2 (.p (.agg [(.int .i64 0),(.int .i64 0)])),none⟩]
def c51_1:CC:=.ops [] (l51_0)
def l51_2:List COp:=[
 ⟨some 8,.fieldAddr 0 1 false (.t 1),none⟩,
 ⟨some 9,.load false 1 (.t 8),none⟩,
 ⟨some 10,.len (.t 9),none⟩,
 ⟨some 11,.bin false .eql (.t 10) (.k (.p (.int .i64 0))),none⟩]
def c51_3:CC:=.ops [] (l51_2)
def l51_4:List COp:=[
 ⟨some 12,.build [(.p (.bool false)),(.p (.list 247 1 [])),(.p (.bool false)),(.p (.list 247 1 []))] [],none⟩,
 ⟨some 13,.call 100 [(.k (.p (.int .i64 4))),(.k (.p (.int .i64 0)))],none⟩]
def l51_5:List COp:=[
 ⟨none,.store 4 (.t 2) (.t 12),none⟩,
 ⟨some 3,.mov (.k (.nils 83 2)),none⟩,
 ⟨none,.store 2 (.t 4) (.t 13),none⟩]
def c51_6:CC:=.ops [] (l51_4++(l51_5))
def c51_7:CC:=.seq c51_6 .ret
def c51_8:CC:=.cond (.t 11) c51_7 .skip
def c51_9:CC:=.seq c51_3 c51_8
def l51_10:List COp:=[
 ⟨some 5,.mov (.k (.nils 83 2)),none⟩]
def c51_11:CC:=.ops [] (l51_10)
def l51_12:List COp:=[
 ⟨some 14,.load true 1 (.t 1),none⟩,
 ⟨some 15,.call 139 [(.t 14)],none⟩]
def l51_13:List COp:=[
 ⟨some 16,.len (.t 15),none⟩,
 ⟨some 17,.mov (.k (.p (.int .i64 0))),none⟩]
def c51_14:CC:=.ops [] (l51_12++(l51_13))
def l51_15:List COp:=[
 ⟨some 18,.bin false .lss (.t 17) (.t 16),none⟩]
def c51_16:CC:=.ops [] (l51_15)
def c51_17:CC:=.cond (.t 18) .skip (.exit 0)
def l51_18:List COp:=[
 ⟨some 19,.indexAddr 2 (.t 15) (.t 17),none⟩,
 ⟨some 20,.load true 2 (.t 19),none⟩,
 ⟨some 7,.alloc 181 2 (.p (.agg [(.list 52 4 []),(.int .i64 0)])),none⟩,
 ⟨none,.store 2 (.t 7) (.t 20),none⟩]
def c51_19:CC:=.ops [] (l51_18)
def l51_20:List COp:=[
 ⟨some 21,.mov (.t 5),none⟩,
 ⟨some 22,.fieldAddr 0 1 true (.t 7),none⟩,
 ⟨some 23,.load true 1 (.t 22),none⟩,
 ⟨some 24,.call 104 [(.t 23)],none⟩]
def l51_21:List COp:=[
 ⟨some 25,.fieldAddr 1 1 false (.t 7),none⟩,
 ⟨some 26,.load false 1 (.t 25),none⟩,
 ⟨some 27,.build [(.p (.list 9 1 [])),(.p (.int .i64 0))] [(0,1,(.t 24)),(1,1,(.t 26))],none⟩,
 ⟨some 28,.buildSlice 83 2 (.agg [(.list 9 1 []),(.int .i64 0)]) 1 [(0,(.t 27))],none⟩,
 ⟨some 29,.append 83 2 32 (.t 21) (.t 28),none⟩,
 ⟨some 5,.mov (.t 29),none⟩]
def c51_22:CC:=.ops [] (l51_20++(l51_21))
def c51_23:CC:=.seq c51_19 c51_22
def c51_24:CC:=.block 1 c51_23
def l51_25:List COp:=[
 ⟨some 30,.bin false .add (.t 17) (.k (.p (.int .i64 1))),none⟩,
 ⟨some 17,.mov (.t 30),none⟩]
def c51_26:CC:=.ops [] (l51_25)
def c51_27:CC:=.seq c51_24 c51_26
def c51_28:CC:=.seq c51_17 c51_27
def c51_29:CC:=.seq c51_16 c51_28
def c51_30:CC:=.loop c51_29
def c51_31:CC:=.block 0 c51_30
def c51_32:CC:=.seq c51_14 c51_31
def l51_33:List COp:=[
 ⟨some 31,.load true 1 (.t 1),none⟩,
 ⟨some 32,.call 36 [(.t 31)],none⟩]
def l51_34:List COp:=[
 ⟨some 33,.mov (.t 5),none⟩,
 ⟨some 34,.build [(.p (.int .i64 0)),(.p (.int .i64 0))] [],none⟩,
 ⟨none,.store 4 (.t 2) (.t 32),none⟩,
 ⟨some 3,.mov (.t 33),none⟩,
 ⟨none,.store 2 (.t 4) (.t 34),none⟩]
def c51_35:CC:=.ops [] (l51_33++(l51_34))
def c51_36:CC:=.seq c51_35 .ret
def c51_37:CC:=.seq c51_32 c51_36
def c51_38:CC:=.seq c51_11 c51_37
def c51_39:CC:=.seq c51_9 c51_38
def c51_40:CC:=.seq c51_1 c51_39
def c51:CC:=c51_40
theorem fn51:FnOk Tryz.prog 51 [25,52,27,181,83] c51 [(2,some (true,4)),(3,none),(4,some (true,2))] 35:=
 ⟨Tryz.f51,[⟨7,[0,1,2,3,4,5,6,7,8,9],[0,0,2,6,0,16,62,126,255,511],[]⟩],Tryz.func51,by kernel_rfl,by kernel_rfl,by kernel_rfl,by kernel_rfl,by kernel_rfl⟩
def l52_0:List COp:=[
 ⟨some 2,.mov (.k (.p (.bool false))),none⟩]
def c52_1:CC:=.ops [] (l52_0)
def l52_2:List COp:=[
 ⟨some 3,.mov (.k (.p (.int .i64 0))),none⟩]
def c52_3:CC:=.ops [] (l52_2)
def l52_4:List COp:=[
 ⟨some 4,.mov (.k (.p (.int .i64 0))),none⟩]
def c52_5:CC:=.ops [] (l52_4)
def l52_6:List COp:=[
 ⟨some 5,.mov (.t 4),none⟩,
 ⟨some 6,.mov (.t 0),none⟩,
 ⟨some 7,.len (.t 6),none⟩,
 ⟨some 8,.bin false .lss (.t 5) (.t 7),none⟩]
def c52_7:CC:=.ops [] (l52_6)
def c52_8:CC:=.cond (.t 8) .skip (.exit 0)
def c52_9:CC:=.seq c52_7 c52_8
def l52_10:List COp:=[
 ⟨some 11,.mov (.t 3),none⟩,
 ⟨some 12,.mov (.t 0),none⟩,
 ⟨some 13,.mov (.t 4),none⟩,
 ⟨some 14,.indexAddr 1 (.t 12) (.t 13),none⟩,
 ⟨some 15,.load false 1 (.t 14),none⟩,
 ⟨some 16,.lenS (.t 15),none⟩,
 ⟨some 17,.bin false .add (.t 11) (.t 16),none⟩,
 ⟨some 3,.mov (.t 17),none⟩]
def c52_11:CC:=.ops [] (l52_10)
def c52_12:CC:=.block 1 c52_11
def l52_13:List COp:=[
 ⟨some 9,.mov (.t 4),none⟩,
 ⟨some 10,.bin false .add (.t 9) (.k (.p (.int .i64 1))),none⟩,
 ⟨some 4,.mov (.t 10),none⟩]
def c52_14:CC:=.ops [] (l52_13)
def c52_15:CC:=.seq c52_12 c52_14
def c52_16:CC:=.seq c52_9 c52_15
def c52_17:CC:=.loop c52_16
def c52_18:CC:=.block 0 c52_17
def c52_19:CC:=.seq c52_5 c52_18
def l52_20:List COp:=[
 ⟨some 18,.mov (.t 3),none⟩,
 ⟨some 19,.bin false .gtr (.t 18) (.k (.p (.int .i64 600))),none⟩,
 ⟨some 2,.mov (.t 19),none⟩]
def c52_21:CC:=.ops [] (l52_20)
def c52_22:CC:=.seq c52_21 .ret
def c52_23:CC:=.seq c52_19 c52_22
def c52_24:CC:=.seq c52_3 c52_23
def c52_25:CC:=.seq c52_1 c52_24
def c52:CC:=c52_25
theorem fn52:FnOk Tryz.prog 52 [] c52 [(2,none)] 20:=
 ⟨Tryz.f52,[],Tryz.func52,by kernel_rfl,by kernel_rfl,by kernel_rfl,by kernel_rfl,by kernel_rfl⟩
def l5_0:List COp:=[
 ⟨some 2,.mov (.k (.p (.bool false))),none⟩]
def c5_1:CC:=.ops [] (l5_0)
def l5_2:List COp:=[
 ⟨some 16,.mov (.t 0),none⟩,
 ⟨some 17,.call 13 [(.t 16)],none⟩]
def l5_3:List COp:=[
 ⟨some 15,.mov (.t 17),none⟩,
 ⟨some 18,.extract (.t 15) 0,none⟩,
 ⟨some 19,.extract (.t 15) 1,none⟩,
 ⟨some 3,.alloc 25 1 (.p (.agg [(.list 52 4 [])])),none⟩,
 ⟨some 4,.alloc 27 2 (.p (.agg [(.int .i64 0),(.int .i64 0)])),none⟩,
 ⟨none,.store 1 (.t 3) (.t 18),none⟩,
 ⟨none,.store 2 (.t 4) (.t 19),none⟩]
def c5_4:CC:=.ops [] (l5_2++(l5_3))
def l5_5:List COp:=[
 ⟨some 21,.mov (.t 0),none⟩,
 ⟨some 22,.call 14 [(.t 21)],none⟩]
def l5_6:List COp:=[
 ⟨some 20,.mov (.t 22),none⟩,
 ⟨some 23,.extract (.t 20) 0,none⟩,
 ⟨some 24,.extract (.t 20) 1,none⟩,
 ⟨some 6,.alloc 27 2 (.p (.agg [(.int .i64 0),(.int .i64 0)])),none⟩,
 ⟨some 5,.mov (.t 23),none⟩,
 ⟨none,.store 2 (.t 6) (.t 24),none⟩]
def c5_7:CC:=.ops [] (l5_5++(l5_6))
def l5_8:List COp:=[
 ⟨some 26,.load true 1 (.t 3),none⟩,
 ⟨some 27,.call 51 [(.t 26)],none⟩]
def l5_9:List COp:=[
 ⟨some 25,.mov (.t 27),none⟩,
 ⟨some 28,.extract (.t 25) 0,none⟩,
 ⟨some 29,.extract (.t 25) 1,none⟩,
 ⟨some 30,.extract (.t 25) 2,none⟩,
 ⟨some 7,.alloc 52 4 (.p (.agg [(.bool false),(.list 247 1 []),(.bool false),(.list 247 1 [])])),none⟩,
 ⟨some 9,.alloc 27 2 (.p (.agg [(.int .i64 0),(.int .i64 0)])),none⟩,
 ⟨none,.store 4 (.t 7) (.t 28),none⟩,
 ⟨some 8,.mov (.t 29),none⟩,
 ⟨none,.store 2 (.t 9) (.t 30),none⟩]
def c5_10:CC:=.ops [] (l5_8++(l5_9))
def l5_11:List COp:=[
 ⟨some 31,.call 15 [],none⟩]
def l5_12:List COp:=[
 ⟨some 32,.un .not (.t 31),none⟩]
def c5_13:CC:=.ops [] (l5_11++(l5_12))
def l5_14:List COp:=[
 ⟨some 2,.mov (.k (.p (.bool false))),none⟩]
def c5_15:CC:=.ops [] (l5_14)
def c5_16:CC:=.seq c5_15 .ret
def c5_17:CC:=.cond (.t 32) c5_16 .skip
def c5_18:CC:=.seq c5_13 c5_17
def l5_19:List COp:=[
 ⟨some 33,.mov (.t 5),none⟩,
 ⟨some 34,.len (.t 33),none⟩,
 ⟨some 35,.bin false .eql (.t 34) (.k (.p (.int .i64 0))),none⟩]
def c5_20:CC:=.ops [] (l5_19)
def l5_21:List COp:=[
 ⟨some 36,.load true 2 (.t 9),none⟩,
 ⟨some 37,.call 26 [(.k (.p (.int .i64 4))),(.k (.p (.int .i64 0)))],none⟩]
def l5_22:List COp:=[
 ⟨some 38,.eqs 2 false (.t 36) (.t 37),none⟩,
 ⟨some 39,.mov (.t 38),none⟩,
 ⟨some 40,.load true 4 (.t 7),some (39,true)⟩,
 ⟨some 41,.call 50 [(.t 40)],some (39,true)⟩]
def l5_23:List COp:=[
 ⟨some 42,.bin false .eql (.t 41) (.k (.p (.int .i64 0))),some (39,true)⟩,
 ⟨some 43,.pick (.t 39) (.t 42) (.k (.p (.bool false))),none⟩,
 ⟨some 44,.mov (.t 43),none⟩,
 ⟨some 45,.mov (.t 8),some (44,true)⟩,
 ⟨some 46,.len (.t 45),some (44,true)⟩,
 ⟨some 47,.bin false .eql (.t 46) (.k (.p (.int .i64 0))),some (44,true)⟩,
 ⟨some 48,.pick (.t 44) (.t 47) (.k (.p (.bool false))),none⟩,
 ⟨some 2,.mov (.t 48),none⟩]
def c5_24:CC:=.ops [] (l5_21++(l5_22++(l5_23)))
def c5_25:CC:=.seq c5_24 .ret
def c5_26:CC:=.cond (.t 35) c5_25 .skip
def c5_27:CC:=.seq c5_20 c5_26
def l5_28:List COp:=[
 ⟨some 49,.mov (.t 5),none⟩,
 ⟨some 50,.len (.t 49),none⟩,
 ⟨some 51,.bin false .gtr (.t 50) (.k (.p (.int .i64 14))),none⟩,
 ⟨some 52,.mov (.t 51),none⟩,
 ⟨some 53,.mov (.t 0),some (52,false)⟩,
 ⟨some 54,.call 52 [(.t 53)],some (52,false)⟩]
def l5_29:List COp:=[
 ⟨some 55,.pick (.t 52) (.k (.p (.bool true))) (.t 54),none⟩]
def c5_30:CC:=.ops [] (l5_28++(l5_29))
def l5_31:List COp:=[
 ⟨some 56,.fieldAddr 0 1 false (.t 9),none⟩,
 ⟨some 57,.load false 1 (.t 56),none⟩,
 ⟨some 58,.bin false .eql (.t 57) (.k (.p (.int .i64 0))),none⟩,
 ⟨some 2,.mov (.t 58),none⟩]
def c5_32:CC:=.ops [] (l5_31)
def c5_33:CC:=.seq c5_32 .ret
def c5_34:CC:=.cond (.t 55) c5_33 .skip
def c5_35:CC:=.seq c5_30 c5_34
def l5_36:List COp:=[
 ⟨some 59,.mov (.t 5),none⟩,
 ⟨some 60,.call 37 [(.t 59)],none⟩]
def l5_37:List COp:=[
 ⟨some 61,.buildSlice 60 4 (.agg [(.bool false),(.list 3 1 []),(.bool false),(.list 3 1 [])]) 1 [(0,(.t 60))],none⟩,
 ⟨some 10,.mov (.t 61),none⟩]
def c5_38:CC:=.ops [] (l5_36++(l5_37))
def l5_39:List COp:=[
 ⟨some 62,.call 53 [(.k (.p (.int .i64 1)))],none⟩]
def l5_40:List COp:=[
 ⟨some 63,.buildSlice 60 4 (.agg [(.bool false),(.list 3 1 []),(.bool false),(.list 3 1 [])]) 1 [(0,(.t 62))],none⟩,
 ⟨some 11,.mov (.t 63),none⟩]
def c5_41:CC:=.ops [] (l5_39++(l5_40))
def l5_42:List COp:=[
 ⟨some 12,.mov (.k (.p (.int .i64 0))),none⟩]
def c5_43:CC:=.ops [] (l5_42)
def l5_44:List COp:=[
 ⟨some 64,.mov (.t 12),none⟩,
 ⟨some 65,.mov (.t 8),none⟩,
 ⟨some 66,.len (.t 65),none⟩,
 ⟨some 67,.bin false .lss (.t 64) (.t 66),none⟩]
def c5_45:CC:=.ops [] (l5_44)
def c5_46:CC:=.cond (.t 67) .skip (.exit 0)
def c5_47:CC:=.seq c5_45 c5_46
def l5_48:List COp:=[
 ⟨some 71,.mov (.t 8),none⟩,
 ⟨some 72,.mov (.t 12),none⟩,
 ⟨some 73,.indexAddr 2 (.t 71) (.t 72),none⟩,
 ⟨some 74,.fieldAddr 0 1 false (.t 73),none⟩,
 ⟨some 75,.load false 1 (.t 74),none⟩,
 ⟨some 76,.call 14 [(.t 75)],none⟩]
def l5_49:List COp:=[
 ⟨some 70,.mov (.t 76),none⟩,
 ⟨some 77,.extract (.t 70) 0,none⟩,
 ⟨some 78,.extract (.t 70) 1,none⟩,
 ⟨some 14,.alloc 27 2 (.p (.agg [(.int .i64 0),(.int .i64 0)])),none⟩,
 ⟨some 13,.mov (.t 77),none⟩,
 ⟨none,.store 2 (.t 14) (.t 78),none⟩]
def c5_50:CC:=.ops [] (l5_48++(l5_49))
def l5_51:List COp:=[
 ⟨some 79,.fieldAddr 0 1 false (.t 14),none⟩,
 ⟨some 80,.load false 1 (.t 79),none⟩,
 ⟨some 81,.bin false .neq (.t 80) (.k (.p (.int .i64 0))),none⟩,
 ⟨some 82,.mov (.t 81),none⟩,
 ⟨some 83,.mov (.t 13),some (82,false)⟩,
 ⟨some 84,.len (.t 83),some (82,false)⟩,
 ⟨some 85,.bin false .lss (.t 84) (.k (.p (.int .i64 2))),some (82,false)⟩,
 ⟨some 86,.pick (.t 82) (.k (.p (.bool true))) (.t 85),none⟩,
 ⟨some 87,.mov (.t 86),none⟩,
 ⟨some 88,.mov (.t 13),some (87,false)⟩]
def l5_52:List COp:=[
 ⟨some 89,.mov (.t 13),some (87,false)⟩,
 ⟨some 90,.call 39 [(.t 89)],some (87,false)⟩]
def l5_53:List COp:=[
 ⟨some 91,.call 22 [(.t 88),(.t 90)],some (87,false)⟩]
def l5_54:List COp:=[
 ⟨some 92,.un .not (.t 91),some (87,false)⟩,
 ⟨some 93,.pick (.t 87) (.k (.p (.bool true))) (.t 92),none⟩,
 ⟨some 94,.mov (.t 93),none⟩,
 ⟨some 95,.mov (.t 8),some (94,false)⟩,
 ⟨some 96,.mov (.t 12),some (94,false)⟩,
 ⟨some 97,.indexAddr 2 (.t 95) (.t 96),some (94,false)⟩,
 ⟨some 98,.fieldAddr 1 1 false (.t 97),some (94,false)⟩,
 ⟨some 99,.load false 1 (.t 98),some (94,false)⟩,
 ⟨some 100,.bin false .lss (.t 99) (.k (.p (.int .i64 1))),some (94,false)⟩,
 ⟨some 101,.pick (.t 94) (.k (.p (.bool true))) (.t 100),none⟩]
def l5_55:List COp:=[
 ⟨some 102,.mov (.t 101),none⟩,
 ⟨some 103,.mov (.t 8),some (102,false)⟩,
 ⟨some 104,.mov (.t 12),some (102,false)⟩,
 ⟨some 105,.indexAddr 2 (.t 103) (.t 104),some (102,false)⟩,
 ⟨some 106,.fieldAddr 1 1 false (.t 105),some (102,false)⟩,
 ⟨some 107,.load false 1 (.t 106),some (102,false)⟩,
 ⟨some 108,.mov (.t 5),some (102,false)⟩,
 ⟨some 109,.len (.t 108),some (102,false)⟩,
 ⟨some 110,.bin false .gtr (.t 107) (.t 109),some (102,false)⟩,
 ⟨some 111,.pick (.t 102) (.k (.p (.bool true))) (.t 110),none⟩]
def l5_56:List COp:=[
 ⟨some 112,.mov (.t 111),none⟩,
 ⟨some 113,.mov (.t 12),some (112,false)⟩,
 ⟨some 114,.bin false .gtr (.t 113) (.k (.p (.int .i64 0))),some (112,false)⟩,
 ⟨some 115,.mov (.t 114),some (112,false)⟩,
 ⟨some 116,.mov (.t 8),some (115,true)⟩,
 ⟨some 117,.mov (.t 12),some (115,true)⟩,
 ⟨some 118,.bin false .sub (.t 117) (.k (.p (.int .i64 1))),some (115,true)⟩,
 ⟨some 119,.indexAddr 2 (.t 116) (.t 118),some (115,true)⟩,
 ⟨some 120,.fieldAddr 1 1 false (.t 119),some (115,true)⟩,
 ⟨some 121,.load false 1 (.t 120),some (115,true)⟩]
def l5_57:List COp:=[
 ⟨some 122,.mov (.t 8),some (115,true)⟩,
 ⟨some 123,.mov (.t 12),some (115,true)⟩,
 ⟨some 124,.indexAddr 2 (.t 122) (.t 123),some (115,true)⟩,
 ⟨some 125,.fieldAddr 1 1 false (.t 124),some (115,true)⟩,
 ⟨some 126,.load false 1 (.t 125),some (115,true)⟩,
 ⟨some 127,.bin false .geq (.t 121) (.t 126),some (115,true)⟩,
 ⟨some 128,.pick (.t 115) (.t 127) (.k (.p (.bool false))),some (112,false)⟩,
 ⟨some 129,.pick (.t 112) (.k (.p (.bool true))) (.t 128),none⟩]
def c5_58:CC:=.ops [] (l5_51++(l5_52++(l5_53++(l5_54++(l5_55++(l5_56++(l5_57)))))))
def l5_59:List COp:=[
 ⟨some 2,.mov (.k (.p (.bool false))),none⟩]
def c5_60:CC:=.ops [] (l5_59)
def c5_61:CC:=.seq c5_60 .ret
def c5_62:CC:=.cond (.t 129) c5_61 .skip
def c5_63:CC:=.seq c5_58 c5_62
def l5_64:List COp:=[
 ⟨some 130,.mov (.t 10),none⟩,
 ⟨some 131,.mov (.t 13),none⟩,
 ⟨some 132,.mov (.t 8),none⟩,
 ⟨some 133,.mov (.t 12),none⟩,
 ⟨some 134,.indexAddr 2 (.t 132) (.t 133),none⟩,
 ⟨some 135,.fieldAddr 1 1 false (.t 134),none⟩,
 ⟨some 136,.load false 1 (.t 135),none⟩,
 ⟨some 137,.call 54 [(.t 131),(.t 136)],none⟩]
def l5_65:List COp:=[
 ⟨some 138,.call 24 [(.t 130),(.t 137)],none⟩]
def l5_66:List COp:=[
 ⟨some 10,.mov (.t 138),none⟩]
def c5_67:CC:=.ops [] (l5_64++(l5_65++(l5_66)))
def l5_68:List COp:=[
 ⟨some 139,.mov (.t 11),none⟩,
 ⟨some 140,.mov (.t 13),none⟩,
 ⟨some 141,.call 24 [(.t 139),(.t 140)],none⟩]
def l5_69:List COp:=[
 ⟨some 11,.mov (.t 141),none⟩]
def c5_70:CC:=.ops [] (l5_68++(l5_69))
def c5_71:CC:=.seq c5_67 c5_70
def c5_72:CC:=.seq c5_63 c5_71
def c5_73:CC:=.seq c5_50 c5_72
def c5_74:CC:=.block 1 c5_73
def l5_75:List COp:=[
 ⟨some 68,.mov (.t 12),none⟩,
 ⟨some 69,.bin false .add (.t 68) (.k (.p (.int .i64 1))),none⟩,
 ⟨some 12,.mov (.t 69),none⟩]
def c5_76:CC:=.ops [] (l5_75)
def c5_77:CC:=.seq c5_74 c5_76
def c5_78:CC:=.seq c5_47 c5_77
def c5_79:CC:=.loop c5_78
def c5_80:CC:=.block 0 c5_79
def c5_81:CC:=.seq c5_43 c5_80
def l5_82:List COp:=[
 ⟨some 142,.fieldAddr 0 1 false (.t 9),none⟩,
 ⟨some 143,.load false 1 (.t 142),none⟩,
 ⟨some 144,.bin false .eql (.t 143) (.k (.p (.int .i64 0))),none⟩,
 ⟨some 145,.mov (.t 144),none⟩,
 ⟨some 146,.load true 4 (.t 7),some (145,true)⟩,
 ⟨some 147,.call 33 [(.t 146)],some (145,true)⟩]
def l5_83:List COp:=[
 ⟨some 148,.mov (.t 5),some (145,true)⟩,
 ⟨some 149,.call 37 [(.t 148)],some (145,true)⟩]
def l5_84:List COp:=[
 ⟨some 150,.call 34 [(.t 149)],some (145,true)⟩]
def l5_85:List COp:=[
 ⟨some 151,.bin false .eql (.t 147) (.t 150),some (145,true)⟩,
 ⟨some 152,.pick (.t 145) (.t 151) (.k (.p (.bool false))),none⟩,
 ⟨some 153,.mov (.t 152),none⟩,
 ⟨some 154,.mov (.t 10),some (153,true)⟩,
 ⟨some 155,.mov (.t 5),some (153,true)⟩,
 ⟨some 156,.call 22 [(.t 154),(.t 155)],some (153,true)⟩]
def l5_86:List COp:=[
 ⟨some 157,.pick (.t 153) (.t 156) (.k (.p (.bool false))),none⟩,
 ⟨some 158,.mov (.t 157),none⟩,
 ⟨some 159,.mov (.t 11),some (158,true)⟩,
 ⟨some 160,.mov (.t 11),some (158,true)⟩,
 ⟨some 161,.call 41 [(.t 160)],some (158,true)⟩]
def l5_87:List COp:=[
 ⟨some 162,.call 55 [(.t 159),(.t 161)],some (158,true)⟩]
def l5_88:List COp:=[
 ⟨some 163,.len (.t 162),some (158,true)⟩,
 ⟨some 164,.bin false .lss (.t 163) (.k (.p (.int .i64 2))),some (158,true)⟩,
 ⟨some 165,.pick (.t 158) (.t 164) (.k (.p (.bool false))),none⟩,
 ⟨some 2,.mov (.t 165),none⟩]
def c5_89:CC:=.ops [] (l5_82++(l5_83++(l5_84++(l5_85++(l5_86++(l5_87++(l5_88)))))))
def c5_90:CC:=.seq c5_89 .ret
def c5_91:CC:=.seq c5_81 c5_90
def c5_92:CC:=.seq c5_41 c5_91
def c5_93:CC:=.seq c5_38 c5_92
def c5_94:CC:=.seq c5_35 c5_93
def c5_95:CC:=.seq c5_27 c5_94
def c5_96:CC:=.seq c5_18 c5_95
def c5_97:CC:=.seq c5_10 c5_96
def c5_98:CC:=.seq c5_7 c5_97
def c5_99:CC:=.seq c5_4 c5_98
def c5_100:CC:=.seq c5_1 c5_99
def c5:CC:=c5_100
theorem fn5:FnOk Tryz.prog 5 [25,27,52,60] c5 [(2,none)] 166:=
 ⟨Tryz.f5,[⟨7,[0,1,2,3,4,5,6,7,8,9,10,11,12,13],[0,0,3,7,15,31,63,127,255,511,1023,2047,4095,8191],[]⟩,⟨16,[0,1,2,3,4,5,6,7,8,9,10,11,12,13,14,15,16,17,18,19,20,21,22,23,24,25,26,27,28,29,30,31,32,33,34,35,36,37,38,39,40,41,42,43,44,45,46,47,48,49,50],[0,1,3,7,15,31,63,127,255,511,511,1535,4095,8191,16383,32767,65535,65535,262143,524287,1048575,2097151,4194303,8388607,16777215,16777215,67108863,134217727,268435455,16777215,553648127,2147483647,4294967295,8589934591,17179869183,34359738367,68719476735,137438953471,137438953471,412316860415,1099511627775,2199023255551,4398046511103,137438953471,137438953471,26525718020095,61710090108927,132078834286591,281474976710655,562949953421311,1125899906842623],[]⟩],Tryz.func5,by kernel_rfl,by kernel_rfl,by kernel_rfl,by kernel_rfl,by kernel_rfl⟩
end Go.Proofs.YtkidkimjdiichaaGreat.M
end
