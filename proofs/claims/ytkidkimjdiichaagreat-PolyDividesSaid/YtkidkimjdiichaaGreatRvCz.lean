/- Functions of the program in the small machine's words: written by a program of mine. -/
import Derived.Test.YtkidkimjdiichaaGreatK4y
namespace Go.Proofs.YtkidkimjdiichaaGreat.M
open Go.RowKit
def l38_0 : List COp:=[
 ⟨some 1,.box 25 1 (.t 0),none⟩,
 ⟨some 2,.alloc 25 1 (.p (.agg [(.list 52 4 [])])),none⟩]
def c38_1 : CC:=.ops [] (l38_0)
def l38_2 : List COp:=[
 ⟨some 5,.fieldAddr 0 1 false (.t 1),none⟩,
 ⟨some 6,.load false 1 (.t 5),none⟩,
 ⟨some 7,.len (.t 6),none⟩,
 ⟨some 8,.bin false .eql (.t 7) (.k (.p (.int .i64 0))),none⟩]
def c38_3 : CC:=.ops [] (l38_2)
def l38_4 : List COp:=[
 ⟨some 9,.load true 1 (.t 1),none⟩,
 ⟨none,.store 1 (.t 2) (.t 9),none⟩]
def c38_5 : CC:=.ops [] (l38_4)
def c38_6 : CC:=.seq c38_5 .ret
def c38_7 : CC:=.cond (.t 8) c38_6 .skip
def c38_8 : CC:=.seq c38_3 c38_7
def l38_9 : List COp:=[
 ⟨some 11,.call 110 [(.k (.p (.int .i64 1)))],none⟩]
def l38_10 : List COp:=[
 ⟨some 12,.call 109 [(.t 11)],none⟩]
def l38_11 : List COp:=[
 ⟨some 13,.load true 1 (.t 1),none⟩,
 ⟨some 14,.call 36 [(.t 13)],none⟩]
def l38_12 : List COp:=[
 ⟨some 15,.call 112 [(.t 12),(.t 14)],none⟩]
def l38_13 : List COp:=[
 ⟨some 10,.mov (.t 15),none⟩,
 ⟨some 16,.extract (.t 10) 0,none⟩,
 ⟨some 17,.extract (.t 10) 1,none⟩,
 ⟨some 3,.alloc 52 4 (.p (.agg [(.bool false),(.list 247 1 []),(.bool false),(.list 247 1 [])])),none⟩,
 ⟨some 4,.alloc 27 2 (.p (.agg [(.int .i64 0),(.int .i64 0)])),none⟩,
 ⟨none,.store 4 (.t 3) (.t 16),none⟩,
 ⟨none,.store 2 (.t 4) (.t 17),none⟩]
def c38_14 : CC:=.ops [] (l38_9 ++ (l38_10 ++ (l38_11 ++ (l38_12 ++ (l38_13)))))
def l38_15 : List COp:=[
 ⟨some 18,.load true 1 (.t 1),none⟩,
 ⟨some 19,.load true 4 (.t 3),none⟩,
 ⟨some 20,.call 47 [(.t 18),(.t 19)],none⟩]
def l38_16 : List COp:=[
 ⟨none,.store 1 (.t 2) (.t 20),none⟩]
def c38_17 : CC:=.ops [] (l38_15 ++ (l38_16))
def c38_18 : CC:=.seq c38_17 .ret
def c38_19 : CC:=.seq c38_14 c38_18
def c38_20 : CC:=.seq c38_8 c38_19
def c38_21 : CC:=.seq c38_1 c38_20
def c38 : CC:=c38_21
theorem fn38 : FnOk Tryz.prog 38 [25,52,27] c38 [(2,some (true,1))] 21:=
 ⟨Tryz.f38,[⟨3,[0,1,2,3,4,5,6,7,8,9,10,11],[0,1,0,7,15,31,63,63,0,0,895,2047],[]⟩],Tryz.func38,by kernel_rfl,by kernel_rfl,by kernel_rfl,by kernel_rfl,by kernel_rfl⟩
def l39_0 : List COp:=[
 ⟨some 2,.mov (.k (.nils 60 4)),none⟩]
def c39_1 : CC:=.ops [] (l39_0)
def l39_2 : List COp:=[
 ⟨some 5,.mov (.t 0),none⟩,
 ⟨some 6,.len (.t 5),none⟩,
 ⟨some 7,.bin false .eql (.t 6) (.k (.p (.int .i64 0))),none⟩]
def c39_3 : CC:=.ops [] (l39_2)
def l39_4 : List COp:=[
 ⟨some 8,.mov (.t 0),none⟩,
 ⟨some 2,.mov (.t 8),none⟩]
def c39_5 : CC:=.ops [] (l39_4)
def c39_6 : CC:=.seq c39_5 .ret
def c39_7 : CC:=.cond (.t 7) c39_6 .skip
def c39_8 : CC:=.seq c39_3 c39_7
def l39_9 : List COp:=[
 ⟨some 10,.call 53 [(.k (.p (.int .i64 1)))],none⟩]
def l39_10 : List COp:=[
 ⟨some 11,.mov (.t 0),none⟩,
 ⟨some 12,.call 37 [(.t 11)],none⟩]
def l39_11 : List COp:=[
 ⟨some 13,.call 114 [(.t 10),(.t 12)],none⟩]
def l39_12 : List COp:=[
 ⟨some 9,.mov (.t 13),none⟩,
 ⟨some 14,.extract (.t 9) 0,none⟩,
 ⟨some 15,.extract (.t 9) 1,none⟩,
 ⟨some 3,.alloc 60 4 (.p (.agg [(.bool false),(.list 3 1 []),(.bool false),(.list 3 1 [])])),none⟩,
 ⟨some 4,.alloc 27 2 (.p (.agg [(.int .i64 0),(.int .i64 0)])),none⟩,
 ⟨none,.store 4 (.t 3) (.t 14),none⟩,
 ⟨none,.store 2 (.t 4) (.t 15),none⟩]
def c39_13 : CC:=.ops [] (l39_9 ++ (l39_10 ++ (l39_11 ++ (l39_12))))
def l39_14 : List COp:=[
 ⟨some 16,.mov (.t 0),none⟩,
 ⟨some 17,.load true 4 (.t 3),none⟩,
 ⟨some 18,.call 48 [(.t 16),(.t 17)],none⟩]
def l39_15 : List COp:=[
 ⟨some 2,.mov (.t 18),none⟩]
def c39_16 : CC:=.ops [] (l39_14 ++ (l39_15))
def c39_17 : CC:=.seq c39_16 .ret
def c39_18 : CC:=.seq c39_13 c39_17
def c39_19 : CC:=.seq c39_8 c39_18
def c39_20 : CC:=.seq c39_1 c39_19
def c39 : CC:=c39_20
theorem fn39 : FnOk Tryz.prog 39 [60,27] c39 [(2,none)] 19:=
 ⟨Tryz.f39,[],Tryz.func39,by kernel_rfl,by kernel_rfl,by kernel_rfl,by kernel_rfl,by kernel_rfl⟩
end Go.Proofs.YtkidkimjdiichaaGreat.M
