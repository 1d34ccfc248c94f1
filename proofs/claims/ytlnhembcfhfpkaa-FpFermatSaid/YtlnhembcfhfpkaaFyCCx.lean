/- Polynomials modulo a prime: more functions in the small machine's words. -/
import Derived.Test.YtlnhembcfhfpkaaK5
namespace Go.Proofs.Ytlnhembcfhfpkaa.M
open Go.RowKit
set_option maxRecDepth 100000
def l5_0 : List COp := [
  ⟨some 6, .mov (.k (.p (.bool false))), none⟩]
def c5_1 : CC := .ops [] (l5_0)
def l5_2 : List COp := [
  ⟨some 13, .mov (.t 0), none⟩,
  ⟨some 14, .mov (.t 2), none⟩,
  ⟨some 15, .call 15 [(.t 13), (.t 14)], none⟩]
def l5_3 : List COp := [
  ⟨some 12, .mov (.t 15), none⟩,
  ⟨some 16, .extract (.t 12) 0, none⟩,
  ⟨some 17, .extract (.t 12) 1, none⟩,
  ⟨some 8, .alloc 24 2 (.p (.agg [(.int .i64 0), (.int .i64 0)])), none⟩,
  ⟨some 7, .mov (.t 16), none⟩,
  ⟨none, .store 2 (.t 8) (.t 17), none⟩]
def c5_4 : CC := .ops [] (l5_2 ++ (l5_3))
def l5_5 : List COp := [
  ⟨some 18, .call 10 [], none⟩]
def l5_6 : List COp := [
  ⟨some 19, .un .not (.t 18), none⟩]
def c5_7 : CC := .ops [] (l5_5 ++ (l5_6))
def l5_8 : List COp := [
  ⟨some 6, .mov (.k (.p (.bool false))), none⟩]
def c5_9 : CC := .ops [] (l5_8)
def c5_10 : CC := .seq c5_9 .ret
def c5_11 : CC := .cond (.t 19) c5_10 .skip
def c5_12 : CC := .seq c5_7 c5_11
def l5_13 : List COp := [
  ⟨some 20, .fieldAddr 0 1 false (.t 8), none⟩,
  ⟨some 21, .load false 1 (.t 20), none⟩,
  ⟨some 22, .bin false .neq (.t 21) (.k (.p (.int .i64 0))), none⟩,
  ⟨some 23, .mov (.t 22), none⟩,
  ⟨some 24, .mov (.t 1), some (23, false)⟩,
  ⟨some 25, .bin false .lss (.t 24) (.k (.p (.int .i64 1))), some (23, false)⟩,
  ⟨some 26, .pick (.t 23) (.k (.p (.bool true))) (.t 25), none⟩,
  ⟨some 27, .mov (.t 26), none⟩,
  ⟨some 28, .mov (.t 1), some (27, false)⟩,
  ⟨some 29, .bin false .gtr (.t 28) (.k (.p (.int .i64 64))), some (27, false)⟩,
  ⟨some 30, .pick (.t 27) (.k (.p (.bool true))) (.t 29), none⟩]
def c5_14 : CC := .ops [] (l5_13)
def l5_15 : List COp := [
  ⟨some 6, .mov (.k (.p (.bool true))), none⟩]
def c5_16 : CC := .ops [] (l5_15)
def c5_17 : CC := .seq c5_16 .ret
def c5_18 : CC := .cond (.t 30) c5_17 .skip
def c5_19 : CC := .seq c5_14 c5_18
def l5_20 : List COp := [
  ⟨some 31, .mov (.t 7), none⟩,
  ⟨some 32, .un .not (.t 31), none⟩,
  ⟨some 33, .mov (.t 32), none⟩,
  ⟨some 34, .mov (.t 1), some (33, false)⟩,
  ⟨some 35, .bin false .gtr (.t 34) (.k (.p (.int .i64 12))), some (33, false)⟩,
  ⟨some 36, .pick (.t 33) (.k (.p (.bool true))) (.t 35), none⟩]
def c5_21 : CC := .ops [] (l5_20)
def l5_22 : List COp := [
  ⟨some 6, .mov (.k (.p (.bool true))), none⟩]
def c5_23 : CC := .ops [] (l5_22)
def c5_24 : CC := .seq c5_23 .ret
def c5_25 : CC := .cond (.t 36) c5_24 .skip
def c5_26 : CC := .seq c5_21 c5_25
def l5_27 : List COp := [
  ⟨some 38, .buildSliceF 3 1 (.int .i64 0) 2 [(0, (.k (.p (.int .i64 0)))), (1, (.k (.p (.int .i64 1))))], none⟩,
  ⟨some 39, .mov (.t 0), none⟩,
  ⟨some 40, .mov (.t 2), none⟩,
  ⟨some 41, .call 16 [(.t 38), (.k (.p (.int .i64 1))), (.t 39), (.t 40)], none⟩]
def l5_28 : List COp := [
  ⟨some 37, .mov (.t 41), none⟩,
  ⟨some 42, .extract (.t 37) 0, none⟩,
  ⟨some 43, .extract (.t 37) 1, none⟩,
  ⟨some 9, .mov (.t 42), none⟩,
  ⟨none, .store 2 (.t 8) (.t 43), none⟩]
def c5_29 : CC := .ops [] (l5_27 ++ (l5_28))
def l5_30 : List COp := [
  ⟨some 44, .mov (.t 9), none⟩,
  ⟨some 10, .mov (.t 44), none⟩]
def c5_31 : CC := .ops [] (l5_30)
def l5_32 : List COp := [
  ⟨some 11, .mov (.k (.p (.int .i64 0))), none⟩]
def c5_33 : CC := .ops [] (l5_32)
def l5_34 : List COp := [
  ⟨some 45, .mov (.t 11), none⟩,
  ⟨some 46, .mov (.t 1), none⟩,
  ⟨some 47, .bin false .lss (.t 45) (.t 46), none⟩,
  ⟨some 48, .mov (.t 47), none⟩,
  ⟨some 49, .fieldAddr 0 1 false (.t 8), some (48, true)⟩,
  ⟨some 50, .load false 1 (.t 49), some (48, true)⟩,
  ⟨some 51, .bin false .eql (.t 50) (.k (.p (.int .i64 0))), some (48, true)⟩,
  ⟨some 52, .pick (.t 48) (.t 51) (.k (.p (.bool false))), none⟩]
def c5_35 : CC := .ops [] (l5_34)
def c5_36 : CC := .cond (.t 52) .skip (.exit 0)
def c5_37 : CC := .seq c5_35 c5_36
def l5_38 : List COp := [
  ⟨some 56, .mov (.t 10), none⟩,
  ⟨some 57, .mov (.t 2), none⟩,
  ⟨some 58, .mov (.t 0), none⟩,
  ⟨some 59, .mov (.t 2), none⟩,
  ⟨some 60, .call 16 [(.t 56), (.t 57), (.t 58), (.t 59)], none⟩]
def l5_39 : List COp := [
  ⟨some 55, .mov (.t 60), none⟩,
  ⟨some 61, .extract (.t 55) 0, none⟩,
  ⟨some 62, .extract (.t 55) 1, none⟩,
  ⟨some 10, .mov (.t 61), none⟩,
  ⟨none, .store 2 (.t 8) (.t 62), none⟩]
def c5_40 : CC := .ops [] (l5_38 ++ (l5_39))
def c5_41 : CC := .block 1 c5_40
def l5_42 : List COp := [
  ⟨some 53, .mov (.t 11), none⟩,
  ⟨some 54, .bin false .add (.t 53) (.k (.p (.int .i64 1))), none⟩,
  ⟨some 11, .mov (.t 54), none⟩]
def c5_43 : CC := .ops [] (l5_42)
def c5_44 : CC := .seq c5_41 c5_43
def c5_45 : CC := .seq c5_37 c5_44
def c5_46 : CC := .loop c5_45
def c5_47 : CC := .block 0 c5_46
def c5_48 : CC := .seq c5_33 c5_47
def l5_49 : List COp := [
  ⟨some 63, .fieldAddr 0 1 false (.t 8), none⟩,
  ⟨some 64, .load false 1 (.t 63), none⟩,
  ⟨some 65, .bin false .eql (.t 64) (.k (.p (.int .i64 0))), none⟩,
  ⟨some 66, .mov (.t 65), none⟩,
  ⟨some 67, .mov (.t 10), some (66, true)⟩,
  ⟨some 68, .mov (.t 9), some (66, true)⟩,
  ⟨some 69, .call 11 [(.t 67), (.t 68)], some (66, true)⟩]
def l5_50 : List COp := [
  ⟨some 70, .mov (.t 1), some (66, true)⟩,
  ⟨some 71, .mov (.t 0), some (66, true)⟩,
  ⟨some 72, .len (.t 71), some (66, true)⟩,
  ⟨some 73, .bin false .sub (.t 72) (.k (.p (.int .i64 1))), some (66, true)⟩,
  ⟨some 74, .bin false .rem (.t 70) (.t 73), some (66, true)⟩,
  ⟨some 75, .bin false .eql (.t 74) (.k (.p (.int .i64 0))), some (66, true)⟩,
  ⟨some 76, .bin true .eql (.t 69) (.t 75), some (66, true)⟩,
  ⟨some 77, .pick (.t 66) (.t 76) (.k (.p (.bool false))), none⟩,
  ⟨some 6, .mov (.t 77), none⟩]
def c5_51 : CC := .ops [] (l5_49 ++ (l5_50))
def c5_52 : CC := .seq c5_51 .ret
def c5_53 : CC := .seq c5_48 c5_52
def c5_54 : CC := .seq c5_31 c5_53
def c5_55 : CC := .seq c5_29 c5_54
def c5_56 : CC := .seq c5_26 c5_55
def c5_57 : CC := .seq c5_19 c5_56
def c5_58 : CC := .seq c5_12 c5_57
def c5_59 : CC := .seq c5_4 c5_58
def c5_60 : CC := .seq c5_1 c5_59
def c5 : CC := c5_60
theorem fn5 : FnOk Try.prog 5 [24, 3, 2000038] c5 [(6, none)] 78 :=
  ⟨Try.f5, [⟨14, [0, 1, 2, 3, 4, 5, 6, 7, 8, 9, 10, 11, 12, 13, 14, 15], [0, 1, 3, 7, 15, 15, 63, 15, 15, 271, 783, 1935, 3983, 8191, 16383, 32767], []⟩], Try.func5, by kernel_rfl, by kernel_rfl, by kernel_rfl, by kernel_rfl, by kernel_rfl⟩
def l15_0 : List COp := [
  ⟨some 4, .mov (.k (.p (.bool false))), none⟩,
  ⟨some 5, .alloc 24 2 (.p (.agg [(.int .i64 0), (.int .i64 0)])), none⟩]
def c15_1 : CC := .ops [] (l15_0)
def l15_2 : List COp := [
  ⟨some 7, .mov (.t 0), none⟩,
  ⟨some 8, .mov (.t 1), none⟩,
  ⟨some 9, .call 18 [(.t 7), (.t 8)], none⟩]
def l15_3 : List COp := [
  ⟨some 6, .alloc 24 2 (.p (.agg [(.int .i64 0), (.int .i64 0)])), none⟩,
  ⟨none, .store 2 (.t 6) (.t 9), none⟩]
def c15_4 : CC := .ops [] (l15_2 ++ (l15_3))
def l15_5 : List COp := [
  ⟨some 10, .fieldAddr 0 1 false (.t 6), none⟩,
  ⟨some 11, .load false 1 (.t 10), none⟩,
  ⟨some 12, .bin false .neq (.t 11) (.k (.p (.int .i64 0))), none⟩]
def c15_6 : CC := .ops [] (l15_5)
def l15_7 : List COp := [
  ⟨some 13, .load true 2 (.t 6), none⟩,
  ⟨some 4, .mov (.k (.p (.bool false))), none⟩,
  ⟨none, .store 2 (.t 5) (.t 13), none⟩]
def c15_8 : CC := .ops [] (l15_7)
def c15_9 : CC := .seq c15_8 .ret
def c15_10 : CC := .cond (.t 12) c15_9 .skip
def c15_11 : CC := .seq c15_6 c15_10
def c15_12 : CC := .seq c15_4 c15_11
def l15_13 : List COp := [
  ⟨some 14, .mov (.t 0), none⟩,
  ⟨some 15, .len (.t 14), none⟩,
  ⟨some 16, .bin false .gtr (.t 15) (.k (.p (.int .i64 1))), none⟩,
  ⟨some 17, .mov (.t 16), none⟩,
  ⟨some 18, .mov (.t 0), some (17, true)⟩,
  ⟨some 19, .mov (.t 1), some (17, true)⟩,
  ⟨some 20, .call 43 [(.t 18), (.t 19)], some (17, true)⟩]
def l15_14 : List COp := [
  ⟨some 21, .pick (.t 17) (.t 20) (.k (.p (.bool false))), none⟩,
  ⟨some 22, .build [(.p (.int .i64 0)), (.p (.int .i64 0))] [], none⟩,
  ⟨some 4, .mov (.t 21), none⟩,
  ⟨none, .store 2 (.t 5) (.t 22), none⟩]
def c15_15 : CC := .ops [] (l15_13 ++ (l15_14))
def c15_16 : CC := .seq c15_15 .ret
def c15_17 : CC := .seq c15_12 c15_16
def c15_18 : CC := .seq c15_1 c15_17
def c15 : CC := c15_18
theorem fn15 : FnOk Try.prog 15 [24] c15 [(4, none), (5, some (true, 2))] 23 :=
  ⟨Try.f15, [⟨3, [0, 1, 2], [0, 0, 3], []⟩], Try.func15, by kernel_rfl, by kernel_rfl, by kernel_rfl, by kernel_rfl, by kernel_rfl⟩
def l43_0 : List COp := [
  ⟨some 4, .mov (.k (.p (.bool false))), none⟩]
def c43_1 : CC := .ops [] (l43_0)
def l43_2 : List COp := [
  ⟨some 9, .mov (.t 0), none⟩,
  ⟨some 10, .mov (.t 1), none⟩,
  ⟨some 11, .call 13 [(.t 9), (.t 10)], none⟩]
def l43_3 : List COp := [
  ⟨some 8, .mov (.t 11), none⟩,
  ⟨some 12, .extract (.t 8) 0, none⟩,
  ⟨some 13, .extract (.t 8) 1, none⟩,
  ⟨some 14, .extract (.t 8) 2, none⟩,
  ⟨some 7, .alloc 24 2 (.p (.agg [(.int .i64 0), (.int .i64 0)])), none⟩,
  ⟨some 5, .mov (.t 12), none⟩,
  ⟨some 6, .mov (.t 13), none⟩,
  ⟨none, .store 2 (.t 7) (.t 14), none⟩]
def c43_4 : CC := .ops [] (l43_2 ++ (l43_3))
def l43_5 : List COp := [
  ⟨some 15, .mov (.t 6), none⟩,
  ⟨some 16, .len (.t 15), none⟩,
  ⟨some 17, .bin false .eql (.t 16) (.k (.p (.int .i64 1))), none⟩,
  ⟨some 18, .mov (.t 17), none⟩,
  ⟨some 19, .mov (.t 6), some (18, true)⟩,
  ⟨some 20, .indexAddr 2 (.t 19) (.k (.p (.int .i64 0))), some (18, true)⟩,
  ⟨some 21, .fieldAddr 1 1 false (.t 20), some (18, true)⟩,
  ⟨some 22, .load false 1 (.t 21), some (18, true)⟩,
  ⟨some 23, .bin false .eql (.t 22) (.k (.p (.int .i64 1))), some (18, true)⟩,
  ⟨some 24, .pick (.t 18) (.t 23) (.k (.p (.bool false))), none⟩,
  ⟨some 4, .mov (.t 24), none⟩]
def c43_6 : CC := .ops [] (l43_5)
def c43_7 : CC := .seq c43_6 .ret
def c43_8 : CC := .seq c43_4 c43_7
def c43_9 : CC := .seq c43_1 c43_8
def c43 : CC := c43_9
theorem fn43 : FnOk Try.prog 43 [24] c43 [(4, none)] 25 :=
  ⟨Try.f43, [], Try.func43, by kernel_rfl, by kernel_rfl, by kernel_rfl, by kernel_rfl, by kernel_rfl⟩
end Go.Proofs.Ytlnhembcfhfpkaa.M
