/- Functions of the program in the small machine's words: written by a program of mine. -/
import Derived.Test.YtbbidekjbgjooaaK3
namespace Go.Proofs.Ytbbidekjbgjooaa.M
open Go.RowKit

-- FN 40 radicand/radicandref.FParse
def l40_0 : List COp := [
  ⟨some 2, .alloc 67 4 (.p (.agg [(.bool false), (.list 3 1 []), (.bool false), (.list 3 1 [])])), none⟩,
  ⟨some 3, .alloc 26 2 (.p (.agg [(.int .i64 0), (.int .i64 0)])), none⟩]
def c40_1 : CC := .ops [] (l40_0)
def l40_2 : List COp := [
  ⟨some 11, .build [(.p (.bool false)), (.p (.list 3 1 []))] [], none⟩,
  ⟨some 12, .call 17 [(.k (.p (.int .i64 1)))], none⟩]
def l40_3 : List COp := [
  ⟨some 13, .build [(.p (.bool false)), (.p (.list 3 1 [])), (.p (.bool false)), (.p (.list 3 1 []))] [(0, 2, (.t 11)), (2, 2, (.t 12))], none⟩,
  ⟨some 4, .alloc 67 4 (.p (.agg [(.bool false), (.list 3 1 []), (.bool false), (.list 3 1 [])])), none⟩,
  ⟨none, .store 4 (.t 4) (.t 13), none⟩]
def c40_4 : CC := .ops [] (l40_2 ++ (l40_3))
def l40_5 : List COp := [
  ⟨some 15, .mov (.t 0), none⟩,
  ⟨some 16, .call 66 [(.t 15), (.k (.p (.bool true))), (.k (.p (.bool true)))], none⟩]
def l40_6 : List COp := [
  ⟨some 14, .mov (.t 16), none⟩,
  ⟨some 17, .extract (.t 14) 0, none⟩,
  ⟨some 18, .extract (.t 14) 1, none⟩,
  ⟨some 5, .mov (.t 17), none⟩,
  ⟨some 6, .mov (.t 18), none⟩]
def c40_7 : CC := .ops [] (l40_5 ++ (l40_6))
def l40_8 : List COp := [
  ⟨some 19, .mov (.t 5), none⟩,
  ⟨some 7, .mov (.t 19), none⟩]
def c40_9 : CC := .ops [] (l40_8)
def l40_10 : List COp := [
  ⟨some 20, .mov (.t 6), none⟩,
  ⟨some 21, .mov (.t 20), none⟩,
  ⟨some 22, .mov (.t 5), some (21, true)⟩,
  ⟨some 23, .mov (.t 0), some (21, true)⟩,
  ⟨some 24, .lenS (.t 23), some (21, true)⟩,
  ⟨some 25, .bin false .lss (.t 22) (.t 24), some (21, true)⟩,
  ⟨some 26, .pick (.t 21) (.t 25) (.k (.p (.bool false))), none⟩,
  ⟨some 27, .mov (.t 26), none⟩,
  ⟨some 28, .mov (.t 0), some (27, true)⟩,
  ⟨some 29, .mov (.t 5), some (27, true)⟩,
  ⟨some 30, .index (.t 28) (.t 29), some (27, true)⟩,
  ⟨some 31, .bin false .eql (.t 30) (.k (.p (.int .u8 47))), some (27, true)⟩,
  ⟨some 32, .pick (.t 27) (.t 31) (.k (.p (.bool false))), none⟩]
def c40_11 : CC := .ops [] (l40_10)
def l40_12 : List COp := [
  ⟨some 34, .mov (.t 0), none⟩,
  ⟨some 35, .mov (.t 5), none⟩,
  ⟨some 36, .bin false .add (.t 35) (.k (.p (.int .i64 1))), none⟩,
  ⟨some 37, .sliceS (.t 34) (some (.t 36)) none, none⟩,
  ⟨some 38, .call 66 [(.t 37), (.k (.p (.bool false))), (.k (.p (.bool false)))], none⟩]
def l40_13 : List COp := [
  ⟨some 33, .mov (.t 38), none⟩,
  ⟨some 39, .extract (.t 33) 0, none⟩,
  ⟨some 40, .extract (.t 33) 1, none⟩,
  ⟨some 8, .mov (.t 39), none⟩,
  ⟨some 9, .mov (.t 40), none⟩]
def c40_14 : CC := .ops [] (l40_12 ++ (l40_13))
def l40_15 : List COp := [
  ⟨some 41, .mov (.t 5), none⟩,
  ⟨some 42, .bin false .add (.t 41) (.k (.p (.int .i64 1))), none⟩,
  ⟨some 43, .mov (.t 8), none⟩,
  ⟨some 44, .bin false .add (.t 42) (.t 43), none⟩,
  ⟨some 7, .mov (.t 44), none⟩]
def c40_16 : CC := .ops [] (l40_15)
def l40_17 : List COp := [
  ⟨some 45, .mov (.t 9), none⟩,
  ⟨some 6, .mov (.t 45), none⟩]
def c40_18 : CC := .ops [] (l40_17)
def c40_19 : CC := .seq c40_16 c40_18
def c40_20 : CC := .seq c40_14 c40_19
def c40_21 : CC := .cond (.t 32) c40_20 .skip
def c40_22 : CC := .seq c40_11 c40_21
def l40_23 : List COp := [
  ⟨some 46, .mov (.t 6), none⟩,
  ⟨some 47, .un .not (.t 46), none⟩,
  ⟨some 48, .mov (.t 47), none⟩,
  ⟨some 49, .mov (.t 7), some (48, false)⟩,
  ⟨some 50, .mov (.t 0), some (48, false)⟩,
  ⟨some 51, .lenS (.t 50), some (48, false)⟩,
  ⟨some 52, .bin false .lss (.t 49) (.t 51), some (48, false)⟩,
  ⟨some 53, .pick (.t 48) (.k (.p (.bool true))) (.t 52), none⟩]
def c40_24 : CC := .ops [] (l40_23)
def l40_25 : List COp := [
  ⟨some 54, .load true 4 (.t 4), none⟩,
  ⟨some 55, .mov (.t 7), none⟩,
  ⟨some 56, .build [(.p (.int .i64 0)), (.p (.int .i64 0))] [(0, 1, (.k (.p (.int .i64 1)))), (1, 1, (.t 55))], none⟩,
  ⟨none, .store 4 (.t 2) (.t 54), none⟩,
  ⟨none, .store 2 (.t 3) (.t 56), none⟩]
def c40_26 : CC := .ops [] (l40_25)
def c40_27 : CC := .seq c40_26 .ret
def c40_28 : CC := .cond (.t 53) c40_27 .skip
def c40_29 : CC := .seq c40_24 c40_28
def l40_30 : List COp := [
  ⟨some 57, .mov (.t 0), none⟩,
  ⟨some 58, .mov (.t 5), none⟩,
  ⟨some 59, .sliceS (.t 57) none (some (.t 58)), none⟩,
  ⟨some 60, .call 67 [(.t 59)], none⟩]
def l40_31 : List COp := [
  ⟨some 61, .bin false .gtr (.t 60) (.k (.p (.int .i64 1000))), none⟩,
  ⟨some 62, .mov (.t 61), none⟩,
  ⟨some 63, .mov (.t 7), some (62, false)⟩,
  ⟨some 64, .mov (.t 5), some (62, false)⟩,
  ⟨some 65, .bin false .sub (.t 63) (.t 64), some (62, false)⟩,
  ⟨some 66, .bin false .sub (.t 65) (.k (.p (.int .i64 1))), some (62, false)⟩,
  ⟨some 67, .bin false .gtr (.t 66) (.k (.p (.int .i64 1000))), some (62, false)⟩,
  ⟨some 68, .pick (.t 62) (.k (.p (.bool true))) (.t 67), none⟩]
def c40_32 : CC := .ops [] (l40_30 ++ (l40_31))
def l40_33 : List COp := [
  ⟨some 69, .load true 4 (.t 4), none⟩,
  ⟨some 70, .build [(.p (.int .i64 0)), (.p (.int .i64 0))] [(0, 1, (.k (.p (.int .i64 2))))], none⟩,
  ⟨none, .store 4 (.t 2) (.t 69), none⟩,
  ⟨none, .store 2 (.t 3) (.t 70), none⟩]
def c40_34 : CC := .ops [] (l40_33)
def c40_35 : CC := .seq c40_34 .ret
def c40_36 : CC := .cond (.t 68) c40_35 .skip
def c40_37 : CC := .seq c40_32 c40_36
def l40_38 : List COp := [
  ⟨some 71, .mov (.t 0), none⟩,
  ⟨some 72, .mov (.t 5), none⟩,
  ⟨some 73, .sliceS (.t 71) none (some (.t 72)), none⟩,
  ⟨some 74, .call 68 [(.t 73)], none⟩]
def l40_39 : List COp := [
  ⟨some 75, .call 17 [(.k (.p (.int .i64 1)))], none⟩]
def l40_40 : List COp := [
  ⟨some 76, .build [(.p (.bool false)), (.p (.list 3 1 [])), (.p (.bool false)), (.p (.list 3 1 []))] [(0, 2, (.t 74)), (2, 2, (.t 75))], none⟩,
  ⟨some 10, .alloc 67 4 (.p (.agg [(.bool false), (.list 3 1 []), (.bool false), (.list 3 1 [])])), none⟩,
  ⟨none, .store 4 (.t 10) (.t 76), none⟩]
def c40_41 : CC := .ops [] (l40_38 ++ (l40_39 ++ (l40_40)))
def l40_42 : List COp := [
  ⟨some 77, .mov (.t 7), none⟩,
  ⟨some 78, .mov (.t 5), none⟩,
  ⟨some 79, .bin false .gtr (.t 77) (.t 78), none⟩]
def c40_43 : CC := .ops [] (l40_42)
def l40_44 : List COp := [
  ⟨some 80, .mov (.t 0), none⟩,
  ⟨some 81, .mov (.t 5), none⟩,
  ⟨some 82, .sliceS (.t 80) none (some (.t 81)), none⟩,
  ⟨some 83, .call 68 [(.t 82)], none⟩]
def l40_45 : List COp := [
  ⟨some 84, .mov (.t 0), none⟩,
  ⟨some 85, .mov (.t 5), none⟩,
  ⟨some 86, .bin false .add (.t 85) (.k (.p (.int .i64 1))), none⟩,
  ⟨some 87, .sliceS (.t 84) (some (.t 86)) none, none⟩,
  ⟨some 88, .call 68 [(.t 87)], none⟩]
def l40_46 : List COp := [
  ⟨some 89, .call 84 [(.t 83), (.t 88)], none⟩]
def l40_47 : List COp := [
  ⟨none, .store 4 (.t 10) (.t 89), none⟩]
def c40_48 : CC := .ops [] (l40_44 ++ (l40_45 ++ (l40_46 ++ (l40_47))))
def c40_49 : CC := .cond (.t 79) c40_48 .skip
def c40_50 : CC := .seq c40_43 c40_49
def l40_51 : List COp := [
  ⟨some 90, .load true 4 (.t 10), none⟩,
  ⟨some 91, .call 42 [(.t 90)], none⟩]
def l40_52 : List COp := [
  ⟨some 92, .mov (.t 0), none⟩,
  ⟨some 93, .bin false .neq (.t 91) (.t 92), none⟩]
def c40_53 : CC := .ops [] (l40_51 ++ (l40_52))
def l40_54 : List COp := [
  ⟨some 94, .load true 4 (.t 4), none⟩,
  ⟨some 95, .build [(.p (.int .i64 0)), (.p (.int .i64 0))] [(0, 1, (.k (.p (.int .i64 3))))], none⟩,
  ⟨none, .store 4 (.t 2) (.t 94), none⟩,
  ⟨none, .store 2 (.t 3) (.t 95), none⟩]
def c40_55 : CC := .ops [] (l40_54)
def c40_56 : CC := .seq c40_55 .ret
def c40_57 : CC := .cond (.t 93) c40_56 .skip
def c40_58 : CC := .seq c40_53 c40_57
def l40_59 : List COp := [
  ⟨some 96, .load true 4 (.t 10), none⟩,
  ⟨some 97, .build [(.p (.int .i64 0)), (.p (.int .i64 0))] [], none⟩,
  ⟨none, .store 4 (.t 2) (.t 96), none⟩,
  ⟨none, .store 2 (.t 3) (.t 97), none⟩]
def c40_60 : CC := .ops [] (l40_59)
def c40_61 : CC := .seq c40_60 .ret
def c40_62 : CC := .seq c40_58 c40_61
def c40_63 : CC := .seq c40_50 c40_62
def c40_64 : CC := .seq c40_41 c40_63
def c40_65 : CC := .seq c40_37 c40_64
def c40_66 : CC := .seq c40_29 c40_65
def c40_67 : CC := .seq c40_22 c40_66
def c40_68 : CC := .seq c40_9 c40_67
def c40_69 : CC := .seq c40_7 c40_68
def c40_70 : CC := .seq c40_4 c40_69
def c40_71 : CC := .seq c40_1 c40_70
def c40 : CC := c40_71
theorem fn40 : FnOk Try.prog 40 [67, 26] c40 [(2, some (true, 4)), (3, some (true, 2))] 98 :=
  ⟨Try.f40, [⟨14, [0, 1, 2, 3, 4, 5, 6, 7, 8, 9, 10], [0, 0, 3, 7, 0, 0, 32, 112, 255, 511, 1023], []⟩], Try.func40, by kernel_rfl, by kernel_rfl, by kernel_rfl, by kernel_rfl, by kernel_rfl⟩

-- FN 8 radicand/radicandlaw.NumFracs
def l8_0 : List COp := [
  ⟨some 4, .mov (.k (.p (.bool false))), none⟩]
def c8_1 : CC := .ops [] (l8_0)
def l8_2 : List COp := [
  ⟨some 25, .mov (.t 0), none⟩,
  ⟨some 26, .call 39 [(.t 25)], none⟩]
def l8_3 : List COp := [
  ⟨some 24, .mov (.t 26), none⟩,
  ⟨some 27, .extract (.t 24) 0, none⟩,
  ⟨some 28, .extract (.t 24) 1, none⟩,
  ⟨some 5, .alloc 63 4 (.p (.agg [(.bool false), (.list 93 1 []), (.bool false), (.list 93 1 [])])), none⟩,
  ⟨some 6, .alloc 26 2 (.p (.agg [(.int .i64 0), (.int .i64 0)])), none⟩,
  ⟨none, .store 4 (.t 5) (.t 27), none⟩,
  ⟨none, .store 2 (.t 6) (.t 28), none⟩]
def c8_4 : CC := .ops [] (l8_2 ++ (l8_3))
def l8_5 : List COp := [
  ⟨some 30, .mov (.t 1), none⟩,
  ⟨some 31, .call 39 [(.t 30)], none⟩]
def l8_6 : List COp := [
  ⟨some 29, .mov (.t 31), none⟩,
  ⟨some 32, .extract (.t 29) 0, none⟩,
  ⟨some 33, .extract (.t 29) 1, none⟩,
  ⟨some 7, .alloc 63 4 (.p (.agg [(.bool false), (.list 93 1 []), (.bool false), (.list 93 1 [])])), none⟩,
  ⟨some 8, .alloc 26 2 (.p (.agg [(.int .i64 0), (.int .i64 0)])), none⟩,
  ⟨none, .store 4 (.t 7) (.t 32), none⟩,
  ⟨none, .store 2 (.t 8) (.t 33), none⟩]
def c8_7 : CC := .ops [] (l8_5 ++ (l8_6))
def l8_8 : List COp := [
  ⟨some 35, .mov (.t 0), none⟩,
  ⟨some 36, .call 40 [(.t 35)], none⟩]
def l8_9 : List COp := [
  ⟨some 34, .mov (.t 36), none⟩,
  ⟨some 37, .extract (.t 34) 0, none⟩,
  ⟨some 38, .extract (.t 34) 1, none⟩,
  ⟨some 9, .alloc 67 4 (.p (.agg [(.bool false), (.list 3 1 []), (.bool false), (.list 3 1 [])])), none⟩,
  ⟨some 10, .alloc 26 2 (.p (.agg [(.int .i64 0), (.int .i64 0)])), none⟩,
  ⟨none, .store 4 (.t 9) (.t 37), none⟩,
  ⟨none, .store 2 (.t 10) (.t 38), none⟩]
def c8_10 : CC := .ops [] (l8_8 ++ (l8_9))
def l8_11 : List COp := [
  ⟨some 40, .mov (.t 1), none⟩,
  ⟨some 41, .call 40 [(.t 40)], none⟩]
def l8_12 : List COp := [
  ⟨some 39, .mov (.t 41), none⟩,
  ⟨some 42, .extract (.t 39) 0, none⟩,
  ⟨some 43, .extract (.t 39) 1, none⟩,
  ⟨some 11, .alloc 67 4 (.p (.agg [(.bool false), (.list 3 1 []), (.bool false), (.list 3 1 [])])), none⟩,
  ⟨some 12, .alloc 26 2 (.p (.agg [(.int .i64 0), (.int .i64 0)])), none⟩,
  ⟨none, .store 4 (.t 11) (.t 42), none⟩,
  ⟨none, .store 2 (.t 12) (.t 43), none⟩]
def c8_13 : CC := .ops [] (l8_11 ++ (l8_12))
def l8_14 : List COp := [
  ⟨some 44, .call 11 [], none⟩]
def l8_15 : List COp := [
  ⟨some 45, .un .not (.t 44), none⟩,
  ⟨some 46, .mov (.t 45), none⟩,
  ⟨some 47, .load true 2 (.t 6), some (46, false)⟩,
  ⟨some 48, .load true 2 (.t 10), some (46, false)⟩,
  ⟨some 49, .eqs 2 true (.t 47) (.t 48), some (46, false)⟩,
  ⟨some 50, .pick (.t 46) (.k (.p (.bool true))) (.t 49), none⟩,
  ⟨some 51, .mov (.t 50), none⟩,
  ⟨some 52, .load true 2 (.t 8), some (51, false)⟩,
  ⟨some 53, .load true 2 (.t 12), some (51, false)⟩,
  ⟨some 54, .eqs 2 true (.t 52) (.t 53), some (51, false)⟩,
  ⟨some 55, .pick (.t 51) (.k (.p (.bool true))) (.t 54), none⟩,
  ⟨some 56, .mov (.t 55), none⟩,
  ⟨some 57, .load true 4 (.t 5), some (56, false)⟩,
  ⟨some 58, .call 41 [(.t 57)], some (56, false)⟩]
def l8_16 : List COp := [
  ⟨some 59, .load true 4 (.t 9), some (56, false)⟩,
  ⟨some 60, .call 42 [(.t 59)], some (56, false)⟩]
def l8_17 : List COp := [
  ⟨some 61, .bin false .neq (.t 58) (.t 60), some (56, false)⟩,
  ⟨some 62, .pick (.t 56) (.k (.p (.bool true))) (.t 61), none⟩,
  ⟨some 63, .mov (.t 62), none⟩,
  ⟨some 64, .load true 4 (.t 7), some (63, false)⟩,
  ⟨some 65, .call 41 [(.t 64)], some (63, false)⟩]
def l8_18 : List COp := [
  ⟨some 66, .load true 4 (.t 11), some (63, false)⟩,
  ⟨some 67, .call 42 [(.t 66)], some (63, false)⟩]
def l8_19 : List COp := [
  ⟨some 68, .bin false .neq (.t 65) (.t 67), some (63, false)⟩,
  ⟨some 69, .pick (.t 63) (.k (.p (.bool true))) (.t 68), none⟩]
def c8_20 : CC := .ops [] (l8_14 ++ (l8_15 ++ (l8_16 ++ (l8_17 ++ (l8_18 ++ (l8_19))))))
def l8_21 : List COp := [
  ⟨some 4, .mov (.k (.p (.bool false))), none⟩]
def c8_22 : CC := .ops [] (l8_21)
def c8_23 : CC := .seq c8_22 .ret
def c8_24 : CC := .cond (.t 69) c8_23 .skip
def c8_25 : CC := .seq c8_20 c8_24
def l8_26 : List COp := [
  ⟨some 71, .load true 4 (.t 5), none⟩,
  ⟨some 72, .call 43 [(.t 71)], none⟩]
def l8_27 : List COp := [
  ⟨some 70, .mov (.t 72), none⟩,
  ⟨some 73, .extract (.t 70) 0, none⟩,
  ⟨some 74, .extract (.t 70) 1, none⟩,
  ⟨some 13, .alloc 24 2 (.p (.agg [(.bool false), (.list 93 1 [])])), none⟩,
  ⟨some 14, .alloc 24 2 (.p (.agg [(.bool false), (.list 93 1 [])])), none⟩,
  ⟨none, .store 2 (.t 13) (.t 73), none⟩,
  ⟨none, .store 2 (.t 14) (.t 74), none⟩]
def c8_28 : CC := .ops [] (l8_26 ++ (l8_27))
def l8_29 : List COp := [
  ⟨some 75, .load true 2 (.t 13), none⟩,
  ⟨some 76, .call 14 [(.t 75)], none⟩]
def l8_30 : List COp := [
  ⟨some 77, .fieldAddr 0 2 true (.t 9), none⟩,
  ⟨some 78, .load true 2 (.t 77), none⟩,
  ⟨some 79, .call 15 [(.t 78)], none⟩]
def l8_31 : List COp := [
  ⟨some 80, .bin false .neq (.t 76) (.t 79), none⟩,
  ⟨some 81, .mov (.t 80), none⟩,
  ⟨some 82, .load true 2 (.t 14), some (81, false)⟩,
  ⟨some 83, .call 14 [(.t 82)], some (81, false)⟩]
def l8_32 : List COp := [
  ⟨some 84, .fieldAddr 2 2 true (.t 9), some (81, false)⟩,
  ⟨some 85, .load true 2 (.t 84), some (81, false)⟩,
  ⟨some 86, .call 15 [(.t 85)], some (81, false)⟩]
def l8_33 : List COp := [
  ⟨some 87, .bin false .neq (.t 83) (.t 86), some (81, false)⟩,
  ⟨some 88, .pick (.t 81) (.k (.p (.bool true))) (.t 87), none⟩,
  ⟨some 89, .mov (.t 88), none⟩,
  ⟨some 90, .load true 2 (.t 13), some (89, false)⟩,
  ⟨some 91, .call 44 [(.t 90)], some (89, false)⟩]
def l8_34 : List COp := [
  ⟨some 92, .call 41 [(.t 91)], some (89, false)⟩]
def l8_35 : List COp := [
  ⟨some 93, .fieldAddr 0 2 true (.t 9), some (89, false)⟩,
  ⟨some 94, .load true 2 (.t 93), some (89, false)⟩,
  ⟨some 95, .call 15 [(.t 94)], some (89, false)⟩]
def l8_36 : List COp := [
  ⟨some 96, .bin false .neq (.t 92) (.t 95), some (89, false)⟩,
  ⟨some 97, .pick (.t 89) (.k (.p (.bool true))) (.t 96), none⟩]
def c8_37 : CC := .ops [] (l8_29 ++ (l8_30 ++ (l8_31 ++ (l8_32 ++ (l8_33 ++ (l8_34 ++ (l8_35 ++ (l8_36))))))))
def l8_38 : List COp := [
  ⟨some 4, .mov (.k (.p (.bool false))), none⟩]
def c8_39 : CC := .ops [] (l8_38)
def c8_40 : CC := .seq c8_39 .ret
def c8_41 : CC := .cond (.t 97) c8_40 .skip
def c8_42 : CC := .seq c8_37 c8_41
def l8_43 : List COp := [
  ⟨some 99, .load true 2 (.t 13), none⟩,
  ⟨some 100, .load true 2 (.t 14), none⟩,
  ⟨some 101, .call 26 [(.t 99), (.t 100)], none⟩]
def l8_44 : List COp := [
  ⟨some 102, .load true 2 (.t 13), none⟩,
  ⟨some 103, .call 45 [(.t 101), (.t 102)], none⟩]
def l8_45 : List COp := [
  ⟨some 98, .mov (.t 103), none⟩,
  ⟨some 104, .extract (.t 98) 0, none⟩,
  ⟨some 105, .extract (.t 98) 1, none⟩,
  ⟨some 15, .alloc 63 4 (.p (.agg [(.bool false), (.list 93 1 []), (.bool false), (.list 93 1 [])])), none⟩,
  ⟨some 16, .alloc 26 2 (.p (.agg [(.int .i64 0), (.int .i64 0)])), none⟩,
  ⟨none, .store 4 (.t 15) (.t 104), none⟩,
  ⟨none, .store 2 (.t 16) (.t 105), none⟩]
def c8_46 : CC := .ops [] (l8_43 ++ (l8_44 ++ (l8_45)))
def l8_47 : List COp := [
  ⟨some 107, .fieldAddr 0 2 true (.t 9), none⟩,
  ⟨some 108, .load true 2 (.t 107), none⟩,
  ⟨some 109, .fieldAddr 2 2 true (.t 9), none⟩,
  ⟨some 110, .load true 2 (.t 109), none⟩,
  ⟨some 111, .call 27 [(.t 108), (.t 110)], none⟩]
def l8_48 : List COp := [
  ⟨some 112, .fieldAddr 0 2 true (.t 9), none⟩,
  ⟨some 113, .load true 2 (.t 112), none⟩,
  ⟨some 114, .call 46 [(.t 111), (.t 113)], none⟩]
def l8_49 : List COp := [
  ⟨some 106, .mov (.t 114), none⟩,
  ⟨some 115, .extract (.t 106) 0, none⟩,
  ⟨some 116, .extract (.t 106) 1, none⟩,
  ⟨some 17, .alloc 67 4 (.p (.agg [(.bool false), (.list 3 1 []), (.bool false), (.list 3 1 [])])), none⟩,
  ⟨some 18, .alloc 26 2 (.p (.agg [(.int .i64 0), (.int .i64 0)])), none⟩,
  ⟨none, .store 4 (.t 17) (.t 115), none⟩,
  ⟨none, .store 2 (.t 18) (.t 116), none⟩]
def c8_50 : CC := .ops [] (l8_47 ++ (l8_48 ++ (l8_49)))
def l8_51 : List COp := [
  ⟨some 118, .load true 4 (.t 5), none⟩,
  ⟨some 119, .load true 4 (.t 7), none⟩,
  ⟨some 120, .call 47 [(.t 118), (.t 119)], none⟩]
def l8_52 : List COp := [
  ⟨some 117, .mov (.t 120), none⟩,
  ⟨some 121, .extract (.t 117) 0, none⟩,
  ⟨some 122, .extract (.t 117) 1, none⟩,
  ⟨some 19, .alloc 63 4 (.p (.agg [(.bool false), (.list 93 1 []), (.bool false), (.list 93 1 [])])), none⟩,
  ⟨none, .store 4 (.t 19) (.t 121), none⟩,
  ⟨none, .store 2 (.t 6) (.t 122), none⟩]
def c8_53 : CC := .ops [] (l8_51 ++ (l8_52))
def l8_54 : List COp := [
  ⟨some 124, .load true 4 (.t 9), none⟩,
  ⟨some 125, .load true 4 (.t 11), none⟩,
  ⟨some 126, .call 48 [(.t 124), (.t 125)], none⟩]
def l8_55 : List COp := [
  ⟨some 123, .mov (.t 126), none⟩,
  ⟨some 127, .extract (.t 123) 0, none⟩,
  ⟨some 128, .extract (.t 123) 1, none⟩,
  ⟨some 20, .alloc 67 4 (.p (.agg [(.bool false), (.list 3 1 []), (.bool false), (.list 3 1 [])])), none⟩,
  ⟨none, .store 4 (.t 20) (.t 127), none⟩,
  ⟨none, .store 2 (.t 10) (.t 128), none⟩]
def c8_56 : CC := .ops [] (l8_54 ++ (l8_55))
def l8_57 : List COp := [
  ⟨some 130, .fieldAddr 0 2 true (.t 9), none⟩,
  ⟨some 131, .load true 2 (.t 130), none⟩,
  ⟨some 132, .fieldAddr 2 2 true (.t 9), none⟩,
  ⟨some 133, .load true 2 (.t 132), none⟩,
  ⟨some 134, .call 32 [(.t 131), (.t 133)], none⟩]
def l8_58 : List COp := [
  ⟨some 129, .mov (.t 134), none⟩,
  ⟨some 135, .extract (.t 129) 0, none⟩,
  ⟨some 136, .extract (.t 129) 1, none⟩,
  ⟨some 137, .extract (.t 129) 2, none⟩,
  ⟨some 21, .alloc 31 2 (.p (.agg [(.bool false), (.list 3 1 [])])), none⟩,
  ⟨some 22, .alloc 31 2 (.p (.agg [(.bool false), (.list 3 1 [])])), none⟩,
  ⟨some 23, .alloc 26 2 (.p (.agg [(.int .i64 0), (.int .i64 0)])), none⟩,
  ⟨none, .store 2 (.t 21) (.t 135), none⟩,
  ⟨none, .store 2 (.t 22) (.t 136), none⟩,
  ⟨none, .store 2 (.t 23) (.t 137), none⟩]
def c8_59 : CC := .ops [] (l8_57 ++ (l8_58))
def l8_60 : List COp := [
  ⟨some 138, .load true 2 (.t 6), none⟩,
  ⟨some 139, .load true 2 (.t 10), none⟩,
  ⟨some 140, .eqs 2 true (.t 138) (.t 139), none⟩,
  ⟨some 141, .mov (.t 140), none⟩,
  ⟨some 142, .load true 2 (.t 16), some (141, false)⟩,
  ⟨some 143, .load true 2 (.t 18), some (141, false)⟩,
  ⟨some 144, .eqs 2 true (.t 142) (.t 143), some (141, false)⟩,
  ⟨some 145, .pick (.t 141) (.k (.p (.bool true))) (.t 144), none⟩,
  ⟨some 146, .mov (.t 145), none⟩,
  ⟨some 147, .load true 4 (.t 19), some (146, false)⟩,
  ⟨some 148, .call 41 [(.t 147)], some (146, false)⟩]
def l8_61 : List COp := [
  ⟨some 149, .load true 4 (.t 20), some (146, false)⟩,
  ⟨some 150, .call 42 [(.t 149)], some (146, false)⟩]
def l8_62 : List COp := [
  ⟨some 151, .bin false .neq (.t 148) (.t 150), some (146, false)⟩,
  ⟨some 152, .pick (.t 146) (.k (.p (.bool true))) (.t 151), none⟩,
  ⟨some 153, .mov (.t 152), none⟩,
  ⟨some 154, .load true 4 (.t 15), some (153, false)⟩,
  ⟨some 155, .call 41 [(.t 154)], some (153, false)⟩]
def l8_63 : List COp := [
  ⟨some 156, .load true 4 (.t 17), some (153, false)⟩,
  ⟨some 157, .call 42 [(.t 156)], some (153, false)⟩]
def l8_64 : List COp := [
  ⟨some 158, .bin false .neq (.t 155) (.t 157), some (153, false)⟩,
  ⟨some 159, .pick (.t 153) (.k (.p (.bool true))) (.t 158), none⟩,
  ⟨some 160, .mov (.t 159), none⟩,
  ⟨some 161, .load true 4 (.t 5), some (160, false)⟩,
  ⟨some 162, .load true 4 (.t 7), some (160, false)⟩,
  ⟨some 163, .call 49 [(.t 161), (.t 162)], some (160, false)⟩]
def l8_65 : List COp := [
  ⟨some 164, .load true 4 (.t 9), some (160, false)⟩,
  ⟨some 165, .load true 4 (.t 11), some (160, false)⟩,
  ⟨some 166, .call 50 [(.t 164), (.t 165)], some (160, false)⟩]
def l8_66 : List COp := [
  ⟨some 167, .bin false .neq (.t 163) (.t 166), some (160, false)⟩,
  ⟨some 168, .pick (.t 160) (.k (.p (.bool true))) (.t 167), none⟩,
  ⟨some 169, .mov (.t 168), none⟩,
  ⟨some 170, .load true 4 (.t 5), some (169, false)⟩,
  ⟨some 171, .call 51 [(.t 170)], some (169, false)⟩]
def l8_67 : List COp := [
  ⟨some 172, .call 14 [(.t 171)], some (169, false)⟩]
def l8_68 : List COp := [
  ⟨some 173, .load true 2 (.t 21), some (169, false)⟩,
  ⟨some 174, .call 15 [(.t 173)], some (169, false)⟩]
def l8_69 : List COp := [
  ⟨some 175, .bin false .neq (.t 172) (.t 174), some (169, false)⟩,
  ⟨some 176, .pick (.t 169) (.k (.p (.bool true))) (.t 175), none⟩]
def c8_70 : CC := .ops [] (l8_60 ++ (l8_61 ++ (l8_62 ++ (l8_63 ++ (l8_64 ++ (l8_65 ++ (l8_66 ++ (l8_67 ++ (l8_68 ++ (l8_69))))))))))
def l8_71 : List COp := [
  ⟨some 4, .mov (.k (.p (.bool false))), none⟩]
def c8_72 : CC := .ops [] (l8_71)
def c8_73 : CC := .seq c8_72 .ret
def c8_74 : CC := .cond (.t 176) c8_73 .skip
def c8_75 : CC := .seq c8_70 c8_74
def l8_76 : List COp := [
  ⟨some 177, .load true 4 (.t 5), none⟩,
  ⟨some 178, .load true 4 (.t 7), none⟩,
  ⟨some 179, .call 52 [(.t 177), (.t 178)], none⟩]
def l8_77 : List COp := [
  ⟨some 180, .call 41 [(.t 179)], none⟩]
def l8_78 : List COp := [
  ⟨some 181, .load true 4 (.t 9), none⟩,
  ⟨some 182, .load true 4 (.t 11), none⟩,
  ⟨some 183, .call 53 [(.t 181), (.t 182)], none⟩]
def l8_79 : List COp := [
  ⟨some 184, .call 42 [(.t 183)], none⟩]
def l8_80 : List COp := [
  ⟨some 185, .bin false .eql (.t 180) (.t 184), none⟩,
  ⟨some 186, .mov (.t 185), none⟩,
  ⟨some 187, .load true 4 (.t 5), some (186, true)⟩,
  ⟨some 188, .load true 4 (.t 7), some (186, true)⟩,
  ⟨some 189, .call 54 [(.t 187), (.t 188)], some (186, true)⟩]
def l8_81 : List COp := [
  ⟨some 190, .call 41 [(.t 189)], some (186, true)⟩]
def l8_82 : List COp := [
  ⟨some 191, .load true 4 (.t 9), some (186, true)⟩,
  ⟨some 192, .load true 4 (.t 11), some (186, true)⟩,
  ⟨some 193, .call 55 [(.t 191), (.t 192)], some (186, true)⟩]
def l8_83 : List COp := [
  ⟨some 194, .call 42 [(.t 193)], some (186, true)⟩]
def l8_84 : List COp := [
  ⟨some 195, .bin false .eql (.t 190) (.t 194), some (186, true)⟩,
  ⟨some 196, .pick (.t 186) (.t 195) (.k (.p (.bool false))), none⟩,
  ⟨some 197, .mov (.t 196), none⟩,
  ⟨some 198, .load true 4 (.t 5), some (197, true)⟩,
  ⟨some 199, .load true 4 (.t 7), some (197, true)⟩,
  ⟨some 200, .call 56 [(.t 198), (.t 199)], some (197, true)⟩]
def l8_85 : List COp := [
  ⟨some 201, .call 41 [(.t 200)], some (197, true)⟩]
def l8_86 : List COp := [
  ⟨some 202, .load true 4 (.t 9), some (197, true)⟩,
  ⟨some 203, .load true 4 (.t 11), some (197, true)⟩,
  ⟨some 204, .call 57 [(.t 202), (.t 203)], some (197, true)⟩]
def l8_87 : List COp := [
  ⟨some 205, .call 42 [(.t 204)], some (197, true)⟩]
def l8_88 : List COp := [
  ⟨some 206, .bin false .eql (.t 201) (.t 205), some (197, true)⟩,
  ⟨some 207, .pick (.t 197) (.t 206) (.k (.p (.bool false))), none⟩,
  ⟨some 208, .mov (.t 207), none⟩,
  ⟨some 209, .load true 4 (.t 5), some (208, true)⟩,
  ⟨some 210, .call 58 [(.t 209)], some (208, true)⟩]
def l8_89 : List COp := [
  ⟨some 211, .call 41 [(.t 210)], some (208, true)⟩]
def l8_90 : List COp := [
  ⟨some 212, .load true 4 (.t 9), some (208, true)⟩,
  ⟨some 213, .call 59 [(.t 212)], some (208, true)⟩]
def l8_91 : List COp := [
  ⟨some 214, .call 42 [(.t 213)], some (208, true)⟩]
def l8_92 : List COp := [
  ⟨some 215, .bin false .eql (.t 211) (.t 214), some (208, true)⟩,
  ⟨some 216, .pick (.t 208) (.t 215) (.k (.p (.bool false))), none⟩,
  ⟨some 217, .mov (.t 216), none⟩,
  ⟨some 218, .load true 4 (.t 5), some (217, true)⟩,
  ⟨some 219, .call 60 [(.t 218)], some (217, true)⟩]
def l8_93 : List COp := [
  ⟨some 220, .load true 4 (.t 9), some (217, true)⟩,
  ⟨some 221, .call 61 [(.t 220)], some (217, true)⟩]
def l8_94 : List COp := [
  ⟨some 222, .bin false .eql (.t 219) (.t 221), some (217, true)⟩,
  ⟨some 223, .pick (.t 217) (.t 222) (.k (.p (.bool false))), none⟩,
  ⟨some 4, .mov (.t 223), none⟩]
def c8_95 : CC := .ops [] (l8_76 ++ (l8_77 ++ (l8_78 ++ (l8_79 ++ (l8_80 ++ (l8_81 ++ (l8_82 ++ (l8_83 ++ (l8_84 ++ (l8_85 ++ (l8_86 ++ (l8_87 ++ (l8_88 ++ (l8_89 ++ (l8_90 ++ (l8_91 ++ (l8_92 ++ (l8_93 ++ (l8_94)))))))))))))))))))
def c8_96 : CC := .seq c8_95 .ret
def c8_97 : CC := .seq c8_75 c8_96
def c8_98 : CC := .seq c8_59 c8_97
def c8_99 : CC := .seq c8_56 c8_98
def c8_100 : CC := .seq c8_53 c8_99
def c8_101 : CC := .seq c8_50 c8_100
def c8_102 : CC := .seq c8_46 c8_101
def c8_103 : CC := .seq c8_42 c8_102
def c8_104 : CC := .seq c8_28 c8_103
def c8_105 : CC := .seq c8_25 c8_104
def c8_106 : CC := .seq c8_13 c8_105
def c8_107 : CC := .seq c8_10 c8_106
def c8_108 : CC := .seq c8_7 c8_107
def c8_109 : CC := .seq c8_4 c8_108
def c8_110 : CC := .seq c8_1 c8_109
def c8 : CC := c8_110
theorem fn8 : FnOk Try.prog 8 [63, 26, 67, 24, 31] c8 [(4, none)] 224 :=
  ⟨Try.f8, [⟨5, [0, 1, 2, 3, 4, 5, 6, 7, 8, 9, 10, 11, 12, 13, 14, 15, 16, 17, 18, 19, 20, 21, 22, 23, 24, 25], [0, 1, 3, 7, 7, 31, 63, 127, 255, 255, 1023, 2047, 4095, 8191, 16383, 8191, 65535, 131071, 262143, 524287, 1048575, 2097151, 1048575, 8388607, 16777215, 33554431], []⟩, ⟨8, [0, 1, 2, 3, 4, 5, 6, 7, 8, 9, 10, 11, 12, 13, 14, 15, 16, 17, 18, 19, 20, 21, 22], [0, 1, 0, 4, 15, 31, 63, 127, 255, 127, 639, 2047, 4095, 8191, 16383, 32767, 65535, 131071, 32767, 294911, 1048575, 2097151, 4194303], []⟩, ⟨10, [0, 1, 2, 3, 4, 5, 6, 7, 8, 9, 10, 11], [0, 0, 3, 0, 15, 31, 63, 63, 0, 0, 895, 2047], []⟩, ⟨11, [0, 1, 2, 3, 4, 5, 6, 7, 8, 9, 10, 11, 12, 13, 14], [0, 1, 0, 4, 15, 0, 32, 127, 255, 511, 511, 0, 0, 7167, 16383], []⟩, ⟨15, [0, 1, 2, 3, 4, 5, 6, 7, 8, 9, 10, 11, 12, 13, 14, 15, 16, 17, 18, 19, 20, 21, 22, 23, 24, 25, 26, 27, 28, 29, 30, 31, 32, 33, 34, 35, 36, 37, 38], [0, 0, 3, 7, 15, 15, 63, 127, 255, 511, 1023, 511, 4095, 8191, 16383, 32767, 65535, 131071, 65535, 524287, 1048575, 2097151, 4194303, 8388607, 8388607, 33554431, 8388607, 8388607, 268435455, 536870911, 1073741823, 2147483647, 4294967295, 8589934591, 17179869183, 4294967295, 68719476735, 137438953471, 274877906943], []⟩, ⟨17, [0, 1, 2, 3, 4, 5, 6, 7, 8, 9, 10, 11, 12, 13, 14, 15, 16, 17, 18, 19, 20, 21, 22, 23, 24, 25, 26, 27, 28, 29, 30, 31, 32, 33, 34, 35, 36, 37, 38, 39, 40, 41, 42, 43, 44, 45, 46, 47], [0, 0, 3, 7, 0, 0, 63, 127, 255, 511, 1023, 1023, 4095, 8191, 1023, 1023, 65535, 131071, 262143, 524287, 1048575, 2097151, 2097151, 8388607, 16777215, 2097151, 2097151, 134217727, 268435455, 536870911, 1073741823, 2147483647, 4294967295, 8589934591, 17179869183, 4294967295, 68719476735, 137438953471, 274877906943, 549755813887, 1099511627775, 2199023255551, 4398046511103, 2199023255551, 17592186044415, 35184372088831, 70368744177663, 140737488355327], []⟩], Try.func8, by kernel_rfl, by kernel_rfl, by kernel_rfl, by kernel_rfl, by kernel_rfl⟩

-- FN 52 (radicand/num.Frac).Add
def l52_0 : List COp := [
  ⟨some 2, .box 63 4 (.t 0), none⟩,
  ⟨some 3, .box 63 4 (.t 1), none⟩,
  ⟨some 4, .alloc 63 4 (.p (.agg [(.bool false), (.list 93 1 []), (.bool false), (.list 93 1 [])])), none⟩]
def c52_1 : CC := .ops [] (l52_0)
def l52_2 : List COp := [
  ⟨some 7, .load true 4 (.t 3), none⟩,
  ⟨some 8, .call 85 [(.t 7)], none⟩]
def l52_3 : List COp := [
  ⟨some 12, .load true 4 (.t 2), none⟩,
  ⟨some 16, .load true 4 (.t 2), none⟩,
  ⟨some 18, .load true 4 (.t 3), none⟩,
  ⟨some 5, .fieldAddr 0 2 true (.t 2), none⟩,
  ⟨some 6, .load true 2 (.t 5), none⟩,
  ⟨some 9, .call 26 [(.t 6), (.t 8)], none⟩]
def l52_4 : List COp := [
  ⟨some 13, .call 85 [(.t 12)], none⟩]
def l52_5 : List COp := [
  ⟨some 10, .fieldAddr 0 2 true (.t 3), none⟩,
  ⟨some 11, .load true 2 (.t 10), none⟩,
  ⟨some 14, .call 26 [(.t 11), (.t 13)], none⟩]
def l52_6 : List COp := [
  ⟨some 15, .call 22 [(.t 9), (.t 14)], none⟩]
def l52_7 : List COp := [
  ⟨some 17, .call 85 [(.t 16)], none⟩]
def l52_8 : List COp := [
  ⟨some 19, .call 85 [(.t 18)], none⟩]
def l52_9 : List COp := [
  ⟨some 20, .call 26 [(.t 17), (.t 19)], none⟩]
def l52_10 : List COp := [
  ⟨some 21, .call 83 [(.t 15), (.t 20)], none⟩]
def l52_11 : List COp := [
  ⟨none, .store 4 (.t 4) (.t 21), none⟩]
def c52_12 : CC := .ops [] (l52_2 ++ (l52_3 ++ (l52_4 ++ (l52_5 ++ (l52_6 ++ (l52_7 ++ (l52_8 ++ (l52_9 ++ (l52_10 ++ (l52_11))))))))))
def c52_13 : CC := .seq c52_12 .ret
def c52_14 : CC := .seq c52_1 c52_13
def c52 : CC := c52_14
theorem fn52 : FnOk Try.prog 52 [63] c52 [(4, some (true, 4))] 22 :=
  ⟨Try.f52, [⟨1, [2, 3, 7, 11, 13, 0, 1, 4, 8, 5, 6, 9, 10, 12, 14, 15, 16, 17], [0, 1, 0, 4, 15, 0, 32, 0, 159, 511, 1023, 0, 4095, 0, 16383, 32767, 65535, 131071], []⟩], Try.func52, by kernel_rfl, by kernel_rfl, by kernel_rfl, by kernel_rfl, by kernel_rfl⟩

-- FN 54 (radicand/num.Frac).Sub
def l54_0 : List COp := [
  ⟨some 2, .box 63 4 (.t 0), none⟩,
  ⟨some 3, .box 63 4 (.t 1), none⟩,
  ⟨some 4, .alloc 63 4 (.p (.agg [(.bool false), (.list 93 1 []), (.bool false), (.list 93 1 [])])), none⟩]
def c54_1 : CC := .ops [] (l54_0)
def l54_2 : List COp := [
  ⟨some 5, .load true 4 (.t 2), none⟩,
  ⟨some 6, .fieldAddr 0 2 true (.t 3), none⟩,
  ⟨some 7, .load true 2 (.t 6), none⟩,
  ⟨some 8, .call 20 [(.t 7)], none⟩]
def l54_3 : List COp := [
  ⟨some 9, .fieldAddr 2 2 true (.t 3), none⟩,
  ⟨some 10, .load true 2 (.t 9), none⟩,
  ⟨some 11, .build [(.p (.bool false)), (.p (.list 93 1 [])), (.p (.bool false)), (.p (.list 93 1 []))] [(0, 2, (.t 8)), (2, 2, (.t 10))], none⟩,
  ⟨some 12, .call 52 [(.t 5), (.t 11)], none⟩]
def l54_4 : List COp := [
  ⟨none, .store 4 (.t 4) (.t 12), none⟩]
def c54_5 : CC := .ops [] (l54_2 ++ (l54_3 ++ (l54_4)))
def c54_6 : CC := .seq c54_5 .ret
def c54_7 : CC := .seq c54_1 c54_6
def c54 : CC := c54_7
theorem fn54 : FnOk Try.prog 54 [63] c54 [(4, some (true, 4))] 13 :=
  ⟨Try.f54, [⟨1, [0, 1, 2, 3, 4, 5, 6, 7, 8], [0, 0, 2, 6, 0, 16, 62, 127, 255], []⟩], Try.func54, by kernel_rfl, by kernel_rfl, by kernel_rfl, by kernel_rfl, by kernel_rfl⟩

-- FN 56 (radicand/num.Frac).Mul
def l56_0 : List COp := [
  ⟨some 2, .box 63 4 (.t 0), none⟩,
  ⟨some 3, .box 63 4 (.t 1), none⟩,
  ⟨some 4, .alloc 63 4 (.p (.agg [(.bool false), (.list 93 1 []), (.bool false), (.list 93 1 [])])), none⟩]
def c56_1 : CC := .ops [] (l56_0)
def l56_2 : List COp := [
  ⟨some 10, .load true 4 (.t 2), none⟩,
  ⟨some 12, .load true 4 (.t 3), none⟩,
  ⟨some 5, .fieldAddr 0 2 true (.t 2), none⟩,
  ⟨some 6, .load true 2 (.t 5), none⟩,
  ⟨some 7, .fieldAddr 0 2 true (.t 3), none⟩,
  ⟨some 8, .load true 2 (.t 7), none⟩,
  ⟨some 9, .call 26 [(.t 6), (.t 8)], none⟩]
def l56_3 : List COp := [
  ⟨some 11, .call 85 [(.t 10)], none⟩]
def l56_4 : List COp := [
  ⟨some 13, .call 85 [(.t 12)], none⟩]
def l56_5 : List COp := [
  ⟨some 14, .call 26 [(.t 11), (.t 13)], none⟩]
def l56_6 : List COp := [
  ⟨some 15, .call 83 [(.t 9), (.t 14)], none⟩]
def l56_7 : List COp := [
  ⟨none, .store 4 (.t 4) (.t 15), none⟩]
def c56_8 : CC := .ops [] (l56_2 ++ (l56_3 ++ (l56_4 ++ (l56_5 ++ (l56_6 ++ (l56_7))))))
def c56_9 : CC := .seq c56_8 .ret
def c56_10 : CC := .seq c56_1 c56_9
def c56 : CC := c56_10
theorem fn56 : FnOk Try.prog 56 [63] c56 [(4, some (true, 4))] 16 :=
  ⟨Try.f56, [⟨1, [5, 7, 0, 1, 2, 3, 4, 6, 8, 9, 10, 11], [0, 1, 0, 4, 15, 0, 63, 0, 255, 511, 1023, 2047], []⟩], Try.func56, by kernel_rfl, by kernel_rfl, by kernel_rfl, by kernel_rfl, by kernel_rfl⟩

-- FN 49 (radicand/num.Frac).Cmp
def l49_0 : List COp := [
  ⟨some 2, .box 63 4 (.t 0), none⟩,
  ⟨some 3, .box 63 4 (.t 1), none⟩,
  ⟨some 4, .mov (.k (.p (.int .i64 0))), none⟩]
def c49_1 : CC := .ops [] (l49_0)
def l49_2 : List COp := [
  ⟨some 7, .load true 4 (.t 3), none⟩,
  ⟨some 8, .call 85 [(.t 7)], none⟩]
def l49_3 : List COp := [
  ⟨some 12, .load true 4 (.t 2), none⟩,
  ⟨some 5, .fieldAddr 0 2 true (.t 2), none⟩,
  ⟨some 6, .load true 2 (.t 5), none⟩,
  ⟨some 9, .call 26 [(.t 6), (.t 8)], none⟩]
def l49_4 : List COp := [
  ⟨some 13, .call 85 [(.t 12)], none⟩]
def l49_5 : List COp := [
  ⟨some 10, .fieldAddr 0 2 true (.t 3), none⟩,
  ⟨some 11, .load true 2 (.t 10), none⟩,
  ⟨some 14, .call 26 [(.t 11), (.t 13)], none⟩]
def l49_6 : List COp := [
  ⟨some 15, .call 28 [(.t 9), (.t 14)], none⟩]
def l49_7 : List COp := [
  ⟨some 4, .mov (.t 15), none⟩]
def c49_8 : CC := .ops [] (l49_2 ++ (l49_3 ++ (l49_4 ++ (l49_5 ++ (l49_6 ++ (l49_7))))))
def c49_9 : CC := .seq c49_8 .ret
def c49_10 : CC := .seq c49_1 c49_9
def c49 : CC := c49_10
theorem fn49 : FnOk Try.prog 49 [63] c49 [(4, none)] 16 :=
  ⟨Try.f49, [⟨1, [2, 3, 7, 0, 1, 4, 8, 5, 6, 9, 10, 11], [0, 1, 0, 4, 15, 0, 32, 0, 159, 511, 1023, 2047], []⟩], Try.func49, by kernel_rfl, by kernel_rfl, by kernel_rfl, by kernel_rfl, by kernel_rfl⟩

-- FN 58 (radicand/num.Frac).Neg
def l58_0 : List COp := [
  ⟨some 1, .box 63 4 (.t 0), none⟩,
  ⟨some 2, .alloc 63 4 (.p (.agg [(.bool false), (.list 93 1 []), (.bool false), (.list 93 1 [])])), none⟩]
def c58_1 : CC := .ops [] (l58_0)
def l58_2 : List COp := [
  ⟨some 3, .fieldAddr 0 2 true (.t 1), none⟩,
  ⟨some 4, .load true 2 (.t 3), none⟩,
  ⟨some 5, .call 20 [(.t 4)], none⟩]
def l58_3 : List COp := [
  ⟨some 6, .fieldAddr 2 2 true (.t 1), none⟩,
  ⟨some 7, .load true 2 (.t 6), none⟩,
  ⟨some 8, .build [(.p (.bool false)), (.p (.list 93 1 [])), (.p (.bool false)), (.p (.list 93 1 []))] [(0, 2, (.t 5)), (2, 2, (.t 7))], none⟩,
  ⟨none, .store 4 (.t 2) (.t 8), none⟩]
def c58_4 : CC := .ops [] (l58_2 ++ (l58_3))
def c58_5 : CC := .seq c58_4 .ret
def c58_6 : CC := .seq c58_1 c58_5
def c58 : CC := c58_6
theorem fn58 : FnOk Try.prog 58 [63] c58 [(2, some (true, 4))] 9 :=
  ⟨Try.f58, [⟨1, [0, 1, 2, 3, 4, 5, 6], [0, 1, 3, 0, 8, 31, 63], []⟩], Try.func58, by kernel_rfl, by kernel_rfl, by kernel_rfl, by kernel_rfl, by kernel_rfl⟩

-- FN 60 (radicand/num.Frac).Sign
def l60_0 : List COp := [
  ⟨some 1, .box 63 4 (.t 0), none⟩,
  ⟨some 2, .mov (.k (.p (.int .i64 0))), none⟩]
def c60_1 : CC := .ops [] (l60_0)
def l60_2 : List COp := [
  ⟨some 3, .fieldAddr 0 2 true (.t 1), none⟩,
  ⟨some 4, .load true 2 (.t 3), none⟩,
  ⟨some 5, .call 18 [(.t 4)], none⟩]
def l60_3 : List COp := [
  ⟨some 2, .mov (.t 5), none⟩]
def c60_4 : CC := .ops [] (l60_2 ++ (l60_3))
def c60_5 : CC := .seq c60_4 .ret
def c60_6 : CC := .seq c60_1 c60_5
def c60 : CC := c60_6
theorem fn60 : FnOk Try.prog 60 [63] c60 [(2, none)] 6 :=
  ⟨Try.f60, [], Try.func60, by kernel_rfl, by kernel_rfl, by kernel_rfl, by kernel_rfl, by kernel_rfl⟩

-- FN 53 radicand/radicandref.FAdd
def l53_0 : List COp := [
  ⟨some 2, .box 67 4 (.t 0), none⟩,
  ⟨some 3, .box 67 4 (.t 1), none⟩,
  ⟨some 4, .alloc 67 4 (.p (.agg [(.bool false), (.list 3 1 []), (.bool false), (.list 3 1 [])])), none⟩]
def c53_1 : CC := .ops [] (l53_0)
def l53_2 : List COp := [
  ⟨some 5, .fieldAddr 0 2 true (.t 2), none⟩,
  ⟨some 6, .load true 2 (.t 5), none⟩,
  ⟨some 7, .fieldAddr 2 2 true (.t 3), none⟩,
  ⟨some 8, .load true 2 (.t 7), none⟩,
  ⟨some 9, .call 27 [(.t 6), (.t 8)], none⟩]
def l53_3 : List COp := [
  ⟨some 10, .fieldAddr 0 2 true (.t 3), none⟩,
  ⟨some 11, .load true 2 (.t 10), none⟩,
  ⟨some 12, .fieldAddr 2 2 true (.t 2), none⟩,
  ⟨some 13, .load true 2 (.t 12), none⟩,
  ⟨some 14, .call 27 [(.t 11), (.t 13)], none⟩]
def l53_4 : List COp := [
  ⟨some 15, .call 23 [(.t 9), (.t 14)], none⟩]
def l53_5 : List COp := [
  ⟨some 16, .fieldAddr 2 2 true (.t 2), none⟩,
  ⟨some 17, .load true 2 (.t 16), none⟩,
  ⟨some 18, .fieldAddr 2 2 true (.t 3), none⟩,
  ⟨some 19, .load true 2 (.t 18), none⟩,
  ⟨some 20, .call 27 [(.t 17), (.t 19)], none⟩]
def l53_6 : List COp := [
  ⟨some 21, .call 84 [(.t 15), (.t 20)], none⟩]
def l53_7 : List COp := [
  ⟨none, .store 4 (.t 4) (.t 21), none⟩]
def c53_8 : CC := .ops [] (l53_2 ++ (l53_3 ++ (l53_4 ++ (l53_5 ++ (l53_6 ++ (l53_7))))))
def c53_9 : CC := .seq c53_8 .ret
def c53_10 : CC := .seq c53_1 c53_9
def c53 : CC := c53_10
theorem fn53 : FnOk Try.prog 53 [67] c53 [(4, some (true, 4))] 22 :=
  ⟨Try.f53, [⟨1, [0, 1, 2, 3, 4, 5, 6, 7, 8, 9, 10, 11, 12, 13, 14, 15, 16, 17], [0, 1, 0, 4, 15, 0, 32, 0, 128, 511, 1023, 0, 2048, 0, 8192, 32767, 65535, 131071], []⟩], Try.func53, by kernel_rfl, by kernel_rfl, by kernel_rfl, by kernel_rfl, by kernel_rfl⟩

-- FN 55 radicand/radicandref.FSub
def l55_0 : List COp := [
  ⟨some 2, .box 67 4 (.t 0), none⟩,
  ⟨some 3, .box 67 4 (.t 1), none⟩,
  ⟨some 4, .alloc 67 4 (.p (.agg [(.bool false), (.list 3 1 []), (.bool false), (.list 3 1 [])])), none⟩]
def c55_1 : CC := .ops [] (l55_0)
def l55_2 : List COp := [
  ⟨some 5, .load true 4 (.t 2), none⟩,
  ⟨some 6, .fieldAddr 0 2 true (.t 3), none⟩,
  ⟨some 7, .load true 2 (.t 6), none⟩,
  ⟨some 8, .call 21 [(.t 7)], none⟩]
def l55_3 : List COp := [
  ⟨some 9, .fieldAddr 2 2 true (.t 3), none⟩,
  ⟨some 10, .load true 2 (.t 9), none⟩,
  ⟨some 11, .build [(.p (.bool false)), (.p (.list 3 1 [])), (.p (.bool false)), (.p (.list 3 1 []))] [(0, 2, (.t 8)), (2, 2, (.t 10))], none⟩,
  ⟨some 12, .call 53 [(.t 5), (.t 11)], none⟩]
def l55_4 : List COp := [
  ⟨none, .store 4 (.t 4) (.t 12), none⟩]
def c55_5 : CC := .ops [] (l55_2 ++ (l55_3 ++ (l55_4)))
def c55_6 : CC := .seq c55_5 .ret
def c55_7 : CC := .seq c55_1 c55_6
def c55 : CC := c55_7
theorem fn55 : FnOk Try.prog 55 [67] c55 [(4, some (true, 4))] 13 :=
  ⟨Try.f55, [⟨1, [0, 1, 2, 3, 4, 5, 6, 7, 8], [0, 0, 2, 6, 0, 16, 62, 127, 255], []⟩], Try.func55, by kernel_rfl, by kernel_rfl, by kernel_rfl, by kernel_rfl, by kernel_rfl⟩

-- FN 57 radicand/radicandref.FMul
def l57_0 : List COp := [
  ⟨some 2, .box 67 4 (.t 0), none⟩,
  ⟨some 3, .box 67 4 (.t 1), none⟩,
  ⟨some 4, .alloc 67 4 (.p (.agg [(.bool false), (.list 3 1 []), (.bool false), (.list 3 1 [])])), none⟩]
def c57_1 : CC := .ops [] (l57_0)
def l57_2 : List COp := [
  ⟨some 5, .fieldAddr 0 2 true (.t 2), none⟩,
  ⟨some 6, .load true 2 (.t 5), none⟩,
  ⟨some 7, .fieldAddr 0 2 true (.t 3), none⟩,
  ⟨some 8, .load true 2 (.t 7), none⟩,
  ⟨some 9, .call 27 [(.t 6), (.t 8)], none⟩]
def l57_3 : List COp := [
  ⟨some 10, .fieldAddr 2 2 true (.t 2), none⟩,
  ⟨some 11, .load true 2 (.t 10), none⟩,
  ⟨some 12, .fieldAddr 2 2 true (.t 3), none⟩,
  ⟨some 13, .load true 2 (.t 12), none⟩,
  ⟨some 14, .call 27 [(.t 11), (.t 13)], none⟩]
def l57_4 : List COp := [
  ⟨some 15, .call 84 [(.t 9), (.t 14)], none⟩]
def l57_5 : List COp := [
  ⟨none, .store 4 (.t 4) (.t 15), none⟩]
def c57_6 : CC := .ops [] (l57_2 ++ (l57_3 ++ (l57_4 ++ (l57_5))))
def c57_7 : CC := .seq c57_6 .ret
def c57_8 : CC := .seq c57_1 c57_7
def c57 : CC := c57_8
theorem fn57 : FnOk Try.prog 57 [67] c57 [(4, some (true, 4))] 16 :=
  ⟨Try.f57, [⟨1, [0, 1, 2, 3, 4, 5, 6, 7, 8, 9, 10, 11], [0, 1, 0, 4, 15, 0, 32, 0, 128, 511, 1023, 2047], []⟩], Try.func57, by kernel_rfl, by kernel_rfl, by kernel_rfl, by kernel_rfl, by kernel_rfl⟩

-- FN 50 radicand/radicandref.FCmp
def l50_0 : List COp := [
  ⟨some 2, .box 67 4 (.t 0), none⟩,
  ⟨some 3, .box 67 4 (.t 1), none⟩,
  ⟨some 4, .mov (.k (.p (.int .i64 0))), none⟩]
def c50_1 : CC := .ops [] (l50_0)
def l50_2 : List COp := [
  ⟨some 5, .fieldAddr 0 2 true (.t 2), none⟩,
  ⟨some 6, .load true 2 (.t 5), none⟩,
  ⟨some 7, .fieldAddr 2 2 true (.t 3), none⟩,
  ⟨some 8, .load true 2 (.t 7), none⟩,
  ⟨some 9, .call 27 [(.t 6), (.t 8)], none⟩]
def l50_3 : List COp := [
  ⟨some 10, .fieldAddr 0 2 true (.t 3), none⟩,
  ⟨some 11, .load true 2 (.t 10), none⟩,
  ⟨some 12, .fieldAddr 2 2 true (.t 2), none⟩,
  ⟨some 13, .load true 2 (.t 12), none⟩,
  ⟨some 14, .call 27 [(.t 11), (.t 13)], none⟩]
def l50_4 : List COp := [
  ⟨some 15, .call 29 [(.t 9), (.t 14)], none⟩]
def l50_5 : List COp := [
  ⟨some 4, .mov (.t 15), none⟩]
def c50_6 : CC := .ops [] (l50_2 ++ (l50_3 ++ (l50_4 ++ (l50_5))))
def c50_7 : CC := .seq c50_6 .ret
def c50_8 : CC := .seq c50_1 c50_7
def c50 : CC := c50_8
theorem fn50 : FnOk Try.prog 50 [67] c50 [(4, none)] 16 :=
  ⟨Try.f50, [⟨1, [0, 1, 2, 3, 4, 5, 6, 7, 8, 9, 10, 11], [0, 1, 0, 4, 15, 0, 32, 0, 128, 511, 1023, 2047], []⟩], Try.func50, by kernel_rfl, by kernel_rfl, by kernel_rfl, by kernel_rfl, by kernel_rfl⟩

-- FN 59 radicand/radicandref.FNeg
def l59_0 : List COp := [
  ⟨some 1, .box 67 4 (.t 0), none⟩,
  ⟨some 2, .alloc 67 4 (.p (.agg [(.bool false), (.list 3 1 []), (.bool false), (.list 3 1 [])])), none⟩]
def c59_1 : CC := .ops [] (l59_0)
def l59_2 : List COp := [
  ⟨some 3, .fieldAddr 0 2 true (.t 1), none⟩,
  ⟨some 4, .load true 2 (.t 3), none⟩,
  ⟨some 5, .call 21 [(.t 4)], none⟩]
def l59_3 : List COp := [
  ⟨some 6, .fieldAddr 2 2 true (.t 1), none⟩,
  ⟨some 7, .load true 2 (.t 6), none⟩,
  ⟨some 8, .build [(.p (.bool false)), (.p (.list 3 1 [])), (.p (.bool false)), (.p (.list 3 1 []))] [(0, 2, (.t 5)), (2, 2, (.t 7))], none⟩,
  ⟨none, .store 4 (.t 2) (.t 8), none⟩]
def c59_4 : CC := .ops [] (l59_2 ++ (l59_3))
def c59_5 : CC := .seq c59_4 .ret
def c59_6 : CC := .seq c59_1 c59_5
def c59 : CC := c59_6
theorem fn59 : FnOk Try.prog 59 [67] c59 [(2, some (true, 4))] 9 :=
  ⟨Try.f59, [⟨1, [0, 1, 2, 3, 4, 5, 6], [0, 1, 3, 0, 8, 31, 63], []⟩], Try.func59, by kernel_rfl, by kernel_rfl, by kernel_rfl, by kernel_rfl, by kernel_rfl⟩

-- FN 61 radicand/radicandref.FSign
def l61_0 : List COp := [
  ⟨some 1, .box 67 4 (.t 0), none⟩,
  ⟨some 2, .mov (.k (.p (.int .i64 0))), none⟩]
def c61_1 : CC := .ops [] (l61_0)
def l61_2 : List COp := [
  ⟨some 3, .fieldAddr 0 2 true (.t 1), none⟩,
  ⟨some 4, .load true 2 (.t 3), none⟩,
  ⟨some 5, .call 72 [(.t 4)], none⟩]
def l61_3 : List COp := [
  ⟨some 2, .mov (.t 5), none⟩]
def c61_4 : CC := .ops [] (l61_2 ++ (l61_3))
def c61_5 : CC := .seq c61_4 .ret
def c61_6 : CC := .seq c61_1 c61_5
def c61 : CC := c61_6
theorem fn61 : FnOk Try.prog 61 [67] c61 [(2, none)] 6 :=
  ⟨Try.f61, [], Try.func61, by kernel_rfl, by kernel_rfl, by kernel_rfl, by kernel_rfl, by kernel_rfl⟩

-- FN 48 radicand/radicandref.FQuo
def l48_0 : List COp := [
  ⟨some 2, .box 67 4 (.t 0), none⟩,
  ⟨some 3, .box 67 4 (.t 1), none⟩,
  ⟨some 4, .alloc 67 4 (.p (.agg [(.bool false), (.list 3 1 []), (.bool false), (.list 3 1 [])])), none⟩,
  ⟨some 5, .alloc 26 2 (.p (.agg [(.int .i64 0), (.int .i64 0)])), none⟩]
def c48_1 : CC := .ops [] (l48_0)
def l48_2 : List COp := [
  ⟨some 6, .fieldAddr 0 2 true (.t 2), none⟩,
  ⟨some 7, .load true 2 (.t 6), none⟩,
  ⟨some 8, .fieldAddr 2 2 true (.t 3), none⟩,
  ⟨some 9, .load true 2 (.t 8), none⟩,
  ⟨some 10, .call 27 [(.t 7), (.t 9)], none⟩]
def l48_3 : List COp := [
  ⟨some 11, .fieldAddr 2 2 true (.t 2), none⟩,
  ⟨some 12, .load true 2 (.t 11), none⟩,
  ⟨some 13, .fieldAddr 0 2 true (.t 3), none⟩,
  ⟨some 14, .load true 2 (.t 13), none⟩,
  ⟨some 15, .call 27 [(.t 12), (.t 14)], none⟩]
def l48_4 : List COp := [
  ⟨some 16, .call 46 [(.t 10), (.t 15)], none⟩]
def l48_5 : List COp := [
  ⟨some 17, .extract (.t 16) 0, none⟩,
  ⟨some 18, .extract (.t 16) 1, none⟩,
  ⟨none, .store 4 (.t 4) (.t 17), none⟩,
  ⟨none, .store 2 (.t 5) (.t 18), none⟩]
def c48_6 : CC := .ops [] (l48_2 ++ (l48_3 ++ (l48_4 ++ (l48_5))))
def c48_7 : CC := .seq c48_6 .ret
def c48_8 : CC := .seq c48_1 c48_7
def c48 : CC := c48_8
theorem fn48 : FnOk Try.prog 48 [67, 26] c48 [(4, some (true, 4)), (5, some (true, 2))] 19 :=
  ⟨Try.f48, [⟨1, [0, 1, 2, 3, 4, 5, 6, 7, 8, 9, 10, 11, 12, 13, 14], [0, 1, 0, 4, 15, 0, 32, 0, 128, 511, 1023, 2047, 2047, 8191, 16383], []⟩], Try.func48, by kernel_rfl, by kernel_rfl, by kernel_rfl, by kernel_rfl, by kernel_rfl⟩

-- FN 84 radicand/radicandref.fover
def l84_0 : List COp := [
  ⟨some 2, .box 31 2 (.t 0), none⟩,
  ⟨some 3, .box 31 2 (.t 1), none⟩,
  ⟨some 4, .alloc 67 4 (.p (.agg [(.bool false), (.list 3 1 []), (.bool false), (.list 3 1 [])])), none⟩]
def c84_1 : CC := .ops [] (l84_0)
def l84_2 : List COp := [
  ⟨some 8, .load true 2 (.t 2), none⟩,
  ⟨some 9, .load true 2 (.t 3), none⟩,
  ⟨some 10, .call 46 [(.t 8), (.t 9)], none⟩]
def l84_3 : List COp := [
  ⟨some 7, .mov (.t 10), none⟩,
  ⟨some 11, .extract (.t 7) 0, none⟩,
  ⟨some 12, .extract (.t 7) 1, none⟩,
  ⟨some 5, .alloc 67 4 (.p (.agg [(.bool false), (.list 3 1 []), (.bool false), (.list 3 1 [])])), none⟩,
  ⟨some 6, .alloc 26 2 (.p (.agg [(.int .i64 0), (.int .i64 0)])), none⟩,
  ⟨none, .store 4 (.t 5) (.t 11), none⟩,
  ⟨none, .store 2 (.t 6) (.t 12), none⟩]
def c84_4 : CC := .ops [] (l84_2 ++ (l84_3))
def l84_5 : List COp := [
  ⟨some 13, .load true 4 (.t 5), none⟩,
  ⟨none, .store 4 (.t 4) (.t 13), none⟩]
def c84_6 : CC := .ops [] (l84_5)
def c84_7 : CC := .seq c84_6 .ret
def c84_8 : CC := .seq c84_4 c84_7
def c84_9 : CC := .seq c84_1 c84_8
def c84 : CC := c84_9
theorem fn84 : FnOk Try.prog 84 [31, 67, 26] c84 [(4, some (true, 4))] 14 :=
  ⟨Try.f84, [], Try.func84, by kernel_rfl, by kernel_rfl, by kernel_rfl, by kernel_rfl, by kernel_rfl⟩



end Go.Proofs.Ytbbidekjbgjooaa.M
