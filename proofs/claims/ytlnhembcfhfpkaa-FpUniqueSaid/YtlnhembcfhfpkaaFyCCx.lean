/- Polynomials modulo a prime: more functions in the small machine's words. -/
import Derived.Test.YtlnhembcfhfpkaaK5
namespace Go.Proofs.Ytlnhembcfhfpkaa.M
open Go.RowKit
set_option maxRecDepth 100000
def l4_0 : List COp := [
  ⟨some 6, .mov (.k (.p (.bool false))), none⟩]
def c4_1 : CC := .ops [] (l4_0)
def l4_2 : List COp := [
  ⟨some 23, .mov (.t 0), none⟩,
  ⟨some 24, .mov (.t 2), none⟩,
  ⟨some 25, .call 13 [(.t 23), (.t 24)], none⟩]
def l4_3 : List COp := [
  ⟨some 22, .mov (.t 25), none⟩,
  ⟨some 26, .extract (.t 22) 0, none⟩,
  ⟨some 27, .extract (.t 22) 1, none⟩,
  ⟨some 28, .extract (.t 22) 2, none⟩,
  ⟨some 9, .alloc 24 2 (.p (.agg [(.int .i64 0), (.int .i64 0)])), none⟩,
  ⟨some 7, .mov (.t 26), none⟩,
  ⟨some 8, .mov (.t 27), none⟩,
  ⟨none, .store 2 (.t 9) (.t 28), none⟩]
def c4_4 : CC := .ops [] (l4_2 ++ (l4_3))
def l4_5 : List COp := [
  ⟨some 30, .mov (.t 1), none⟩,
  ⟨some 31, .mov (.t 2), none⟩,
  ⟨some 32, .call 13 [(.t 30), (.t 31)], none⟩]
def l4_6 : List COp := [
  ⟨some 29, .mov (.t 32), none⟩,
  ⟨some 33, .extract (.t 29) 0, none⟩,
  ⟨some 34, .extract (.t 29) 1, none⟩,
  ⟨some 35, .extract (.t 29) 2, none⟩,
  ⟨some 12, .alloc 24 2 (.p (.agg [(.int .i64 0), (.int .i64 0)])), none⟩,
  ⟨some 10, .mov (.t 33), none⟩,
  ⟨some 11, .mov (.t 34), none⟩,
  ⟨none, .store 2 (.t 12) (.t 35), none⟩]
def c4_7 : CC := .ops [] (l4_5 ++ (l4_6))
def l4_8 : List COp := [
  ⟨some 36, .call 10 [], none⟩]
def l4_9 : List COp := [
  ⟨some 37, .un .not (.t 36), none⟩]
def c4_10 : CC := .ops [] (l4_8 ++ (l4_9))
def l4_11 : List COp := [
  ⟨some 6, .mov (.k (.p (.bool false))), none⟩]
def c4_12 : CC := .ops [] (l4_11)
def c4_13 : CC := .seq c4_12 .ret
def c4_14 : CC := .cond (.t 37) c4_13 .skip
def c4_15 : CC := .seq c4_10 c4_14
def l4_16 : List COp := [
  ⟨some 38, .fieldAddr 0 1 false (.t 9), none⟩,
  ⟨some 39, .load false 1 (.t 38), none⟩,
  ⟨some 40, .bin false .neq (.t 39) (.k (.p (.int .i64 0))), none⟩,
  ⟨some 41, .mov (.t 40), none⟩,
  ⟨some 42, .fieldAddr 0 1 false (.t 12), some (41, false)⟩,
  ⟨some 43, .load false 1 (.t 42), some (41, false)⟩,
  ⟨some 44, .bin false .neq (.t 43) (.k (.p (.int .i64 0))), some (41, false)⟩,
  ⟨some 45, .pick (.t 41) (.k (.p (.bool true))) (.t 44), none⟩,
  ⟨some 46, .mov (.t 45), none⟩,
  ⟨some 47, .mov (.t 0), some (46, false)⟩,
  ⟨some 48, .len (.t 47), some (46, false)⟩,
  ⟨some 49, .mov (.t 1), some (46, false)⟩,
  ⟨some 50, .len (.t 49), some (46, false)⟩,
  ⟨some 51, .bin false .add (.t 48) (.t 50), some (46, false)⟩,
  ⟨some 52, .bin false .gtr (.t 51) (.k (.p (.int .i64 60))), some (46, false)⟩,
  ⟨some 53, .pick (.t 46) (.k (.p (.bool true))) (.t 52), none⟩]
def c4_17 : CC := .ops [] (l4_16)
def l4_18 : List COp := [
  ⟨some 6, .mov (.k (.p (.bool true))), none⟩]
def c4_19 : CC := .ops [] (l4_18)
def c4_20 : CC := .seq c4_19 .ret
def c4_21 : CC := .cond (.t 53) c4_20 .skip
def c4_22 : CC := .seq c4_17 c4_21
def l4_23 : List COp := [
  ⟨some 55, .mov (.t 0), none⟩,
  ⟨some 56, .mov (.t 1), none⟩,
  ⟨some 57, .mov (.t 2), none⟩,
  ⟨some 58, .call 14 [(.t 55), (.t 56), (.t 57)], none⟩]
def l4_24 : List COp := [
  ⟨some 54, .mov (.t 58), none⟩,
  ⟨some 59, .extract (.t 54) 0, none⟩,
  ⟨some 60, .extract (.t 54) 1, none⟩,
  ⟨some 14, .alloc 24 2 (.p (.agg [(.int .i64 0), (.int .i64 0)])), none⟩,
  ⟨some 13, .mov (.t 59), none⟩,
  ⟨none, .store 2 (.t 14) (.t 60), none⟩]
def c4_25 : CC := .ops [] (l4_23 ++ (l4_24))
def l4_26 : List COp := [
  ⟨some 62, .mov (.t 13), none⟩,
  ⟨some 63, .mov (.t 2), none⟩,
  ⟨some 64, .call 13 [(.t 62), (.t 63)], none⟩]
def l4_27 : List COp := [
  ⟨some 61, .mov (.t 64), none⟩,
  ⟨some 65, .extract (.t 61) 0, none⟩,
  ⟨some 66, .extract (.t 61) 1, none⟩,
  ⟨some 67, .extract (.t 61) 2, none⟩,
  ⟨some 17, .alloc 24 2 (.p (.agg [(.int .i64 0), (.int .i64 0)])), none⟩,
  ⟨some 15, .mov (.t 65), none⟩,
  ⟨some 16, .mov (.t 66), none⟩,
  ⟨none, .store 2 (.t 17) (.t 67), none⟩]
def c4_28 : CC := .ops [] (l4_26 ++ (l4_27))
def l4_29 : List COp := [
  ⟨some 68, .fieldAddr 0 1 false (.t 14), none⟩,
  ⟨some 69, .load false 1 (.t 68), none⟩,
  ⟨some 70, .bin false .neq (.t 69) (.k (.p (.int .i64 0))), none⟩,
  ⟨some 71, .mov (.t 70), none⟩,
  ⟨some 72, .fieldAddr 0 1 false (.t 17), some (71, false)⟩,
  ⟨some 73, .load false 1 (.t 72), some (71, false)⟩,
  ⟨some 74, .bin false .neq (.t 73) (.k (.p (.int .i64 0))), some (71, false)⟩,
  ⟨some 75, .pick (.t 71) (.k (.p (.bool true))) (.t 74), none⟩,
  ⟨some 76, .mov (.t 75), none⟩,
  ⟨some 77, .mov (.t 15), some (76, false)⟩,
  ⟨some 78, .mov (.t 7), some (76, false)⟩,
  ⟨some 79, .mov (.t 10), some (76, false)⟩,
  ⟨some 80, .bin false .mul (.t 78) (.t 79), some (76, false)⟩,
  ⟨some 81, .mov (.t 2), some (76, false)⟩,
  ⟨some 82, .bin false .rem (.t 80) (.t 81), some (76, false)⟩,
  ⟨some 83, .bin false .neq (.t 77) (.t 82), some (76, false)⟩,
  ⟨some 84, .pick (.t 76) (.k (.p (.bool true))) (.t 83), none⟩]
def c4_30 : CC := .ops [] (l4_29)
def l4_31 : List COp := [
  ⟨some 6, .mov (.k (.p (.bool false))), none⟩]
def c4_32 : CC := .ops [] (l4_31)
def c4_33 : CC := .seq c4_32 .ret
def c4_34 : CC := .cond (.t 84) c4_33 .skip
def c4_35 : CC := .seq c4_30 c4_34
def l4_36 : List COp := [
  ⟨some 18, .mov (.k (.p (.int .i64 0))), none⟩]
def c4_37 : CC := .ops [] (l4_36)
def l4_38 : List COp := [
  ⟨some 19, .mov (.k (.p (.int .i64 0))), none⟩]
def c4_39 : CC := .ops [] (l4_38)
def l4_40 : List COp := [
  ⟨some 20, .mov (.k (.p (.int .i64 0))), none⟩]
def c4_41 : CC := .ops [] (l4_40)
def l4_42 : List COp := [
  ⟨some 85, .mov (.t 20), none⟩,
  ⟨some 86, .mov (.t 16), none⟩,
  ⟨some 87, .len (.t 86), none⟩,
  ⟨some 88, .bin false .lss (.t 85) (.t 87), none⟩]
def c4_43 : CC := .ops [] (l4_42)
def c4_44 : CC := .cond (.t 88) .skip (.exit 0)
def c4_45 : CC := .seq c4_43 c4_44
def l4_46 : List COp := [
  ⟨some 21, .mov (.k (.p (.int .i64 0))), none⟩]
def c4_47 : CC := .ops [] (l4_46)
def l4_48 : List COp := [
  ⟨some 91, .mov (.t 18), none⟩,
  ⟨some 92, .mov (.t 8), none⟩,
  ⟨some 93, .len (.t 92), none⟩,
  ⟨some 94, .bin false .lss (.t 91) (.t 93), none⟩,
  ⟨some 95, .mov (.t 94), none⟩,
  ⟨some 96, .mov (.t 8), some (95, true)⟩,
  ⟨some 97, .mov (.t 18), some (95, true)⟩,
  ⟨some 98, .indexAddr 2 (.t 96) (.t 97), some (95, true)⟩,
  ⟨some 99, .fieldAddr 0 1 false (.t 98), some (95, true)⟩,
  ⟨some 100, .load false 1 (.t 99), some (95, true)⟩,
  ⟨some 101, .mov (.t 16), some (95, true)⟩,
  ⟨some 102, .mov (.t 20), some (95, true)⟩,
  ⟨some 103, .indexAddr 2 (.t 101) (.t 102), some (95, true)⟩,
  ⟨some 104, .fieldAddr 0 1 false (.t 103), some (95, true)⟩,
  ⟨some 105, .load false 1 (.t 104), some (95, true)⟩,
  ⟨some 106, .call 11 [(.t 100), (.t 105)], some (95, true)⟩]
def l4_49 : List COp := [
  ⟨some 107, .pick (.t 95) (.t 106) (.k (.p (.bool false))), none⟩]
def c4_50 : CC := .ops [] (l4_48 ++ (l4_49))
def l4_51 : List COp := [
  ⟨some 108, .mov (.t 21), none⟩,
  ⟨some 109, .mov (.t 8), none⟩,
  ⟨some 110, .mov (.t 18), none⟩,
  ⟨some 111, .indexAddr 2 (.t 109) (.t 110), none⟩,
  ⟨some 112, .fieldAddr 1 1 false (.t 111), none⟩,
  ⟨some 113, .load false 1 (.t 112), none⟩,
  ⟨some 114, .bin false .add (.t 108) (.t 113), none⟩,
  ⟨some 21, .mov (.t 114), none⟩]
def c4_52 : CC := .ops [] (l4_51)
def l4_53 : List COp := [
  ⟨some 115, .mov (.t 18), none⟩,
  ⟨some 116, .bin false .add (.t 115) (.k (.p (.int .i64 1))), none⟩,
  ⟨some 18, .mov (.t 116), none⟩]
def c4_54 : CC := .ops [] (l4_53)
def c4_55 : CC := .seq c4_52 c4_54
def c4_56 : CC := .cond (.t 107) c4_55 .skip
def c4_57 : CC := .seq c4_50 c4_56
def l4_58 : List COp := [
  ⟨some 117, .mov (.t 19), none⟩,
  ⟨some 118, .mov (.t 11), none⟩,
  ⟨some 119, .len (.t 118), none⟩,
  ⟨some 120, .bin false .lss (.t 117) (.t 119), none⟩,
  ⟨some 121, .mov (.t 120), none⟩,
  ⟨some 122, .mov (.t 11), some (121, true)⟩,
  ⟨some 123, .mov (.t 19), some (121, true)⟩,
  ⟨some 124, .indexAddr 2 (.t 122) (.t 123), some (121, true)⟩,
  ⟨some 125, .fieldAddr 0 1 false (.t 124), some (121, true)⟩,
  ⟨some 126, .load false 1 (.t 125), some (121, true)⟩,
  ⟨some 127, .mov (.t 16), some (121, true)⟩,
  ⟨some 128, .mov (.t 20), some (121, true)⟩,
  ⟨some 129, .indexAddr 2 (.t 127) (.t 128), some (121, true)⟩,
  ⟨some 130, .fieldAddr 0 1 false (.t 129), some (121, true)⟩,
  ⟨some 131, .load false 1 (.t 130), some (121, true)⟩,
  ⟨some 132, .call 11 [(.t 126), (.t 131)], some (121, true)⟩]
def l4_59 : List COp := [
  ⟨some 133, .pick (.t 121) (.t 132) (.k (.p (.bool false))), none⟩]
def c4_60 : CC := .ops [] (l4_58 ++ (l4_59))
def l4_61 : List COp := [
  ⟨some 134, .mov (.t 21), none⟩,
  ⟨some 135, .mov (.t 11), none⟩,
  ⟨some 136, .mov (.t 19), none⟩,
  ⟨some 137, .indexAddr 2 (.t 135) (.t 136), none⟩,
  ⟨some 138, .fieldAddr 1 1 false (.t 137), none⟩,
  ⟨some 139, .load false 1 (.t 138), none⟩,
  ⟨some 140, .bin false .add (.t 134) (.t 139), none⟩,
  ⟨some 21, .mov (.t 140), none⟩]
def c4_62 : CC := .ops [] (l4_61)
def l4_63 : List COp := [
  ⟨some 141, .mov (.t 19), none⟩,
  ⟨some 142, .bin false .add (.t 141) (.k (.p (.int .i64 1))), none⟩,
  ⟨some 19, .mov (.t 142), none⟩]
def c4_64 : CC := .ops [] (l4_63)
def c4_65 : CC := .seq c4_62 c4_64
def c4_66 : CC := .cond (.t 133) c4_65 .skip
def c4_67 : CC := .seq c4_60 c4_66
def l4_68 : List COp := [
  ⟨some 143, .mov (.t 21), none⟩,
  ⟨some 144, .mov (.t 16), none⟩,
  ⟨some 145, .mov (.t 20), none⟩,
  ⟨some 146, .indexAddr 2 (.t 144) (.t 145), none⟩,
  ⟨some 147, .fieldAddr 1 1 false (.t 146), none⟩,
  ⟨some 148, .load false 1 (.t 147), none⟩,
  ⟨some 149, .bin false .neq (.t 143) (.t 148), none⟩]
def c4_69 : CC := .ops [] (l4_68)
def l4_70 : List COp := [
  ⟨some 6, .mov (.k (.p (.bool false))), none⟩]
def c4_71 : CC := .ops [] (l4_70)
def c4_72 : CC := .seq c4_71 .ret
def c4_73 : CC := .cond (.t 149) c4_72 .skip
def c4_74 : CC := .seq c4_69 c4_73
def c4_75 : CC := .seq c4_67 c4_74
def c4_76 : CC := .seq c4_57 c4_75
def c4_77 : CC := .seq c4_47 c4_76
def c4_78 : CC := .block 1 c4_77
def l4_79 : List COp := [
  ⟨some 89, .mov (.t 20), none⟩,
  ⟨some 90, .bin false .add (.t 89) (.k (.p (.int .i64 1))), none⟩,
  ⟨some 20, .mov (.t 90), none⟩]
def c4_80 : CC := .ops [] (l4_79)
def c4_81 : CC := .seq c4_78 c4_80
def c4_82 : CC := .seq c4_45 c4_81
def c4_83 : CC := .loop c4_82
def c4_84 : CC := .block 0 c4_83
def c4_85 : CC := .seq c4_41 c4_84
def l4_86 : List COp := [
  ⟨some 150, .mov (.t 18), none⟩,
  ⟨some 151, .mov (.t 8), none⟩,
  ⟨some 152, .len (.t 151), none⟩,
  ⟨some 153, .bin false .eql (.t 150) (.t 152), none⟩,
  ⟨some 154, .mov (.t 153), none⟩,
  ⟨some 155, .mov (.t 19), some (154, true)⟩,
  ⟨some 156, .mov (.t 11), some (154, true)⟩,
  ⟨some 157, .len (.t 156), some (154, true)⟩,
  ⟨some 158, .bin false .eql (.t 155) (.t 157), some (154, true)⟩,
  ⟨some 159, .pick (.t 154) (.t 158) (.k (.p (.bool false))), none⟩,
  ⟨some 6, .mov (.t 159), none⟩]
def c4_87 : CC := .ops [] (l4_86)
def c4_88 : CC := .seq c4_87 .ret
def c4_89 : CC := .seq c4_85 c4_88
def c4_90 : CC := .seq c4_39 c4_89
def c4_91 : CC := .seq c4_37 c4_90
def c4_92 : CC := .seq c4_35 c4_91
def c4_93 : CC := .seq c4_28 c4_92
def c4_94 : CC := .seq c4_25 c4_93
def c4_95 : CC := .seq c4_22 c4_94
def c4_96 : CC := .seq c4_15 c4_95
def c4_97 : CC := .seq c4_7 c4_96
def c4_98 : CC := .seq c4_4 c4_97
def c4_99 : CC := .seq c4_1 c4_98
def c4 : CC := c4_99
theorem fn4 : FnOk Try.prog 4 [24] c4 [(6, none)] 160 :=
  ⟨Try.f4, [⟨17, [0, 1, 2, 3, 4, 5, 6, 7, 8, 9, 10, 11, 12, 13, 14, 15, 16], [0, 0, 2, 7, 15, 31, 31, 127, 255, 511, 31, 31, 3103, 7199, 15391, 32767, 65535], []⟩, ⟨20, [0, 1, 2, 3, 4, 5, 6, 7, 8, 9, 10, 11, 12, 13, 14, 15, 16], [0, 0, 2, 7, 15, 31, 31, 127, 255, 511, 31, 31, 3103, 7199, 15391, 32767, 65535], []⟩], Try.func4, by kernel_rfl, by kernel_rfl, by kernel_rfl, by kernel_rfl, by kernel_rfl⟩
def l5_0 : List COp := [
  ⟨some 6, .mov (.k (.p (.bool false))), none⟩]
def c5_1 : CC := .ops [] (l5_0)
def l5_2 : List COp := [
  ⟨some 13, .mov (.t 0), none⟩,
  ⟨some 14, .mov (.t 2), none⟩,
  ⟨some 15, .call 15 [(.t 13), (.t 14)], none⟩]
def l5_3 : List COp := [
  ⟨some 12, .mov (.t 15), none⟩,
  ⟨some 16, .extract (.t 12) 0, none⟩,
  ⟨some 17, .extract (.t 12) 1, none⟩,
  ⟨some 8, .alloc 24 2 (.p (.agg [(.int .i64 0), (.int .i64 0)])), none⟩,
  ⟨some 7, .mov (.t 16), none⟩,
  ⟨none, .store 2 (.t 8) (.t 17), none⟩]
def c5_4 : CC := .ops [] (l5_2 ++ (l5_3))
def l5_5 : List COp := [
  ⟨some 18, .call 10 [], none⟩]
def l5_6 : List COp := [
  ⟨some 19, .un .not (.t 18), none⟩]
def c5_7 : CC := .ops [] (l5_5 ++ (l5_6))
def l5_8 : List COp := [
  ⟨some 6, .mov (.k (.p (.bool false))), none⟩]
def c5_9 : CC := .ops [] (l5_8)
def c5_10 : CC := .seq c5_9 .ret
def c5_11 : CC := .cond (.t 19) c5_10 .skip
def c5_12 : CC := .seq c5_7 c5_11
def l5_13 : List COp := [
  ⟨some 20, .fieldAddr 0 1 false (.t 8), none⟩,
  ⟨some 21, .load false 1 (.t 20), none⟩,
  ⟨some 22, .bin false .neq (.t 21) (.k (.p (.int .i64 0))), none⟩,
  ⟨some 23, .mov (.t 22), none⟩,
  ⟨some 24, .mov (.t 1), some (23, false)⟩,
  ⟨some 25, .bin false .lss (.t 24) (.k (.p (.int .i64 1))), some (23, false)⟩,
  ⟨some 26, .pick (.t 23) (.k (.p (.bool true))) (.t 25), none⟩,
  ⟨some 27, .mov (.t 26), none⟩,
  ⟨some 28, .mov (.t 1), some (27, false)⟩,
  ⟨some 29, .bin false .gtr (.t 28) (.k (.p (.int .i64 64))), some (27, false)⟩,
  ⟨some 30, .pick (.t 27) (.k (.p (.bool true))) (.t 29), none⟩]
def c5_14 : CC := .ops [] (l5_13)
def l5_15 : List COp := [
  ⟨some 6, .mov (.k (.p (.bool true))), none⟩]
def c5_16 : CC := .ops [] (l5_15)
def c5_17 : CC := .seq c5_16 .ret
def c5_18 : CC := .cond (.t 30) c5_17 .skip
def c5_19 : CC := .seq c5_14 c5_18
def l5_20 : List COp := [
  ⟨some 31, .mov (.t 7), none⟩,
  ⟨some 32, .un .not (.t 31), none⟩,
  ⟨some 33, .mov (.t 32), none⟩,
  ⟨some 34, .mov (.t 1), some (33, false)⟩,
  ⟨some 35, .bin false .gtr (.t 34) (.k (.p (.int .i64 12))), some (33, false)⟩,
  ⟨some 36, .pick (.t 33) (.k (.p (.bool true))) (.t 35), none⟩]
def c5_21 : CC := .ops [] (l5_20)
def l5_22 : List COp := [
  ⟨some 6, .mov (.k (.p (.bool true))), none⟩]
def c5_23 : CC := .ops [] (l5_22)
def c5_24 : CC := .seq c5_23 .ret
def c5_25 : CC := .cond (.t 36) c5_24 .skip
def c5_26 : CC := .seq c5_21 c5_25
def l5_27 : List COp := [
  ⟨some 38, .buildSliceF 3 1 (.int .i64 0) 2 [(0, (.k (.p (.int .i64 0)))), (1, (.k (.p (.int .i64 1))))], none⟩,
  ⟨some 39, .mov (.t 0), none⟩,
  ⟨some 40, .mov (.t 2), none⟩,
  ⟨some 41, .call 16 [(.t 38), (.k (.p (.int .i64 1))), (.t 39), (.t 40)], none⟩]
def l5_28 : List COp := [
  ⟨some 37, .mov (.t 41), none⟩,
  ⟨some 42, .extract (.t 37) 0, none⟩,
  ⟨some 43, .extract (.t 37) 1, none⟩,
  ⟨some 9, .mov (.t 42), none⟩,
  ⟨none, .store 2 (.t 8) (.t 43), none⟩]
def c5_29 : CC := .ops [] (l5_27 ++ (l5_28))
def l5_30 : List COp := [
  ⟨some 44, .mov (.t 9), none⟩,
  ⟨some 10, .mov (.t 44), none⟩]
def c5_31 : CC := .ops [] (l5_30)
def l5_32 : List COp := [
  ⟨some 11, .mov (.k (.p (.int .i64 0))), none⟩]
def c5_33 : CC := .ops [] (l5_32)
def l5_34 : List COp := [
  ⟨some 45, .mov (.t 11), none⟩,
  ⟨some 46, .mov (.t 1), none⟩,
  ⟨some 47, .bin false .lss (.t 45) (.t 46), none⟩,
  ⟨some 48, .mov (.t 47), none⟩,
  ⟨some 49, .fieldAddr 0 1 false (.t 8), some (48, true)⟩,
  ⟨some 50, .load false 1 (.t 49), some (48, true)⟩,
  ⟨some 51, .bin false .eql (.t 50) (.k (.p (.int .i64 0))), some (48, true)⟩,
  ⟨some 52, .pick (.t 48) (.t 51) (.k (.p (.bool false))), none⟩]
def c5_35 : CC := .ops [] (l5_34)
def c5_36 : CC := .cond (.t 52) .skip (.exit 0)
def c5_37 : CC := .seq c5_35 c5_36
def l5_38 : List COp := [
  ⟨some 56, .mov (.t 10), none⟩,
  ⟨some 57, .mov (.t 2), none⟩,
  ⟨some 58, .mov (.t 0), none⟩,
  ⟨some 59, .mov (.t 2), none⟩,
  ⟨some 60, .call 16 [(.t 56), (.t 57), (.t 58), (.t 59)], none⟩]
def l5_39 : List COp := [
  ⟨some 55, .mov (.t 60), none⟩,
  ⟨some 61, .extract (.t 55) 0, none⟩,
  ⟨some 62, .extract (.t 55) 1, none⟩,
  ⟨some 10, .mov (.t 61), none⟩,
  ⟨none, .store 2 (.t 8) (.t 62), none⟩]
def c5_40 : CC := .ops [] (l5_38 ++ (l5_39))
def c5_41 : CC := .block 1 c5_40
def l5_42 : List COp := [
  ⟨some 53, .mov (.t 11), none⟩,
  ⟨some 54, .bin false .add (.t 53) (.k (.p (.int .i64 1))), none⟩,
  ⟨some 11, .mov (.t 54), none⟩]
def c5_43 : CC := .ops [] (l5_42)
def c5_44 : CC := .seq c5_41 c5_43
def c5_45 : CC := .seq c5_37 c5_44
def c5_46 : CC := .loop c5_45
def c5_47 : CC := .block 0 c5_46
def c5_48 : CC := .seq c5_33 c5_47
def l5_49 : List COp := [
  ⟨some 63, .fieldAddr 0 1 false (.t 8), none⟩,
  ⟨some 64, .load false 1 (.t 63), none⟩,
  ⟨some 65, .bin false .eql (.t 64) (.k (.p (.int .i64 0))), none⟩,
  ⟨some 66, .mov (.t 65), none⟩,
  ⟨some 67, .mov (.t 10), some (66, true)⟩,
  ⟨some 68, .mov (.t 9), some (66, true)⟩,
  ⟨some 69, .call 11 [(.t 67), (.t 68)], some (66, true)⟩]
def l5_50 : List COp := [
  ⟨some 70, .mov (.t 1), some (66, true)⟩,
  ⟨some 71, .mov (.t 0), some (66, true)⟩,
  ⟨some 72, .len (.t 71), some (66, true)⟩,
  ⟨some 73, .bin false .sub (.t 72) (.k (.p (.int .i64 1))), some (66, true)⟩,
  ⟨some 74, .bin false .rem (.t 70) (.t 73), some (66, true)⟩,
  ⟨some 75, .bin false .eql (.t 74) (.k (.p (.int .i64 0))), some (66, true)⟩,
  ⟨some 76, .bin true .eql (.t 69) (.t 75), some (66, true)⟩,
  ⟨some 77, .pick (.t 66) (.t 76) (.k (.p (.bool false))), none⟩,
  ⟨some 6, .mov (.t 77), none⟩]
def c5_51 : CC := .ops [] (l5_49 ++ (l5_50))
def c5_52 : CC := .seq c5_51 .ret
def c5_53 : CC := .seq c5_48 c5_52
def c5_54 : CC := .seq c5_31 c5_53
def c5_55 : CC := .seq c5_29 c5_54
def c5_56 : CC := .seq c5_26 c5_55
def c5_57 : CC := .seq c5_19 c5_56
def c5_58 : CC := .seq c5_12 c5_57
def c5_59 : CC := .seq c5_4 c5_58
def c5_60 : CC := .seq c5_1 c5_59
def c5 : CC := c5_60
theorem fn5 : FnOk Try.prog 5 [24, 3, 2000038] c5 [(6, none)] 78 :=
  ⟨Try.f5, [⟨14, [0, 1, 2, 3, 4, 5, 6, 7, 8, 9, 10, 11, 12, 13, 14, 15], [0, 1, 3, 7, 15, 15, 63, 15, 15, 271, 783, 1935, 3983, 8191, 16383, 32767], []⟩], Try.func5, by kernel_rfl, by kernel_rfl, by kernel_rfl, by kernel_rfl, by kernel_rfl⟩
def l15_0 : List COp := [
  ⟨some 4, .mov (.k (.p (.bool false))), none⟩,
  ⟨some 5, .alloc 24 2 (.p (.agg [(.int .i64 0), (.int .i64 0)])), none⟩]
def c15_1 : CC := .ops [] (l15_0)
def l15_2 : List COp := [
  ⟨some 7, .mov (.t 0), none⟩,
  ⟨some 8, .mov (.t 1), none⟩,
  ⟨some 9, .call 18 [(.t 7), (.t 8)], none⟩]
def l15_3 : List COp := [
  ⟨some 6, .alloc 24 2 (.p (.agg [(.int .i64 0), (.int .i64 0)])), none⟩,
  ⟨none, .store 2 (.t 6) (.t 9), none⟩]
def c15_4 : CC := .ops [] (l15_2 ++ (l15_3))
def l15_5 : List COp := [
  ⟨some 10, .fieldAddr 0 1 false (.t 6), none⟩,
  ⟨some 11, .load false 1 (.t 10), none⟩,
  ⟨some 12, .bin false .neq (.t 11) (.k (.p (.int .i64 0))), none⟩]
def c15_6 : CC := .ops [] (l15_5)
def l15_7 : List COp := [
  ⟨some 13, .load true 2 (.t 6), none⟩,
  ⟨some 4, .mov (.k (.p (.bool false))), none⟩,
  ⟨none, .store 2 (.t 5) (.t 13), none⟩]
def c15_8 : CC := .ops [] (l15_7)
def c15_9 : CC := .seq c15_8 .ret
def c15_10 : CC := .cond (.t 12) c15_9 .skip
def c15_11 : CC := .seq c15_6 c15_10
def c15_12 : CC := .seq c15_4 c15_11
def l15_13 : List COp := [
  ⟨some 14, .mov (.t 0), none⟩,
  ⟨some 15, .len (.t 14), none⟩,
  ⟨some 16, .bin false .gtr (.t 15) (.k (.p (.int .i64 1))), none⟩,
  ⟨some 17, .mov (.t 16), none⟩,
  ⟨some 18, .mov (.t 0), some (17, true)⟩,
  ⟨some 19, .mov (.t 1), some (17, true)⟩,
  ⟨some 20, .call 43 [(.t 18), (.t 19)], some (17, true)⟩]
def l15_14 : List COp := [
  ⟨some 21, .pick (.t 17) (.t 20) (.k (.p (.bool false))), none⟩,
  ⟨some 22, .build [(.p (.int .i64 0)), (.p (.int .i64 0))] [], none⟩,
  ⟨some 4, .mov (.t 21), none⟩,
  ⟨none, .store 2 (.t 5) (.t 22), none⟩]
def c15_15 : CC := .ops [] (l15_13 ++ (l15_14))
def c15_16 : CC := .seq c15_15 .ret
def c15_17 : CC := .seq c15_12 c15_16
def c15_18 : CC := .seq c15_1 c15_17
def c15 : CC := c15_18
theorem fn15 : FnOk Try.prog 15 [24] c15 [(4, none), (5, some (true, 2))] 23 :=
  ⟨Try.f15, [⟨3, [0, 1, 2], [0, 0, 3], []⟩], Try.func15, by kernel_rfl, by kernel_rfl, by kernel_rfl, by kernel_rfl, by kernel_rfl⟩
def l43_0 : List COp := [
  ⟨some 4, .mov (.k (.p (.bool false))), none⟩]
def c43_1 : CC := .ops [] (l43_0)
def l43_2 : List COp := [
  ⟨some 9, .mov (.t 0), none⟩,
  ⟨some 10, .mov (.t 1), none⟩,
  ⟨some 11, .call 13 [(.t 9), (.t 10)], none⟩]
def l43_3 : List COp := [
  ⟨some 8, .mov (.t 11), none⟩,
  ⟨some 12, .extract (.t 8) 0, none⟩,
  ⟨some 13, .extract (.t 8) 1, none⟩,
  ⟨some 14, .extract (.t 8) 2, none⟩,
  ⟨some 7, .alloc 24 2 (.p (.agg [(.int .i64 0), (.int .i64 0)])), none⟩,
  ⟨some 5, .mov (.t 12), none⟩,
  ⟨some 6, .mov (.t 13), none⟩,
  ⟨none, .store 2 (.t 7) (.t 14), none⟩]
def c43_4 : CC := .ops [] (l43_2 ++ (l43_3))
def l43_5 : List COp := [
  ⟨some 15, .mov (.t 6), none⟩,
  ⟨some 16, .len (.t 15), none⟩,
  ⟨some 17, .bin false .eql (.t 16) (.k (.p (.int .i64 1))), none⟩,
  ⟨some 18, .mov (.t 17), none⟩,
  ⟨some 19, .mov (.t 6), some (18, true)⟩,
  ⟨some 20, .indexAddr 2 (.t 19) (.k (.p (.int .i64 0))), some (18, true)⟩,
  ⟨some 21, .fieldAddr 1 1 false (.t 20), some (18, true)⟩,
  ⟨some 22, .load false 1 (.t 21), some (18, true)⟩,
  ⟨some 23, .bin false .eql (.t 22) (.k (.p (.int .i64 1))), some (18, true)⟩,
  ⟨some 24, .pick (.t 18) (.t 23) (.k (.p (.bool false))), none⟩,
  ⟨some 4, .mov (.t 24), none⟩]
def c43_6 : CC := .ops [] (l43_5)
def c43_7 : CC := .seq c43_6 .ret
def c43_8 : CC := .seq c43_4 c43_7
def c43_9 : CC := .seq c43_1 c43_8
def c43 : CC := c43_9
theorem fn43 : FnOk Try.prog 43 [24] c43 [(4, none)] 25 :=
  ⟨Try.f43, [], Try.func43, by kernel_rfl, by kernel_rfl, by kernel_rfl, by kernel_rfl, by kernel_rfl⟩
end Go.Proofs.Ytlnhembcfhfpkaa.M
