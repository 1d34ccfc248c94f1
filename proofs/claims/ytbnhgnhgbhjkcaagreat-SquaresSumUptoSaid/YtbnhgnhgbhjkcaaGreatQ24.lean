/- Lemmas. -/
import Derived.Test.YtbnhgnhgbhjkcaaGreatQ23
namespace Go.Proofs.YtbnhgnhgbhjkcaaGreat.M
set_option linter.unusedSimpArgs false
open Go.RowKit
set_option maxRecDepth 100000
abbrev XZ:CC:=.seq (.ops [] [o2 17 (.build [(.p (.bool false)),(.p (.list 173 1 []))] []),o2 18 (.build [(.p (.bool false)),(.p (.list 173 1 []))] []),o2 19 (.build [(.p (.int .i64 0)),(.p (.int .i64 0))] [(0,1,(ki 4))]),b8 2 4 17,b8 2 5 18,b8 2 6 19]) .ret
abbrev X0:CC:=.cond (.t 16) XZ .skip
abbrev X1:List COp:=[b6 20 1 1 false 2,b4 21 false 1 20,b6 22 1 1 false 3,b4 23 false 1 22,o2 24 (.callW 127 [173,3] [(.t 21),(.t 23)])]
abbrev X2:List COp:=[b2 25 .lss 24 0]
abbrev X3:List COp:=[b6 26 1 1 false 2,b4 27 false 1 26,o2 28 (.callW 103 [173,3] [(kb false),(.t 27)])]
abbrev X4:List COp:=[b8 2 8 28]
abbrev X5:CC:=.ops [] (apL X3 (X4))
abbrev X6:List COp:=[b6 34 1 1 false 2,b4 35 false 1 34,b6 36 1 1 false 3,b4 37 false 1 36,o2 38 (.indexAddr 1 (.t 37) (ki 0)),b4 39 false 1 38,o2 40 (.callW 128 [173,3] [(.t 35),(.t 39)])]
abbrev X7:List COp:=[o1 33 40,b9 41 33 0,b9 42 33 1,o1 9 41,o1 10 42]
abbrev X8:List COp:=[o1 43 9,o2 44 (.callW 103 [173,3] [(kb false),(.t 43)])]
abbrev X9:List COp:=[o1 45 10,o2 46 (.buildSliceF 173 1 (.int .u32 0) 1 [(0,(.t 45))]),o2 47 (.callW 103 [173,3] [(kb false),(.t 46)])]
abbrev Ya:List COp:=[b8 2 7 44,b8 2 8 47]
abbrev Yb:CC:=.ops [] (apL X8 (apL X9 (Ya)))
abbrev Yc:CC:=.seq (.ops [] (apL X6 (X7))) Yb
abbrev Yd:List COp:=[b6 49 1 1 false 2,b4 50 false 1 49,b6 51 1 1 false 3,b4 52 false 1 51,o2 53 (.callW 129 [173,3] [(.t 50),(.t 52)])]
abbrev Ye:List COp:=[o1 48 53,b9 54 48 0,b9 55 48 1,o1 11 54,o1 12 55]
abbrev Yf:List COp:=[o1 56 11,o2 57 (.callW 103 [173,3] [(kb false),(.t 56)])]
abbrev Yg:List COp:=[o1 58 12,o2 59 (.callW 103 [173,3] [(kb false),(.t 58)])]
abbrev Yh:List COp:=[b8 2 7 57,b8 2 8 59]
abbrev Yi:CC:=.ops [] (apL Yf (apL Yg (Yh)))
abbrev Yj:CC:=.seq (.ops [] (apL Yd (Ye))) Yi
abbrev Yk:CC:=.cond (.t 32) Yc Yj
abbrev Yl:CC:=.seq (.ops [] [b6 29 1 1 false 3,b4 30 false 1 29,b5 31 30,b2 32 .eql 31 1]) Yk
abbrev Ym:CC:=.cond (.t 25) X5 Yl
abbrev Yn:List COp:=[b4 68 true 2 7,o2 69 (.callW 95 [173,3] [(ki 1)])]
abbrev Yo:List COp:=[o2 70 (.callW 119 [173,3] [(.t 68),(.t 69)])]
abbrev Yp:List COp:=[b6 71 1 1 false 3,b4 72 false 1 71,b6 73 1 1 false 8,b4 74 false 1 73,o2 75 (.callW 130 [173,3] [(.t 72),(.t 74)])]
abbrev Yq:List COp:=[o2 76 (.callW 103 [173,3] [(kb false),(.t 75)])]
abbrev Yr:List COp:=[b8 2 7 70,b8 2 8 76]
abbrev Ys:CC:=.ops [] (apL Yn (apL Yo (apL Yp (apL Yq (Yr)))))
abbrev Yt:CC:=.cond (.t 67) Ys .skip
abbrev Yu:List COp:=[b4 85 true 2 8,b6 77 0 1 false 2,b4 78 false 1 77,b6 79 0 1 false 3,b4 80 false 1 79,o2 81 (.bin true .neq (.t 78) (.t 80)),b6 82 1 1 false 7,b4 83 false 1 82,o2 84 (.callW 103 [173,3] [(.t 81),(.t 83)])]
abbrev Yv:List COp:=[o2 86 (.build [(.p (.int .i64 0)),(.p (.int .i64 0))] []),b8 2 4 84,b8 2 5 85,b8 2 6 86]
abbrev Yw:CC:=.seq (.ops [(8,4)] (apL Yu (Yv))) .ret
abbrev lF:CC:=.seq (.seq (.ops [] [b6 60 0 1 false 2,b4 61 false 1 60,o1 62 61,o4 63 (.fieldAddr 1 1 false (.t 8)) 62 true,o4 64 (.load false 1 (.t 63)) 62 true,o4 65 (.len (.t 64)) 62 true,o4 66 (.bin false .gtr (.t 65) (ki 0)) 62 true,o2 67 (.pick (.t 62) (.t 66) (kb false))]) Yt) Yw
abbrev Yx:CC:=.seq (.seq (.ops [] (apL X1 (X2))) Ym) lF
abbrev Yy:CC:=.seq (.ops [] [o2 7 (.alloc 86 2 (.p (.agg [(.bool false),(.list 173 1 [])]))),o2 8 (.alloc 86 2 (.p (.agg [(.bool false),(.list 173 1 [])])))]) Yx
abbrev Yz:CC:=.seq (.seq (.ops [] [b6 13 1 1 false 3,b4 14 false 1 13,b5 15 14,b2 16 .eql 15 0]) X0) Yy
abbrev YA:CC:=.seq (.ops [] [o2 2 (.box 86 2 (.t 0)),o2 3 (.box 86 2 (.t 1)),o2 4 (.alloc 86 2 (.p (.agg [(.bool false),(.list 173 1 [])]))),o2 5 (.alloc 86 2 (.p (.agg [(.bool false),(.list 173 1 [])]))),o2 6 (.alloc 25 2 (.p (.agg [(.int .i64 0),(.int .i64 0)])))]) Yz
theorem oD:az Tryz.prog 106 [86,25,173,2000046,70000173,70000003] YA [(4,some (true,2)),(5,some (true,2)),(6,some (true,2))] 87:=
 fk _ [⟨7,[0,1,2,3,4,5,6,7,8,9,10,11],[0,1,0,4,12,28,63,127,255,255,511,2047],[]⟩,⟨12,[0,1,2,3,4,5,6,7,8,9,10],[0,0,3,0,8,0,32,127,255,511,1023],[]⟩,⟨13,[8,0,1,2,3,4,5,6,7,9,10,11,12],[0,1,0,4,15,0,32,127,0,0,255,1535,4095],[(8,4)]⟩] Tryz.func106
abbrev YB:CC:=.cond (.t 11) .skip (.exit 0)
abbrev YC:List COp:=[b4 13 true 2 2,b4 14 true 2 3,o2 15 (.call 106 [(.t 13),(.t 14)])]
abbrev YD:List COp:=[o1 12 15,b9 16 12 0,b9 17 12 1,b9 18 12 2,o2 5 (.alloc 86 2 (.p (.agg [(.bool false),(.list 173 1 [])]))),o2 6 (.alloc 86 2 (.p (.agg [(.bool false),(.list 173 1 [])]))),o2 7 (.alloc 25 2 (.p (.agg [(.int .i64 0),(.int .i64 0)]))),b8 2 5 16,b8 2 6 17,b8 2 7 18]
abbrev YE:CC:=.ops [(6,2)] [b4 19 true 2 3,b4 20 true 2 6,b8 2 2 19,b8 2 3 20]
abbrev YF:CC:=.block 1 (.seq (.ops [] (apL YC (YD))) YE)
abbrev YG:CC:=.seq (.seq (.ops [] [b6 8 1 1 false 3,b4 9 false 1 8,b5 10 9,b2 11 .gtr 10 0]) YB) YF
abbrev YH:CC:=.loop YG
abbrev YI:List COp:=[b6 21 1 1 false 2,b4 22 false 1 21,o2 23 (.call 103 [(kb false),(.t 22)])]
abbrev YJ:List COp:=[b8 2 4 23]
abbrev YK:CC:=.seq (.ops [] (apL YI (YJ))) .ret
abbrev YL:CC:=.seq (.block 0 YH) YK
abbrev YM:CC:=.seq (.ops [] [o2 2 (.box 86 2 (.t 0)),o2 3 (.box 86 2 (.t 1)),o2 4 (.alloc 86 2 (.p (.agg [(.bool false),(.list 173 1 [])])))]) YL
theorem ud:az Tryz.prog 105 [86,25] YM [(4,some (true,2))] 24:=
 fk _ [⟨3,[0,1,2,3],[0,0,1,7],[(6,2)]⟩] Tryz.func105
abbrev YN:List COp:=[o2 5 (.call 95 [(ki 1)])]
abbrev YO:List COp:=[b6 3 2 2 true 1,b4 4 true 2 3,o2 6 (.call 119 [(.t 4),(.t 5)])]
abbrev YP:List COp:=[b8 2 2 6]
abbrev YQ:CC:=.seq (.ops [] (apL YN (apL YO (YP)))) .ret
abbrev c92:CC:=.seq (.ops [] [o2 1 (.box 88 4 (.t 0)),o2 2 (.alloc 86 2 (.p (.agg [(.bool false),(.list 173 1 [])])))]) YQ
theorem ue:az Tryz.prog 92 [88,86] c92 [(2,some (true,2))] 7:=
 fk _ [⟨1,[2,0,1,3,4],[0,1,0,7,15],[]⟩] Tryz.func92
abbrev YR:List COp:=[b4 6 true 2 2,b4 7 true 2 3,o2 8 (.call 105 [(.t 6),(.t 7)])]
abbrev YS:List COp:=[o2 5 (.alloc 86 2 (.p (.agg [(.bool false),(.list 173 1 [])]))),b8 2 5 8]
abbrev YT:List COp:=[b4 10 true 2 2,b4 11 true 2 5,o2 12 (.call 106 [(.t 10),(.t 11)])]
abbrev YU:List COp:=[o1 9 12,b9 13 9 0,b9 14 9 1,b9 15 9 2,b8 2 2 13]
abbrev YV:List COp:=[b4 17 true 2 3,b4 18 true 2 5,o2 19 (.call 106 [(.t 17),(.t 18)])]
abbrev YW:List COp:=[o1 16 19,b9 20 16 0,b9 21 16 1,b9 22 16 2,b8 2 3 20]
abbrev YX:List COp:=[b4 23 true 2 3,o2 24 (.call 90 [(.t 23)])]
abbrev YY:List COp:=[b2 25 .lss 24 0]
abbrev YZ:List COp:=[b4 26 true 2 2,o2 27 (.call 107 [(.t 26)])]
abbrev Y0:List COp:=[b4 28 true 2 3,o2 29 (.call 107 [(.t 28)])]
abbrev Y1:List COp:=[b8 2 2 27,b8 2 3 29]
abbrev Y2:CC:=.ops [] (apL YZ (apL Y0 (Y1)))
abbrev Y3:CC:=.cond (.t 25) Y2 .skip
abbrev Y4:List COp:=[b4 30 true 2 2,b4 31 true 2 3,o2 32 (.call 95 [(ki 1)])]
abbrev Y5:List COp:=[o2 33 (.call 108 [(.t 31),(.t 32)])]
abbrev Y6:List COp:=[o2 34 (.build [(.p (.bool false)),(.p (.list 173 1 [])),(.p (.bool false)),(.p (.list 173 1 []))] [(0,2,(.t 30)),(2,2,(.t 33))]),b8 4 4 34]
abbrev Y7:CC:=.seq (.ops [] (apL Y4 (apL Y5 (Y6)))) .ret
abbrev Y8:CC:=.seq (.seq (.ops [] (apL YX (YY))) Y3) Y7
abbrev Y9:CC:=.seq (.ops [] (apL YV (YW))) Y8
abbrev Za:CC:=.seq (.ops [] (apL YT (YU))) Y9
abbrev Zb:CC:=.seq (.ops [] (apL YR (YS))) Za
abbrev c82:CC:=.seq (.ops [] [o2 2 (.box 86 2 (.t 0)),o2 3 (.box 86 2 (.t 1)),o2 4 (.alloc 88 4 (.p (.agg [(.bool false),(.list 173 1 []),(.bool false),(.list 173 1 [])])))]) Zb
theorem oE:az Tryz.prog 82 [86,88] c82 [(4,some (true,4))] 35:=
 fk _ [⟨5,[0,1,2,3,4,5],[0,1,0,7,15,31],[]⟩,⟨6,[0,1,2,3,4,5],[0,0,0,6,15,31],[]⟩] Tryz.func82
abbrev Zc:CC:=.seq (.ops [] [b4 3 true 2 1,o2 4 (.build [(.p (.bool false)),(.p (.list 173 1 [])),(.p (.bool false)),(.p (.list 173 1 []))] [(0,2,(.t 3))]),b8 4 2 4]) .ret
abbrev c94:CC:=.seq (.ops [] [o2 1 (.box 86 2 (.t 0)),o2 2 (.alloc 88 4 (.p (.agg [(.bool false),(.list 173 1 []),(.bool false),(.list 173 1 [])])))]) Zc
theorem Zd:az Tryz.prog 94 [86,88] c94 [(2,some (true,4))] 5:=
 fk _ [] Tryz.func94
abbrev Ze:List COp:=[b6 3 2 2 true 1,b4 4 true 2 3,o2 5 (.call 90 [(.t 4)])]
abbrev Zf:List COp:=[b2 6 .eql 5 0]
abbrev Zg:List COp:=[b6 7 0 2 true 1,b4 8 true 2 7,o2 9 (.call 91 [(.t 8)])]
abbrev Zh:List COp:=[o1 2 9]
abbrev Zi:CC:=.seq (.ops [] (apL Zg (Zh))) .ret
abbrev Zj:CC:=.cond (.t 6) Zi .skip
abbrev Zk:List COp:=[b4 14 true 4 1,b6 10 0 2 true 1,b4 11 true 2 10,o2 12 (.call 91 [(.t 11)])]
abbrev Zl:List COp:=[o2 15 (.call 92 [(.t 14)])]
abbrev Zn:List COp:=[o2 16 (.call 91 [(.t 15)])]
abbrev Zo:List COp:=[b3 13 .add 12 (.k (.p (.str [47]))),b1 17 .add 13 16,o1 2 17]
abbrev Zp:CC:=.seq (.ops [] (apL Zk (apL Zl (apL Zn (Zo))))) .ret
abbrev Zq:CC:=.seq (.seq (.ops [] (apL Ze (Zf))) Zj) Zp
abbrev c59:CC:=.seq (.ops [] [o2 1 (.box 88 4 (.t 0)),o2 2 (.mov (.k (.p (.str []))))]) Zq
theorem uf:az Tryz.prog 59 [88] c59 [(2,none)] 18:=
 fk _ [⟨3,[4,0,1,2,5,6,3,7,8],[0,1,3,7,0,23,55,127,255],[]⟩] Tryz.func59
abbrev Zr:List COp:=[o1 17 0,o2 18 (.call 79 [(.t 17),(kb true)])]
abbrev Zs:List COp:=[o1 16 18,b9 19 16 0,b9 20 16 1,o1 4 19,o1 5 20]
abbrev Zt:List COp:=[o1 38 0,o1 39 4,b2 40 .add 39 1,o2 41 (.sliceS (.t 38) (some (.t 40)) none),o2 42 (.call 79 [(.t 41),(kb false)])]
abbrev Zu:List COp:=[o1 37 42,b9 43 37 0,b9 44 37 1,o1 9 43,o1 10 44]
abbrev Zv:CC:=.ops [] [o1 45 0,o1 46 4,b2 47 .add 46 1,o1 48 4,b2 49 .add 48 1,o1 50 9,b1 51 .add 49 50,o2 52 (.sliceS (.t 45) (some (.t 47)) (some (.t 51))),o1 53 10,o1 54 4,b2 55 .add 54 1,o1 56 9,b1 57 .add 55 56,o1 7 52,o2 8 (.mov (kb true)),o1 5 53,o1 4 57]
abbrev Zw:CC:=.seq (.ops [] (apL Zt (Zu))) Zv
abbrev Zx:CC:=.cond (.t 36) Zw .skip
abbrev Zy:CC:=.seq (.ops [] [o2 66 (.build [(.p (.bool false)),(.p (.list 173 1 [])),(.p (.bool false)),(.p (.list 173 1 []))] []),o1 67 4,o2 68 (.build [(.p (.int .i64 0)),(.p (.int .i64 0))] [(0,1,(ki 1)),(1,1,(.t 67))]),b8 4 2 66,b8 2 3 68]) .ret
abbrev Zz:CC:=.cond (.t 65) Zy .skip
abbrev ZA:List COp:=[o1 69 6,o2 70 (.call 80 [(.t 69),(.k (.p (.str [45])))])]
abbrev ZB:List COp:=[o2 71 (.lenS (.t 70)),b2 72 .gtr 71 1000,o1 73 72,o5 74 7 73 false,o4 75 (.lenS (.t 74)) 73 false,o4 76 (.bin false .gtr (.t 75) (ki 1000)) 73 false,o2 77 (.pick (.t 73) (kb true) (.t 76))]
abbrev ZC:CC:=.seq (.ops [] [o2 78 (.build [(.p (.bool false)),(.p (.list 173 1 [])),(.p (.bool false)),(.p (.list 173 1 []))] []),o2 79 (.build [(.p (.int .i64 0)),(.p (.int .i64 0))] [(0,1,(ki 2))]),b8 4 2 78,b8 2 3 79]) .ret
abbrev ZD:CC:=.cond (.t 77) ZC .skip
abbrev ZE:List COp:=[o1 81 6,o2 82 (.call 81 [(.t 81)])]
abbrev ZF:List COp:=[o1 80 82,b9 83 80 0,b9 84 80 1,o2 11 (.alloc 86 2 (.p (.agg [(.bool false),(.list 173 1 [])]))),o2 12 (.alloc 25 2 (.p (.agg [(.int .i64 0),(.int .i64 0)]))),b8 2 11 83,b8 2 12 84]
abbrev ZG:CC:=.seq (.ops [] [b4 87 true 2 11,o2 88 (.build [(.p (.bool false)),(.p (.list 173 1 [])),(.p (.bool false)),(.p (.list 173 1 []))] [(0,2,(.t 87))]),o2 89 (.build [(.p (.int .i64 0)),(.p (.int .i64 0))] []),b8 4 2 88,b8 2 3 89]) .ret
abbrev ZH:CC:=.cond (.t 86) ZG .skip
abbrev ZI:List COp:=[o1 91 7,o2 92 (.call 81 [(.t 91)])]
abbrev ZJ:List COp:=[o1 90 92,b9 93 90 0,b9 94 90 1,o2 13 (.alloc 86 2 (.p (.agg [(.bool false),(.list 173 1 [])]))),o2 14 (.alloc 25 2 (.p (.agg [(.int .i64 0),(.int .i64 0)]))),b8 2 13 93,b8 2 14 94]
abbrev ZK:List COp:=[b4 95 true 2 11,b4 96 true 2 13,o2 97 (.call 82 [(.t 95),(.t 96)])]
abbrev ZL:List COp:=[o2 15 (.alloc 88 4 (.p (.agg [(.bool false),(.list 173 1 []),(.bool false),(.list 173 1 [])]))),b8 4 15 97]
abbrev ZM:List COp:=[b4 98 true 4 15,o2 99 (.call 59 [(.t 98)])]
abbrev ZN:List COp:=[o1 100 0,b1 101 .neq 99 100]
abbrev ZO:CC:=.seq (.ops [] [o2 102 (.build [(.p (.bool false)),(.p (.list 173 1 [])),(.p (.bool false)),(.p (.list 173 1 []))] []),o2 103 (.build [(.p (.int .i64 0)),(.p (.int .i64 0))] [(0,1,(ki 3))]),b8 4 2 102,b8 2 3 103]) .ret
abbrev ZP:CC:=.cond (.t 101) ZO .skip
abbrev ZQ:CC:=.seq (.ops [] [b4 104 true 4 15,o2 105 (.build [(.p (.int .i64 0)),(.p (.int .i64 0))] []),b8 4 2 104,b8 2 3 105]) .ret
abbrev ZR:CC:=.seq (.seq (.ops [] (apL ZM (ZN))) ZP) ZQ
abbrev ZS:CC:=.seq (.ops [] (apL ZK (ZL))) ZR
abbrev ZT:CC:=.seq (.ops [] (apL ZI (ZJ))) ZS
abbrev ZU:CC:=.seq (.seq (.ops [] [o1 85 8,o2 86 (.un .not (.t 85))]) ZH) ZT
abbrev ZV:CC:=.seq (.ops [] (apL ZE (ZF))) ZU
abbrev ZW:CC:=.seq (.seq (.ops [] (apL ZA (ZB))) ZD) ZV
abbrev ZX:CC:=.seq (.seq (.ops [] [o1 58 5,o2 59 (.un .not (.t 58)),o1 60 59,o5 61 4 60 false,o5 62 0 60 false,o4 63 (.lenS (.t 62)) 60 false,o4 64 (.bin false .lss (.t 61) (.t 63)) 60 false,o2 65 (.pick (.t 60) (kb true) (.t 64))]) Zz) ZW
abbrev ZY:CC:=.seq (.seq (.ops [] [o1 24 5,o1 25 24,o5 26 4 25 true,o5 27 0 25 true,o4 28 (.lenS (.t 27)) 25 true,o4 29 (.bin false .lss (.t 26) (.t 28)) 25 true,o2 30 (.pick (.t 25) (.t 29) (kb false)),o1 31 30,o5 32 0 31 true,o5 33 4 31 true,o4 34 (.index (.t 32) (.t 33)) 31 true,o4 35 (.bin false .eql (.t 34) (.k (.p (.int .u8 47)))) 31 true,o2 36 (.pick (.t 31) (.t 35) (kb false))]) Zx) ZX
abbrev ZZ:CC:=.seq (.ops [] [o1 21 0,o1 22 4,o2 23 (.sliceS (.t 21) none (some (.t 22))),o1 6 23,o2 7 (.mov (.k (.p (.str [])))),o2 8 (.mov (kb false))]) ZY
abbrev Z0:CC:=.seq (.ops [] (apL Zr (Zs))) ZZ
abbrev c45:CC:=.seq (.ops [] [o2 2 (.alloc 88 4 (.p (.agg [(.bool false),(.list 173 1 []),(.bool false),(.list 173 1 [])]))),o2 3 (.alloc 25 2 (.p (.agg [(.int .i64 0),(.int .i64 0)])))]) Z0
theorem ug:az Tryz.prog 45 [88,25,86] c45 [(2,some (true,4)),(3,some (true,2))] 106:=
 fk _ [] Tryz.func45
set_option linter.unusedSimpArgs false
open Go.RowKit
structure IS where
 R:List (Nat×AV)
 M:List (Nat×AObj)
 k:Nat
def IS.st (s:IS):St:=⟨ar s.R,au s.M⟩
def dt (R:List (Nat×AV)):Option Nat→AV→List (Nat×AV)
 |some t,v=>(t,v)::R
 |none,_=>R
theorem eS (R:List (Nat×AV)) (m:Mem) (t:Option Nat) (v:AV):St.put ⟨ar R,m⟩ t v=⟨ar (dt R t v),m⟩:=by
 cases t with
 |none=>rfl
 |some t=>rfl
def tgt (op:AOp) (id:Nat) (r:Nat→AV):Option Nat:=
 match op with
 |.alloc .. | .box .. | .buildSlice .. | .buildSliceF .. | .buildSliceP .. | .appZ .. | .makeSlice .. | .bytS .. | .copyS .. | .copyF .. => some id
 |.store _ x _=>match x.ev r with
  |.ptr i _ _=>some i
  |_=>none
 |.copyA x _=>match x.ev r with
  |.arr i _ _=>some i
  |_=>none
 |.clearS _ _ x=>match x.ev r with
  |.slice i _ _=>some i
  |_=>none
 |_=>none
theorem xi {op:AOp}{id:Nat}{s t:St}{p:Bool}{v:AV} (h:ev op id s=some (p,v,t)):match tgt op id s.r with
  |none=>t.m=s.m
  |some i => ∃ob,t.m=upd s.m i (some ob):=by
 cases op<;>simp only[ev,tgt] at h ⊢ <;>
  (repeat' (split at h))<;>simp only[z99,z97,reduceCtorEq,z94] at h <;>
   first
    |(obtain⟨-,-,rfl⟩:=h;rfl)
    |(obtain⟨_,-,-,-,rfl⟩:=h;rfl)
    |(obtain⟨-,-,rfl⟩:=h;exact⟨_,rfl⟩)
    |(obtain⟨-,-,rfl⟩:=h;simp only[*];exact⟨_,rfl⟩)
def ka (op:AOp) (dst:Option Nat) (s:IS):Option IS:=
 match ev op (dst.getD 0) s.st with
 |some (true,v,t)=>match tgt op (dst.getD 0) (ar s.R) with
  |none=>some ⟨dt s.R dst v,s.M,s.k⟩
  |some i=>match t.m i with
   |some ob=>some ⟨dt s.R dst v,bR i ob s.M,s.k⟩
   |none=>none
 |_=>none
theorem xj {op:AOp}{dst:Option Nat}{s t:IS} (h:ka op dst s=some t):∃v u,ev op (dst.getD 0) s.st=some (true,v,u)∧t.st=u.put dst v:=by
 unfold ka at h;split at h
 case h_2=>cases h
 rename_i v u he;refine⟨v,u,he,?_⟩;have h1:=xi he;have h2:=u4 he;obtain⟨ur,um⟩:=u;simp only at h1 h2 h;have h3:ur=ar s.R:=h2;subst h3;split at h
 ·rename_i ht;simp only[z99] at h;subst h;simp only[IS.st] at h1 ht;rw[ht] at h1;simp only at h1;subst h1;rw[eS];rfl
 ·rename_i i ht;simp only[IS.st] at h1 ht;rw[ht] at h1;obtain⟨ob,hob⟩:=h1;subst hob;rw[aD] at h;simp only[z99] at h;subst h;rw[eS,dn];rfl
def kd (i:Nat) (s:IS):IS:=if i=aF then s else match au s.M i with
 |some o=>⟨s.R,bR i ⟨o.T,o.sz,o.cont,true⟩ s.M,s.k⟩
 |none=>s
theorem xk (i:Nat) (s:IS):(kd i s).st=cM i s.st:=by
 unfold kd cM;by_cases e:i=aF
 ·rw[if_pos e,if_pos e]
 ·rw[if_neg e,if_neg e];simp only[IS.st];cases au s.M i with
  |none=>rfl
  |some o=>simp only[dn]
def ke (T sz b:Nat) (x y:Opd) (id:Nat) (s:IS):Option (AV×IS):=
 match di T sz b x y id s.st with
 |some (true,v,t)=>match x.ev (ar s.R) with
  |.nils _ _=>match t.m id with
   |some ob=>some (v,⟨s.R,bR id ob s.M,s.k⟩)
   |none=>none
  |.slice i _ _=>match t.m i with
   |some ob=>some (v,⟨fgR i s.R,bR i ob (fgM i s.M),s.k⟩)
   |none=>none
  |_=>none
 |_=>none
theorem qh {T sz b:Nat}{x y:Opd}{id:Nat}{s t:IS}{v:AV} (h:ke T sz b x y id s=some (v,t)):di T sz b x y id s.st=some (true,v,t.st):=by
 unfold ke at h;split at h
 case h_2=>cases h
 rename_i v' u he;rw[he];unfold di at he;split at he
 case h_1=>cases he
 split at he
 ·rename_i hx;have hx':x.ev (ar s.R)=_:=hx;split at he
  case h_2=>cases he
  split at he
  case isFalse=>cases he
  simp only[z99,z97] at he;obtain⟨-,rfl,rfl⟩:=he;rw[hx'] at h;simp only[aD,z99,z97] at h;obtain⟨rfl,rfl⟩:=h;simp only[IS.st,dn]
 ·rename_i i n hx;have hx':x.ev (ar s.R)=_:=hx;split at he
  case h_2=>cases he
  split at he
  case isFalse=>cases he
  simp only[z99,z97] at he;obtain⟨-,rfl,rfl⟩:=he;rw[hx'] at h;simp only[aD,z99,z97] at h;obtain⟨rfl,rfl⟩:=h;simp only[IS.st,nV,nW,dn]
 ·cases he
section
variable (call:FuncId→List D→Option D)
def kf (c:COp) (s:IS):Option IS:=
 match c.op with
 |.call f args=>match a7 s.st args with
  |some ds=>match call f ds with
   |some d=>some ⟨dt s.R c.dst (.p d),s.M,s.k⟩
   |none=>none
  |none=>none
 |.append T sz b x y=>match ke T sz b x y (c.dst.getD 0) s with
  |some (v,t)=>some ⟨dt t.R c.dst v,t.M,t.k⟩
  |none=>none
 |.appendF T sz b x y=>match ke T sz b x y (c.dst.getD 0) s with
  |some (v,t)=>some ⟨dt (kd (jp (c.dst.getD 0) v) t).R c.dst v,(kd (jp (c.dst.getD 0) v) t).M,t.k⟩
  |none=>none
 |.callL f k args=>match eF s.st k args with
  |.slice i 0 n=>match au s.M i with
   |some ⟨T,sz,.row l,false⟩=>match dv s.st (.list T sz l) k args with
    |some ds=>match call (f+LB*(k+1)) ds with
     |some (.tup [r,.list T' sz' l'])=>if T'=T∧sz'=sz∧n=l.length then some ⟨dt s.R c.dst (if l.isEmpty then .p (cQ T sz r) else dR i r),bR i ⟨T,sz,.row l',false⟩ s.M,s.k⟩ else none
     |_=>none
    |none=>none
   |_=>none
  |_=>none
 |.callv fs x args=>match (x.ev (ar s.R)).toD false (au s.M) 20,a7 s.st args with
  |some (.fn (.func f) a b),some ds=>if fs.contains f then match call f (a++ds++b) with
   |some d=>some ⟨dt s.R c.dst (.p d),s.M,s.k⟩
   |none=>none else none
  |_,_=>none
 |.callN f T args=>match a7 s.st args with
  |some ds=>match au s.M (c.dst.getD 0) with
   |none=>match call (f+LB*(8+1)) ds with
    |some (.list T' sz l)=>if T'=T then some ⟨dt s.R c.dst (.slice (c.dst.getD 0) 0 l.length),bR (c.dst.getD 0) ⟨T,sz,.row l,false⟩ s.M,s.k⟩ else none
    |_=>none
   |some _=>none
  |none=>none
 |.callW .. => none
 |.isNil neg x=>match x.ev (ar s.R) with
  |.nils _ _=>some ⟨dt s.R c.dst (.p (.bool (!neg))),s.M,s.k⟩
  |.p (.list _ _ (_::_))=>some ⟨dt s.R c.dst (.p (.bool (false != neg))),s.M,s.k⟩
  |_=>none
 |op=>ka op c.dst s
variable {call}
theorem qi {G:FuncId→List D→D→Prop} (hcall:∀c ds d,call c ds=some d→G c ds d){c:COp}{s t:IS}{K:St→Prop} (h:kf call c s=some t) (hK:K t.st):step G c K s.st:=by
 obtain⟨dst,op,g⟩:=c;have plain:∀op',op=op'→ka op' dst s=some t→(∃v u,ev op' (dst.getD 0) s.st=some (true,v,u)∧K (u.put dst v)):=by
  rintro op' rfl ho;obtain⟨v,u,h1,h2⟩:=xj ho;exact⟨v,u,h1,by rw[←h2];exact hK⟩
 have hput:∀v,s.st.put dst v=(⟨dt s.R dst v,s.M,s.k⟩:IS).st:=fun v=>eS s.R (au s.M) dst v
 unfold step;unfold kf at h;cases op
 case call f args =>
  simp only at h ⊢;split at h
  case h_2=>cases h
  rename_i ds hds;split at h
  case h_2=>cases h
  rename_i d hd;simp only[z99] at h;subst h;rw[hds];exact⟨d,hcall _ _ _ hd,by rw[hput];exact hK⟩
 case append T sz b x y =>
  simp only at h ⊢;split at h
  case h_2=>cases h
  rename_i v u hu;simp only[z99] at h;subst h;rw[qh hu];refine⟨rfl,?_⟩;unfold IS.st;rw[eS];exact hK
 case appendF T sz b x y =>
  simp only at h ⊢;split at h
  case h_2=>cases h
  rename_i v u hu;simp only[z99] at h;subst h;rw[qh hu];refine⟨rfl,?_⟩;rw[←xk];unfold IS.st;rw[eS];exact hK
 case callL f k args =>
  simp only at h ⊢;split at h
  case h_2=>cases h
  rename_i i n hi;split at h
  case h_2=>cases h
  rename_i T sz l hm;split at h
  case h_2=>cases h
  rename_i ds hds;split at h
  case h_2=>cases h
  rename_i r T' sz' l' hd;split at h
  case isFalse=>cases h
  rename_i hc;obtain⟨rfl,rfl,rfl⟩:=hc;simp only[z99] at h;subst h;rw[hi];simp only;have hm':s.st.m i=_:=hm;rw[hm'];simp only[hds];refine⟨trivial,r,l',hcall _ _ _ hd,?_⟩;have e1:(upd s.st.m i (some ⟨T',sz',.row l',false⟩))=au (bR i ⟨T',sz',.row l',false⟩ s.M):=dn _ _ _;rw[e1];have e2:(if l=[] then AV.p (cQ T' sz' r) else dR i r)=if l.isEmpty then AV.p (cQ T' sz' r) else dR i r:=by
   cases l<;>simp
  rw[e2];have:=eS s.R (au (bR i ⟨T',sz',.row l',false⟩ s.M)) dst (if l.isEmpty then AV.p (cQ T' sz' r) else dR i r);unfold IS.st;simp only;rw[this];exact hK
 case callv fs x args =>
  simp only at h ⊢;split at h
  case h_2=>cases h
  rename_i f a b ds h1 h2;split at h
  case isFalse=>cases h
  rename_i hf;split at h
  case h_2=>cases h
  rename_i d hd;simp only[z99] at h;subst h;have h1':(x.ev s.st.r).toD false s.st.m 20=_:=h1;rw[h1',h2];exact⟨hf,d,hcall _ _ _ hd,by rw[hput];exact hK⟩
 case callN f T args =>
  simp only at h ⊢;split at h
  case h_2=>cases h
  rename_i ds hds;split at h
  case h_2=>cases h
  rename_i hm;split at h
  case h_2=>cases h
  rename_i T' sz l hd;split at h
  case isFalse=>cases h
  rename_i hT;subst hT;simp only[z99] at h;subst h;rw[hds];simp only;have hm':s.st.m (dst.getD 0)=none:=hm;rw[hm'];refine⟨sz,l,hcall _ _ _ hd,?_⟩;have e1:(upd s.st.m (dst.getD 0) (some ⟨T',sz,.row l,false⟩))=au (bR (dst.getD 0) ⟨T',sz,.row l,false⟩ s.M):=dn _ _ _;rw[e1];have:=eS s.R (au (bR (dst.getD 0) ⟨T',sz,.row l,false⟩ s.M)) dst (.slice (dst.getD 0) 0 l.length);unfold IS.st;simp only;rw[this];exact hK
 case isNil neg x =>
  simp only at h ⊢;split at h
  ·rename_i T sz hx;simp only[z99] at h;subst h;have hx':x.ev s.st.r=_:=hx;rw[hx'];simp only;rw[hput];exact hK
  ·rename_i T sz a l hx;simp only[z99] at h;subst h;have hx':x.ev s.st.r=_:=hx;rw[hx'];simp only;intro b hb;rw[hb (by simp),hput];exact hK
  ·cases h
 case callW=>cases h
 all_goals
  simp only at h ⊢;obtain⟨v,u,h1,h2⟩:=plain _ rfl h;rw[h1];exact⟨rfl,h2⟩
variable (call)
def mA (c:COp) (s:IS):Option IS:=
 match c.guard with
 |none=>kf call c s
 |some (g,want)=>match ar s.R g with
  |.p (.bool b)=>if b=want then kf call c s else some ⟨dt s.R c.dst (.p (.tup [])),s.M,s.k⟩
  |.p (.tup [])=>some ⟨dt s.R c.dst (.p (.tup [])),s.M,s.k⟩
  |_=>none
def i9:List COp→IS→Option IS
 |[],s=>some s
 |c::l,s=>match mA call c s with
  |some t=>i9 l t
  |none=>none
variable {call}
theorem xl {G:FuncId→List D→D→Prop} (hcall:∀c ds d,call c ds=some d→G c ds d){c:COp}{s t:IS}{K:St→Prop} (h:mA call c s=some t) (hK:K t.st):bK G c K s.st:=by
 unfold bK;unfold mA at h;split at h
 ·rename_i hg;rw[hg];exact qi hcall h hK
 ·rename_i g want hg;rw[hg];simp only;split at h
  case h_3=>cases h
  case h_2 =>
   rename_i hb;have hb':s.st.r g=_:=hb;rw[hb'];simp only[z99] at h ⊢;subst h;unfold IS.st;rw[eS];exact hK
  rename_i b hb;have hb':s.st.r g=_:=hb;rw[hb'];simp only;split at h
  ·rename_i e;rw[if_pos e];exact qi hcall h hK
  ·rename_i e;rw[if_neg e];simp only[z99] at h;subst h;unfold IS.st;rw[eS];exact hK
theorem qj {G:FuncId→List D→D→Prop} (hcall:∀c ds d,call c ds=some d→G c ds d){K:St→Prop}:∀(l:List COp) (s t:IS),i9 call l s=some t→K t.st→bC G l K s.st
 |[],s,t,h,hK=>by simp only[i9,z99] at h;subst h;exact hK
 |c::l,s,t,h,hK=>by
  simp only[i9] at h;split at h
  case h_2=>cases h
  rename_i u hu;exact xl hcall hu (qj hcall l u t h hK)
end
inductive NA where
 |keep (ts:List Nat)
 |gc
 |frzv (ts:List Nat)
 |rev (t:Nat)
 |ren
def g9 (R:List (Nat×AV)) (M:List (Nat×AObj)):List (Nat×AObj)→List Nat
 |[]=>[]
 |(i,_)::l=>if i != aF&&gN [i] R&&M.all (fun p => !p.2.men [i]) then i::g9 R M l else g9 R M l
def eB (R:List (Nat×AV)):List Nat→List (Nat×AObj)→List (Nat×AObj)
 |[],M=>M
 |t::l,M=>match ar R t with
  |.slice i _ _=>match au M i with
   |some ⟨T,sz,.row r,false⟩=>if i≠aF then eB R l (bR i ⟨T,sz,.row r,true⟩ M) else eB R l M
   |_=>eB R l M
  |.ptr i _ _=>match au M i with
   |some ⟨T,sz,.box r,false⟩=>if i≠aF then eB R l (bR i ⟨T,sz,.box r,true⟩ M) else eB R l M
   |_=>eB R l M
  |_=>eB R l M
def mB:NA→IS→Option IS
 |.keep ts,s=>some ⟨sel (ar s.R) ts,s.M,s.k⟩
 |.gc,s=>if gN (g9 s.R s.M s.M) s.R&&ff (g9 s.R s.M s.M) s.M then some ⟨s.R,ef (g9 s.R s.M s.M) s.M,s.k⟩ else none
 |.frzv ts,s=>some ⟨s.R,eB s.R ts s.M,s.k⟩
 |.rev t,s=>match (ar s.R t).toD false (au s.M) 20 with
  |some d=>some ⟨ej t (.p d) s.R,s.M,s.k⟩
  |none=>some s
 |.ren,s=>some ⟨rnR (swp (2000000+100000*s.k)) s.R,rnM (swp (2000000+100000*s.k)) s.M,s.k+1⟩
theorem fK {OT:List TypeId} (R:List (Nat×AV)):∀(l:List Nat) (M:List (Nat×AObj)),Sub OT ⟨ar R,au M⟩ ⟨ar R,au (eB R l M)⟩
 |[],M=>Sub.rf _
 |t::l,M=>by
  unfold eB;split
  ·rename_i i o n hi;split
   ·rename_i T sz r hm;split
    ·rename_i hc;refine Sub.tr ?_ (fK R l _);rw[←dn];exact Sub.freeze (ob:=⟨T,sz,.row r,false⟩) hc hm
    ·exact fK R l M
   ·exact fK R l M
  ·rename_i i o n hi;split
   ·rename_i T sz r hm;split
    ·rename_i hc;refine Sub.tr ?_ (fK R l _);rw[←dn];exact Sub.freeze (ob:=⟨T,sz,.box r,false⟩) hc hm
    ·exact fK R l M
   ·exact fK R l M
  ·exact fK R l M
theorem xm {OT:List TypeId}{a:NA}{s t:IS} (h:mB a s=some t):Sub OT s.st t.st:=by
 cases a<;>simp only[mB] at h
 case keep ts =>
  simp only[z99] at h;subst h;exact Sub.und (gV ts)
 case gc =>
  split at h
  case isFalse=>cases h
  rename_i hc;simp only[z9S] at hc;simp only[z99] at h;subst h;exact Sub.dropL (g9 s.R s.M s.M) (fun t => .inr ⟨rfl,ox t hc.1⟩) (oy _ _) (fun i o ho=>lD i o hc.2 ho) (oz hc.2)
 case frzv ts =>
  simp only[z99] at h;subst h;exact fK _ _ _
 case rev u =>
  split at h
  ·rename_i d hd;simp only[z99] at h;subst h;simp only[IS.st];rw[←gU];exact Sub.reveal u d hd
  ·simp only[z99] at h;subst h;exact Sub.rf _
 case ren =>
  simp only[z99] at h;subst h;exact Sub.ren (fun i=>Xf (by omega) i) (Xg (by omega))
def gA:List NA→IS→Option IS
 |[],s=>some s
 |a::l,s=>match mB a s with
  |some t=>gA l t
  |none=>none
theorem mC {OT:List TypeId}:∀{l:List NA}{s t:IS},gA l s=some t→Sub OT s.st t.st
 |[],s,t,h=>by simp only[gA,z99] at h;subst h;exact Sub.rf _
 |a::l,s,t,h=>by
  simp only[gA] at h;split at h
  case h_2=>cases h
  rename_i u hu;exact (xm hu).tr (mC h)
def headD:CC→Nat
 |.ops _ (c::_)=>c.dst.getD 0
 |.seq a _=>headD a
 |.block _ a=>headD a
 |.loop a=>headD a
 |_=>0
def kg:List (Nat×List NA)→Nat→List NA
 |[],_=>[]
 |(i,l)::p,h=>if h=i then l else kg p h
def ja (f:IS→Option (AExit×IS)) (g:IS→Option IS):Nat→IS→Option (AExit×IS)
 |0,_=>none
 |n+1,s=>match g s with
  |some u=>match f u with
   |some (.normal,t)=>ja f g n t
   |x=>x
  |none=>none
section
variable (call:FuncId→List D→Option D) (pl:List (Nat×List NA)) (n:Nat)
def run:CC→IS→Option (AExit×IS)
 |.skip,s=>some (.normal,s)
 |.ops ap l,s=>if ez ap (ar s.R) then match i9 call l s with
  |some t=>some (.normal,t)
  |none=>none else none
 |.seq a b,s=>match run a s with
  |some (.normal,t)=>match gA (kg pl (headD b)) t with
   |some u=>run b u
   |none=>none
  |x=>x
 |.cond x a b,s=>match x.ev (ar s.R) with
  |.p (.bool true)=>run a s
  |.p (.bool false)=>run b s
  |_=>none
 |.block id a,s=>match run a s with
  |some (.exit j,t)=>if j=id then some (.normal,t) else some (.exit j,t)
  |x=>x
 |.loop a,s=>ja (fun u=>run a u) (gA (kg pl (headD a))) n s
 |.exit id,s=>some (.exit id,s)
 |.ret,s=>some (.ret,s)
 |.stuck,_=>none
variable {call pl n}
theorem dP {OT:List TypeId}{G:FuncId→List D→D→Prop} (hcall:∀c ds d,call c ds=some d→G c ds d):∀(cc:CC) (s t:IS) (e:AExit) (Q:AExit→St→Prop),run call pl n cc s=some (e,t)→Q e t.st→cw OT G cc Q s.st
 |.skip,s,t,e,Q,h,hQ=>by
  simp only[run,z99,z97] at h;obtain⟨rfl,rfl⟩:=h;exact hQ
 |.ops ap l,s,t,e,Q,h,hQ=>by
  simp only[run] at h;split at h
  case isFalse=>cases h
  rename_i hap;split at h
  case h_2=>cases h
  rename_i u hu;simp only[z99,z97] at h;obtain⟨rfl,rfl⟩:=h;exact⟨hap,qj hcall l s u hu hQ⟩
 |.seq a b,s,t,e,Q,h,hQ=>by
  simp only[run] at h;split at h
  ·rename_i u hu;split at h
   case h_2=>cases h
   rename_i x hx;exact dP hcall a s u .normal _ hu ⟨x.st,mC hx,dP hcall b x t e Q h hQ⟩
  ·rename_i hne;refine dP hcall a s t e _ h ?_;cases e with
   |normal=>exact absurd h (hne t)
   |exit id=>exact hQ
   |ret=>exact hQ
 |.cond x a b,s,t,e,Q,h,hQ=>by
  simp only[run] at h;simp only[cw];split at h
  ·rename_i hx;have hx':x.ev s.st.r=_:=hx;rw[hx'];exact⟨fun _=>dP hcall a s t e Q h hQ,fun hh=>(by cases hh)⟩
  ·rename_i hx;have hx':x.ev s.st.r=_:=hx;rw[hx'];exact⟨fun hh=>(by cases hh),fun _=>dP hcall b s t e Q h hQ⟩
  ·cases h
 |.block id a,s,t,e,Q,h,hQ=>by
  simp only[run] at h;split at h
  ·rename_i j u hu;refine dP hcall a s u (.exit j) _ hu ?_;simp only;split at h
   ·rename_i e1;rw[if_pos e1];simp only[z99,z97] at h;obtain⟨rfl,rfl⟩:=h;exact hQ
   ·rename_i e1;rw[if_neg e1];simp only[z99,z97] at h;obtain⟨rfl,rfl⟩:=h;exact hQ
  ·rename_i hne;refine dP hcall a s t e _ h ?_;cases e with
   |normal=>exact hQ
   |exit id=>exact absurd h (hne id t)
   |ret=>exact hQ
 |.loop a,s,t,e,Q,h,hQ=>by
  simp only[run] at h;have key:∀m s,ja (fun u=>run call pl n a u) (gA (kg pl (headD a))) m s=some (e,t)→cw OT G (.loop a) Q s.st:=by
   intro m;induction m with
   |zero=>intro s h;simp[ja] at h
   |succ m ih =>
    intro s h;simp only[ja] at h;split at h
    case h_2=>cases h
    rename_i u hu;refine zdw (mC hu) ?_;split at h
    ·rename_i v hv;exact dP hcall a u v .normal _ hv (ih v h)
    ·rename_i hne;refine dP hcall a u t e _ h ?_;cases e with
     |normal=>exact absurd h (hne t)
     |exit id=>exact hQ
     |ret=>exact hQ
  exact key n s h
 |.exit id,s,t,e,Q,h,hQ=>by
  simp only[run,z99,z97] at h;obtain⟨rfl,rfl⟩:=h;exact hQ
 |.ret,s,t,e,Q,h,hQ=>by
  simp only[run,z99,z97] at h;obtain⟨rfl,rfl⟩:=h;exact hQ
 |.stuck,s,t,e,Q,h,hQ=>by simp[run] at h
end
structure FnI where
 f:FuncId
 OT:List TypeId
 cc:CC
 rs:List (Nat×Option (Bool×Nat))
 nt:Nat
 pl:List (Nat×List NA)
def FnI.Ok (P:Program) (F:FnI):Prop:=F.f<LB∧az P F.f F.OT F.cc F.rs F.nt∧F.OT.all (fun T=>decide (T<70000000)||decide (80000000≤T))=true
def kh:List FnI→FuncId→Option FnI
 |[],_=>none
 |F::l,f=>if F.f=f then some F else kh l f
theorem qk {P:Program}:∀{l:List FnI}{f:FuncId}{F:FnI},(∀F∈l,F.Ok P)→kh l f=some F→F.f=f∧F.Ok P
 |[],f,F,_,h=>by cases h
 |G::l,f,F,hl,h=>by
  simp only[kh] at h;split at h
  ·cases h;exact⟨‹_›,hl _ (by simp)⟩
  ·exact qk (fun F hF=>hl F (by simp[hF])) h
def hP:Nat→List D→List (Nat×AV)
 |_,[]=>[]
 |i,d::l=>(i,.p d)::hP (i+1) l
theorem mD:∀(l:List D) (i t:Nat),ar (hP i l) t=if t<i then .und else match l[t-i]? with
  |some d => .p d
  |none => .und
 |[],i,t=>by simp[hP,eQ]
 |d::l,i,t=>by
  rw[hP,cZ,mD l (i+1) t];by_cases h:t=i
  ·subst h;simp
  ·rw[if_neg h];by_cases h2:t<i
   ·rw[if_pos h2,if_pos (by omega)]
   ·rw[if_neg h2,if_neg (by omega),show t-i=(t-(i+1))+1 by omega,List.getElem?_cons_succ]
def kj (ds:List D):IS:=⟨hP 0 ds,[],0⟩
theorem qm (ds:List D):(kj ds).st=bw ds:=by
 unfold IS.st kj bw;congr 1
 funext t
 rw[mD];rfl
def mE (k T sz:Nat) (l:List D) (ds:List D):IS:=⟨(k,.slice aF 0 l.length)::hP 0 ds,[(aF,⟨T,sz,.row l,false⟩)],0⟩
theorem xn (k T sz:Nat) (l:List D) (ds:List D):(mE k T sz l ds).st=bL k T sz l ds:=by
 unfold IS.st mE bL;congr 1
 ·funext t
  rw[cZ,mD];rfl
def jb:D→Bool
 |.tup [.int .i64 _]=>true
 |_=>false
theorem qn {d:D} (h:jb d=false):∀m,d≠.tup [.int .i64 m]:=by
 rintro m rfl;cases h
theorem xo {d:D} (h:jb d=false) (T:TypeId) (sz:Nat):cQ T sz d=d:=by
 unfold cQ;split
 ·cases h
 ·rfl
def mF (rs:List (Nat×Option (Bool×Nat))):Option (AExit×IS)→Option D
 |some (.exit _,_)=>none
 |some (_,s)=>ai s.st rs
 |none=>none
def mG (rs:List (Nat×Option (Bool×Nat))):Option (AExit×IS)→Option D
 |some (.exit _,_)=>none
 |some (_,s)=>match rs with
  |[y]=>match ah s.st y with
   |some (.slice i 0 n)=>match au s.M i with
    |some ⟨T,sz,.row l,false⟩=>if n=l.length then some (.list T sz l) else none
    |_=>none
   |some (.nils T sz)=>some (.list T sz [])
   |_=>none
  |_=>none
 |none=>none
def mH (T sz n:Nat) (rs:List (Nat×Option (Bool×Nat))):Option (AExit×IS)→Option D
 |some (.exit _,_)=>none
 |some (_,s)=>match au s.M aF with
  |some ⟨T',sz',.row l',false⟩=>if T'=T∧sz'=sz∧l'.length=n then
    (match rs with
    |[]=>some (.tup [.tup [],.list T sz l'])
    |[(t,none)]=>match ar s.R t with
     |.slice i 0 m=>if i=aF then some (.tup [.tup [.int .i64 m],.list T sz l']) else none
     |.p d=>if jb d then none else some (.tup [d,.list T sz l'])
     |_=>none
    |_=>match ai (dY s.st) rs with
     |some d=>if jb d then none else some (.tup [d,.list T sz l'])
     |none=>none) else none
  |_=>none
 |none=>none
section
variable (Fs:List FnI) (orc:FuncId→List D→Option D)
def fL:Nat→FuncId→List D→Option D
 |0,_,_=>none
 |n+1,c,ds=>match orc c ds with
  |some d=>some d
  |none=>match kh Fs (c % LB) with
   |none=>none
   |some F=>if ds.length≤F.nt then
    (match c / LB with
    |0=>mF F.rs (run (fL n) F.pl n F.cc (kj ds))
    |9=>mG F.rs (run (fL n) F.pl n F.cc (kj ds))
    |k+1=>if 8≤k then none else match ds[k]? with
     |some (.list T sz [])=>match fL n (c % LB) ds with
      |some d=>if jb d then none else some (.tup [d,.list T sz []])
      |none=>none
     |some (.list T sz (e::l))=>if F.OT.contains T then mH T sz (l.length+1) F.rs (run (fL n) F.pl n F.cc (mE k T sz (e::l) ds)) else none
     |_=>none) else none
variable {Fs orc}
theorem xp {rs:List (Nat×Option (Bool×Nat))}{x:Option (AExit×IS)}{d:D} (h:mF rs x=some d):∃e s,x=some (e,s)∧af d rs e s.st:=by
 unfold mF at h;split at h
 ·cases h
 ·rename_i e s hne;refine⟨_,_,rfl,?_⟩;cases e with
  |normal=>exact h
  |exit id=>exact (hne id rfl).elim
  |ret=>exact h
 ·cases h
theorem xq {rs:List (Nat×Option (Bool×Nat))}{x:Option (AExit×IS)}{d:D} (h:mG rs x=some d):∃e s T sz l,d = .list T sz l∧x=some (e,s)∧iE T sz l rs e s.st:=by
 unfold mG at h;split at h
 ·cases h
 ·rename_i e s hne;have key:∀T sz l,ResNew s.st rs T sz l→iE T sz l rs e s.st:=fun T sz l hr=>by
   cases e with
   |normal=>exact hr
   |exit id=>exact (hne id rfl).elim
   |ret=>exact hr
  split at h
  case h_2=>cases h
  rename_i y;split at h
  ·rename_i i n hv;split at h
   case h_2=>cases h
   rename_i T sz l hm;split at h
   case isFalse=>cases h
   rename_i hn;subst hn;simp only[z99] at h;exact⟨_,_,T,sz,l,h.symm,rfl,key _ _ _ (.row rfl hv hm)⟩
  ·rename_i T sz hv;simp only[z99] at h;exact⟨_,_,T,sz,[],h.symm,rfl,key _ _ _ (.nil rfl hv)⟩
  ·cases h
 ·cases h
theorem xr {T sz n:Nat}{rs:List (Nat×Option (Bool×Nat))}{x:Option (AExit×IS)}{d:D} (h:mH T sz n rs x=some d):∃e s r l',d = .tup [r,.list T sz l']∧l'.length=n∧x=some (e,s)∧fi T sz l' r rs e s.st:=by
 unfold mH at h;split at h
 ·cases h
 ·rename_i e s hne;have key:∀r l',s.st.m aF=some ⟨T,sz,.row l',false⟩∧ResLt s.st rs r→fi T sz l' r rs e s.st:=fun r l' hr=>by
   cases e with
   |normal=>exact hr
   |exit id=>exact (hne id rfl).elim
   |ret=>exact hr
  split at h
  case h_2=>cases h
  rename_i T' sz' l' hm;split at h
  case isFalse=>cases h
  rename_i hc;obtain⟨rfl,rfl,hn⟩:=hc;split at h
  ·simp only[z99] at h;exact⟨_,_,_,l',h.symm,hn,rfl,key _ _ ⟨hm,.unit _⟩⟩
  ·rename_i t;split at h
   ·rename_i i m hv;split at h
    case isFalse=>cases h
    rename_i hi;subst hi;simp only[z99] at h;exact⟨_,_,_,l',h.symm,hn,rfl,key _ _ ⟨hm,.pre rfl (by simpa[IS.st] using hv)⟩⟩
   ·rename_i d' hv;split at h
    ·cases h
    ·rename_i hd;simp only[z99] at h;exact⟨_,_,_,l',h.symm,hn,rfl,key _ _ ⟨hm,.one hv (qn (by simpa using hd))⟩⟩
   ·cases h
  ·split at h
   ·rename_i d' hv;split at h
    ·cases h
    ·rename_i hd;simp only[z99] at h;exact⟨_,_,_,l',h.symm,hn,rfl,key _ _ ⟨hm,.plain hv (qn (by simpa using hd))⟩⟩
   ·cases h
 ·cases h
theorem qo {P:Program} (hFs:∀F∈Fs,F.Ok P) (horc:∀c ds d,orc c ds=some d→ConX P [] c ds d):∀(n:Nat) (c:FuncId) (ds:List D) (d:D),fL Fs orc n c ds=some d→ConX P [] c ds d
 |0,c,ds,d,h=>by simp[fL] at h
 |n+1,c,ds,d,h=>by
  have ih:=qo hFs horc n;simp only[fL] at h;split at h
  ·rename_i d' hd;simp only[z99] at h;subst h;exact horc _ _ _ hd
  split at h
  ·cases h
  rename_i F hF;obtain⟨hFf,hlt,hok,hW⟩:=qk hFs hF;split at h
  case isFalse=>cases h
  rename_i hlen;have hdm:=Nat.div_add_mod c LB;rw[←hFf] at hdm;have hA:F.OT.all (fun T => !([]:List TypeId).contains T&&(decide (T<70000000)||decide (80000000≤T)))=true:=by simpa using hW
  split at h
  ·rename_i h0;rw[h0] at hdm;obtain⟨e,s,h1,h2⟩:=xp h;have hc:c=F.f:=by rw[Nat.mul_zero,z9o] at hdm;exact hdm.symm
   rw[hc];refine .plain hlt (hok.con hA hlen ?_);rw[←qm];exact dP ih _ _ _ _ _ h1 h2
  ·rename_i h0;rw[h0] at hdm;obtain⟨e,s,T,sz,l,rfl,h1,h2⟩:=xq h;have hc:c=F.f+LB*(8+1):=by rw[Nat.add_comm];exact hdm.symm
   rw[hc];refine .fresh hlt (hok.conN hA hlen ?_);rw[←qm];exact dP ih _ _ _ _ _ h1 h2
  ·rename_i k hne h0;rw[h0] at hdm;have hc:c=F.f+LB*(k+1):=by rw[Nat.add_comm];exact hdm.symm
   split at h
   ·cases h
   rename_i hk8;have hk8:k<8:=Nat.not_le.1 hk8;split at h
   ·rename_i T sz hk;split at h
    case h_2=>cases h
    rename_i d' hd;split at h
    ·cases h
    rename_i hi;simp only[z99] at h;subst h;have hcon:=(ih _ _ _ hd).con (by rw[←hFf];exact hlt);rw[←hFf] at hcon;rw[hc];exact .lent hlt hk8 hk rfl (fun _=>by rw[xo (by simpa using hi)];exact hcon) (fun hh=>absurd rfl hh)
   ·rename_i T sz e l hk;split at h
    case isFalse=>cases h
    rename_i hT;obtain⟨e',s,r,l',rfl,hl',h1,h2⟩:=xr h;rw[hc];refine .lent hlt hk8 hk (by simpa using hl') (fun hh=>(by cases hh)) (fun _=>hok.conL hA hlen hT (z98.1 hk).1 ?_);rw[←xn];exact dP ih _ _ _ _ _ h1 h2
   ·cases h
theorem xt {P:Program} (hFs:∀F∈Fs,F.Ok P) (horc:∀c ds d,orc c ds=some d→ConX P [] c ds d){n:Nat}{f:FuncId}{ds:List D}{d:D} (h:fL Fs orc n f ds=some d) (hf:f<LB:=by decide):Con P [] f ds d:=
 (qo hFs horc n f ds d h).con hf
end
set_option linter.unusedSimpArgs false
open Go.RowKit
set_option maxRecDepth 100000
abbrev zcq:List COp:=[o1 3 0,o2 4 (.call 62 [(.t 3)])]
abbrev zcr:List COp:=[o2 5 (.call 62 [(ki 1)])]
abbrev zcs:List COp:=[o2 6 (.build [(.p (.bool false)),(.p (.list 3 1 [])),(.p (.bool false)),(.p (.list 3 1 []))] [(0,2,(.t 4)),(2,2,(.t 5))]),b8 4 2 6]
abbrev zct:CC:=.seq (.ops [] (apL zcq (apL zcr (zcs)))) .ret
abbrev c37:CC:=.seq (.ops [] [o2 2 (.alloc 50 4 (.p (.agg [(.bool false),(.list 3 1 []),(.bool false),(.list 3 1 [])])))]) zct
theorem zcu:az Tryz.prog 37 [50] c37 [(2,some (true,4))] 7:=
 fk _ [] Tryz.func37
end Go.Proofs.YtbnhgnhgbhjkcaaGreat.M
