/- Contracts of numbers and fractions in the small machine's words. -/
import Derived.Test.YtdjbfgfbpimakaaK7
import Derived.Test.YtdjbfgfbpimakaaFrGx
namespace Go.Proofs.Ytdjbfgfbpimakaa.M
open Go.RowKit
set_option linter.unusedVariables false
theorem fsm {a:Int} {n:Nat} (h:Bt a n) (hn:n≤32768000000000):Sm a:=h.sm (by omega)
theorem fsm9 {a:Int} {n:Nat} (h:Bt a n) (hn:n≤66355200000000):Sm a:=h.sm (by omega)
theorem psm {a:Int} {n:Nat} (h:Bt a n) (hn:n≤32768000000000):Sm (a-1):=(bt_pred h).sm (by omega)
theorem zreadP (t:List UInt8) (w:World) (hok:numOk t=true) (hl:(body t).length≤1000) :
  Calls Try.prog 76 #[.string (bs t)] w (Z4.RetZ w (parseZ t)):=by
 have e:parseZ t=numVal t:=by unfold parseZ;rw[if_pos hok,if_pos hl]
 have h1:=parseZ_bt t
 rw[e] at h1 ⊢
 exact Z4.zread_any t w (by have:=body_length t;split at this<;>omega) (numOk_canon hok).1.digs (h1.sm (by omega))
theorem cWord (t:List UInt8) (sg:Bool) (hs:t.length≤9223372036854775807):Con Try.prog AN 74 [.str t,.bool sg,.bool sg] (.tup [.int .i64 (numLen sg t).1,.bool (numLen sg t).2]):=con3 fun base w v1 v2 v3 hav h1 h2 h3=>by
 cases str_V h1;cases bool_V h2;cases bool_V h3
 exact (Z4.word_any t sg w hs).mono fun e w' h=>⟨_,h.1,fun _ _=>tup2_V (.int _ _) (.bool _),h.2⟩
theorem cDigs (t:List UInt8) (hs:t.length≤9223372036854775807):Con Try.prog AN 75 [.str t] (.int .i64 (body t).length):=con1 fun base w v1 hav h1=>by
 cases str_V h1
 exact (Z4.digitsOf_any t w hs).mono fun e w' h=>⟨_,h.1,fun _ _ => .int _ _,h.2⟩
theorem cRead (t:List UInt8) (hok:numOk t=true) (hl:(body t).length≤1000):Con Try.prog AN 76 [.str t] (encZ (parseZ t)):=con1 fun base w v1 hav h1=>by
 cases str_V h1
 exact (zreadP t w hok hl).mono fun e w' ⟨x,h1,h2,h3⟩=>⟨_,h1,fun _ hav=>V_encZ h2 hav,h3⟩
theorem cZOf (n:Int) (hn:-9223372036854775808≤n∧n≤9223372036854775807):Con Try.prog AN 73 [.int .i64 n] (encZ n):=con1 fun base w v1 hav h1=>by
 cases int_V h1
 exact (Z4.of_any n w hn).mono fun e w' ⟨x,h1,h2,h3⟩=>⟨_,h1,fun _ hav=>V_encZ h2 hav,h3⟩
theorem cParse (t:List UInt8) (hs:t.length≤9223372036854775807):Con Try.prog AN 20 [.str t] (.tup [encFI (fracR t).1 (fracR t).2.1,flt (fracR t).2.2.1 (fracR t).2.2.2]):=con1 fun base w v1 hav h1=>by
 cases str_V h1
 exact (parseFrac_any t w hs).mono fun e w' ⟨x,y,h1,h2,h3,h4⟩=>⟨_,h1,fun _ hav=>tup2_V (V_encFI h2 h3 hav) (V_flt _ _),h4⟩
theorem cIMul (a b:Int) (n:Nat) (ba:Bt a n) (bb:Bt b n) (hn:n≤66355200000000):Con Try.prog AN 63 [encI (a),encI (b)] (encI (a*b)):=con2 fun base w v0 v1 hav h0 h1=>by
 obtain⟨x,rfl,hx⟩:=encI_V h0 (fsm9 ba hn)
 obtain⟨y,rfl,hy⟩:=encI_V h1 (fsm9 bb hn)
 exact (mul_any x y a b w hx hy ((ba.mul bb).sm (by omega))).mono fun e w' ⟨x,h1,h2,h3⟩=>⟨_,h1,fun _ hav=>V_encI h2 hav,h3⟩
theorem cZMul (a b:Int) (n:Nat) (ba:Bt a n) (bb:Bt b n) (hn:n≤66355200000000):Con Try.prog AN 52 [encZ (a),encZ (b)] (encZ (a*b)):=con2 fun base w v0 v1 hav h0 h1=>by
 obtain⟨x,rfl,hx⟩:=encZ_V h0 (fsm9 ba hn)
 obtain⟨y,rfl,hy⟩:=encZ_V h1 (fsm9 bb hn)
 exact (Z4.mul_any x y a b w hx hy ((ba.mul bb).sm (by omega))).mono fun e w' ⟨x,h1,h2,h3⟩=>⟨_,h1,fun _ hav=>V_encZ h2 hav,h3⟩
theorem cText (a b:Int) (n:Nat) (ba:Bt a n) (bb:Bt b n) (hn:n≤32768000000000):Con Try.prog AN 10 [encFI (a) (b)] (.str (frText a b)):=con1 fun base w v0 hav h0=>by
 obtain⟨x,y,rfl,hx,hy⟩:=encFI_V h0 (fsm ba hn) (psm bb hn)
 exact (ftext_any x y a b w hx hy (fsm bb hn)).mono fun e w' h=>⟨_,h.1,fun _ _=>V_str _,h.2⟩
theorem cTextZ (a b:Int) (n:Nat) (ba:Bt a n) (bb:Bt b n) (hn:n≤32768000000000):Con Try.prog AN 11 [encFZ (a) (b)] (.str (frText a b)):=con1 fun base w v0 hav h0=>by
 obtain⟨x,y,rfl,hx,hy⟩:=encFZ_V h0 (fsm ba hn) (fsm bb hn)
 exact (Z4.ftext_any x y a b w hx hy).mono fun e w' h=>⟨_,h.1,fun _ _=>V_str _,h.2⟩
theorem cWhole (a:Int) (n:Nat) (ba:Bt a n) (hn:n≤32768000000000):Con Try.prog AN 37 [encI (a)] (encFI a 1):=con1 fun base w v0 hav h0=>by
 obtain⟨x,rfl,hx⟩:=encI_V h0 (fsm ba hn)
 exact (whole_any x a w hx).mono fun e w' ⟨x,y,h1,h2,h3,h4⟩=>⟨_,h1,fun _ hav=>V_encFI h2 h3 hav,h4⟩
theorem cOverZ (a b:Int) (n:Nat) (ba:Bt a n) (bb:Bt b n) (hn:n≤66355200000000) (hb0:b≠0):Con Try.prog AN 51 [encZ (a),encZ (b)] (.tup [encFZ (frN a b) (frD a b),flt 0 0]):=con2 fun base w v0 v1 hav h0 h1=>by
 obtain⟨x,rfl,hx⟩:=encZ_V h0 (fsm9 ba hn)
 obtain⟨y,rfl,hy⟩:=encZ_V h1 (fsm9 bb hn)
 exact (Z4.over_any x y a b n w hx hy ba bb (by omega) hb0).mono fun e w' ⟨x,y,h1,h2,h3,h4⟩=>⟨_,h1,fun _ hav=>tup2_V (V_encFZ h2 h3 hav) (V_flt _ _),h4⟩
theorem cQuo (a b c d:Int) (n:Nat) (ba:Bt a n) (bb:Bt b n) (bc:Bt c n) (bd:Bt d n) (hn:n≤32768000000000) (hb:0<b) (hc:c≠0):Con Try.prog AN 50 [encFI (a) (b),encFI (c) (d)] (.tup [encFI (frN (a*d) (b*c)) (frD (a*d) (b*c)),flt 0 0]):=con2 fun base w v0 v1 hav h0 h1=>by
 obtain⟨x,y,rfl,hx,hy⟩:=encFI_V h0 (fsm ba hn) (psm bb hn)
 obtain⟨u,v,rfl,hu,hv⟩:=encFI_V h1 (fsm bc hn) (psm bd hn)
 exact (fquo_any x y u v a b c d n w hx hy hu hv ba bb bc bd hn hb hc).mono fun e w' ⟨x,y,h1,h2,h3,h4⟩=>⟨_,h1,fun _ hav=>tup2_V (V_encFI h2 h3 hav) (V_flt _ _),h4⟩
theorem cIAdd (a b:Int) (n:Nat) (ba:Bt a n) (bb:Bt b n) (hn:n≤66355200000000):Con Try.prog AN 83 [encI (a),encI (b)] (encI (a+b)):=con2 fun base w v0 v1 hav h0 h1=>by
 obtain⟨x,rfl,hx⟩:=encI_V h0 (fsm9 ba hn)
 obtain⟨y,rfl,hy⟩:=encI_V h1 (fsm9 bb hn)
 exact (add_any x y a b w hx hy ((ba.add bb).sm (by omega))).mono fun e w' ⟨x,h1,h2,h3⟩=>⟨_,h1,fun _ hav=>V_encI h2 hav,h3⟩
theorem cZAdd (a b:Int) (n:Nat) (ba:Bt a n) (bb:Bt b n) (hn:n≤66355200000000):Con Try.prog AN 98 [encZ (a),encZ (b)] (encZ (a+b)):=con2 fun base w v0 v1 hav h0 h1=>by
 obtain⟨x,rfl,hx⟩:=encZ_V h0 (fsm9 ba hn)
 obtain⟨y,rfl,hy⟩:=encZ_V h1 (fsm9 bb hn)
 exact (Z4.add_any x y a b w hx hy ((ba.add bb).sm (by omega))).mono fun e w' ⟨x,h1,h2,h3⟩=>⟨_,h1,fun _ hav=>V_encZ h2 hav,h3⟩
theorem cINeg (a:Int) (n:Nat) (ba:Bt a n) (hn:n≤66355200000000):Con Try.prog AN 80 [encI (a)] (encI (-a)):=con1 fun base w v0 hav h0=>by
 obtain⟨x,rfl,hx⟩:=encI_V h0 (fsm9 ba hn)
 exact (neg_any x a w hx).mono fun e w' ⟨x,h1,h2,h3⟩=>⟨_,h1,fun _ hav=>V_encI h2 hav,h3⟩
theorem cZNeg (a:Int) (n:Nat) (ba:Bt a n) (hn:n≤66355200000000):Con Try.prog AN 55 [encZ (a)] (encZ (-a)):=con1 fun base w v0 hav h0=>by
 obtain⟨x,rfl,hx⟩:=encZ_V h0 (fsm9 ba hn)
 exact (Z4.neg_any x a w hx).mono fun e w' ⟨x,h1,h2,h3⟩=>⟨_,h1,fun _ hav=>V_encZ h2 hav,h3⟩
theorem cISign (a:Int) (n:Nat) (ba:Bt a n) (hn:n≤66355200000000):Con Try.prog AN 43 [encI (a)] (.int .i64 (sgnZ a)):=con1 fun base w v0 hav h0=>by
 obtain⟨x,rfl,hx⟩:=encI_V h0 (fsm9 ba hn)
 exact (sign_any x a w hx).mono fun e w' h=>⟨_,h.1,fun _ _ => .int _ _,h.2⟩
theorem cZSign (a:Int) (n:Nat) (ba:Bt a n) (hn:n≤66355200000000):Con Try.prog AN 78 [encZ (a)] (.int .i64 (sgnZ a)):=con1 fun base w v0 hav h0=>by
 obtain⟨x,rfl,hx⟩:=encZ_V h0 (fsm9 ba hn)
 exact (Z4.sign_any x a w hx).mono fun e w' h=>⟨_,h.1,fun _ _ => .int _ _,h.2⟩
theorem cBelow (a b:Int) (n:Nat) (ba:Bt a n) (bb:Bt b n) (hn:n≤32768000000000):Con Try.prog AN 45 [encFI (a) (b)] (encI b):=con1 fun base w v0 hav h0=>by
 obtain⟨x,y,rfl,hx,hy⟩:=encFI_V h0 (fsm ba hn) (psm bb hn)
 exact (below_any x y a b w hx hy (fsm bb hn)).mono fun e w' ⟨x,h1,h2,h3⟩=>⟨_,h1,fun _ hav=>V_encI h2 hav,h3⟩
theorem cLowest (a b:Int) (n:Nat) (ba:Bt a n) (bb:Bt b n) (hn:n≤66355200000000) (hb0:b≠0):Con Try.prog AN 59 [encI (a),encI (b)] (encFI (frN a b) (frD a b)):=con2 fun base w v0 v1 hav h0 h1=>by
 obtain⟨x,rfl,hx⟩:=encI_V h0 (fsm9 ba hn)
 obtain⟨y,rfl,hy⟩:=encI_V h1 (fsm9 bb hn)
 exact (lowest_any x y a b n w hx hy ba bb hn hb0).mono fun e w' ⟨x,y,h1,h2,h3,h4⟩=>⟨_,h1,fun _ hav=>V_encFI h2 h3 hav,h4⟩
set_option linter.defProp false
def hI (z:Int):D:=.bool (decide (z<0))
def lI (z:Int):D:=.list 116 1 ((digs 4294967296 z.natAbs).map (D.int .u32))
def hZ (z:Int):D:=.bool (decide (z<0))
def lZ (z:Int):D:=.list 3 1 ((digs 10000 z.natAbs).map (D.int .i64))
theorem one_hI (z:Int):(hI z).one=true:=rfl
theorem one_lI (z:Int):(lI z).one=true:=rfl
theorem one_hZ (z:Int):(hZ z).one=true:=rfl
theorem one_lZ (z:Int):(lZ z).one=true:=rfl
theorem cells_I (z:Int):(encI z).cells=[hI z,lI z]:=rfl
theorem cells_Z (z:Int):(encZ z).cells=[hZ z,lZ z]:=rfl
theorem cells_FI (a b:Int):(encFI a b).cells=[hI a,lI a,hI (b-1),lI (b-1)]:=rfl
theorem cells_FZ (a b:Int):(encFZ a b).cells=[hZ a,lZ a,hZ b,lZ b]:=rfl
theorem isAgg_I (z:Int):(encI z).isAgg=true:=rfl
theorem isAgg_Z (z:Int):(encZ z).isAgg=true:=rfl
theorem isAgg_FI (a b:Int):(encFI a b).isAgg=true:=rfl
theorem isAgg_FZ (a b:Int):(encFZ a b).isAgg=true:=rfl
theorem fold_Z (z:Int):D.agg [hZ z,lZ z]=encZ z:=rfl
theorem fold_FZ (a b:Int):D.agg [hZ a,lZ a,hZ b,lZ b]=encFZ a b:=rfl
theorem fold_FZ0 (b:Int):D.agg [.bool false,.list 3 1 [],hZ b,lZ b]=encFZ 0 b:=by
 have e:digs 10000 0=[]:=by rw[digs];simp
 unfold encFZ
 rw[show (0:Int).natAbs=0 from rfl,e]
 rfl
theorem part_Z0 (a b:Int):(encFZ a b).part 0 2 true=some (encZ a):=rfl
theorem part_Z2 (a b:Int):(encFZ a b).part 2 2 true=some (encZ b):=rfl
theorem bt_one' (n:Nat) (h:n≠0):Bt 1 n:=by unfold Bt;exact Nat.one_lt_two_pow h
theorem bt_one:Bt 1 4000:=bt_one' 4000 (by omega)
theorem drop_all (t:List UInt8) (k:Nat):(t.drop k).take (t.length-k)=t.drop k:=List.take_of_length_le (by simp)
theorem drop_all1 (t:List UInt8) (k:Nat):(t.drop (k+1)).take (t.length-k-1)=t.drop (k+1):=List.take_of_length_le (by simp;omega)
theorem byt_e (t:List UInt8) (i:Nat):(((t.getD i 0).toNat:Nat):Int)=(byt t i:Int):=rfl
def csN:=And.intro @one_hI (And.intro @one_lI (And.intro @one_hZ (And.intro @one_lZ (And.intro @cells_I (And.intro @cells_Z (And.intro @cells_FI (And.intro @cells_FZ (And.intro @isAgg_I (And.intro @isAgg_Z (And.intro @isAgg_FI (And.intro @isAgg_FZ (And.intro @fold_Z (And.intro @fold_FZ (And.intro @fold_FZ0 (And.intro @part_Z0 (And.intro @part_Z2 (And.intro @drop_all (And.intro @drop_all1 (@byt_e)))))))))))))))))))
def csM:=And.intro csN (And.intro @AV.mk.eq_1 (And.intro @pureL.eq_1 (And.intro @pureL.eq_2 (And.intro @AV.pure.eq_1 (And.intro @AV.pure.eq_2 (And.intro @AV.pure.eq_3 (And.intro @AV.pure.eq_4 (And.intro @fillA.eq_1 (And.intro @fillA.eq_2 (And.intro @flt.eq_1 (And.intro @AV.get.eq_1 (And.intro @AV.part.eq_1 (And.intro @AV.part.eq_2 (And.intro @D.part.eq_1 (@partD.eq_1)))))))))))))))
end Go.Proofs.Ytdjbfgfbpimakaa.M
