/- Lemmas. -/
import Derived.Test.YtbnhgnhgbhjkcaaGreatV44
set_option linter.defProp false
set_option linter.unusedSimpArgs false
set_option linter.unusedVariables false
namespace Go.Proofs.YtbnhgnhgbhjkcaaGreat.M
open Go.RowKit
theorem YS (t:Tm):D.agg (List.take 4 (List.drop 4 (tI t).cells))=moD t.2:=rfl
theorem YT (t:Tm):D.agg (List.take 4 (tI t).cells)=qI t.1:=rfl
theorem YU (q:Rat) (a b c d:AV):(8≤((qI q).cells.map AV.p++[a,b,c,d]).length)=True:=eq_true (Nat.le_refl 8)
theorem YV (q:Rat) (e:Ex4) (a b c d:AV):((qI q).cells.map AV.p++[a,b,c,d]).take 4++[AV.p (J e.1),AV.p (J e.2.1),AV.p (J e.2.2.1),AV.p (J e.2.2.2)]++((qI q).cells.map AV.p++[a,b,c,d]).drop 8=(tI (q,e)).cells.map AV.p:=rfl
def aa:=an @YU (an @YV (an @YS (an @YT ci)))
set_option maxRecDepth 20000
set_option maxHeartbeats 4000000
theorem Xy (n:Int) (hn:-9223372036854775808≤n∧n≤9223372036854775807):Con Tryz.prog AN 95 [.int .i64 n] (aT n):=ez fun base w v1 hav h1=>by
 cases lx h1;exact (sC n w hn).mono fun e w' ⟨x,h1,h2,h3⟩=>⟨_,h1,fun _ hav=>fU h2 hav,h3⟩
def ej (v:Nat) (t:Tm):List Tm:=if 0<exE t.2 v then [(t.1*((exE t.2 v:Int):Rat),dQ t.2 v (exE t.2 v-1))] else []
def derT (v:Nat) (a:List Tm):List Tm:=a.flatMap (ej v)
theorem sG {v:Nat} (h:v<4):∀a:List Tm,tl (derT v a)=Mp.derL v (tl a)
 |[]=>rfl
 |t::a=>by
  have ih:=sG h a;have e1:derT v (t::a)=ej v t++derT v a:=List.flatMap_cons;have e2:tl (t::a)=(t.1,moL t.2)::tl a:=rfl;have e3:tl (derT v (t::a))=tl (ej v t)++tl (derT v a):=by rw[e1];unfold tl;rw[List.map_append]
  rw[e3,e2,Mp.derL,ih];unfold ej;by_cases h0:0<exE t.2 v
  ·rw[if_pos h0,if_pos (show 0<(moL t.2).getD v 0 from h0)];unfold tl;simp only[List.map_cons,List.map_nil,nQ t.2 h];rfl
  ·rw[if_neg h0,if_neg (show ¬ 0<(moL t.2).getD v 0 from h0)];rfl
theorem Xz (v:Nat) (t:Tm):(ej v t).length≤1:=by
 unfold ej;split<;>simp
theorem jg (v:Nat):∀a:List Tm,(derT v a).length≤a.length
 |[]=>by simp[derT]
 |t::a=>by
  have:=jg v a;have:=Xz v t;rw[show derT v (t::a)=ej v t++derT v a from List.flatMap_cons,List.length_append,List.length_cons];omega
theorem XA (v:Nat) (a:List Tm){i:Nat} (h:i<a.length):derT v (a.take (i+1))=derT v (a.take i)++ej v (Sy.at_ a i):=by
 rw[gQ h];unfold derT;rw[List.flatMap_append];simp
theorem sH {v:Nat}{a:List Tm}{t:Tm} (h:t∈derT v a):∃y∈a,0<exE y.2 v∧t=(y.1*((exE y.2 v:Int):Rat),dQ y.2 v (exE y.2 v-1)):=by
 obtain⟨y,hy,h⟩:=List.mem_flatMap.1 h;unfold ej at h;split at h
 ·rename_i h0;exact⟨y,hy,h0,by simpa using h⟩
 ·cases h
theorem sI {v:Nat} (hv:v<4){a:List Tm}{D X M:Nat}{G:Int} (ha:∀t∈a,Db D X t.1) (ga:∀t∈a,Gx G t.2) (hG:G≤M):∀t∈derT v a,Db D (X*M) t.1:=fun t ht=>by
 obtain⟨y,hy,h0,rfl⟩:=sH ht;have:=(ha y hy).mul (Db.ofInt (exE y.2 v));rw[Nat.mul_one] at this;have hb:=jq (ga y hy) hv;exact this.mono (Nat.mul_le_mul_left _ (by omega))
theorem sJ {v:Nat} (hv:v<4){a:List Tm}{G:Int} (ga:∀t∈a,Gx G t.2):∀t∈derT v a,Gx G t.2:=fun t ht=>by
 obtain⟨y,hy,h0,rfl⟩:=sH ht;have hb:=jq (ga y hy) hv;exact tu (ga y hy) hv (by omega) (by omega)
theorem ch (t:Tm) (q:Rat):cD ((qI q).cells.map AV.p++((tI t).cells.map AV.p).drop 4)=some (tI (q,t.2)).cells:=rfl
theorem XB (n ord:Int) (v:Nat) (hv:v<4) (a:List Tm){D X M p:Nat}{G:Int} (ha:∀t∈a,Db D X t.1) (ga:∀t∈a,Gx G t.2) (hG:G≤M) (hM:M≤1000000000000)
  (hl:a.length≤1000000000) (hD:D<2^p) (hX:a.length*(X*M)<2^p) (hA:Bc p a) (h64:64≤p) (hp:p≤2048000000000) :
  Con Tryz.prog AN 61 [SmD a n ord,J v] (SmD (cnT ord (derT v a)) n ord):=by
 have hge:∀t∈derT v a,Ge t.2:=fun t ht=>(sJ hv ga t ht).ge (by omega)
 have hdl:=jg v a;have mc:=(m9 n ord (derT v a) (sI hv ha ga hG) hge (by omega) hD (Nat.lt_of_le_of_lt (Nat.mul_le_mul_right _ hdl) hX) hp).x;have hlt:∀i,i≤a.length→(derT v (a.take i)).length≤i:=fun i hi=>by
  have:=jg v (a.take i);rw[List.length_take,Nat.min_eq_left hi] at this;exact this
 refine Gj.con rfl (by simp) ?_;(repeat first|simp only[kV,simprocAttr,aa,ch,Option.map_some,ax]|refine aN ?_);refine kp [1,2,4] ?_;(repeat first|simp only[kV,simprocAttr,aa,ch,Option.map_some,ax]|refine aN ?_);refine kp [1,2,4,5] ?_;(repeat first|simp only[kV,simprocAttr,aa,ch,Option.map_some,ax]|refine aN ?_);refine kp [1,2,4,5,10,11,12] ?_;(repeat first|simp only[kV,simprocAttr,aa,ch,Option.map_some,ax]|refine aN ?_);refine aE (ι:=Nat) (fun i=>i≤a.length) (fun i=>⟨ai [(1,.p (J v)),(2,.ptr 2 0 0),(4,.ptr 4 0 0),(5,.slice 205 0 (derT v (a.take i)).length),(10,.p (LM a)),(11,.p (J a.length)),(12,.p (J i))],
  aw [(2,⟨96,3,.box (.p (SmD a n ord)),false⟩),(4,⟨96,3,.box (.p (SmD [] 0 0)),false⟩),(205,⟨TT,8,.row ((derT v (a.take i)).map tI),false⟩)]⟩) (fun i=>a.length-i) 0 (Nat.zero_le _) (Sub.nilG 5 205 TT 8) ?_
 intro i hi;by_cases h:i<a.length
 ·have hI:(i:Int)<(a.length:Int):=by omega
  have g1:=bY h;have hst:=XA v a h;have hlen:=hlt i hi;have hx:=hA _ (at_mem h);have gt:=ga _ (at_mem h);have hxe:=jq gt hv;generalize derT v (a.take i)=q at *;generalize Sy.at_ a i=t at *;obtain⟨c,e⟩:=t;simp only[ej] at hst gt hxe hx;obtain⟨m,hm⟩:∃m:Int,exE e v=m:=⟨_,rfl⟩
  have gv:=nR (c,e) hv;simp only[hm] at gv;rw[hm] at hst hxe;have hv4:(v:Int)<4:=by omega
  by_cases h0:0<m
  ·rw[if_pos h0] at hst;have c1:=(Xy m (by omega))
   have c2:=zci m p (by unfold Bt;exact Nat.lt_of_lt_of_le (show m.natAbs<2^64 by omega) (Nat.pow_le_pow_right (by omega) h64)) hp;have c3:=uE c (m:Rat) p hx ⟨by rw[Rat.num_intCast];exact Nat.lt_of_lt_of_le (show m.natAbs<2^64 by omega) (Nat.pow_le_pow_right (by omega) h64),by rw[Rat.den_intCast];exact Nat.one_lt_two_pow (by omega)⟩ hp;have f1:(derT v (a.take (i+1))).map tI=q.map tI++[tI (c*(m:Rat),dQ e v (m-1))]:=by rw[hst,List.map_append];rfl
   have f2:(derT v (a.take (i+1))).length=q.length+1:=by rw[hst,List.length_append];rfl
   have gv2:=nR (c*(m:Rat),e) hv;simp only[hm] at gv2;have pv:=tw (c*(m:Rat),e) (m-1) hv;have hv7:4+v≤7:=by omega
   (repeat first|with_reducible refine kp [1,2,4,5,10,11,12,13] ?_|simp only[kV,simprocAttr,aa,ch,Option.map_some,hI]|refine aN ?_);(try simp only[kV,simprocAttr,aa,ch,Option.map_some,hI,g1,h,gv,hv4,hv]);refine ulk ?_;(repeat first|with_reducible refine kp [1,2,4,5,7,8,10,11,12,21] ?_|simp only[kV,simprocAttr,aa,ch,Option.map_some,hI,g1,h,gv,hv4,hv]|refine aN ?_);(try simp only[kV,simprocAttr,aa,ch,Option.map_some,h0]);refine ulk ?_;(repeat first|simp only[kV,simprocAttr,aa,ch,Option.map_some,h0]|refine aN ?_);refine⟨_,cx (c1),ulc ?_⟩;(repeat first|simp only[kV,simprocAttr,aa,ch,Option.map_some]|refine aN ?_);refine⟨_,cx (c2),ulc ?_⟩;(repeat first|simp only[kV,simprocAttr,aa,ch,Option.map_some]|refine aN ?_);refine⟨_,cx (c3),ulc ?_⟩;(repeat first|with_reducible refine kp [1,2,4,5,7,10,11,12] ?_|simp only[kV,simprocAttr,aa,ch,Option.map_some,gv2,hv4,hv,hv7,pv]|refine aN ?_);exact⟨i+1,h,by rw[f1,f2];exact (Sub.toG [1,2,4,5,10,11,12] [7,38]),by omega⟩
  ·rw[if_neg h0,List.append_nil] at hst;(repeat first|with_reducible refine kp [1,2,4,5,10,11,12,13] ?_|simp only[kV,simprocAttr,aa,ch,Option.map_some,hI]|refine aN ?_);(try simp only[kV,simprocAttr,aa,ch,Option.map_some,hI,g1,h,gv,hv4,hv]);refine ulk ?_;(repeat first|with_reducible refine kp [1,2,4,5,7,8,10,11,12,21] ?_|simp only[kV,simprocAttr,aa,ch,Option.map_some,hI,g1,h,gv,hv4,hv]|refine aN ?_);(try simp only[kV,simprocAttr,aa,ch,Option.map_some,h0]);refine ulk ?_;(repeat first|with_reducible refine kp [1,2,4,5,10,11,12] ?_|simp only[kV,simprocAttr,aa,ch,Option.map_some,h0]|refine aN ?_);exact⟨i+1,h,by rw[hst];exact (Sub.toG [1,2,4,5,10,11,12] [7,38]),by omega⟩
 ·have hI:¬ (i:Int)<(a.length:Int):=by omega
  obtain rfl:i=a.length:=by omega
  rw[List.take_length];(repeat first|with_reducible refine kp [1,2,4,5,10,11,12,13] ?_|simp only[kV,simprocAttr,aa,ch,Option.map_some,hI]|refine aN ?_);refine ulk ?_;(repeat first|with_reducible refine kp [2,4,5] ?_|simp only[kV,simprocAttr,aa,ch,Option.map_some,hI]|refine aN ?_);refine⟨_,_,mc,ulc ?_⟩;(repeat first|with_reducible refine kp [4] ?_|simp only[kV,simprocAttr,aa,ch,Option.map_some,ac,ah,ae,af]|refine aN ?_)
abbrev LLM (T:Nat) (a b:List Tm):D:=.list T 1 [LM a,LM b]
theorem wE (n ord:Int):Con Tryz.prog [] 58 [SmD [] n ord] (.tup [qI 0,.bool true]):=by
 refine qw.con rfl (by simp) ?_;(repeat first|with_reducible refine kp [1,2,7] ?_|simp only[kV,simprocAttr,aa,Option.map_some,aO,beq_self_eq_true,bf,List.length_nil,List.map_nil]|refine aN ?_);refine ulk ?_;(repeat first|with_reducible refine kp [2,3] ?_|simp only[kV,simprocAttr,aa,Option.map_some,aO,beq_self_eq_true,ac,ah,ae,af,List.length_nil,List.map_nil]|refine aN ?_);rw[zcn]
theorem wF (n ord:Int) (t:Tm):Con Tryz.prog [] 58 [SmD [t] n ord] (.tup [qI t.1,.bool (decide (moL t.2=[0,0,0,0]))]):=by
 have e1:decide ((1:Int)=0)=false:=by decide
 refine qw.con rfl (by simp) ?_;(repeat first|with_reducible refine kp [1,2,7] ?_|simp only[kV,simprocAttr,aa,Option.map_some,aO,beq_self_eq_true,bf,List.length_cons,List.length_nil,List.map_cons,List.map_nil]|refine aN ?_);(try simp only[kV,simprocAttr,aa,Option.map_some,aO,beq_self_eq_true,e1,List.length_cons,List.length_nil,List.map_cons,List.map_nil,List.getD_cons_zero]);refine ulk ?_;(repeat first|simp only[kV,simprocAttr,aa,Option.map_some,aO,beq_self_eq_true,e1,List.length_cons,List.length_nil,List.map_cons,List.map_nil,List.getD_cons_zero]|refine aN ?_);refine⟨_,(Sub.toG [1,2] []).tr (Sub.showG 1 1 _ (.ref (SmD [t] n ord)) (by rfl) (by rfl)),?_⟩;refine ulk ?_;(repeat first|with_reducible refine kp [2,3] ?_|simp only[kV,simprocAttr,aa,Option.map_some,aO,beq_self_eq_true,ac,ah,ae,af,e1,List.length_cons,List.length_nil,List.map_cons,List.map_nil,List.getD_cons_zero]|refine aN ?_)
abbrev At:=List UInt8×List Int
def atD (U:Nat) (t:At):D:=.agg [.str t.1,.list U 1 (t.2.map (D.int .i64))]
abbrev LTa (T U:Nat) (l:List At):D:=.list T 2 (l.map (atD U))
def wrT (n:Nat) (t:Tm):At:=(frText t.1.num t.1.den,(moL t.2).take n)
abbrev WR (n:Nat) (l:List Tm):List At:=l.map (wrT n)
theorem zc1 (t:Tm) (n:Nat):List.take n (List.drop 4 (tI t).cells)=((moL t.2).take n).map (D.int .i64):=by rw[List.map_take];rfl
def csK:=an @List.replicate_zero.{0} (an @List.nil_append.{0} (an @Bool.false_or (an @true_and (an @Nat.le_refl (@List.take_length.{0})))))
theorem zc2 {T:Nat} (l:List Int) (h:l.length≤1000000):Con Tryz.prog [] 93 [.list T 1 (l.map (D.int .i64))] (.list 3 1 (l.map (D.int .i64))):=by
 refine Fx.con rfl (by simp) ?_;(repeat first|simp only[kV,simprocAttr,bf]|refine aN ?_);refine kp [0] ?_;(repeat first|simp only[kV,simprocAttr,bf]|refine aN ?_);intro b hb;(repeat first|with_reducible refine kp [0,4] ?_|simp only[kV,simprocAttr]|refine aN ?_);refine⟨fun hc => ?_,fun hc => ?_⟩
 ·have hl:l=[]:=by
   rcases l with _ | ⟨x,l⟩
   ·rfl
   ·have:=hb (by simp);subst this;simp at hc
  subst hl;(try simp only[kV,simprocAttr]);refine ulk ?_;(repeat first|with_reducible refine kp [2] ?_|simp only[kV,simprocAttr,ac,ah,ae,af]|refine aN ?_)
 ·(try simp only[kV,simprocAttr,csK]);refine ulk ?_;(repeat first|with_reducible refine kp [0,2] ?_|simp only[kV,simprocAttr,ac,ah,ae,af,csK]|refine aN ?_)
theorem oW (n:Nat) (hn:n≤4) (ord:Int) (a:List Tm){p:Nat} (hA:Bc p a) (hp:p≤2048000000000) (hl:a.length≤1000000000) :
  Con Tryz.prog AN 60 [SmD a n ord] (LTa 83 3 (WR n a)):=by
 have hn4:(n:Int)≤4:=by omega
 have n8:4+n≤8:=by omega
 have n9:n≤9223372036854775807:=by omega
 refine Fs.con rfl (by simp) ?_;(repeat first|simp only[kV,simprocAttr,aa,Option.map_some,bf]|refine aN ?_);refine kp [1] ?_;(repeat first|simp only[kV,simprocAttr,aa,Option.map_some,bf]|refine aN ?_);refine kp [1,3] ?_;(repeat first|simp only[kV,simprocAttr,aa,Option.map_some,bf]|refine aN ?_);refine kp [1,3,7,8,9] ?_;(repeat first|simp only[kV,simprocAttr,aa,Option.map_some,bf]|refine aN ?_);refine aE (ι:=Nat) (fun i=>i≤a.length) (fun i=>⟨ai [(1,.ptr 1 0 0),(3,.slice 205 0 i),(7,.p (LM a)),(8,.p (J a.length)),(9,.p (J i))],
  aw [(1,⟨96,3,.box (.p (SmD a n ord)),false⟩),(205,⟨83,2,.row ((WR n (a.take i)).map (atD 3)),false⟩)]⟩) (fun i=>a.length-i) 0 (Nat.zero_le _) (Sub.nilG 3 205 83 2) ?_
 intro i hi;by_cases h:i<a.length
 ·have hI:(i:Int)<(a.length:Int):=by omega
  have g1:=bY h;have hx:=hA _ (at_mem h);have hst:=gQ h;have hlen:((WR n (a.take i)).map (atD 3)).length=i:=by rw[List.length_map,List.length_map,List.length_take,Nat.min_eq_left hi]
  generalize Sy.at_ a i=t at *;have c1:=oI t.1 p hx hp;have c2:=(zc2 (T:=1000000) ((moL t.2).take n) (by simp[moL];omega)).mono (A':=AN) (by simp);have e1:=zc1 t n;have f1:(WR n (a.take (i+1))).map (atD 3)=(WR n (a.take i)).map (atD 3)++[.agg [.str (frText t.1.num t.1.den),.list 3 1 (((moL t.2).take n).map (D.int .i64))]]:=by rw[hst];unfold WR;rw[List.map_append,List.map_append];rfl
  (repeat first|with_reducible refine kp [1,3,7,8,9,10] ?_|simp only[kV,simprocAttr,aa,Option.map_some,hI]|refine aN ?_);(try simp only[kV,simprocAttr,aa,Option.map_some,hI,g1,h]);refine ulk ?_;(repeat first|simp only[kV,simprocAttr,aa,Option.map_some,hI,g1,h]|refine aN ?_);refine kp [1,3,7,8,9] ?_;(repeat first|simp only[kV,simprocAttr,aa,Option.map_some,hI,g1,h]|refine aN ?_);refine eQ 5 _ [1,3,5,7,8,9] (by rfl) ?_;refine ulk ?_;(repeat first|simp only[kV,simprocAttr,aa,Option.map_some,hI,g1,h]|refine aN ?_);refine⟨_,cx (c1),ulc ?_⟩;(repeat first|simp only[kV,simprocAttr,aa,Option.map_some,hn4,hn,e1,n8,n9,Bool.true_or,true_and]|refine aN ?_);refine⟨_,cx (c2),ulc ?_⟩;(repeat first|with_reducible refine kp [1,3,7,8,9] ?_|simp only[kV,simprocAttr,aa,Option.map_some,hn4,hn,e1,hlen]|refine aN ?_);exact⟨i+1,h,by rw[f1];exact (Sub.toG [1,3,7,8,9] [5,24]),by omega⟩
 ·have hI:¬ (i:Int)<(a.length:Int):=by omega
  obtain rfl:i=a.length:=by omega
  rw[List.take_length];(repeat first|with_reducible refine kp [1,3,7,8,9,10] ?_|simp only[kV,simprocAttr,aa,Option.map_some,hI]|refine aN ?_);refine ulk ?_;(repeat first|with_reducible refine kp [2,3] ?_|simp only[kV,simprocAttr,aa,Option.map_some,ac,ah,ae,af,hI]|refine aN ?_);rw[List.take_of_length_le (by simp)];simp only[Bool.or_true,if_true]
end Go.Proofs.YtbnhgnhgbhjkcaaGreat.M
