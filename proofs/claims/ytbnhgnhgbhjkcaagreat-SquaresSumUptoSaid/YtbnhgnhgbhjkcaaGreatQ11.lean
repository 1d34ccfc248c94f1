/- Lemmas. -/
import Derived.Test.YtbnhgnhgbhjkcaaGreatQ10
import Derived.Lib.AppendZeros
namespace Go.Proofs.YtbnhgnhgbhjkcaaGreat.M
set_option linter.unusedSimpArgs false
open Go.RowKit
section
variable {P:Program}{w0:World}{base:Bs}{nt:Nat}{loc:aX}{s t:St}{a:Act}{w:World}{o:Oper}{id:Nat}{d:AV}
theorem Vz {f:FuncId}{args:List Opd}{x:Option (Bool×AV×St)} (h:ev (.call f args) id s=x):x=none:=by
 subst h;rfl
theorem VA {fs:List FuncId}{x:Opd}{args:List Opd}{y:Option (Bool×AV×St)} (h:ev (.callv fs x args) id s=y):y=none:=by
 subst h;rfl
theorem nU (h:Rel w0 base nt loc s a w):∀(l:List Operand) (ds:List D),cL s.r s.m (l.map (opd P none))=some ds→l.length=ds.length∧∀(i:Nat) (e:D),ds[i]? = some e→∃x,l[i]? = some x∧V w (NB base s.m loc w) (a.eval x) e
 |[],ds,hd=>by
  simp only[List.map_nil,cL,z99] at hd;subst hd;exact⟨rfl,fun i e he=>by simp at he⟩
 |x::l,ds,hd=>by
  simp only[z89,cL] at hd;split at hd
  case h_2=>cases hd
  rename_i d' ds' h1 h2;simp only[z99] at hd;subst hd;obtain⟨g1,g2⟩:=nU h l ds' h2;refine⟨by simp[g1],fun i e he => ?_⟩
  match i,he with
  |0,he =>
   simp at he;subst he;exact⟨x,rfl,f9 h h1 (h.opd (P:=P) none x)⟩
  |i+1,he=>simpa using g2 i e (by simpa using he)
theorem VB {fn:Fn}{x y:Array Operand} (h:Rel w0 base nt loc s a w) (ho:o.op = .makeFunc fn x y) (he:ev (.fnv fn (x.toList.map (opd P none)) (y.toList.map (opd P none))) id s=some (true,d,t)):aM P w0 base nt o a w t d:=by
 simp only[ev] at he;split at he
 case h_2=>cases he
 rename_i l k hl hk;simp only[z99,z97,true_and] at he;obtain⟨rfl,rfl⟩:=he;obtain⟨g1,g2⟩:=nU (P:=P) h _ _ hl;obtain⟨g3,g4⟩:=nU (P:=P) h _ _ hk;have get:∀(z:Array Operand) (i:Nat) (q:Operand),z.toList[i]? = some q→(z.map a.eval).getD i undef=a.eval q:=fun z i q hq=>by
  have:z[i]? = some q:=by simpa using hq
  simp[this]
 refine aT h (v:=.func fn (x.map a.eval) (y.map a.eval)) (by simp[execOp,ho,Instr.makeFunc]) (.p _ _ (.fn _ _ _ _ _ (by simpa using g1) (by simpa using g3) (fun i e he => ?_) (fun i e he => ?_)))
 ·obtain⟨q,hq,hv⟩:=g2 i e he;rw[get x i q hq];exact hv
 ·obtain⟨q,hq,hv⟩:=g4 i e he;rw[get y i q hq];exact hv
theorem VC {T E TN:TypeId}{c:Call}{kn:IntKind}{x y:Operand}{l:List D}{ag:Bool}{sz bytes:Nat}{ti:TypeInfo}{U W:Option TypeId} (h:Rel w0 base nt loc s a w) (ho:o.op = .call c) (hc:c.callee = .builtin .append) (ha:c.args.toList=[x,y]) (hT:c.argTypes.toList=[T,TN])
  (hu:P.underlying T=some (.slice E)) (hun:P.underlying TN=some (.int kn)) (hz:ZOk P E l ag sz) (hi:P.info? E=some ti) (hb:ti.bytes=bytes) (he:ev (.appZ E sz bytes (if ag then .agg l else l.headD default) (opd P U x) (opd P W y)) id s=some (true,d,t)):aM P w0 base nt o a w t d:=by
 have ha':c.args = #[x,y]:=by rw[←z87];exact ha
 have hT':c.argTypes = #[T,TN]:=by rw[←z87];exact hT
 have hx:=h.opd (P:=P) U x;simp only[ev] at he;split at he
 case h_2=>cases he
 rename_i hid;split at he
 case h_2=>cases he
 rename_i T' sz' k hk hn;split at he
 case isFalse=>cases he
 rename_i hcc;obtain⟨rfl,hs0⟩:=hcc;simp only[z99,z97,z8T] at he;obtain⟨⟨h0,h2,h3⟩,rfl,rfl⟩:=he;obtain⟨k1,hy⟩:=dJ h hn;obtain⟨q,rfl⟩:=z9W (Int.le_of_lt h0);obtain⟨z,hr,hsz,hl,hcell,-⟩:=ik (w:=w) hz;have hcl:(if ag then D.agg l else l.headD default).cells=l:=by
  cases ag with
  |true=>rfl
  |false =>
   have:sz'=1:=by obtain⟨_,_,_,_,_,_,_,h6⟩:=hz;exact h6 rfl
   match l,hl with
   |[e],_ =>
    have:=(hcell 0 e rfl).1;cases e<;>first | rfl | simp[D.one] at this
   |[],hl=>simp at hl;omega
   |_::_::_,hl=>simp at hl;omega
 have hTy:bU P E ag sz':=by obtain⟨_,_,_,_,h3,_⟩:=hz;exact h3
 obtain⟨i',z',g1,g2,g3,_⟩:=hz;rw[hi] at g1;cases g1;have hzz:z'=z:=by
  have:(zeroValue E).run P w = .ok z' w:=by simp[zeroValue,typeInfo,hi,g2]
  rw[this] at hr;injection hr
 subst hzz;have his:ti.size=sz':=by obtain⟨_,i2,_,_,h3,h4⟩:=hTy;rw[hi] at h3;cases h3;exact h4
 rw[hk] at hx;generalize hxv:a.eval x=v at hx;cases hx;have hq:0<q:=by omega
 have hr:=Lib.run_append_nil_zeros (P:=P) w T TN o.type E ti z' k1 kn hu hun hi g2 q hq (by omega) (by omega) (by
  rw[hb];have:bytes*q=q*bytes:=z8U _ _;have h2':((bytes*q:Nat):Int)≤140737488355328:=by rw[Int.natCast_mul];exact h2
  omega)
 have hge:=grownCap_ge w q 0 E;have hle:grownCap w q 0 E≤maxLen:=grownCap_le_maxLen w q 0 E (by unfold maxLen;omega);unfold maxLen at hle;have hmul:=z92 sz' hge;have hdrew:Ext w w.drew:=Below.drew (Below.refl _ _);generalize hcv:Builtin.zeroCells z'.cells q++Builtin.zeroCells z'.cells (grownCap w q 0 E-q)=cv at hr;have hcs:cv.size=grownCap w q 0 E*sz':=by
  rw[←hcv,Array.size_append,size_zeroCells,size_zeroCells,hsz,←z9F];congr 1;omega
 obtain⟨loc',hl',hrel⟩:=(h.later hdrew).alloc (T:=E) (c:=cv) (k:=.row (List.replicate q (if ag then D.agg l else l.headD default))) (sz:=sz') hid (by
  refine⟨by simp;omega,fun e he => ?_,fun i e j d hi hj => ?_⟩
  ·rw[z9b he,hcl,hl]
  ·have hiq:i<q:=by have:=(z98.1 hi).1;simpa using this
   have he:=z9b (z90 hi);rw[he,hcl] at hj;have hjl:j<sz':=by have:=(z98.1 hj).1;omega
   obtain⟨g1,g2⟩:=hcell j d hj;refine⟨g1,?_⟩;have hlt:i*sz'+j<q*sz':=by
    have:=z92 sz' (show i+1≤q by omega);rw[z9F] at this;omega
   have hmod:(i*sz'+j) % sz'=j:=by rw[Nat.add_comm,Nat.add_mul_mod_self_right];exact Nat.mod_eq_of_lt hjl
   have:=g2 w.drew (NB base s.m loc w);have hget:cv.getD (i*sz'+j) undef=z'.cells.getD j undef:=by
    rw[←hcv];simp only[z9Y];rw[z84 (by rw[size_zeroCells,hsz];exact hlt)];simp[Builtin.zeroCells,hsz,hlt,hmod,hjl]
   rw[z9o,hget];exact this)
 have hy':a.eval y = .int k1 (q:Int):=hy;have hr':(Builtin.append_ #[T,TN] o.type #[a.eval x,a.eval y]).run P w = .ok (.slice (some ⟨w.heap.size,0,none⟩) q (grownCap w q 0 E)) (w.drew.alloc (.cells cv E)):=by
  rw[hxv,hy'];exact hr
 refine⟨.slice (some ⟨w.heap.size,0,none⟩) q (grownCap w q 0 E),w.drew.alloc (.cells cv E),loc',.inl ?_,hrel,?_⟩
 ·simp[execOp,ho,resolve,hc,ha',hT',invoke,builtin,hr']
 ·have:=RV.slice (w:=w.drew.alloc (.cells cv E)) (N:=NB base (upd s.m id (some ⟨E,sz',.row (List.replicate q (if ag then D.agg l else l.headD default)),false⟩)) loc' (w.drew.alloc (.cells cv E))) _ id 0 q (grownCap w q 0 E) hl' rfl hge (by omega) (by simp[hcs]);simpa using this
theorem sim (h:Rel w0 base nt loc s a w){ao:AOp} (hc:aop P o=some ao) (hnc:∀T sz b y,ao≠.copyS T sz b y) (hnd:∀x y,ao≠.copyA x y) (hne:∀sz z x,ao≠.clearS sz z x) (he:ev ao id s=some (true,d,t)):aM P w0 base nt o a w t d:=by
 cases hop:o.op<;>simp only[aop,hop] at hc
 case move x=>cases hc;exact tf h (.inl hop) he
 case assign x=>cases hc;exact tf h (.inr hop) he
 case nilCheck x=>cases hc;exact Wl h hop he
 case pick c x y=>cases hc;exact Wm h hop he
 case alloc T =>
  split at hc
  ·rename_i l ag sz hz;split at hc
   ·rename_i hok;cases hc;simp only[tR,z9S,beq_iff_eq,z9C] at hok;exact Ma h hop (fY hz) he hok.1 hok.2
   ·cases hc
  ·cases hc
 case box T x =>
  split at hc
  ·cases hc;exact Mb h hop he
  ·cases hc
 case build T parts =>
  split at hc
  case h_3=>cases hc
  ·rename_i l sz fs hz hu;split at hc
   case h_2=>cases hc
   rename_i places hpl;split at hc
   case h_2=>cases hc
   rename_i ps hps;cases hc;exact zcC h hop (fY hz) hu hpl hps he
  ·rename_i l sz n e hz hu;split at hc
   case h_2=>cases hc
   rename_i ie hi;cases hc;exact xu h hop (fY hz) hu hi he
 case buildSlice T n parts =>
  split at hc
  case h_2=>cases hc
  rename_i e hu;split at hc
  case h_2=>cases hc
  rename_i l ag sz hz;split at hc
  case isFalse=>cases hc
  rename_i hn;cases hc;exact zcG h hop hu (fY hz) hn.1 hn.2 he
 case load T x =>
  split at hc
  case h_2=>cases hc
  rename_i ag sz hT;split at hc
  case isFalse=>cases hc
  rename_i hs;cases hc;exact Wn h hop (dX hT) (fun e=>by simpa[e] using hs) he
 case store T x v =>
  split at hc
  case h_2=>cases hc
  rename_i ag sz hT;cases hc;exact zbL h hop (dX hT) he
 case binOp op T x y Y =>
  split at hc
  ·cases hc;exact oq h hop (by simp) he
  ·cases hc;exact oq h hop (by simp) he
  ·rename_i hu;cases hc;exact oq h hop (fun _=>hu) he
  ·rename_i fs hu;split at hc
   case isFalse=>cases hc
   rename_i hi;split at hc
   ·cases hc;exact wb h hop (by simp) hi hu he
   ·cases hc;exact wb h hop (by simp) hi hu he
   ·cases hc
  ·split at hc
   ·cases hc;cases he
   ·cases hc;cases he
   ·cases hc
  ·rename_i n e hu;split at hc
   case isFalse=>cases hc
   rename_i hi;split at hc
   ·cases hc;exact qr (neg:=false) h hop (by simp) hu hi he
   ·cases hc;exact qr (neg:=true) h hop (by simp) hu hi he
   ·cases hc
  ·cases hc
 case unOp op T x=>cases hc;exact Xo h hop he
 case convert S T x =>
  split at hc
  ·rename_i hS hT;cases hc;exact Xp h hop hS hT he
  ·rename_i hS hT;split at hc
   ·rename_i hE;cases hc;exact xz h hop hS hT hE he
   ·cases hc
  ·rename_i hS hT;split at hc
   ·rename_i hE;cases hc;exact xy h hop hS hT hE he
   ·cases hc
  ·cases hc
 case makeSlice T l c =>
  split at hc
  case h_2=>cases hc
  rename_i e hu;split at hc
  case h_2=>cases hc
  rename_i z ag sz i hz hi;cases hc;exact Mc h hop hu (fY hz) hi rfl he
 case slice T x lo hi mx =>
  split at hc
  ·rename_i hu;split at hc
   ·cases hc
   ·rename_i hm;cases hc;have hm':mx=none:=by cases mx<;>simp at hm;rfl
    subst hm';exact L6 h hop hu he
  ·rename_i e hu;split at hc
   case h_2=>cases hc
   rename_i ag sz hT;split at hc
   ·cases hc
   ·rename_i hm;cases hc;exact L7 h hop hu (dX hT) (fun hh=>by cases hi<;>simp_all) he
  ·rename_i n e hu;split at hc
   case h_2=>cases hc
   rename_i ag hT;split at hc
   ·cases hc
   ·rename_i hm;cases hc;exact xw h hop hu (dX hT) (fun hh=>by cases hi<;>simp_all) he
  ·cases hc
 case fieldAddr S x f =>
  split at hc
  case h_2=>cases hc
  rename_i fs hu;split at hc
  case h_2=>cases hc
  rename_i g hf;split at hc
  case h_2=>cases hc
  rename_i ag sz hT;split at hc
  ·cases hc
  ·rename_i hz;cases hc;exact zaX h hop hu hf (dX hT) (by simpa using hz) he
 case field S x f =>
  split at hc
  case h_2=>cases hc
  rename_i fs hu;split at hc
  case h_2=>cases hc
  rename_i g hf;split at hc
  case h_2=>cases hc
  rename_i ag sz hT;cases hc;exact zaW h hop hu hf (dX hT) he
 case indexAddr T x i =>
  split at hc
  case h_3=>cases hc
  ·rename_i e hu;split at hc
   case h_2=>cases hc
   rename_i ag sz hT;cases hc;exact za1 h hop hu (dX hT) he
  ·rename_i n e hu;split at hc
   case h_2=>cases hc
   rename_i ag sz hT;cases hc;exact zaZ h hop hu (dX hT) he
 case index T x i =>
  split at hc
  ·rename_i hu;cases hc;exact za2 h hop hu he
  ·rename_i n e hu;split at hc
   case h_2=>cases hc
   rename_i ag sz hT;cases hc;exact za0 h hop hu (dX hT) he
  ·cases hc
 case makeFunc fn x y=>cases hc;exact VB h hop he
 case panic x=>cases hc;cases he
 case makeInterface T x=>cases hc;cases he
 case extract x i=>cases hc;exact za3 h hop he
 case call c =>
  split at hc
  ·cases hc;cases Vz he
  ·cases hc;cases VA he
  ·rename_i hcal;split at hc
   ·rename_i x T hx hT;split at hc
    ·rename_i hu;cases hc;exact Xt h hop hcal hx hT hu he
    ·rename_i e hu;cases hc;exact Xu h hop hcal hx hT hu he
    ·cases hc
   ·cases hc
  ·rename_i hcal;split at hc
   ·rename_i x T hx hT;split at hc
    ·rename_i e hu;cases hc;exact Xr h hop hcal hx hT hu he
    ·cases hc
   ·cases hc
  ·rename_i hcal;split at hc
   ·rename_i x y hx;cases hc;exact tW (mx:=true) h hop hcal hx he
   ·cases hc
  ·rename_i hcal;split at hc
   ·rename_i x y hx;cases hc;exact tW (mx:=false) h hop hcal hx he
   ·cases hc
  ·rename_i hcal;split at hc
   ·rename_i x y T TN hx hT;split at hc
    ·split at hc
     ·split at hc
      ·simp only[z99] at hc;rcases dg hc with⟨_,_,_,_,_,rfl⟩ | ⟨_,_,_,_,rfl⟩
       ·cases he
       ·exact absurd rfl (hnc _ _ _ _)
      ·cases hc
     ·cases hc
    ·rename_i e kn hu hun;split at hc
     ·rename_i l ag sz i hz hi;cases hc;exact VC h hop hcal hx hT hu hun (fY hz) hi rfl he
     ·cases hc
    ·cases hc
   ·cases hc
  ·split at hc
   ·split at hc
    ·split at hc
     ·cases hc;exact absurd rfl (hnd _ _)
     ·cases hc
    ·cases hc
   ·cases hc
  ·split at hc
   ·split at hc
    ·split at hc
     ·cases hc;exact absurd rfl (hne _ _ _)
     ·cases hc
    ·cases hc
   ·cases hc
  ·cases hc
 all_goals cases hc
end
end Go.Proofs.YtbnhgnhgbhjkcaaGreat.M
