/- Lemmas. -/
import Derived.Test.YtbnhgnhgbhjkcaaGreatQ16
import Derived.Test.YtbnhgnhgbhjkcaaGreatQ5
namespace Go.Proofs.YtbnhgnhgbhjkcaaGreat
set_option linter.unusedSimpArgs false
set_option maxRecDepth 100000
set_option maxHeartbeats 1000000
open Go.RowKit
theorem nf {p x:Int} (hp:0≤p∧p≤4294967295) (hx:0≤x∧x≤4294967295):bits BinOp.or IntKind.u64 (p*4294967296) x=p*4294967296+x:=by
 rw[u64_or _ _ (by omega) (by omega) (by omega) (by omega)];rw[nat_join 32 _ _ (by omega) (by omega)];omega
theorem rp {hi lo y:Int} (h0:0≤hi) (h1:hi<y) (h2:0≤lo∧lo≤4294967295):0≤(hi*4294967296+lo) / y∧(hi*4294967296+lo) / y≤4294967295∧0≤(hi*4294967296+lo) % y∧(hi*4294967296+lo) % y<y:=by
 refine⟨Int.ediv_nonneg (by omega) (by omega),?_,z8W _ (by omega),Int.emod_lt_of_pos _ (by omega)⟩;have:(hi*4294967296+lo) / y<4294967296:=Int.ediv_lt_of_lt_mul (by omega) (by omega);omega
theorem Md (hi lo y:Int) (w:World) (h0:0≤hi) (h1:hi<y) (hy:y≤4294967295) (h2:0≤lo∧lo≤4294967295) :
  Calls Tryz.prog 140 #[.int .u32 hi,.int .u32 lo,.int .u32 y] w (fun e w'=>e = .returned (.tuple #[.int .u32 ((hi*4294967296+lo) / y),.int .u32 ((hi*4294967296+lo) % y)])∧Ext w w'):=by
 have ho:=nf (p:=hi) (by omega) h2;have hb:=rp h0 h1 h2;go_enter Tryz.func140,Tryz.ntmps140;go_wp2;go_quiet (fail);go_wp2;go_ret2;exact⟨rfl,below_drewN (Ext.rf _) _⟩
theorem Me {l:List Int}{k:Nat} (h:k<l.length) (v:Int):valL ((l.set k v).drop k)=v+4294967296*valL (l.drop (k+1)):=by
 rw[ju,gi h,List.drop_set_of_lt (by omega)]
def Mf (w:World) (n:Nat) (q r:Int) (e:Ending) (w':World):Prop:=
 ∃(s:SV) (l:List Int),e = .returned (.tuple #[.slice s.a s.len s.cap,.int .u32 r])∧IsL w' s .u32 l∧l.length=n∧valL l=q∧Ext w w'
theorem rq {A D o r:Int} (h:o*D+r=A) (h0:0≤r) (h1:r<D):o=A / D∧r=A % D:=by
 have h2:=z9i A D;have h3:=z8W A (show D≠0 by omega);have h4:=Int.emod_lt_of_pos A (show 0<D by omega);have:A / D=o:=by
  rw[←h,Int.add_comm,Int.add_mul_ediv_right _ _ (by omega),Int.ediv_eq_zero_of_lt h0 h1,Int.zero_add]
 rw[this] at h2;refine⟨this.symm,?_⟩;have e:D*o=o*D:=Int.mul_comm ..;omega
theorem Mg {V o r a D:Int} (h:o*D+r=V):((r*4294967296+a) / D+4294967296*o)*D+(r*4294967296+a) % D=a+4294967296*V:=by
 have h2:=z9i (r*4294967296+a) D;generalize (r*4294967296+a) / D=q at *;generalize (r*4294967296+a) % D=s at *;subst h;grind
theorem Mh (s:SV) (a:List Int) (d:Int) (w:World) (ha:IsL w s .u32 a) (hla:a.length≤1099511627776) (hd:1≤d∧d≤4294967295) :
  Calls Tryz.prog 128 #[.slice s.a s.len s.cap,.int .u32 d] w (Mf w a.length (valL a / d) (valL a % d)):=by
 have da:Dig a:=ha.2;obtain⟨ao,ca,rfl,hca,hcam,hopa⟩:=ha.open_;go_enter Tryz.func128,Tryz.ntmps128;go_wp2_with (at_make;refine fq _ rfl _ _ 84 rfl 173 .u32 4 Tryz.underlying84 d8 _ _ _ _ a.length rfl rfl (by omega) (by omega) (by omega) (by omega) ?_;intro w1 hown1 hx1 hlt1);go_loopw [7,8] (fun rv i wr => ∃(k:Nat) (r:Int) (o:List Int),rv = .int .u32 r∧i = .int .i64 ((k:Int)-1)∧k≤a.length∧Own wr w.heap.size 173 .u32 o∧o.length=a.length∧Dig o∧(0≤r∧r<d) ∧
   valL (o.drop k)*d+r=valL (a.drop k)∧Ext w wr) (fun _ i _=>(intOf i+1).toNat)
 case atStart=>exact⟨a.length,0,_,rfl,rfl,z95 _,hown1,by simp,fA _,by omega,by rw[z9l (by simp),z9l (by simp)];simp[valL],hx1⟩
 case round =>
  obtain⟨k,r,o,rfl,rfl,hk,hown,hol,hdo,hr,hval,hx⟩:=hrel;clear hown1;replace hval:=hd_ hval;replace hol:=hd_ hol
  match k,hk,hval with
  |0,hk,hval =>
   go_wp2;go_ret2;have h1:=rq hval.out hr.1 hr.2;rw[z9u,z9u] at h1;refine⟨⟨some ⟨w.heap.size,0,none⟩,a.length,a.length⟩,o,by rw[←h1.2];rfl,?_,hol.out,h1.1,hx⟩;have:=hown.isL (by have:=hol.out;omega) hdo;rw[hol.out] at this;exact this
  |k+1,hk,hval =>
   rw[show ((k+1:Nat):Int)-1=(k:Int) by omega];obtain⟨ba,oa,rfl,hba,ga⟩:=hopa (by omega);have ga:=(hx.cell (p:=⟨ba,oa+k,none⟩) hba.lt).trans (ga k hk);have fa:=da.at_ k;have hb:=rp (y:=d) hr.1 hr.2 fa;go_wp2_with fail;refine (Md _ _ _ _ hr.1 hr.2 hd.2 fa).mono ?_;rintro e w2 ⟨rfl,hx2⟩;have go:=(hown.keep hx2).cell (i:=k) (by have:=hol.out;omega);have gf:=(hown.keep hx2).frozen k;go_wp2;go_roundw
   case rel =>
    refine⟨k,_,o.set k _,rfl,rfl,by omega,(hown.keep hx2).set k _,by rw[z9R];exact hol.out,hdo.set k ⟨hb.1,hb.2.1⟩,⟨hb.2.2.1,hb.2.2.2⟩,?_,(hx.tr hx2).st (z95 _) _⟩;rw[Me (by have:=hol.out;omega),ju a k];exact Mg hval.out
   case measure=>first | (simp[intOf];done) | (simp[intOf];omega)
theorem jc (n i:Nat):at_ (List.replicate n 0) i=0:=by
 simp only[at_,z91,List.getElem?_replicate];split<;>rfl
def rr (w:World) (n:Nat) (z:Int) (e:Ending) (w':World):Prop:=
 ∃(b:Nat) (l:List Int),e = .returned (.slice (some ⟨b,0,none⟩) n n)∧Own w' b 173 .u32 l∧l.length=n∧Dig l∧valL l=z∧w.heap.size≤b∧Ext w w'
theorem d7 {r:Nat} (h:r<32):(1:Int)≤2^r∧(2:Int)^r≤2147483648∧(4294967296:Int)=2^r*2^(32-r):=by
 have h1:(2:Nat)^r≤2^31:=z9j (by omega) (by omega);have h2:(1:Nat)≤2^r:=Nat.one_le_two_pow;have e:(2:Int)^r=((2^r:Nat):Int):=by simp
 have e3:(2:Int)^r*2^(32-r)=2^32:=by rw[←Int.pow_add,show r+(32-r)=32 by omega]
 refine⟨by omega,by omega,e3.symm⟩
theorem rt {r:Nat}{c l:Int} (hr:r<32) (hc:0≤c∧c<2^r) (hl:0≤l∧l≤4294967295) (hd:l % 2^r=0):bits BinOp.or IntKind.u32 c l=c+l∧bits BinOp.or IntKind.u32 l c=l+c∧c+l≤4294967295:=by
 have h2:=d7 hr;obtain⟨C,rfl⟩:=z9W hc.1;obtain⟨L,rfl⟩:=z9W hl.1;have e:(2:Int)^r=((2^r:Nat):Int):=by simp
 have e2:(2:Int)^(32-r)=((2^(32-r):Nat):Int):=by simp
 rw[e] at hd hc h2;rw[e2] at h2;have hd':L % 2^r=0:=by omega
 have hj:=nat_join r L C hd' (by omega);have hj2:C ||| L=C+L:=by rw[Nat.or_comm,hj];omega
 have hlt:C+L<4294967296:=by
  obtain⟨m,hm⟩:=Nat.dvd_of_mod_eq_zero hd';have h5:4294967296=2^r*2^(32-r):=by have:=h2.2.2;rw[←Int.natCast_mul] at this;omega
  generalize 2^(32-r)=q at *;generalize 2^r=p at *;subst hm;have h6:m<q:=by
   refine Nat.lt_of_mul_lt_mul_left (a:=p) ?_;omega
  have h7:=z9d p (show m+1≤q from h6);rw[Nat.mul_add,Nat.mul_one] at h7;omega
 refine⟨?_,?_,by omega⟩
 ·rw[u32_or_nat _ _ (by omega) (by omega),hj2];simp
 ·rw[u32_or_nat _ _ (by omega) (by omega),hj];simp
theorem Mi {r:Nat}{x c:Int} (hr:r<32) (hx:0≤x∧x≤4294967295) (hc:0≤c∧c<2^r) :
  bits BinOp.or IntKind.u32 c (IntKind.u64.wrap (x*2^r) % 4294967296)=c+(x*2^r) % 4294967296 ∧
  bits BinOp.or IntKind.u32 0 (IntKind.u64.wrap (x*2^r) / 4294967296 % 4294967296)=x*2^r / 4294967296 ∧
  (0≤c+(x*2^r) % 4294967296∧c+(x*2^r) % 4294967296≤4294967295)∧(0≤x*2^r / 4294967296∧x*2^r / 4294967296<2^r)∧(2:Int)^r≤4294967296:=by
 have h2:=d7 hr;have hd:(x*2^r) % 4294967296 % 2^r=0:=by
  rw[Int.emod_emod_of_dvd _ ⟨_,h2.2.2⟩,Int.mul_emod_left]
 have hb:0≤x*2^r∧x*2^r≤4294967295*2147483648:=⟨Int.mul_nonneg hx.1 (by omega),Int.mul_le_mul hx.2 h2.2.1 (by omega) (by omega)⟩
 have hlt:x*2^r<2^r*4294967296:=by
  have:=z9h hx.2 (show (0:Int)≤2^r by omega);omega
 have hw:IntKind.u64.wrap (x*2^r)=x*2^r:=by rw[IntKind.wrap_u64];omega
 rw[hw];have hl:0≤(x*2^r) % 4294967296∧(x*2^r) % 4294967296≤4294967295:=by omega
 have hj:=rt hr hc hl hd;have hh:0≤x*2^r / 4294967296∧x*2^r / 4294967296<2^r:=⟨by omega,Int.ediv_lt_of_lt_mul (by omega) hlt⟩
 have hh2:=hh.2;refine⟨hj.1,?_,⟨by omega,hj.2.2⟩,hh,by omega⟩;rw[Int.emod_eq_of_lt hh.1 (by omega)];rw[u32_or _ _ (by omega) (by omega) (by omega) (by omega)];simp;omega
theorem Mj (s:SV) (a:List Int) (N:Int) (q r:Nat) (w:World) (ha:IsL w s .u32 a) (hla:a.length≤1099511627776) (hN:N=32*q+r) (hr:r<32) (hq:q≤1099511627776) :
  Calls Tryz.prog 142 #[.slice s.a s.len s.cap,.int .i64 N] w (rr w (a.length+q+1) (valL a*2^r*4294967296^q)):=by
 have da:Dig a:=ha.2;obtain⟨ao,ca,rfl,hca,hcam,hopa⟩:=ha.open_;have e1:N / 32=q:=by omega
 have e2:N % 32=r:=by omega
 have hN0:0≤N:=by omega
 clear hN;go_enter Tryz.func142,Tryz.ntmps142;go_wp2_with (at_make;refine fq _ rfl _ _ 84 rfl 173 .u32 4 Tryz.underlying84 d8 _ _ _ _ (a.length+q+1) rfl rfl (by omega) (by omega) (by omega) (by omega) ?_;intro w1 hown1 hx1 hlt1);go_loopw [18] (fun i wr => ∃(k:Nat) (o:List Int),i = .int .i64 k∧k≤a.length∧Own wr w.heap.size 173 .u32 o∧o.length=a.length+q+1∧Dig o ∧
   valL o=valL (a.take k)*2^r*4294967296^q∧(∀t,k+q<t→at_ o t=0)∧at_ o (k+q)<2^r∧Ext w wr) (fun i _=>a.length-(intOf i).toNat)
 case atStart =>
  refine⟨0,_,rfl,z9O _,hown1,by simp,fA _,?_,fun t _ => ?_,?_,hx1⟩
  ·rw[valL_zero (fun j=>jc _ j)];simp[valL]
  ·exact jc _ t
  ·rw[jc];exact Int.pow_pos (by omega)
 case round =>
  obtain⟨k,o,rfl,hk,hown,hol,hdo,hval,hz,htop,hx⟩:=hrel;clear hown1;replace hval:=hd_ hval;replace hol:=hd_ hol;replace hz:=hd_ hz;replace htop:=hd_ htop;by_cases hlt:k<a.length
  ·obtain⟨ba,oa,rfl,hba,ga⟩:=hopa (by omega);have ga:=(hx.cell (p:=⟨ba,oa+k,none⟩) hba.lt).trans (ga k hlt);have fa:=da.at_ k;have go:=hown.cell (i:=k+q) (by have:=hol.out;omega);have gf:=hown.frozen (k+q);have go2:=hown.cell (i:=k+q+1) (by have:=hol.out;omega);have gf2:=hown.frozen (k+q+1);go_wp2;have hz1:at_ o (k+q+1)=0:=hz.out _ (by omega);have fo:=hdo.at_ (k+q);obtain⟨c1,c2,c3,c4,c5⟩:=Mi hr fa ⟨fo.1,htop.out⟩;rw[hz1,c1,c2];go_roundw
   case rel =>
    refine⟨k+1,(o.set (k+q) _).set (k+q+1) _,rfl,by omega,(hown.set (k+q) _).set (k+q+1) _,by rw[z9R,z9R];exact hol.out,(hdo.set _ c3).set _ (by have:=c4.2;omega),?_,?_,?_,(hx.st (z95 _) _).st (z95 _) _⟩
    ·rw[valL_set_full (by rw[z9R];have:=hol.out;omega),valL_set_full (by have:=hol.out;omega),cC (by omega),hz1,hval.out,valL_take_succ];rw[show k+q+1=k+q+1 from rfl,z9H,pow_add' k q];generalize (2:Int)^r=p2 at *;have e:=z9i (at_ a k*p2) 4294967296;generalize (at_ a k*p2) / 4294967296=h at *;generalize (at_ a k*p2) % 4294967296=l at *;generalize (4294967296:Int)^k=bk at *;generalize (4294967296:Int)^q=bq at *;clear c1 c2 c3 c4 c5;grind
    ·intro t ht;rw[cC (by omega),cC (by omega)];exact hz.out t (by omega)
    ·rw[show k+1+q=k+q+1 by omega,gi (by rw[z9R];have:=hol.out;omega)];exact c4.2
   case measure=>first | (simp[intOf];done) | (simp[intOf];omega)
  ·obtain rfl:k=a.length:=by omega
   go_wp2;go_ret;refine⟨w.heap.size,o,rfl,hown,hol.out,hdo,?_,z95 _,hx⟩;rw[hval.out,z93 (z95 _)]
end Go.Proofs.YtbnhgnhgbhjkcaaGreat
namespace Go.Proofs.YtbnhgnhgbhjkcaaGreat.M
set_option linter.unusedSimpArgs false
open Go.RowKit
section
variable {G:FuncId→List D→D→Prop}{c c1 c2:COp}{K K':St→Prop}{s:St}{r r':Nat→AV}{m m':Mem}{v:AV}
theorem cj {x:Option (Bool×AV×St)}{p:Bool}{v:AV}{m:Mem} (h:dC x=some (p,v,m)):∃t,x=some (p,v,t)∧t.m=m:=by
 cases x with
 |none=>simp[dC] at h
 |some x=>obtain⟨p',v',t⟩:=x;simp only[dC,z99,z97] at h;obtain⟨rfl,rfl,rfl⟩:=h;exact⟨t,rfl,rfl⟩
theorem CW {o:AOp}{id:Nat} (hk:o.kind=0) (m m2:Mem):dC (ev o id ⟨r,m⟩)=(dC (ev o id ⟨r,m2⟩)).map (fun x=>(x.1,x.2.1,m)):=by
 cases o<;>simp only[AOp.kind,reduceCtorEq] at hk<;>try omega
 case extract x i=>simp only[ev];(split<;>(try rfl))<;>(rename_i l _;cases l[i]?<;>rfl)
 all_goals (simp only[ev];(repeat' split)<;>rfl)
theorem Out.pure (hk:c.op.kind=0) (h:Out G c r m v m'):m'=m∧∀m2,Out G c r m2 v m2:=by
 have hn:∀f args,c.op≠.call f args:=by intro f args e;rw[e] at hk;simp[AOp.kind] at hk
 have hn2:∀fs x args,c.op≠.callv fs x args:=by intro fs x args e;rw[e] at hk;simp[AOp.kind] at hk
 have hn3:∀f T args,c.op≠.callN f T args:=by intro f T args e;rw[e] at hk;simp[AOp.kind] at hk
 have hn4:∀f T args,c.op≠.callW f T args:=by intro f T args e;rw[e] at hk;simp[AOp.kind] at hk
 have ho:∀m v m',Out G c r m v m'=(dC (ev c.op (c.dst.getD 0) ⟨r,m⟩)=some (true,v,m')):=by
  intro m v m';unfold Out;cases hc:c.op<;>first | (exact absurd hc (hn _ _)) | (exact absurd hc (hn2 _ _ _)) | (exact absurd hc (hn3 _ _ _)) | (exact absurd hc (hn4 _ _ _)) | rfl
 rw[ho] at h;have key:∀m2,dC (ev c.op (c.dst.getD 0) ⟨r,m2⟩)=some (true,v,m2):=by
  intro m2;rw[CW hk m2 m,h];rfl
 have:=key m;rw[h] at this;simp only[z99,z97,true_and] at this;exact⟨this,fun m2=>by rw[ho];exact key m2⟩
theorem mQ {any:Bool}{M M':Mem} (h:∀i o,M i=some o→M' i=some o):∀(n:Nat),(∀(x:AV) (d:D),x.toD any M n=some d→x.toD any M' n=some d)∧(∀(l:List AV) (ds:List D),dh any M n l=some ds→dh any M' n l=some ds):=by
 intro n;induction n with
 |zero=>exact⟨fun x d hd=>by simp[AV.toD] at hd,fun l ds hd=>by simp[dh] at hd⟩
 |succ n ih =>
  refine⟨fun x d hd => ?_,fun l ds hd => ?_⟩
  ·cases x with
   |und=>simp[AV.toD] at hd
   |p e=>simpa[AV.toD] using hd
   |nils T sz=>simpa[AV.toD] using hd
   |agg l =>
    simp only[AV.toD,z94] at hd ⊢;obtain⟨ds,h1,h2⟩:=hd;exact⟨ds,ih.2 l ds h1,h2⟩
   |tup l =>
    simp only[AV.toD,z94] at hd ⊢;obtain⟨ds,h1,h2⟩:=hd;exact⟨ds,ih.2 l ds h1,h2⟩
   |slice i off len =>
    simp only[AV.toD] at hd ⊢;split at hd
    case h_2=>cases hd
    rename_i o ho;rw[h i o ho];exact hd
   |arr i off len =>
    simp only[AV.toD] at hd ⊢;split at hd
    case h_2=>cases hd
    rename_i o ho;rw[h i o ho];exact hd
   |ptr i j off =>
    simp only[AV.toD] at hd ⊢;split at hd
    case isFalse=>cases hd
    rename_i hij;rw[if_pos hij];split at hd
    case h_2=>cases hd
    rename_i o ho;rw[h i o ho];simp only;split at hd
    case h_2=>cases hd
    rename_i u hu;(try rw[hu]);(try simp only);split at hd
    case isFalse=>cases hd
    rename_i hf;rw[if_pos hf];simp only[z94] at hd ⊢;obtain⟨e,h1,h2⟩:=hd;exact⟨e,ih.1 u e h1,h2⟩
  ·cases l with
   |nil=>simpa[dh] using hd
   |cons x l =>
    simp only[dh] at hd ⊢;split at hd
    case h_2=>cases hd
    rename_i d ds' h1 h2;rw[ih.1 x d h1,ih.2 l ds' h2];exact hd
theorem kx {M M':Mem} (h:∀i o,M i=some o→M' i=some o):∀(l:List Opd) (ds:List D),a7 ⟨r,M⟩ l=some ds→a7 ⟨r,M'⟩ l=some ds
 |[],ds,hd=>by simpa[a7] using hd
 |x::l,ds,hd=>by
  simp only[a7] at hd ⊢;split at hd
  case h_2=>cases hd
  rename_i d ds' h1 h2;rw[(mQ h 20).1 _ _ h1,kx h l ds' h2];exact hd
theorem mR {M M':Mem} (h:∀i o,M i=some o→M' i=some o):∀(l:List Opd) (ds:List D),cL r M l=some ds→cL r M' l=some ds
 |[],ds,hd=>by simpa[cL] using hd
 |x::l,ds,hd=>by
  simp only[cL] at hd ⊢;split at hd
  case h_2=>cases hd
  rename_i d ds' h1 h2;rw[(mQ h 20).1 _ _ h1,mR h l ds' h2];exact hd
theorem CX {sz:Nat}{m m2:Mem}{v:AV}{ys:List D} (hm:∀i o,m i=some o→m2 i=some o) (h:bO sz m v=some ys):bO sz m2 v=some ys:=by
 unfold bO at h ⊢;split at h
 ·split at h
  case h_2=>cases h
  rename_i h1;simp only[hm _ _ h1];exact h
 ·exact h
 ·exact h
 ·cases h
theorem Out.read (hk:c.op.kind=1) (h:Out G c r m v m'):m'=m∧∀m2,(∀i o,m i=some o→m2 i=some o)→Out G c r m2 v m2:=by
 unfold Out at *;cases hc:c.op<;>simp only[hc,AOp.kind,reduceCtorEq] at hk h ⊢<;>try omega
 case call f args =>
  obtain⟨ds,d,h1,h2,h3,rfl⟩:=h;exact⟨rfl,fun m2 hm=>⟨ds,d,kx hm _ _ h1,h2,h3,(by first | rfl | trivial)⟩⟩
 case callv fs x args =>
  obtain⟨f,a,b,ds,d,h0,h1,h2,h3,h4,rfl⟩:=h;exact⟨rfl,fun m2 hm=>⟨f,a,b,ds,d,(mQ hm 20).1 _ _ h0,kx hm _ _ h1,h2,h3,h4,(by first | rfl | trivial)⟩⟩
 case strB x =>
  obtain⟨t,h1,rfl⟩:=cj h;simp only[ev] at h1 ⊢;split at h1
  case h_2=>cases h1
  rename_i ys hys;split at h1
  case h_2=>cases h1
  rename_i b hb;simp only[z99,z97,true_and] at h1;obtain⟨rfl,rfl⟩:=h1;exact⟨rfl,fun m2 hm2=>by rw[CX hm2 hys];simp only[hb];rfl⟩
 case fnv fn x y =>
  obtain⟨t,h1,rfl⟩:=cj h;simp only[ev] at h1 ⊢;split at h1
  case h_2=>cases h1
  rename_i l k hl hk';simp only[z99,z97,true_and] at h1;obtain⟨rfl,rfl⟩:=h1;exact⟨rfl,fun m2 hm2=>by rw[mR hm2 _ _ hl,mR hm2 _ _ hk'];rfl⟩
 case load ag sz x =>
  obtain⟨t,h1,rfl⟩:=cj h;simp only[ev] at h1 ⊢;split at h1
  ·rename_i i j off hx;(try rw[hx]);(try simp only);split at h1
   ·rename_i T osz l frz hm;split at h1
    case h_2=>cases h1
    rename_i u hu;simp only[z99,z97] at h1;obtain⟨h2,rfl,rfl⟩:=h1;refine⟨rfl,fun m2 hm2 => ?_⟩;rw[hm2 _ _ hm];simp only[hu,h2];rfl
   ·rename_i T osz u frz hm;split at h1
    case isFalse=>cases h1
    rename_i hj;split at h1
    case h_2=>cases h1
    rename_i z hz;simp only[z99,z97,true_and] at h1;obtain⟨rfl,rfl⟩:=h1;refine⟨rfl,fun m2 hm2 => ?_⟩;rw[hm2 _ _ hm];simp only[hz,hj,if_true];rfl
   ·cases h1
  ·rename_i e hx;(try rw[hx]);(try simp only);split at h1
   case isFalse=>cases h1
   rename_i hag;simp only[z99,z97] at h1;obtain⟨h2,rfl,rfl⟩:=h1;refine⟨rfl,fun m2 hm2 => ?_⟩;rw[if_pos hag,h2];rfl
  ·cases h1
 case slice sz x lo hi mx =>
  obtain⟨t,h1,rfl⟩:=cj h;simp only[ev] at h1 ⊢;split at h1
  ·rename_i T sz' l hx;(try rw[hx]);(try simp only);split at h1
   case isFalse=>cases h1
   rename_i hs;split at h1
   case h_2=>cases h1
   rename_i cc a b hb;simp only[z99,z97] at h1;obtain⟨h2,rfl,rfl⟩:=h1;exact⟨rfl,fun m2 hm2=>by (try simp only[hs,if_true]);(try simp only[hb]);(try simp only[h2]);rfl⟩
  ·rename_i i off len hx;(try rw[hx]);(try simp only);split at h1
   case h_2=>cases h1
   rename_i ob hob;split at h1
   case isFalse=>cases h1
   rename_i hs;split at h1
   case h_2=>cases h1
   rename_i cc a b hb;simp only[z99,z97] at h1;obtain⟨h2,rfl,rfl⟩:=h1;exact⟨rfl,fun m2 hm2=>by rw[hm2 _ _ hob];(try simp only[hs,if_true]);(try simp only[hb]);(try simp only[h2]);rfl⟩
  ·rename_i T sz' hx;(try rw[hx]);(try simp only);split at h1
   case h_2=>cases h1
   rename_i cc a b hb;simp only[z99,z97] at h1;obtain⟨h2,rfl,rfl⟩:=h1;exact⟨rfl,fun m2 hm2=>by (try simp only[hb]);(try simp only[h2]);rfl⟩
  ·rename_i T sz' hx;(try rw[hx]);(try simp only);split at h1
   case h_2=>cases h1
   rename_i cc a b hb;simp only[z99,z97] at h1;obtain⟨h2,rfl,rfl⟩:=h1;exact⟨rfl,fun m2 hm2=>by (try simp only[hb]);(try simp only[h2]);rfl⟩
  ·rename_i i off len hx;(try rw[hx]);(try simp only);split at h1
   case isFalse=>cases h1
   rename_i hs;split at h1
   case h_2=>cases h1
   rename_i cc a b hb;simp only[z99,z97] at h1;obtain⟨h2,rfl,rfl⟩:=h1;exact⟨rfl,fun m2 hm2=>by (try simp only[hs,if_true]);(try simp only[hb]);(try simp only[h2]);rfl⟩
  ·cases h1
 case sliceA n x lo hi mx =>
  obtain⟨t,h1,rfl⟩:=cj h;simp only[ev] at h1 ⊢;split at h1
  case h_2=>cases h1
  rename_i i off hx;(try rw[hx]);(try simp only);split at h1
  case h_2=>cases h1
  rename_i T osz u frz hob;split at h1
  case isFalse=>cases h1
  rename_i hs;split at h1
  case h_2=>cases h1
  rename_i cc a b hb;simp only[z99,z97] at h1;obtain⟨h2,rfl,rfl⟩:=h1;exact⟨rfl,fun m2 hm2=>by rw[hm2 _ _ hob];simp only[if_pos hs];(try simp only[hb]);(try simp only[h2]);rfl⟩
 case indexAddr sz x i =>
  obtain⟨t,h1,rfl⟩:=cj h;simp only[ev] at h1 ⊢;split at h1
  ·rename_i T sz' l n hx hi;(try rw[hx,hi]);(try simp only);split at h1
   case isFalse=>cases h1
   rename_i hs;simp only[z99,z97] at h1;obtain⟨h2,rfl,rfl⟩:=h1;exact⟨rfl,fun m2 hm2=>by (try simp only[hs,if_true]);(try simp only[h2]);rfl⟩
  ·rename_i j off len n hx hi;(try rw[hx,hi]);(try simp only);split at h1
   case h_2=>cases h1
   rename_i ob hob;split at h1
   case isFalse=>cases h1
   rename_i hs;simp only[z99,z97] at h1;obtain⟨h2,rfl,rfl⟩:=h1;exact⟨rfl,fun m2 hm2=>by rw[hm2 _ _ hob];(try simp only[hs,if_true]);(try simp only[h2]);rfl⟩
  ·rename_i j off len n hx hi;(try rw[hx,hi]);(try simp only);split at h1
   case isFalse=>cases h1
   rename_i hs;simp only[z99,z97] at h1;obtain⟨h2,rfl,rfl⟩:=h1;exact⟨rfl,fun m2 hm2=>by (try simp only[hs,if_true]);(try simp only[h2]);rfl⟩
  ·cases h1
theorem Out.made (hk:c.op.kind=2) (h:Out G c r m v m'):m (c.dst.getD 0)=none∧∃ob,m'=upd m (c.dst.getD 0) (some ob)∧∀m2:Mem,m2 (c.dst.getD 0)=none→Out G c r m2 v (upd m2 (c.dst.getD 0) (some ob)):=by
 unfold Out at *;cases hc:c.op<;>simp only[hc,AOp.kind,reduceCtorEq] at hk h ⊢<;>try omega
 case alloc T sz z =>
  obtain⟨t,h1,rfl⟩:=cj h;simp only[ev] at h1 ⊢;split at h1
  case h_2=>cases h1
  rename_i hid;simp only[z99,z97,true_and] at h1;obtain⟨rfl,rfl⟩:=h1;exact⟨hid,_,rfl,fun m2 hm2=>by rw[hm2];rfl⟩
 case box T sz x =>
  obtain⟨t,h1,rfl⟩:=cj h;simp only[ev] at h1 ⊢;split at h1
  case h_2=>cases h1
  rename_i hid;split at h1
  case isFalse=>cases h1
  rename_i hcc;simp only[z99,z97,true_and] at h1;obtain⟨rfl,rfl⟩:=h1;exact⟨hid,_,rfl,fun m2 hm2=>by rw[hm2];simp only;rw[if_pos hcc];rfl⟩
 case bytS T x =>
  obtain⟨t,h1,rfl⟩:=cj h;simp only[ev] at h1 ⊢;split at h1
  case h_2=>cases h1
  rename_i hid;split at h1
  case h_2=>cases h1
  rename_i q hq;simp only[z99,z97] at h1;obtain⟨h2,rfl,rfl⟩:=h1;exact⟨hid,_,rfl,fun m2 hm2=>by rw[hm2];(try simp only[h2]);rfl⟩
 case makeSlice T sz b z l cc =>
  obtain⟨t,h1,rfl⟩:=cj h;simp only[ev] at h1 ⊢;split at h1
  case h_2=>cases h1
  rename_i hid;split at h1
  case h_2=>cases h1
  rename_i n k hn hk;simp only[z99,z97] at h1;obtain⟨h2,rfl,rfl⟩:=h1;exact⟨hid,_,rfl,fun m2 hm2=>by rw[hm2];(try simp only[h2]);rfl⟩
 case appZ T sz b z x n =>
  obtain⟨t,h1,rfl⟩:=cj h;simp only[ev] at h1 ⊢;split at h1
  case h_2=>cases h1
  rename_i hid;split at h1
  case h_2=>cases h1
  rename_i T' sz' k hx hk;split at h1
  case isFalse=>cases h1
  rename_i hcc;simp only[z99,z97] at h1;obtain⟨h2,rfl,rfl⟩:=h1;exact⟨hid,_,rfl,fun m2 hm2=>by rw[hm2];(try simp only);rw[if_pos hcc,h2];rfl⟩
 case buildSliceP T sz z n ps =>
  obtain⟨t,h1,rfl⟩:=cj h;simp only[ev] at h1 ⊢;split at h1
  case h_2=>cases h1
  rename_i hid;split at h1
  case h_2=>cases h1
  rename_i q hq;simp only[z99,z97,true_and] at h1;obtain⟨rfl,rfl⟩:=h1;exact⟨hid,_,rfl,fun m2 hm2=>by rw[hm2];rfl⟩
theorem Out.built (hk:c.op.kind=3) (h:Out G c r m v m'):m (c.dst.getD 0)=none∧∃ob,m'=upd m (c.dst.getD 0) (some ob):=by
 unfold Out at *;cases hc:c.op<;>simp only[hc,AOp.kind,reduceCtorEq] at hk h ⊢<;>try omega
 case buildSlice T sz z n ps =>
  obtain⟨t,h1,rfl⟩:=cj h;simp only[ev] at h1;split at h1
  case h_2=>cases h1
  rename_i hid;split at h1
  case h_2=>cases h1
  simp only[z99,z97,true_and] at h1;obtain⟨rfl,rfl⟩:=h1;exact⟨hid,_,rfl⟩
 case buildSliceF T sz z n ps =>
  obtain⟨t,h1,rfl⟩:=cj h;simp only[ev] at h1;split at h1
  case isTrue=>cases h1
  split at h1
  case h_2=>cases h1
  rename_i hid;split at h1
  case h_2=>cases h1
  simp only[z99,z97,true_and] at h1;obtain⟨rfl,rfl⟩:=h1;exact⟨hid,_,rfl⟩
 case copyS T sz b y =>
  obtain⟨t,h1,rfl⟩:=cj h;simp only[ev] at h1;split at h1
  case h_2=>cases h1
  rename_i ys hid hys;simp only[z99,z97] at h1;obtain⟨-,rfl,rfl⟩:=h1;exact⟨hid,_,rfl⟩
 case copyF T sz b y =>
  obtain⟨t,h1,rfl⟩:=cj h;simp only[ev] at h1;split at h1
  case isTrue=>cases h1
  split at h1
  case h_2=>cases h1
  rename_i ys hid hys;simp only[z99,z97] at h1;obtain⟨-,rfl,rfl⟩:=h1;exact⟨hid,_,rfl⟩
 case callN f T args =>
  obtain⟨ds,sz,l,h1,h2,h3,rfl,rfl⟩:=h;exact⟨h2,_,rfl⟩
def d6:AV→AV→Bool
 |.ptr i _ _,.ptr j _ _=>i != j
 |.p (.ref _),.ptr _ _ _=>true
 |.ptr _ _ _,.und=>true
 |.p (.ref _),.und=>true
 |_,_=>false
theorem Out.load_store {ag:Bool}{sz sz2:Nat}{x y z:Opd}{v2:AV}{m2:Mem} (h1:c1.op = .load ag sz x) (h2:c2.op = .store sz2 y z) (ha:d6 (x.ev r) (y.ev r)=true) (ho1:Out G c1 r m v m') (ho2:Out G c2 r m v2 m2):Out G c1 r m2 v m2:=by
 have hm2:∃(j:Nat) (o:Nat×Nat) (o':Option AObj),y.ev r = .ptr j o.1 o.2∧m2=upd m j o':=by
  unfold Out at ho2;rw[h2] at ho2;simp only at ho2;obtain⟨t,g1,rfl⟩:=cj ho2;simp only[ev] at g1;split at g1
  case h_2=>cases g1
  rename_i i j off hy;split at g1
  ·split at g1
   case h_2=>cases g1
   split at g1
   case isFalse=>cases g1
   split at g1
   ·simp only[z99,z97] at g1;obtain⟨-,-,rfl⟩:=g1;exact⟨i,(j,off),_,hy,rfl⟩
   ·split at g1<;>simp only[z99,z97,reduceCtorEq] at g1
    obtain⟨-,-,rfl⟩:=g1;exact⟨i,(j,off),_,hy,rfl⟩
  ·split at g1
   case isFalse=>cases g1
   split at g1
   ·simp only[z99,z97] at g1;obtain⟨-,-,rfl⟩:=g1;exact⟨i,(j,off),_,hy,rfl⟩
   ·split at g1<;>simp only[z99,z97,reduceCtorEq] at g1
    obtain⟨-,-,rfl⟩:=g1;exact⟨i,(j,off),_,hy,rfl⟩
  ·split at g1
   case isFalse=>cases g1
   split at g1<;>simp only[z99,z97,reduceCtorEq] at g1
   obtain⟨-,-,rfl⟩:=g1;exact⟨i,(j,off),_,hy,rfl⟩
  ·cases g1
 obtain⟨j,o,o',hy,rfl⟩:=hm2;unfold Out at ho1 ⊢;rw[h1] at ho1 ⊢;simp only at ho1 ⊢;obtain⟨t,g1,rfl⟩:=cj ho1;simp only[ev] at g1 ⊢;cases hx:x.ev r with
 |ptr i k off =>
  rw[hx,hy] at ha;simp only[d6,bne_iff_ne,ne_eq] at ha;rw[hx] at g1;simp only at g1 ⊢;rw[aC _ _ ha];split at g1
  ·rename_i T osz l frz hm;split at g1
   case h_2=>cases g1
   rename_i u hu;simp only[z99,z97] at g1;obtain⟨h3,rfl,rfl⟩:=g1;(try simp only[hu]);(try simp only[h3]);rfl
  ·rename_i T osz u frz hm;split at g1
   case isFalse=>cases g1
   rename_i hj;split at g1
   case h_2=>cases g1
   rename_i q hq;simp only[z99,z97,true_and] at g1;obtain⟨rfl,rfl⟩:=g1;(try simp only[hj,if_true]);(try simp only[hq]);rfl
  ·cases g1
 |p d =>
  rw[hx] at g1;cases d with
  |ref e =>
   simp only at g1 ⊢;split at g1
   case isFalse=>cases g1
   rename_i hag;simp only[z99,z97] at g1;obtain⟨h3,rfl,rfl⟩:=g1;(try simp only[hag,if_true]);(try simp only[h3]);rfl
  |_=>simp at g1
 |_=>rw[hx] at g1;simp at g1
end
end Go.Proofs.YtbnhgnhgbhjkcaaGreat.M
namespace Go.Proofs.YtbnhgnhgbhjkcaaGreat
set_option linter.unusedSimpArgs false
set_option maxRecDepth 100000
set_option maxHeartbeats 1000000
open Go.RowKit
def oW (w:World) (n:Nat) (p z:Int) (e:Ending) (w':World):Prop:=
 ∃(s:SV) (l:List Int) (b:Bool),e = .returned (.tuple #[.slice s.a s.len s.cap,.bool b])∧IsL w' s .u32 l∧l.length=n∧p*valL l=z∧Ext w w'
theorem oX {r:Nat}{x:Int} (hr:r<32) (hx:0≤x∧x≤4294967295):0≤x / 2^r∧x / 2^r≤4294967295:=by
 have h2:=d7 hr;refine⟨Int.ediv_nonneg hx.1 (by omega),?_⟩;have:=Int.ediv_le_self (2^r) hx.1;omega
theorem zaM {r:Nat}{x y:Int} (hr:r<32) (hr0:0<r) (hx:0≤x∧x≤4294967295) (_hy:0≤y∧y≤4294967295) :
  bits BinOp.or IntKind.u32 (x / 2^r) (y*2^(32-r) % 4294967296)=x / 2^r+(y % 2^r)*2^(32-r)∧0≤x / 2^r+(y % 2^r)*2^(32-r)∧x / 2^r+(y % 2^r)*2^(32-r)≤4294967295:=by
 have h2:=d7 hr;have h3:=d7 (r:=32-r) (by omega);have e:y*2^(32-r) % 4294967296=(y % 2^r)*2^(32-r):=by
  rw[h2.2.2,Int.mul_comm y,Int.mul_comm (2^r) (2^(32-r)),Int.mul_emod_mul_of_pos _ _ (by omega),Int.mul_comm]
 have hl:0≤y*2^(32-r) % 4294967296∧y*2^(32-r) % 4294967296≤4294967295:=by omega
 rw[e] at hl ⊢;have hc:0≤x / 2^r∧x / 2^r<2^(32-r):=⟨(oX hr hx).1,Int.ediv_lt_of_lt_mul (by omega) (by rw[Int.mul_comm,←h2.2.2];omega)⟩
 have hj:=rt (r:=32-r) (by omega) hc hl (Int.mul_emod_left _ _);exact⟨hj.1,by omega,hj.2.2⟩
theorem zaN {V A c a p bk:Int} (h:p*V=A-c+(a % p)*bk):p*(V+a / p*bk)=A+a*bk-c:=by
 have h1:=z9i a p;generalize a / p=q at *;generalize a % p=s at *;subst h1;rw[Int.mul_add,h];grind
theorem zaO {V A c a s2 p p' bk:Int} (h:p*V=A-c+(a % p)*bk) (hp:p*p'=4294967296):p*(V+(a / p+s2*p')*bk)=A+a*bk-c+s2*(bk*4294967296):=by
 have h1:=z9i a p;generalize a / p=q at *;generalize a % p=s at *;subst h1;rw[Int.mul_add,h,←hp];grind
theorem zaP (s:SV) (a:List Int) (r:Nat) (w:World) (ha:IsL w s .u32 a) (hla:a.length≤1099511627776) (h0:0<a.length) (hr:r<32) (hr0:0<r) :
  Calls Tryz.prog 145 #[.slice s.a s.len s.cap,.int .i64 r] w (oW w a.length (2^r) (valL a-at_ a 0 % 2^r)):=by
 have da:Dig a:=ha.2;obtain⟨ao,ca,rfl,hca,hcam,hopa⟩:=ha.open_;obtain⟨ba,oa,rfl,hba,ga⟩:=hopa h0;have g0:=ga 0 h0;simp only[Nat.add_zero] at g0;have hbl:=hba.lt;have hne:¬ a=[]:=by rintro rfl;simp at h0
 have e1:(r:Int) / 32=0:=by omega
 have e2:(r:Int) % 32=r:=by omega
 go_enter Tryz.func145,Tryz.ntmps145;go_wp2;all_goals
  go_loop [6,39] (fun b i=>(∃B:Bool,b = .bool B)∧i = .int .i64 0) (fun _ _=>0)
  case atStart=>exact⟨⟨_,rfl⟩,rfl⟩
  case round =>
   obtain⟨⟨B,rfl⟩,rfl⟩:=hrel;go_wp2_with (at_make;refine fq _ rfl _ _ 84 rfl 173 .u32 4 Tryz.underlying84 d8 _ _ _ _ a.length rfl rfl (by omega) (by omega) (by omega) (by omega) ?_;intro w1 hown1 hx1 hlt1);go_loopw [57] (fun i wr => ∃(k:Nat) (o:List Int),i = .int .i64 k∧k≤a.length∧Own wr w.heap.size 173 .u32 o∧o.length=a.length∧Dig o ∧
     2^r*valL (o.take k)=valL (a.take k)-at_ a 0 % 2^r+(at_ a k % 2^r)*4294967296^k∧Ext w wr) (fun i _=>a.length-(intOf i).toNat)
   case atStart=>exact⟨0,_,rfl,z9O _,hown1,by simp,fA _,by rw[List.take_zero,List.take_zero,Int.pow_zero,Int.mul_one];generalize at_ a 0 % 2^r=c;simp only[valL,Int.mul_zero];omega,hx1⟩
   case round =>
    obtain⟨k,o,rfl,hk,hown,hol,hdo,hval,hx⟩:=hrel;clear hown1;replace hval:=hd_ hval;replace hol:=hd_ hol;by_cases hlt:k<a.length
    ·have gc:=(hx.cell (p:=⟨ba,oa+k,none⟩) hbl).trans (ga k hlt);have fa:=da.at_ k;have go:=hown.cell (i:=k) (by have:=hol.out;omega);have gf:=hown.frozen k;by_cases hlt2:k+1<a.length
     ·have gc2:=(hx.cell (p:=⟨ba,oa+(k+1),none⟩) hbl).trans (ga (k+1) hlt2);have fa2:=da.at_ (k+1);obtain⟨c1,c2,c3⟩:=zaM hr hr0 fa fa2;go_wp2;have hos:=hown.set k (at_ a k / 2^r);have gos:=hos.cell (i:=k) (by rw[z9R];have:=hol.out;omega);rw[gi (by have:=hol.out;omega)] at gos;have gfs:=hos.frozen k;have gcs:(wr.setCell ⟨w.heap.size,k,none⟩ (.int .u32 (at_ a k / 2^r))).cell? ⟨ba,oa+(k+1),none⟩=some (.int .u32 (at_ a (k+1))):=by
       rw[World.cell?_setCell_other _ _ _ _ (by simp)];exact gc2
      go_region;go_wp2;go_roundw
      case rel =>
       refine⟨k+1,(o.set k _).set k _,rfl,by omega,(hos.set k _).dr,by rw[z9R,z9R];exact hol.out,(hdo.set k (oX hr fa)).set k ⟨c2,c3⟩,?_,((hx.st (z95 _) _).st (z95 _) _).dr⟩;rw[List.set_set,valL_set (by have:=hol.out;omega),valL_take_succ,z9H];exact zaO hval.out (d7 hr).2.2.symm
      case measure=>first | (simp[intOf];done) | (simp[intOf];omega)
     ·go_wp2;go_roundw
      case rel =>
       have hz:at_ a (k+1)=0:=bx (by omega);refine⟨k+1,o.set k _,rfl,by omega,hown.set k _,by rw[z9R];exact hol.out,hdo.set k (oX hr fa),?_,hx.st (z95 _) _⟩;rw[valL_set (by have:=hol.out;omega),valL_take_succ,hz,Int.zero_emod,Int.zero_mul,z8Y];exact zaN hval.out
      case measure=>first | (simp[intOf];done) | (simp[intOf];omega)
    ·obtain rfl:k=a.length:=by omega
     go_wp2;go_ret2;have h1:=hval.out;rw[bx (l:=a) (i:=a.length) (by omega),z93 (by have:=hol.out;omega),z93 (z95 _)] at h1;refine⟨⟨some ⟨w.heap.size,0,none⟩,a.length,a.length⟩,o,_,rfl,?_,hol.out,by simpa using h1,hx⟩;have:=hown.isL (by have:=hol.out;omega) hdo;rw[hol.out] at this;exact this
theorem zaQ (s:SV) (a:List Int) (w:World) (ha:IsL w s .u32 a) (hla:a.length≤1099511627776) (h0:0<a.length) :
  Calls Tryz.prog 145 #[.slice s.a s.len s.cap,.int .i64 0] w (oW w a.length 1 (valL a)):=by
 have da:Dig a:=ha.2;obtain⟨ao,ca,rfl,hca,hcam,hopa⟩:=ha.open_;obtain⟨ba,oa,rfl,hba,ga⟩:=hopa h0;have g0:=ga 0 h0;simp only[Nat.add_zero] at g0;have hbl:=hba.lt;have hne:¬ a=[]:=by rintro rfl;simp at h0
 go_enter Tryz.func145,Tryz.ntmps145;go_wp2;all_goals
  go_loop [6,39] (fun b i=>(∃B:Bool,b = .bool B)∧i = .int .i64 0) (fun _ _=>0)
  case atStart=>exact⟨⟨_,rfl⟩,rfl⟩
  case round =>
   obtain⟨⟨B,rfl⟩,rfl⟩:=hrel;go_wp2_with (at_make;refine fq _ rfl _ _ 84 rfl 173 .u32 4 Tryz.underlying84 d8 _ _ _ _ a.length rfl rfl (by omega) (by omega) (by omega) (by omega) ?_;intro w1 hown1 hx1 hlt1);go_loopw [57] (fun i wr => ∃(k:Nat) (o:List Int),i = .int .i64 k∧k≤a.length∧Own wr w.heap.size 173 .u32 o∧o.length=a.length∧Dig o ∧
     valL (o.take k)=valL (a.take k)∧Ext w wr) (fun i _=>a.length-(intOf i).toNat)
   case atStart=>exact⟨0,_,rfl,z9O _,hown1,by simp,fA _,by simp,hx1⟩
   case round =>
    obtain⟨k,o,rfl,hk,hown,hol,hdo,hval,hx⟩:=hrel;clear hown1;replace hval:=hd_ hval;replace hol:=hd_ hol;by_cases hlt:k<a.length
    ·have gc:=(hx.cell (p:=⟨ba,oa+k,none⟩) hbl).trans (ga k hlt);have fa:=da.at_ k;have go:=hown.cell (i:=k) (by have:=hol.out;omega);have gf:=hown.frozen k;by_cases hlt2:k+1<a.length
     all_goals
      go_wp2;go_roundw
      case rel =>
       refine⟨k+1,o.set k _,rfl,by omega,hown.set k _,by rw[z9R];exact hol.out,hdo.set k fa,?_,hx.st (z95 _) _⟩;rw[valL_set (by have:=hol.out;omega),valL_take_succ,hval.out]
      case measure=>first | (simp[intOf];done) | (simp[intOf];omega)
    ·obtain rfl:k=a.length:=by omega
     go_wp2;go_ret2;have h1:=hval.out;rw[z93 (by have:=hol.out;omega),z93 (z95 _)] at h1;refine⟨⟨some ⟨w.heap.size,0,none⟩,a.length,a.length⟩,o,_,rfl,?_,hol.out,by rw[Int.one_mul];exact h1,hx⟩;have:=hown.isL (by have:=hol.out;omega) hdo;rw[hol.out] at this;exact this
theorem zaR (s:SV) (a:List Int) (r:Nat) (w:World) (ha:IsL w s .u32 a) (hla:a.length≤1099511627776) (h0:0<a.length) (hr:r<32) :
  Calls Tryz.prog 145 #[.slice s.a s.len s.cap,.int .i64 r] w (oW w a.length (2^r) (valL a-at_ a 0 % 2^r)):=by
 rcases z9D r with h | h
 ·subst h;have:=zaQ s a w ha hla h0;rw[Int.pow_zero,Int.emod_one,z9G];exact this
 ·exact zaP s a r w ha hla h0 hr h
end Go.Proofs.YtbnhgnhgbhjkcaaGreat
