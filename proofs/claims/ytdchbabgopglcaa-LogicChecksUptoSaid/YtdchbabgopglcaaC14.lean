/- Lemmas. -/
import Derived.Test.YtdchbabgopglcaaC12
import Derived.Test.YtdchbabgopglcaaC13
import Derived.Test.YtdchbabgopglcaaC4
import Derived.Test.YtdchbabgopglcaaC3
namespace Go.Proofs.Ytdchbabgopglcaa.M
open Go.RowKit
def cV {α:Type}:Option α→List α
 |some x=>[x]
 |none=>[]
def AOp.opds:AOp→List Opd
 |.mov x | .nilCheck x | .box _ _ x | .load _ _ x | .loadP _ _ x | .un _ x | .conv _ x | .strB x | .bytS _ x | .fieldAddr _ _ _ x | .field _ _ _ x | .extract x _ | .len x | .cap x | .lenS x=>[x]
 |.pick c a b=>[c,a,b]
 |.alloc _ _ _=>[]
 |.build _ ps=>ps.map (·.2.2)
 |.buildSlice _ _ _ _ ps=>ps.map (·.2)
 |.buildSliceF _ _ _ _ ps=>ps.map (·.2)
 |.buildSliceP _ _ _ _ ps=>ps.map (·.2)
 |.store _ x v | .bin _ _ x v | .eqs _ _ x v | .indexAddr _ x v | .indexAddrP _ x v | .index x v | .indexAddrA _ _ _ x v | .indexA _ _ _ x v | .makeSlice _ _ _ _ x v | .appZ _ _ _ _ x v | .append _ _ _ x v | .appendF _ _ _ x v | .mm _ x v=>[x,v]
 |.slice _ x lo hi mx=>[x]++cV lo++cV hi++cV mx
 |.sliceA _ x lo hi mx=>[x]++cV lo++cV hi++cV mx
 |.copyA x y=>[x,y]
 |.clearS _ _ x=>[x]
 |.isNil _ x=>[x]
 |.sliceS x lo hi=>[x]++cV lo++cV hi
 |.call _ args=>args
 |.callL _ _ args=>args
 |.callW _ _ args=>args
 |.callN _ _ args=>args
 |.copyS _ _ _ y | .copyF _ _ _ y=>[y]
 |.bad=>[]
 |.callv _ x args=>x::args
 |.fnv _ a b=>a++b
section
variable {r r':Nat→AV}{m m':Mem}
theorem rp:∀(ps:List (Nat×Nat×Opd)) (l:List AV),(∀x∈ps.map (·.2.2),x.ev r=x.ev r')→cZ l r ps=cZ l r' ps
 |[],_,_=>rfl
 |(off,sz,x)::ps,l,h=>by
  have h1:=h x (by simp);simp only[cZ,h1];split
  ·exact rp ps _ (fun y hy=>h y (by simp at hy ⊢;exact .inr hy))
  ·rfl
theorem mE (sz:Nat):∀(ps:List (Nat×Opd)) (l:List D),(∀x∈ps.map (·.2),x.ev r=x.ev r')→cD sz l r m ps=cD sz l r' m ps
 |[],_,_=>rfl
 |(i,x)::ps,l,h=>by
  have h1:=h x (by simp);simp only[cD,h1];split
  ·split
   ·exact mE sz ps _ (fun y hy=>h y (by simp at hy ⊢;exact .inr hy))
   ·rfl
  ·rfl
theorem rq (sz:Nat):∀(ps:List (Nat×Opd)) (l:List D),(∀x∈ps.map (·.2),x.ev r=x.ev r')→dC sz l r ps=dC sz l r' ps
 |[],_,_=>rfl
 |(i,x)::ps,l,h=>by
  have h1:=h x (by simp);simp only[dC,h1];split
  ·split
   ·exact rq sz ps _ (fun y hy=>h y (by simp at hy ⊢;exact .inr hy))
   ·rfl
  ·rfl
theorem mF {len:Nat}{lo hi mx:Option Opd} (h:∀x∈cV lo++cV hi++cV mx,x.ev r=x.ev r'):bL r len lo hi mx=bL r' len lo hi mx:=by
 unfold bL;have h1:∀x,lo=some x→x.ev r=x.ev r':=fun x hx=>h x (by simp[hx,cV])
 have h2:∀x,hi=some x→x.ev r=x.ev r':=fun x hx=>h x (by simp[hx,cV])
 have h3:∀x,mx=some x→x.ev r=x.ev r':=fun x hx=>h x (by simp[hx,cV])
 cases lo<;>cases hi<;>cases mx<;>simp_all
theorem mG:∀(l:List Opd),(∀x∈l,x.ev r=x.ev r')→ck r m l=ck r' m l
 |[],_=>rfl
 |x::l,h=>by
  simp only[ck,h x (by simp),mG l (fun y hy=>h y (by simp[hy]))]
theorem fC:∀(l:List Opd),(∀x∈l,x.ev r=x.ev r')→aV ⟨r,m⟩ l=aV ⟨r',m⟩ l
 |[],_=>rfl
 |x::l,h=>by
  simp only[aV,h x (by simp),fC l (fun y hy=>h y (by simp[hy]))]
def cW:Option (Bool×AV×St)→Option (Bool×AV×Mem)
 |some (p,v,s)=>some (p,v,s.m)
 |none=>none
theorem S6 (o:AOp) (id:Nat) (h:∀x∈o.opds,x.ev r=x.ev r'):cW (ev o id ⟨r,m⟩)=cW (ev o id ⟨r',m⟩):=by
 cases o with
 |build z ps=>simp only[ev,rp ps z h];split<;>rfl
 |buildSlice T sz z n ps=>simp only[ev,mE (m:=m) sz ps _ h];(repeat' split)<;>rfl
 |buildSliceF T sz z n ps=>simp only[ev,mE (m:=m) sz ps _ h];(repeat' split)<;>rfl
 |buildSliceP T sz z n ps=>simp only[ev,rq sz ps _ h];(repeat' split)<;>rfl
 |slice sz x lo hi mx =>
  have hb:=fun n=>mF (r:=r) (r':=r') (len:=n) (lo:=lo) (hi:=hi) (mx:=mx) (fun y hy=>h y (by simp only[AOp.opds,List.append_assoc,List.mem_append] at hy ⊢;exact .inr hy))
  have hx:=h x (by simp[AOp.opds]);simp only[ev,hx,hb];(repeat' split)<;>rfl
 |sliceA sz x lo hi mx =>
  have hb:=fun n=>mF (r:=r) (r':=r') (len:=n) (lo:=lo) (hi:=hi) (mx:=mx) (fun y hy=>h y (by simp only[AOp.opds,List.append_assoc,List.mem_append] at hy ⊢;exact .inr hy))
  have hx:=h x (by simp[AOp.opds]);simp only[ev,hx,hb];(repeat' split)<;>rfl
 |sliceS x lo hi =>
  have hb:=fun n=>mF (r:=r) (r':=r') (len:=n) (lo:=lo) (hi:=hi) (mx:=none) (fun y hy=>h y (by
   simp only[AOp.opds,List.mem_append] at hy ⊢;rcases hy with (hy | hy) | hy
   ·exact .inl (.inr hy)
   ·exact .inr hy
   ·cases hy))
  have hx:=h x (by simp[AOp.opds]);simp only[ev,hx,hb];(repeat' split)<;>rfl
 |call f args=>rfl
 |callL f k args=>rfl
 |callW f k args=>rfl
 |callN f T args=>rfl
 |callv fs x args=>rfl
 |fnv f a b =>
  have h1:=mG (m:=m) a (fun x hx=>h x (by simp[AOp.opds,hx]));have h2:=mG (m:=m) b (fun x hx=>h x (by simp[AOp.opds,hx]));simp only[ev,h1,h2];(repeat' split)<;>rfl
 |bad=>rfl
 |isNil neg x=>rfl
 |clearS sz z x=>have h1:=h x (by simp[AOp.opds]);simp only[ev,h1];(repeat' split)<;>rfl
 |copyA x v =>
  have h1:=h x (by simp[AOp.opds]);have h2:=h v (by simp[AOp.opds]);simp only[ev,h1,h2];(repeat' split)<;>rfl
 |copyS T sz b y=>have h1:=h y (by simp[AOp.opds]);simp only[ev,h1];(repeat' split)<;>rfl
 |copyF T sz b y=>have h1:=h y (by simp[AOp.opds]);simp only[ev,h1];(repeat' split)<;>rfl
 |indexAddrA n esz ag x v =>
  have h1:=h x (by simp[AOp.opds]);have h2:=h v (by simp[AOp.opds]);simp only[ev,h1,h2];(repeat' split)<;>rfl
 |indexA n esz ag x v =>
  have h1:=h x (by simp[AOp.opds]);have h2:=h v (by simp[AOp.opds]);simp only[ev,h1,h2];(repeat' split)<;>rfl
 |append T sz b x y=>rfl
 |appendF T sz b x y=>rfl
 |alloc T sz z=>simp only[ev];split<;>rfl
 |pick c a b =>
  have h1:=h c (by simp[AOp.opds]);have h2:=h a (by simp[AOp.opds]);have h3:=h b (by simp[AOp.opds]);simp only[ev,h1,h2,h3];(repeat' split)<;>rfl
 |store sz x v =>
  have h1:=h x (by simp[AOp.opds]);have h2:=h v (by simp[AOp.opds]);simp only[ev,h1,h2];(repeat' split)<;>rfl
 |bin bo op x v =>
  have h1:=h x (by simp[AOp.opds]);have h2:=h v (by simp[AOp.opds]);simp only[ev,h1,h2];(repeat' split)<;>rfl
 |eqs n neg x v =>
  have h1:=h x (by simp[AOp.opds]);have h2:=h v (by simp[AOp.opds]);simp only[ev,h1,h2];(repeat' split)<;>rfl
 |indexAddrP sz x v =>
  have h1:=h x (by simp[AOp.opds]);have h2:=h v (by simp[AOp.opds]);simp only[ev,h1,h2];(repeat' split)<;>rfl
 |indexAddr sz x v =>
  have h1:=h x (by simp[AOp.opds]);have h2:=h v (by simp[AOp.opds]);simp only[ev,h1,h2];(repeat' split)<;>rfl
 |index x v =>
  have h1:=h x (by simp[AOp.opds]);have h2:=h v (by simp[AOp.opds]);simp only[ev,h1,h2];(repeat' split)<;>rfl
 |appZ T sz b z x v =>
  have h1:=h x (by simp[AOp.opds]);have h2:=h v (by simp[AOp.opds]);simp only[ev,h1,h2];(repeat' split)<;>rfl
 |makeSlice T sz b z x v =>
  have h1:=h x (by simp[AOp.opds]);have h2:=h v (by simp[AOp.opds]);simp only[ev,h1,h2];(repeat' split)<;>rfl
 |mov x=>have h1:=h x (by simp[AOp.opds]);simp only[ev,h1];rfl
 |nilCheck x=>have h1:=h x (by simp[AOp.opds]);simp only[ev,h1];(repeat' split)<;>rfl
 |box T sz x=>have h1:=h x (by simp[AOp.opds]);simp only[ev,h1];(repeat' split)<;>rfl
 |loadP ag sz x=>have h1:=h x (by simp[AOp.opds]);simp only[ev,h1];(repeat' split)<;>rfl
 |load ag sz x=>have h1:=h x (by simp[AOp.opds]);simp only[ev,h1];(repeat' split)<;>rfl
 |un op x=>have h1:=h x (by simp[AOp.opds]);simp only[ev,h1];(repeat' split)<;>rfl
 |strB x=>have h1:=h x (by simp[AOp.opds]);simp only[ev,h1];(repeat' split)<;>rfl
 |bytS T x=>have h1:=h x (by simp[AOp.opds]);simp only[ev,h1];(repeat' split)<;>rfl
 |conv k x=>have h1:=h x (by simp[AOp.opds]);simp only[ev,h1];(repeat' split)<;>rfl
 |fieldAddr off sz ag x=>have h1:=h x (by simp[AOp.opds]);simp only[ev,h1];(repeat' split)<;>rfl
 |field off sz ag x=>have h1:=h x (by simp[AOp.opds]);simp only[ev,h1];(repeat' split)<;>rfl
 |extract x i=>have h1:=h x (by simp[AOp.opds]);simp only[ev,h1];(split<;>(try rfl))<;>(rename_i l _;cases l[i]?<;>rfl)
 |len x=>have h1:=h x (by simp[AOp.opds]);simp only[ev,h1];(repeat' split)<;>rfl
 |cap x=>have h1:=h x (by simp[AOp.opds]);simp only[ev,h1];(repeat' split)<;>rfl
 |mm mx x v =>
  have h1:=h x (by simp[AOp.opds]);have h2:=h v (by simp[AOp.opds]);simp only[ev,h1,h2];(repeat' split)<;>rfl
 |lenS x=>have h1:=h x (by simp[AOp.opds]);simp only[ev,h1];(repeat' split)<;>rfl
theorem S7 {o:AOp}{id:Nat}{s t:St}{p:Bool}{v:AV} (h:ev o id s=some (p,v,t)):t.r=s.r:=by
 cases o<;>simp only[ev] at h <;>
  ((
   repeat' (split at h))<;>simp only[Option.some.injEq,Prod.mk.injEq,reduceCtorEq,Option.map_eq_some_iff] at h <;>
   first
    |(obtain⟨-,-,rfl⟩:=h;rfl)
    |(obtain⟨_,-,-,-,rfl⟩:=h;rfl))
end
def AOp.kind:AOp→Nat
 |.mov _ | .loadP .. | .indexAddrP .. | .nilCheck _ | .pick .. | .build .. | .bin .. | .eqs .. | .un .. | .conv .. | .sliceS .. | .fieldAddr .. | .field .. | .index .. | .indexAddrA .. | .indexA .. | .extract .. | .len _ | .cap _ | .lenS _ | .mm .. => 0
 |.load .. | .strB .. | .slice .. | .sliceA .. | .indexAddr .. | .call .. | .callv .. | .fnv .. => 1
 |.alloc .. | .box .. | .makeSlice .. | .bytS .. | .buildSliceP .. | .appZ .. => 2
 |.buildSlice .. | .buildSliceF .. | .copyS .. | .copyF .. | .callN .. => 3
 |.store .. => 4
 |.callW .. => 6
 |_=>5
def Out (G:FuncId→List D→D→Prop) (c:COp) (r:Nat→AV) (m:Mem) (v:AV) (m':Mem):Prop:=
 match c.op with
 |.call f args => ∃ds d,aV ⟨r,m⟩ args=some ds∧G f ds d∧v = .p d∧m'=m
 |.callv fs x args => ∃f a b ds d,(x.ev r).toD false m 20=some (.fn (.func f) a b)∧aV ⟨r,m⟩ args=some ds∧fs.contains f=true∧G f (a++ds++b) d∧v = .p d∧m'=m
 |.callN f T args => ∃ds sz l,aV ⟨r,m⟩ args=some ds∧m (c.dst.getD 0)=none∧G (f+LB*(8+1)) ds (.list T sz l)∧v = .slice (c.dst.getD 0) 0 l.length∧m'=upd m (c.dst.getD 0) (some ⟨T,sz,.row l,false⟩)
 |.callW f B args => ∃ds d,aV ⟨r,m⟩ args=some ds∧(∀id o,m id=some o→o.frz=true∨o.T ∉ B)∧G (f+LB*(9+1)) (.tup (B.map fun T => .int .i64 (T:Nat))::ds) d∧v = .p d∧m'=m
 |op=>cW (ev op (c.dst.getD 0) ⟨r,m⟩)=some (true,v,m')
def ch (G:FuncId→List D→D→Prop) (c:COp) (r:Nat→AV) (m:Mem) (v:AV) (m':Mem):Prop:=
 match c.guard with
 |none=>Out G c r m v m'
 |some (g,want)=>(∃b,r g = .p (.bool b)∧((b=want∧Out G c r m v m')∨(b≠want∧v = .p (.tup [])∧m'=m)))∨(r g = .p (.tup [])∧v = .p (.tup [])∧m'=m)
def bn (r:Nat→AV):Option Nat→AV→Nat→AV
 |some t,v=>upd r t v
 |none,_=>r
section
variable {G:FuncId→List D→D→Prop}{c c1 c2:COp}{K K':St→Prop}{s:St}{r r':Nat→AV}{m m':Mem}{v:AV}
theorem cX (r:Nat→AV) (m:Mem) (t:Option Nat) (v:AV):St.put ⟨r,m⟩ t v=⟨bn r t v,m⟩:=by cases t<;>rfl
theorem mH (hkind:c.op.kind≠5):au G c K ⟨r,m⟩↔∃v m',Out G c r m v m'∧K ⟨bn r c.dst v,m'⟩:=by
 have other:(∀f args,c.op≠.call f args)→(∀fs x args,c.op≠.callv fs x args)→(∀f T args,c.op≠.callN f T args)→(∀f T args,c.op≠.callW f T args)→(au G c K ⟨r,m⟩↔∃v m',cW (ev c.op (c.dst.getD 0) ⟨r,m⟩)=some (true,v,m')∧K ⟨bn r c.dst v,m'⟩):=by
  intro hn hn2 hn3 hn4;have hs:au G c K ⟨r,m⟩=(match ev c.op (c.dst.getD 0) ⟨r,m⟩ with
   |some (p,v,t)=>p=true∧K (t.put c.dst v)
   |none=>False):=by
   unfold au;cases hc:c.op<;>first | (exact absurd hc (hn _ _)) | (exact absurd hc (hn2 _ _ _)) | (exact absurd hc (hn3 _ _ _)) | (exact absurd hc (hn4 _ _ _)) | rfl | (exact absurd (by rw[hc];rfl) hkind)
  rw[hs];cases he:ev c.op (c.dst.getD 0) ⟨r,m⟩ with
  |none=>simp[cW]
  |some x =>
   obtain⟨p,v,t⟩:=x;have hr:=S7 he;obtain⟨tr,tm⟩:=t;simp only at hr;subst hr;simp only[cW,Option.some.injEq,Prod.mk.injEq,cX];constructor
   ·rintro⟨rfl,hk⟩;exact⟨v,tm,⟨rfl,rfl,rfl⟩,hk⟩
   ·rintro⟨v',m',⟨rfl,rfl,rfl⟩,hk⟩;exact⟨rfl,hk⟩
 by_cases hcall:∃f args,c.op = .call f args
 ·obtain⟨f,args,hop⟩:=hcall;unfold au Out;rw[hop];simp only;constructor
  ·intro h;split at h
   ·rename_i ds hds;obtain⟨d,hg,hk⟩:=h;rw[cX] at hk;exact⟨_,m,⟨ds,d,hds,hg,rfl,rfl⟩,hk⟩
   ·exact h.elim
  ·rintro⟨v,m',⟨ds,d,hds,hg,rfl,rfl⟩,hk⟩;rw[hds];exact⟨d,hg,by rw[cX];exact hk⟩
 by_cases hcv:∃fs x args,c.op = .callv fs x args
 ·obtain⟨fs,x,args,hop⟩:=hcv;unfold au Out;rw[hop];simp only;constructor
  ·intro h;split at h
   case h_2=>exact h.elim
   rename_i f a b ds hfv hds;obtain⟨h1,d,hg,hk⟩:=h;rw[cX] at hk;exact⟨_,m,⟨f,a,b,ds,d,hfv,hds,h1,hg,rfl,rfl⟩,hk⟩
  ·rintro⟨v,m',⟨f,a,b,ds,d,hfv,hds,h1,hg,rfl,rfl⟩,hk⟩;rw[hfv,hds];exact⟨h1,d,hg,by rw[cX];exact hk⟩
 by_cases hcn:∃f T args,c.op = .callN f T args
 ·obtain⟨f,T,args,hop⟩:=hcn;unfold au Out;rw[hop];simp only;constructor
  ·intro h;split at h
   case h_2=>exact h.elim
   rename_i ds hds;split at h
   case h_2=>exact h.elim
   rename_i hid;obtain⟨sz,l,hg,hk⟩:=h;rw[cX] at hk;exact⟨_,_,⟨ds,sz,l,hds,hid,hg,rfl,rfl⟩,hk⟩
  ·rintro⟨v,m',⟨ds,sz,l,hds,hid,hg,rfl,rfl⟩,hk⟩;rw[hds];simp only[hid];exact⟨sz,l,hg,by rw[cX];exact hk⟩
 by_cases hcw:∃f B args,c.op = .callW f B args
 ·obtain⟨f,B,args,hop⟩:=hcw;unfold au Out;rw[hop];simp only;constructor
  ·intro h;split at h
   case h_2=>exact h.elim
   rename_i ds hds;obtain⟨haw,d,hg,hk⟩:=h;rw[cX] at hk;exact⟨_,m,⟨ds,d,hds,haw,hg,rfl,rfl⟩,hk⟩
  ·rintro⟨v,m',⟨ds,d,hds,haw,hg,rfl,rfl⟩,hk⟩;rw[hds];exact⟨haw,d,hg,by rw[cX];exact hk⟩
 ·have hn:∀f args,c.op≠.call f args:=fun f args h=>hcall ⟨f,args,h⟩
  have hn2:∀fs x args,c.op≠.callv fs x args:=fun fs x args h=>hcv ⟨fs,x,args,h⟩
  have hn3:∀f T args,c.op≠.callN f T args:=fun f T args h=>hcn ⟨f,T,args,h⟩
  have hn4:∀f B args,c.op≠.callW f B args:=fun f B args h=>hcw ⟨f,B,args,h⟩
  rw[other hn hn2 hn3 hn4];have ho:∀v m',Out G c r m v m'=(cW (ev c.op (c.dst.getD 0) ⟨r,m⟩)=some (true,v,m')):=by
   intro v m';unfold Out;cases hc:c.op<;>first | (exact absurd hc (hn _ _)) | (exact absurd hc (hn2 _ _ _)) | (exact absurd hc (hn3 _ _ _)) | (exact absurd hc (hn4 _ _ _)) | rfl
  simp only[ho]
theorem eJ (hkind:c.op.kind≠5):bF G c K ⟨r,m⟩↔∃v m',ch G c r m v m'∧K ⟨bn r c.dst v,m'⟩:=by
 unfold bF ch;cases hg:c.guard with
 |none=>exact mH hkind
 |some x =>
  obtain⟨g,want⟩:=x;simp only;constructor
  ·intro h;split at h
   ·rename_i b hb;split at h
    ·rename_i hbw;obtain⟨v,m',h1,h2⟩:=(mH hkind).1 h;exact⟨v,m',.inl ⟨b,hb,.inl ⟨hbw,h1⟩⟩,h2⟩
    ·rename_i hbw;rw[cX] at h;exact⟨.p (.tup []),m,.inl ⟨b,hb,.inr ⟨hbw,rfl,rfl⟩⟩,h⟩
   ·rename_i hb;rw[cX] at h;exact⟨.p (.tup []),m,.inr ⟨hb,rfl,rfl⟩,h⟩
   ·exact h.elim
  ·rintro⟨v,m',⟨b,hb,h1⟩ | ⟨hb,rfl,rfl⟩,h2⟩
   ·rw[hb];simp only;rcases h1 with⟨hbw,h1⟩ | ⟨hbw,rfl,rfl⟩
    ·rw[if_pos hbw];exact (mH hkind).2 ⟨v,m',h1,h2⟩
    ·rw[if_neg hbw,cX];exact h2
   ·rw[hb];simp only;rw[cX];exact h2
theorem rr (h:au G c K s) (hk:∀t,K t→K' t):au G c K' s:=by
 unfold au at *;split at h
 ·split at h
  ·obtain⟨d,h1,h2⟩:=h;exact⟨d,h1,hk _ h2⟩
  ·exact h.elim
 ·split at h
  ·exact⟨h.1,hk _ h.2⟩
  ·exact h.elim
 ·split at h
  ·exact⟨h.1,hk _ h.2⟩
  ·exact h.elim
 ·split at h
  case h_4=>exact h.elim
  case h_3 =>
   split at h
   case h_2=>exact h.elim
   obtain⟨r,h2,h3⟩:=h;exact⟨r,h2,hk _ h3⟩
  case h_2 =>
   split at h
   case h_2=>exact h.elim
   obtain⟨r,l',h2,h3⟩:=h;exact⟨r,l',h2,hk _ h3⟩
  split at h
  case h_2=>exact h.elim
  split at h
  case h_2=>exact h.elim
  obtain⟨h1,r,l',h2,h3⟩:=h;exact⟨h1,r,l',h2,hk _ h3⟩
 ·split at h
  case h_2=>exact h.elim
  obtain⟨h1,d,h2,h3⟩:=h;exact⟨h1,d,h2,hk _ h3⟩
 ·split at h
  case h_2=>exact h.elim
  split at h
  case h_2=>exact h.elim
  obtain⟨sz,l,h2,h3⟩:=h;exact⟨sz,l,h2,hk _ h3⟩
 ·split at h
  case h_2=>exact h.elim
  obtain⟨h1,d,h2,h3⟩:=h;exact⟨h1,d,h2,hk _ h3⟩
 ·split at h
  ·exact hk _ h
  ·exact fun b hb=>hk _ (h b hb)
  ·exact h.elim
 ·split at h
  ·exact⟨h.1,hk _ h.2⟩
  ·exact h.elim
theorem kv (h:bF G c K s) (hk:∀t,K t→K' t):bF G c K' s:=by
 unfold bF at *;split at h
 ·exact rr h hk
 ·split at h
  ·split at h
   ·rename_i hb;rw[if_pos hb];exact rr h hk
   ·rename_i hb;rw[if_neg hb];exact hk _ h
  ·exact hk _ h
  ·exact h.elim
theorem rt:∀(l:List COp) (s:St),bl G l K s→(∀t,K t→K' t)→bl G l K' s
 |[],_,h,hk=>hk _ h
 |_::l,_,h,hk=>kv h fun t ht=>rt l t ht hk
def eK:List Opd→List Nat
 |[]=>[]
 |.t n::l=>n::eK l
 |.k _::l=>eK l
def COp.reads (c:COp):List Nat:=eK c.op.opds++(match c.guard with | some (g,_)=>[g] | none=>[])
theorem kx:∀(l:List Opd),(∀n∈eK l,r n=r' n)→∀x∈l,x.ev r=x.ev r'
 |.t n::l,h,x,hx=>by
  rcases List.mem_cons.1 hx with rfl | hx
  ·exact h n (by simp[eK])
  ·exact kx l (fun k hk=>h k (by simp[eK,hk])) x hx
 |.k v::l,h,x,hx=>by
  rcases List.mem_cons.1 hx with rfl | hx
  ·rfl
  ·exact kx l (fun k hk=>h k (by simpa[eK] using hk)) x hx
theorem Out.congr (h:∀n∈eK c.op.opds,r n=r' n) (ho:Out G c r m v m'):Out G c r' m v m':=by
 have hx:=kx (r:=r) (r':=r') c.op.opds h;unfold Out at *;have hev:=S6 (m:=m) c.op (c.dst.getD 0) hx;cases hc:c.op<;>simp only[hc] at ho hev hx ⊢<;>first | (rw[←hev];exact ho) | skip
 ·obtain⟨ds,d,h1,h2,h3,h4⟩:=ho;exact⟨ds,d,by have hq:=fC (m:=m) (r:=r) (r':=r') _ hx;simp only[AOp.opds] at hq;rw[←hq];exact h1,h2,h3,h4⟩
 ·obtain⟨f,a,b,ds,d,h0,h1,h2,h3,h4,h5⟩:=ho;simp only[AOp.opds,List.mem_cons] at hx;exact⟨f,a,b,ds,d,by rw[←hx _ (.inl rfl)];exact h0,by rw[←fC (m:=m) (r:=r) (r':=r') _ (fun y hy=>hx y (.inr hy))];exact h1,h2,h3,h4,h5⟩
 ·obtain⟨ds,sz,l,h1,h2,h3,h4,h5⟩:=ho;exact⟨ds,sz,l,by have hq:=fC (m:=m) (r:=r) (r':=r') _ hx;simp only[AOp.opds] at hq;rw[←hq];exact h1,h2,h3,h4,h5⟩
 ·obtain⟨ds,d,h1,h2,h3,h4,h5⟩:=ho;exact⟨ds,d,by have hq:=fC (m:=m) (r:=r) (r':=r') _ hx;simp only[AOp.opds] at hq;rw[←hq];exact h1,h2,h3,h4,h5⟩
theorem ch.congr (h:∀n∈c.reads,r n=r' n) (ho:ch G c r m v m'):ch G c r' m v m':=by
 have hx:∀n∈eK c.op.opds,r n=r' n:=fun n hn=>h n (by simp[COp.reads,hn])
 unfold ch at *;cases hg:c.guard with
 |none=>rw[hg] at ho;exact ho.congr hx
 |some x =>
  obtain⟨g,want⟩:=x;rw[hg] at ho;simp only at ho ⊢;have e:r g=r' g:=h g (by simp[COp.reads,hg]);rcases ho with⟨b,hb,h1⟩ | ⟨hb,h1⟩
  ·exact .inl ⟨b,by rw[←e];exact hb,h1.imp (fun h1=>⟨h1.1,h1.2.congr hx⟩) id⟩
  ·exact .inr ⟨by rw[←e];exact hb,h1⟩
end
end Go.Proofs.Ytdchbabgopglcaa.M
namespace Go.Proofs.Ytdchbabgopglcaa
open Go.RowKit
theorem Np {m n:Bool}{p q:Int}:sg (!(m == n)) (p*q)=sg m p*sg n q:=by cases m<;>cases n<;>simp[sg,Int.neg_mul,Int.mul_neg]
theorem f6 (i j:Nat):(4294967296:Int)^(i+j)=4294967296^i*4294967296^j:=Int.pow_add ..
set_option maxRecDepth 100000
set_option maxHeartbeats 1000000
def aG (t:List UInt8):Int:=t.foldl (fun a c=>a*10+((c.toNat:Int)-48)) 0
theorem lH (t:List UInt8) (c:UInt8):aG (t++[c])=aG t*10+((c.toNat:Int)-48):=by simp[aG]
theorem MY (b:List UInt8):∀x:Int,b.foldl (fun a c=>a*10+((c.toNat:Int)-48)) x=x*10^b.length+aG b:=by
 induction b with
 |nil=>intro x;simp[aG]
 |cons c t ih =>
  intro x;have h0:=ih (0*10+((c.toNat:Int)-48));simp only[List.foldl_cons,List.length_cons,Int.pow_succ,aG] at *;rw[ih,h0];grind
theorem MZ (a b:List UInt8):aG (a++b)=aG a*10^b.length+aG b:=by
 unfold aG;rw[List.foldl_append,MY];rfl
theorem jH {q:List UInt8}{j:Nat} (h:j<q.length):aG (q.take (j+1))=aG (q.take j)*10+((byt q j:Int)-48):=by
 rw[List.take_succ_eq_append_getElem h,lH,iY h]
theorem jI {j:Nat} (h:j≤9):(1:Int)≤10^j∧(10:Int)^j≤1000000000:=by
 have h1:(10:Nat)^j≤10^9:=Nat.pow_le_pow_right (by omega) h;have h2:0<(10:Nat)^j:=Nat.pow_pos (by omega);have e:(10:Int)^j=((10^j:Nat):Int):=by rw[Int.natCast_pow];rfl
 rw[e];simp only[Nat.reducePow] at h1;omega
theorem valL_snoc (l:List Int) (x:Int):valL (l++[x])=valL l+x*4294967296^l.length:=by
 induction l with
 |nil=>simp[valL]
 |cons y t ih=>simp only[List.cons_append,valL,ih,List.length_cons,Int.pow_succ];grind
theorem Dig.snoc {l:List Int} (h:Dig l){x:Int} (hx:0≤x∧x≤4294967295):Dig (l++[x]):=by
 intro y hy;rcases List.mem_append.1 hy with hy | hy
 ·exact h y hy
 ·rw[List.mem_singleton.1 hy];exact hx
theorem M0 {m d:Int} (hm:0≤m∧m≤4294967295) (hd:1≤d∧d≤1000000000):0≤m*d∧m*d≤4294967295000000000:=by
 refine⟨Int.mul_nonneg hm.1 (by omega),?_⟩;have:=Int.mul_le_mul hm.2 hd.2 (by omega) (by omega);omega
theorem M1 {V c V0 d P0 m p q:Int} (h:V+c*p=V0*d+P0) (hq:p*4294967296=q) :
  V+(c+m*d) % 4294967296*p+(c+m*d) / 4294967296*q=(V0+m*p)*d+P0:=by
 have h1:(c+m*d) % 4294967296=(c+m*d)-4294967296*((c+m*d) / 4294967296):=by omega
 rw[h1,←hq];generalize (c+m*d) / 4294967296=e;grind
theorem M2 (t:List UInt8) (w:World) (hs:t.length≤1099511627776) (hd:∀j,j<t.length→48≤byt t j∧byt t j≤57) :
  Calls Try.prog 45 #[.string (bs t)] w (FA w (aG t)):=by
 replace hd:=hd_ hd;go_enter Try.func45,Try.ntmps45;go_wp2;go_loopw [0,3] (fun v m wr => ∃p s l,v = .string (bs (t.drop p))∧m = .slice (SV.a s) (SV.len s) (SV.cap s)∧p≤t.length∧Rw wr w.heap.size .u32 s l∧Dig l∧valL l=aG (t.take p)∧l.length≤p∧Ext w wr) (fun v _ _=>match v with | .string b=>b.size | _=>0)
 case atStart=>exact⟨0,⟨none,0,0⟩,[],by simp,rfl,Nat.zero_le _,Rw.nil_ _ _ _,(fun x hx=>by cases hx),rfl,Nat.le_refl _,Ext.rf _⟩
 case round =>
  obtain⟨p,s,l,rfl,rfl,hp,hrw,hdl,hval,hll,hx⟩:=hrel;have hsl:=hrw.len;obtain⟨sa,sn,sc⟩:=s;simp only at hsl;subst hsl;obtain⟨q,hq⟩:∃q,q=t.drop p:=⟨_,rfl⟩
  have hql:q.length+p=t.length:=by rw[hq];simp;omega
  have HQD:Hd (∀j,j<q.length→48≤byt q j∧byt q j≤57):=hd_ (fun j hj=>by rw[hq,ko];exact hd.out _ (by omega));have HQ:=hd_ hq;have HQL:=hd_ hql;replace hql:q.length≤t.length:=by omega
  rw[←hq];clear hq;replace hval:=hd_ hval;by_cases h0:0<q.length
  ·obtain⟨n,hn,hn1,hn9,hnq⟩:∃n:Nat,((q.length:Int)-1) % 9+1=(n:Int)∧1≤n∧n≤9∧n≤q.length:=⟨(q.length-1) % 9+1,by omega,by omega,by omega,by omega⟩
   go_wp2_with ((refine PY _ rfl 9 101 _ rfl Try.underlying9 Try.underlying101 Try.underlying5 (q.take n) (by rfl) (by simp;omega) ?_);intro cb w1 hb1 hx1 hcell1);have htl:(q.take n).length=n:=by simp;omega
   have HTL:=hd_ htl;clear htl;go_loop [23,5,6] (fun j pt b => ∃(m:Nat) (pp bb:Int),j = .int .i64 m∧pt = .int .u64 pp∧b = .int .u64 bb∧m≤n∧bb=10^m∧pp=aG (q.take m)∧0≤pp∧pp<bb) (fun j _ _=>n-(intOf j).toNat)
   case atStart=>exact⟨0,0,1,rfl,rfl,rfl,Nat.zero_le _,by simp,rfl,by omega,by omega⟩
   case round =>
    obtain⟨m,pp,bb,rfl,rfl,rfl,hm,hbb,hpp,hpp0,hpp1⟩:=hrel;have hb9:=jI (j:=m) (by omega);rw[←hbb] at hb9;replace hbb:=hd_ hbb;replace hpp:=hd_ hpp;by_cases hlt:m<n
    ·have hc:=hcell1 m (by rw[HTL.out];exact hlt);have hby:byt (q.take n) m=byt q m:=by simp[byt,hlt]
     have hd1:=HQD.out m (by omega);have hb9':=jI (j:=m+1) (by omega);have hbs:(10:Int)^(m+1)=bb*10:=by rw[hbb.out,Int.pow_succ]
     rw[hbs] at hb9';replace hbs:=hd_ hbs;go_wp2;go_round
     case rel =>
      refine⟨m+1,_,_,by go_num,rfl,rfl,by omega,hbs.out.symm,?_,by omega,by omega⟩;rw[jH (by omega),←hpp.out]
     case measure=>first | (simp[intOf];done) | (simp[intOf];omega)
    ·obtain rfl:m=n:=by omega
     clear hcell1;go_wp2;go_loopw [41,5] (fun i c wi => ∃(k:Nat) (cc:Int) (l2:List Int),i = .int .i64 k∧c = .int .u64 cc∧k≤l.length∧0≤cc∧cc≤1000000000∧Rw wi w.heap.size .u32 ⟨sa,l.length,sc⟩ l2∧l2.length=l.length∧Dig l2 ∧
       valL (l2.take k)+cc*4294967296^k=valL (l.take k)*bb+pp∧(∀j,k≤j→at_ l2 j=at_ l j)∧Ext w wi) (fun i _ _=>l.length-(intOf i).toNat)
     case atStart=>exact⟨0,pp,l,rfl,rfl,Nat.zero_le _,hpp0,by omega,hrw.keep hx1,rfl,hdl,by simp[valL],fun _ _=>rfl,hx.tr hx1⟩
     case round =>
      clear hb1 hx1 hrw hx;obtain⟨k,cc,l2,rfl,rfl,hk,hcc0,hcc1,hrw,hl2,hdl2,hval2,htl2,hx⟩:=hrel;replace hval2:=hd_ hval2;replace htl2:=hd_ htl2;replace hl2:=hd_ hl2;by_cases hlt:k<l.length
      ·obtain⟨g,cap,hsv,hgb,hgt,hgc1,hgc2,hgc,hgf⟩:=hrw.open_ (by rw[hl2.out];omega);rw[SV.mk.injEq] at hsv;obtain⟨rfl,-,rfl⟩:=hsv;have gc:=hgc k (by rw[hl2.out];exact hlt);have gf:=hgf k;clear hgc hgf;have fm:=hdl2.at_ k;have fmb:=M0 fm hb9;go_wp2;go_roundw
       case rel =>
        refine⟨k+1,_,l2.set k ((cc+at_ l2 k*bb) % 4294967296),by go_num,rfl,by omega,by omega,by omega,?_,by rw[List.length_set];exact hl2.out,hdl2.set k (by omega),?_,?_,?_⟩
        ·have:=Rw.set (l:=l2) (g:=g) (cap:=sc) (by rw[hl2.out];exact hrw) k ((cc+at_ l2 k*bb) % 4294967296);rw[hl2.out] at this;exact this
        ·rw[valL_set (by rw[hl2.out];exact hlt),valL_take_succ,←htl2.out k (Nat.le_refl _)];exact M1 hval2.out (Int.pow_succ ..).symm
        ·intro j hj;rw[co (by omega)];exact htl2.out j (by omega)
        ·exact hx.st hgb _
       case measure=>first | (simp[intOf];done) | (simp[intOf];omega)
      ·obtain rfl:k=l.length:=by omega
       have hfin:valL l2+cc*4294967296^l.length=aG (t.take (p+m)):=by
        have h1:=hval2.out;rw[List.take_of_length_le (by rw[hl2.out];exact Nat.le_refl _),List.take_of_length_le (Nat.le_refl _),hval.out,hpp.out,hbb.out] at h1;rw[h1,List.take_add,MZ,←HQ.out,HTL.out]
       have hdq:q.drop m=t.drop (p+m):=by rw[HQ.out,List.drop_drop]
       replace hfin:=hd_ hfin;by_cases hc0:0<cc
       ·have hsl:l2.length=(⟨sa,l.length,sc⟩:SV).len:=hl2.out;go_wp2_with ((refine dO _ rfl _ _ 60 rfl .u32 4 Try.underlying60 dZ w ⟨sa,l.length,sc⟩ l2 cc rfl rfl hrw hx (by rw[hl2.out];omega) (by rw[hl2.out];omega) ?_);intro s3 w3 hrw3 hx3 _);try rw[hdq]
        go_roundw
        case rel =>
         refine⟨p+m,s3,l2++[cc],rfl,rfl,?_,hrw3,hdl2.snoc (by omega),?_,?_,hx3⟩
         ·have:=HQL.out;omega
         ·rw[valL_snoc,hl2.out,hfin.out]
         ·rw[List.length_append,hl2.out];simp;omega
        case measure=>have:=HQL.out;simp;omega
       ·obtain rfl:cc=0:=by omega
        go_wp2;try rw[hdq]
        go_roundw
        case rel =>
         refine⟨p+m,⟨sa,l.length,sc⟩,l2,rfl,rfl,?_,hrw,hdl2,?_,?_,hx⟩
         ·have:=HQL.out;omega
         ·have:=hfin.out;rw[Int.zero_mul,Int.add_zero] at this;exact this
         ·rw[hl2.out];omega
        case measure=>have:=HQL.out;simp;omega
  ·have hp:p=t.length:=by have:=HQL.out;omega
   replace hp:=hd_ hp;go_wp2;go_ret;refine⟨⟨sa,l.length,sc⟩,l,rfl,hrw.isL hdl,?_,hx⟩;rw[hval.out,hp.out,List.take_of_length_le (Nat.le_refl _)]
theorem mL {p x:Int} (hp:0≤p∧p≤4294967295) (hx:0≤x∧x≤4294967295):bits BinOp.or IntKind.u64 (p*4294967296) x=p*4294967296+x:=by
 rw[u64_or _ _ (by omega) (by omega) (by omega) (by omega)];rw[nat_join 32 _ _ (by omega) (by omega)];omega
theorem rB {hi lo y:Int} (h0:0≤hi) (h1:hi<y) (h2:0≤lo∧lo≤4294967295):0≤(hi*4294967296+lo) / y∧(hi*4294967296+lo) / y≤4294967295∧0≤(hi*4294967296+lo) % y∧(hi*4294967296+lo) % y<y:=by
 refine⟨Int.ediv_nonneg (by omega) (by omega),?_,Int.emod_nonneg _ (by omega),Int.emod_lt_of_pos _ (by omega)⟩;have:(hi*4294967296+lo) / y<4294967296:=Int.ediv_lt_of_lt_mul (by omega) (by omega);omega
theorem Ti (hi lo y:Int) (w:World) (h0:0≤hi) (h1:hi<y) (hy:y≤4294967295) (h2:0≤lo∧lo≤4294967295) :
  Calls Try.prog 70 #[.int .u32 hi,.int .u32 lo,.int .u32 y] w (fun e w'=>e = .returned (.tuple #[.int .u32 ((hi*4294967296+lo) / y),.int .u32 ((hi*4294967296+lo) % y)])∧Ext w w'):=by
 have ho:=mL (p:=hi) (by omega) h2;have hb:=rB h0 h1 h2;go_enter Try.func70,Try.ntmps70;go_wp2;go_quiet (fail);go_wp2;go_ret2;exact⟨rfl,below_drewN (Ext.rf _) _⟩
theorem Tj {l:List Int}{k:Nat} (h:k<l.length) (v:Int):valL ((l.set k v).drop k)=v+4294967296*valL (l.drop (k+1)):=by
 rw[iU,fu h,List.drop_set_of_lt (by omega)]
def Tk (w:World) (n:Nat) (q r:Int) (e:Ending) (w':World):Prop:=
 ∃(s:SV) (l:List Int),e = .returned (.tuple #[.slice s.a s.len s.cap,.int .u32 r])∧IsL w' s .u32 l∧l.length=n∧valL l=q∧Ext w w'
theorem rC {A D o r:Int} (h:o*D+r=A) (h0:0≤r) (h1:r<D):o=A / D∧r=A % D:=by
 have h2:=Int.mul_ediv_add_emod A D;have h3:=Int.emod_nonneg A (show D≠0 by omega);have h4:=Int.emod_lt_of_pos A (show 0<D by omega);have:A / D=o:=by
  rw[←h,Int.add_comm,Int.add_mul_ediv_right _ _ (by omega),Int.ediv_eq_zero_of_lt h0 h1,Int.zero_add]
 rw[this] at h2;refine⟨this.symm,?_⟩;have e:D*o=o*D:=Int.mul_comm ..;omega
theorem Tl {V o r a D:Int} (h:o*D+r=V):((r*4294967296+a) / D+4294967296*o)*D+(r*4294967296+a) % D=a+4294967296*V:=by
 have h2:=Int.mul_ediv_add_emod (r*4294967296+a) D;generalize (r*4294967296+a) / D=q at *;generalize (r*4294967296+a) % D=s at *;subst h;grind
theorem Tm (s:SV) (a:List Int) (d:Int) (w:World) (ha:IsL w s .u32 a) (hla:a.length≤1099511627776) (hd:1≤d∧d≤4294967295) :
  Calls Try.prog 59 #[.slice s.a s.len s.cap,.int .u32 d] w (Tk w a.length (valL a / d) (valL a % d)):=by
 have da:Dig a:=ha.2;obtain⟨ao,ca,rfl,hca,hcam,hopa⟩:=ha.open_;go_enter Try.func59,Try.ntmps59;go_wp2_with (at_make;refine fg _ rfl _ _ 60 rfl 100 .u32 4 Try.underlying60 dZ _ _ _ _ a.length rfl rfl (by omega) (by omega) (by omega) (by omega) ?_;intro w1 hown1 hx1 hlt1);go_loopw [7,8] (fun rv i wr => ∃(k:Nat) (r:Int) (o:List Int),rv = .int .u32 r∧i = .int .i64 ((k:Int)-1)∧k≤a.length∧Own wr w.heap.size 100 .u32 o∧o.length=a.length∧Dig o∧(0≤r∧r<d) ∧
   valL (o.drop k)*d+r=valL (a.drop k)∧Ext w wr) (fun _ i _=>(intOf i+1).toNat)
 case atStart=>exact⟨a.length,0,_,rfl,rfl,Nat.le_refl _,hown1,by simp,eU _,by omega,by rw[List.drop_of_length_le (by simp),List.drop_of_length_le (by simp)];simp[valL],hx1⟩
 case round =>
  obtain⟨k,r,o,rfl,rfl,hk,hown,hol,hdo,hr,hval,hx⟩:=hrel;clear hown1;replace hval:=hd_ hval;replace hol:=hd_ hol
  match k,hk,hval with
  |0,hk,hval =>
   go_wp2;go_ret2;have h1:=rC hval.out hr.1 hr.2;rw[List.drop_zero,List.drop_zero] at h1;refine⟨⟨some ⟨w.heap.size,0,none⟩,a.length,a.length⟩,o,by rw[←h1.2];rfl,?_,hol.out,h1.1,hx⟩;have:=hown.isL (by have:=hol.out;omega) hdo;rw[hol.out] at this;exact this
  |k+1,hk,hval =>
   rw[show ((k+1:Nat):Int)-1=(k:Int) by omega];obtain⟨ba,oa,rfl,hba,ga⟩:=hopa (by omega);have ga:=(hx.cell (p:=⟨ba,oa+k,none⟩) hba.lt).trans (ga k hk);have fa:=da.at_ k;have hb:=rB (y:=d) hr.1 hr.2 fa;go_wp2_with fail;refine (Ti _ _ _ _ hr.1 hr.2 hd.2 fa).mono ?_;rintro e w2 ⟨rfl,hx2⟩;have go:=(hown.keep hx2).cell (i:=k) (by have:=hol.out;omega);have gf:=(hown.keep hx2).frozen k;go_wp2;go_roundw
   case rel =>
    refine⟨k,_,o.set k _,rfl,rfl,by omega,(hown.keep hx2).set k _,by rw[List.length_set];exact hol.out,hdo.set k ⟨hb.1,hb.2.1⟩,⟨hb.2.2.1,hb.2.2.2⟩,?_,(hx.tr hx2).st (Nat.le_refl _) _⟩;rw[Tj (by have:=hol.out;omega),iU a k];exact Tl hval.out
   case measure=>first | (simp[intOf];done) | (simp[intOf];omega)
theorem i7 (n i:Nat):at_ (List.replicate n 0) i=0:=by
 simp only[at_,List.getD_eq_getElem?_getD,List.getElem?_replicate];split<;>rfl
def rD (w:World) (n:Nat) (z:Int) (e:Ending) (w':World):Prop:=
 ∃(b:Nat) (l:List Int),e = .returned (.slice (some ⟨b,0,none⟩) n n)∧Own w' b 100 .u32 l∧l.length=n∧Dig l∧valL l=z∧w.heap.size≤b∧Ext w w'
theorem dK {r:Nat} (h:r<32):(1:Int)≤2^r∧(2:Int)^r≤2147483648∧(4294967296:Int)=2^r*2^(32-r):=by
 have h1:(2:Nat)^r≤2^31:=Nat.pow_le_pow_right (by omega) (by omega);have h2:(1:Nat)≤2^r:=Nat.one_le_two_pow;have e:(2:Int)^r=((2^r:Nat):Int):=by simp
 have e3:(2:Int)^r*2^(32-r)=2^32:=by rw[←Int.pow_add,show r+(32-r)=32 by omega]
 refine⟨by omega,by omega,e3.symm⟩
theorem rE {r:Nat}{c l:Int} (hr:r<32) (hc:0≤c∧c<2^r) (hl:0≤l∧l≤4294967295) (hd:l % 2^r=0):bits BinOp.or IntKind.u32 c l=c+l∧bits BinOp.or IntKind.u32 l c=l+c∧c+l≤4294967295:=by
 have h2:=dK hr;obtain⟨C,rfl⟩:=Int.eq_ofNat_of_zero_le hc.1;obtain⟨L,rfl⟩:=Int.eq_ofNat_of_zero_le hl.1;have e:(2:Int)^r=((2^r:Nat):Int):=by simp
 have e2:(2:Int)^(32-r)=((2^(32-r):Nat):Int):=by simp
 rw[e] at hd hc h2;rw[e2] at h2;have hd':L % 2^r=0:=by omega
 have hj:=nat_join r L C hd' (by omega);have hj2:C ||| L=C+L:=by rw[Nat.or_comm,hj];omega
 have hlt:C+L<4294967296:=by
  obtain⟨m,hm⟩:=Nat.dvd_of_mod_eq_zero hd';have h5:4294967296=2^r*2^(32-r):=by have:=h2.2.2;rw[←Int.natCast_mul] at this;omega
  generalize 2^(32-r)=q at *;generalize 2^r=p at *;subst hm;have h6:m<q:=by
   refine Nat.lt_of_mul_lt_mul_left (a:=p) ?_;omega
  have h7:=Nat.mul_le_mul_left p (show m+1≤q from h6);rw[Nat.mul_add,Nat.mul_one] at h7;omega
 refine⟨?_,?_,by omega⟩
 ·rw[u32_or_nat _ _ (by omega) (by omega),hj2];simp
 ·rw[u32_or_nat _ _ (by omega) (by omega),hj];simp
theorem Tn {r:Nat}{x c:Int} (hr:r<32) (hx:0≤x∧x≤4294967295) (hc:0≤c∧c<2^r) :
  bits BinOp.or IntKind.u32 c (IntKind.u64.wrap (x*2^r) % 4294967296)=c+(x*2^r) % 4294967296 ∧
  bits BinOp.or IntKind.u32 0 (IntKind.u64.wrap (x*2^r) / 4294967296 % 4294967296)=x*2^r / 4294967296 ∧
  (0≤c+(x*2^r) % 4294967296∧c+(x*2^r) % 4294967296≤4294967295)∧(0≤x*2^r / 4294967296∧x*2^r / 4294967296<2^r)∧(2:Int)^r≤4294967296:=by
 have h2:=dK hr;have hd:(x*2^r) % 4294967296 % 2^r=0:=by
  rw[Int.emod_emod_of_dvd _ ⟨_,h2.2.2⟩,Int.mul_emod_left]
 have hb:0≤x*2^r∧x*2^r≤4294967295*2147483648:=⟨Int.mul_nonneg hx.1 (by omega),Int.mul_le_mul hx.2 h2.2.1 (by omega) (by omega)⟩
 have hlt:x*2^r<2^r*4294967296:=by
  have:=Int.mul_le_mul_of_nonneg_right hx.2 (show (0:Int)≤2^r by omega);omega
 have hw:IntKind.u64.wrap (x*2^r)=x*2^r:=by rw[IntKind.wrap_u64];omega
 rw[hw];have hl:0≤(x*2^r) % 4294967296∧(x*2^r) % 4294967296≤4294967295:=by omega
 have hj:=rE hr hc hl hd;have hh:0≤x*2^r / 4294967296∧x*2^r / 4294967296<2^r:=⟨by omega,Int.ediv_lt_of_lt_mul (by omega) hlt⟩
 have hh2:=hh.2;refine⟨hj.1,?_,⟨by omega,hj.2.2⟩,hh,by omega⟩;rw[Int.emod_eq_of_lt hh.1 (by omega)];rw[u32_or _ _ (by omega) (by omega) (by omega) (by omega)];simp;omega
theorem To (s:SV) (a:List Int) (N:Int) (q r:Nat) (w:World) (ha:IsL w s .u32 a) (hla:a.length≤1099511627776) (hN:N=32*q+r) (hr:r<32) (hq:q≤1099511627776) :
  Calls Try.prog 72 #[.slice s.a s.len s.cap,.int .i64 N] w (rD w (a.length+q+1) (valL a*2^r*4294967296^q)):=by
 have da:Dig a:=ha.2;obtain⟨ao,ca,rfl,hca,hcam,hopa⟩:=ha.open_;have e1:N / 32=q:=by omega
 have e2:N % 32=r:=by omega
 have hN0:0≤N:=by omega
 clear hN;go_enter Try.func72,Try.ntmps72;go_wp2_with (at_make;refine fg _ rfl _ _ 60 rfl 100 .u32 4 Try.underlying60 dZ _ _ _ _ (a.length+q+1) rfl rfl (by omega) (by omega) (by omega) (by omega) ?_;intro w1 hown1 hx1 hlt1);go_loopw [18] (fun i wr => ∃(k:Nat) (o:List Int),i = .int .i64 k∧k≤a.length∧Own wr w.heap.size 100 .u32 o∧o.length=a.length+q+1∧Dig o ∧
   valL o=valL (a.take k)*2^r*4294967296^q∧(∀t,k+q<t→at_ o t=0)∧at_ o (k+q)<2^r∧Ext w wr) (fun i _=>a.length-(intOf i).toNat)
 case atStart =>
  refine⟨0,_,rfl,Nat.zero_le _,hown1,by simp,eU _,?_,fun t _ => ?_,?_,hx1⟩
  ·rw[valL_zero (fun j=>i7 _ j)];simp[valL]
  ·exact i7 _ t
  ·rw[i7];exact Int.pow_pos (by omega)
 case round =>
  obtain⟨k,o,rfl,hk,hown,hol,hdo,hval,hz,htop,hx⟩:=hrel;clear hown1;replace hval:=hd_ hval;replace hol:=hd_ hol;replace hz:=hd_ hz;replace htop:=hd_ htop;by_cases hlt:k<a.length
  ·obtain⟨ba,oa,rfl,hba,ga⟩:=hopa (by omega);have ga:=(hx.cell (p:=⟨ba,oa+k,none⟩) hba.lt).trans (ga k hlt);have fa:=da.at_ k;have go:=hown.cell (i:=k+q) (by have:=hol.out;omega);have gf:=hown.frozen (k+q);have go2:=hown.cell (i:=k+q+1) (by have:=hol.out;omega);have gf2:=hown.frozen (k+q+1);go_wp2;have hz1:at_ o (k+q+1)=0:=hz.out _ (by omega);have fo:=hdo.at_ (k+q);obtain⟨c1,c2,c3,c4,c5⟩:=Tn hr fa ⟨fo.1,htop.out⟩;rw[hz1,c1,c2];go_roundw
   case rel =>
    refine⟨k+1,(o.set (k+q) _).set (k+q+1) _,rfl,by omega,(hown.set (k+q) _).set (k+q+1) _,by rw[List.length_set,List.length_set];exact hol.out,(hdo.set _ c3).set _ (by have:=c4.2;omega),?_,?_,?_,(hx.st (Nat.le_refl _) _).st (Nat.le_refl _) _⟩
    ·rw[valL_set_full (by rw[List.length_set];have:=hol.out;omega),valL_set_full (by have:=hol.out;omega),co (by omega),hz1,hval.out,valL_take_succ];rw[show k+q+1=k+q+1 from rfl,Int.pow_succ,f6 k q];generalize (2:Int)^r=p2 at *;have e:=Int.mul_ediv_add_emod (at_ a k*p2) 4294967296;generalize (at_ a k*p2) / 4294967296=h at *;generalize (at_ a k*p2) % 4294967296=l at *;generalize (4294967296:Int)^k=bk at *;generalize (4294967296:Int)^q=bq at *;clear c1 c2 c3 c4 c5;grind
    ·intro t ht;rw[co (by omega),co (by omega)];exact hz.out t (by omega)
    ·rw[show k+1+q=k+q+1 by omega,fu (by rw[List.length_set];have:=hol.out;omega)];exact c4.2
   case measure=>first | (simp[intOf];done) | (simp[intOf];omega)
  ·obtain rfl:k=a.length:=by omega
   go_wp2;go_ret;refine⟨w.heap.size,o,rfl,hown,hol.out,hdo,?_,Nat.le_refl _,hx⟩;rw[hval.out,List.take_of_length_le (Nat.le_refl _)]
end Go.Proofs.Ytdchbabgopglcaa
