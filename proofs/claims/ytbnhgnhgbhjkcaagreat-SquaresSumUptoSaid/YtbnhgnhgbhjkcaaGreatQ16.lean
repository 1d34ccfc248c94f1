/- Lemmas. -/
import Derived.Test.YtbnhgnhgbhjkcaaGreatQ14
import Derived.Test.YtbnhgnhgbhjkcaaGreatQ15
import Derived.Test.YtbnhgnhgbhjkcaaGreatQ6
import Derived.Test.YtbnhgnhgbhjkcaaGreatQ4
namespace Go.Proofs.YtbnhgnhgbhjkcaaGreat.M
set_option linter.unusedSimpArgs false
open Go.RowKit
def dz {α:Type}:Option α→List α
 |some x=>[x]
 |none=>[]
def AOp.opds:AOp→List Opd
 |.mov x | .nilCheck x | .box _ _ x | .load _ _ x | .loadP _ _ x | .un _ x | .conv _ x | .strB x | .bytS _ x | .fieldAddr _ _ _ x | .field _ _ _ x | .extract x _ | .len x | .cap x | .lenS x=>[x]
 |.pick c a b=>[c,a,b]
 |.alloc _ _ _=>[]
 |.build _ ps=>ps.map (·.2.2)
 |.buildSlice _ _ _ _ ps=>ps.map (·.2)
 |.buildSliceF _ _ _ _ ps=>ps.map (·.2)
 |.buildSliceP _ _ _ _ ps=>ps.map (·.2)
 |.store _ x v | .bin _ _ x v | .eqs _ _ x v | .indexAddr _ x v | .indexAddrP _ x v | .index x v | .indexAddrA _ _ _ x v | .indexA _ _ _ x v | .makeSlice _ _ _ _ x v | .appZ _ _ _ _ x v | .append _ _ _ x v | .appendF _ _ _ x v | .mm _ x v=>[x,v]
 |.slice _ x lo hi mx=>[x]++dz lo++dz hi++dz mx
 |.sliceA _ x lo hi mx=>[x]++dz lo++dz hi++dz mx
 |.copyA x y=>[x,y]
 |.clearS _ _ x=>[x]
 |.isNil _ x=>[x]
 |.sliceS x lo hi=>[x]++dz lo++dz hi
 |.call _ args=>args
 |.callL _ _ args=>args
 |.callW _ _ args=>args
 |.callN _ _ args=>args
 |.copyS _ _ _ y | .copyF _ _ _ y=>[y]
 |.bad=>[]
 |.callv _ x args=>x::args
 |.fnv _ a b=>a++b
section
variable {r r':Nat→AV}{m m':Mem}
theorem uZ:∀(ps:List (Nat×Nat×Opd)) (l:List AV),(∀x∈ps.map (·.2.2),x.ev r=x.ev r')→cJ l r ps=cJ l r' ps
 |[],_,_=>rfl
 |(off,sz,x)::ps,l,h=>by
  have h1:=h x (by simp);simp only[cJ,h1];split
  ·exact uZ ps _ (fun y hy=>h y (by simp at hy ⊢;exact .inr hy))
  ·rfl
theorem o8 (sz:Nat):∀(ps:List (Nat×Opd)) (l:List D),(∀x∈ps.map (·.2),x.ev r=x.ev r')→cX sz l r m ps=cX sz l r' m ps
 |[],_,_=>rfl
 |(i,x)::ps,l,h=>by
  have h1:=h x (by simp);simp only[cX,h1];split
  ·split
   ·exact o8 sz ps _ (fun y hy=>h y (by simp at hy ⊢;exact .inr hy))
   ·rfl
  ·rfl
theorem u3 (sz:Nat):∀(ps:List (Nat×Opd)) (l:List D),(∀x∈ps.map (·.2),x.ev r=x.ev r')→eg sz l r ps=eg sz l r' ps
 |[],_,_=>rfl
 |(i,x)::ps,l,h=>by
  have h1:=h x (by simp);simp only[eg,h1];split
  ·split
   ·exact u3 sz ps _ (fun y hy=>h y (by simp at hy ⊢;exact .inr hy))
   ·rfl
  ·rfl
theorem o9 {len:Nat}{lo hi mx:Option Opd} (h:∀x∈dz lo++dz hi++dz mx,x.ev r=x.ev r'):cd r len lo hi mx=cd r' len lo hi mx:=by
 unfold cd;have h1:∀x,lo=some x→x.ev r=x.ev r':=fun x hx=>h x (by simp[hx,dz])
 have h2:∀x,hi=some x→x.ev r=x.ev r':=fun x hx=>h x (by simp[hx,dz])
 have h3:∀x,mx=some x→x.ev r=x.ev r':=fun x hx=>h x (by simp[hx,dz])
 cases lo<;>cases hi<;>cases mx<;>simp_all
theorem pc:∀(l:List Opd),(∀x∈l,x.ev r=x.ev r')→cL r m l=cL r' m l
 |[],_=>rfl
 |x::l,h=>by
  simp only[cL,h x (by simp),pc l (fun y hy=>h y (by simp[hy]))]
theorem gQ:∀(l:List Opd),(∀x∈l,x.ev r=x.ev r')→a7 ⟨r,m⟩ l=a7 ⟨r',m⟩ l
 |[],_=>rfl
 |x::l,h=>by
  simp only[a7,h x (by simp),gQ l (fun y hy=>h y (by simp[hy]))]
def dC:Option (Bool×AV×St)→Option (Bool×AV×Mem)
 |some (p,v,s)=>some (p,v,s.m)
 |none=>none
theorem zaV (o:AOp) (id:Nat) (h:∀x∈o.opds,x.ev r=x.ev r'):dC (ev o id ⟨r,m⟩)=dC (ev o id ⟨r',m⟩):=by
 cases o with
 |build z ps=>simp only[ev,uZ ps z h];split<;>rfl
 |buildSlice T sz z n ps=>simp only[ev,o8 (m:=m) sz ps _ h];(repeat' split)<;>rfl
 |buildSliceF T sz z n ps=>simp only[ev,o8 (m:=m) sz ps _ h];(repeat' split)<;>rfl
 |buildSliceP T sz z n ps=>simp only[ev,u3 sz ps _ h];(repeat' split)<;>rfl
 |slice sz x lo hi mx =>
  have hb:=fun n=>o9 (r:=r) (r':=r') (len:=n) (lo:=lo) (hi:=hi) (mx:=mx) (fun y hy=>h y (by simp only[AOp.opds,z9A,z9y] at hy ⊢;exact .inr hy))
  have hx:=h x (by simp[AOp.opds]);simp only[ev,hx,hb];(repeat' split)<;>rfl
 |sliceA sz x lo hi mx =>
  have hb:=fun n=>o9 (r:=r) (r':=r') (len:=n) (lo:=lo) (hi:=hi) (mx:=mx) (fun y hy=>h y (by simp only[AOp.opds,z9A,z9y] at hy ⊢;exact .inr hy))
  have hx:=h x (by simp[AOp.opds]);simp only[ev,hx,hb];(repeat' split)<;>rfl
 |sliceS x lo hi =>
  have hb:=fun n=>o9 (r:=r) (r':=r') (len:=n) (lo:=lo) (hi:=hi) (mx:=none) (fun y hy=>h y (by
   simp only[AOp.opds,z9y] at hy ⊢;rcases hy with (hy | hy) | hy
   ·exact .inl (.inr hy)
   ·exact .inr hy
   ·cases hy))
  have hx:=h x (by simp[AOp.opds]);simp only[ev,hx,hb];(repeat' split)<;>rfl
 |call f args=>rfl
 |callL f k args=>rfl
 |callW f k args=>rfl
 |callN f T args=>rfl
 |callv fs x args=>rfl
 |fnv f a b =>
  have h1:=pc (m:=m) a (fun x hx=>h x (by simp[AOp.opds,hx]));have h2:=pc (m:=m) b (fun x hx=>h x (by simp[AOp.opds,hx]));simp only[ev,h1,h2];(repeat' split)<;>rfl
 |bad=>rfl
 |isNil neg x=>rfl
 |clearS sz z x=>have h1:=h x (by simp[AOp.opds]);simp only[ev,h1];(repeat' split)<;>rfl
 |copyA x v =>
  have h1:=h x (by simp[AOp.opds]);have h2:=h v (by simp[AOp.opds]);simp only[ev,h1,h2];(repeat' split)<;>rfl
 |copyS T sz b y=>have h1:=h y (by simp[AOp.opds]);simp only[ev,h1];(repeat' split)<;>rfl
 |copyF T sz b y=>have h1:=h y (by simp[AOp.opds]);simp only[ev,h1];(repeat' split)<;>rfl
 |indexAddrA n esz ag x v =>
  have h1:=h x (by simp[AOp.opds]);have h2:=h v (by simp[AOp.opds]);simp only[ev,h1,h2];(repeat' split)<;>rfl
 |indexA n esz ag x v =>
  have h1:=h x (by simp[AOp.opds]);have h2:=h v (by simp[AOp.opds]);simp only[ev,h1,h2];(repeat' split)<;>rfl
 |append T sz b x y=>rfl
 |appendF T sz b x y=>rfl
 |alloc T sz z=>simp only[ev];split<;>rfl
 |pick c a b =>
  have h1:=h c (by simp[AOp.opds]);have h2:=h a (by simp[AOp.opds]);have h3:=h b (by simp[AOp.opds]);simp only[ev,h1,h2,h3];(repeat' split)<;>rfl
 |store sz x v =>
  have h1:=h x (by simp[AOp.opds]);have h2:=h v (by simp[AOp.opds]);simp only[ev,h1,h2];(repeat' split)<;>rfl
 |bin bo op x v =>
  have h1:=h x (by simp[AOp.opds]);have h2:=h v (by simp[AOp.opds]);simp only[ev,h1,h2];(repeat' split)<;>rfl
 |eqs n neg x v =>
  have h1:=h x (by simp[AOp.opds]);have h2:=h v (by simp[AOp.opds]);simp only[ev,h1,h2];(repeat' split)<;>rfl
 |indexAddrP sz x v =>
  have h1:=h x (by simp[AOp.opds]);have h2:=h v (by simp[AOp.opds]);simp only[ev,h1,h2];(repeat' split)<;>rfl
 |indexAddr sz x v =>
  have h1:=h x (by simp[AOp.opds]);have h2:=h v (by simp[AOp.opds]);simp only[ev,h1,h2];(repeat' split)<;>rfl
 |index x v =>
  have h1:=h x (by simp[AOp.opds]);have h2:=h v (by simp[AOp.opds]);simp only[ev,h1,h2];(repeat' split)<;>rfl
 |appZ T sz b z x v =>
  have h1:=h x (by simp[AOp.opds]);have h2:=h v (by simp[AOp.opds]);simp only[ev,h1,h2];(repeat' split)<;>rfl
 |makeSlice T sz b z x v =>
  have h1:=h x (by simp[AOp.opds]);have h2:=h v (by simp[AOp.opds]);simp only[ev,h1,h2];(repeat' split)<;>rfl
 |mov x=>have h1:=h x (by simp[AOp.opds]);simp only[ev,h1];rfl
 |nilCheck x=>have h1:=h x (by simp[AOp.opds]);simp only[ev,h1];(repeat' split)<;>rfl
 |box T sz x=>have h1:=h x (by simp[AOp.opds]);simp only[ev,h1];(repeat' split)<;>rfl
 |loadP ag sz x=>have h1:=h x (by simp[AOp.opds]);simp only[ev,h1];(repeat' split)<;>rfl
 |load ag sz x=>have h1:=h x (by simp[AOp.opds]);simp only[ev,h1];(repeat' split)<;>rfl
 |un op x=>have h1:=h x (by simp[AOp.opds]);simp only[ev,h1];(repeat' split)<;>rfl
 |strB x=>have h1:=h x (by simp[AOp.opds]);simp only[ev,h1];(repeat' split)<;>rfl
 |bytS T x=>have h1:=h x (by simp[AOp.opds]);simp only[ev,h1];(repeat' split)<;>rfl
 |conv k x=>have h1:=h x (by simp[AOp.opds]);simp only[ev,h1];(repeat' split)<;>rfl
 |fieldAddr off sz ag x=>have h1:=h x (by simp[AOp.opds]);simp only[ev,h1];(repeat' split)<;>rfl
 |field off sz ag x=>have h1:=h x (by simp[AOp.opds]);simp only[ev,h1];(repeat' split)<;>rfl
 |extract x i=>have h1:=h x (by simp[AOp.opds]);simp only[ev,h1];(split<;>(try rfl))<;>(rename_i l _;cases l[i]?<;>rfl)
 |len x=>have h1:=h x (by simp[AOp.opds]);simp only[ev,h1];(repeat' split)<;>rfl
 |cap x=>have h1:=h x (by simp[AOp.opds]);simp only[ev,h1];(repeat' split)<;>rfl
 |mm mx x v =>
  have h1:=h x (by simp[AOp.opds]);have h2:=h v (by simp[AOp.opds]);simp only[ev,h1,h2];(repeat' split)<;>rfl
 |lenS x=>have h1:=h x (by simp[AOp.opds]);simp only[ev,h1];(repeat' split)<;>rfl
theorem u4 {o:AOp}{id:Nat}{s t:St}{p:Bool}{v:AV} (h:ev o id s=some (p,v,t)):t.r=s.r:=by
 cases o<;>simp only[ev] at h <;>
  ((
   repeat' (split at h))<;>simp only[z99,z97,reduceCtorEq,z94] at h <;>
   first
    |(obtain⟨-,-,rfl⟩:=h;rfl)
    |(obtain⟨_,-,-,-,rfl⟩:=h;rfl))
end
def AOp.kind:AOp→Nat
 |.mov _ | .loadP .. | .indexAddrP .. | .nilCheck _ | .pick .. | .build .. | .bin .. | .eqs .. | .un .. | .conv .. | .sliceS .. | .fieldAddr .. | .field .. | .index .. | .indexAddrA .. | .indexA .. | .extract .. | .len _ | .cap _ | .lenS _ | .mm .. => 0
 |.load .. | .strB .. | .slice .. | .sliceA .. | .indexAddr .. | .call .. | .callv .. | .fnv .. => 1
 |.alloc .. | .box .. | .makeSlice .. | .bytS .. | .buildSliceP .. | .appZ .. => 2
 |.buildSlice .. | .buildSliceF .. | .copyS .. | .copyF .. | .callN .. => 3
 |.store .. => 4
 |.callW .. => 6
 |_=>5
def Out (G:FuncId→List D→D→Prop) (c:COp) (r:Nat→AV) (m:Mem) (v:AV) (m':Mem):Prop:=
 match c.op with
 |.call f args => ∃ds d,a7 ⟨r,m⟩ args=some ds∧G f ds d∧v = .p d∧m'=m
 |.callv fs x args => ∃f a b ds d,(x.ev r).toD false m 20=some (.fn (.func f) a b)∧a7 ⟨r,m⟩ args=some ds∧fs.contains f=true∧G f (a++ds++b) d∧v = .p d∧m'=m
 |.callN f T args => ∃ds sz l,a7 ⟨r,m⟩ args=some ds∧m (c.dst.getD 0)=none∧G (f+LB*(8+1)) ds (.list T sz l)∧v = .slice (c.dst.getD 0) 0 l.length∧m'=upd m (c.dst.getD 0) (some ⟨T,sz,.row l,false⟩)
 |.callW f B args => ∃ds d,a7 ⟨r,m⟩ args=some ds∧(∀id o,m id=some o→o.frz=true∨o.T ∉ B)∧G (f+LB*(9+1)) (.tup (B.map fun T => .int .i64 (T:Nat))::ds) d∧v = .p d∧m'=m
 |op=>dC (ev op (c.dst.getD 0) ⟨r,m⟩)=some (true,v,m')
def cI (G:FuncId→List D→D→Prop) (c:COp) (r:Nat→AV) (m:Mem) (v:AV) (m':Mem):Prop:=
 match c.guard with
 |none=>Out G c r m v m'
 |some (g,want)=>(∃b,r g = .p (.bool b)∧((b=want∧Out G c r m v m')∨(b≠want∧v = .p (.tup [])∧m'=m)))∨(r g = .p (.tup [])∧v = .p (.tup [])∧m'=m)
def bH (r:Nat→AV):Option Nat→AV→Nat→AV
 |some t,v=>upd r t v
 |none,_=>r
section
variable {G:FuncId→List D→D→Prop}{c c1 c2:COp}{K K':St→Prop}{s:St}{r r':Nat→AV}{m m':Mem}{v:AV}
theorem dD (r:Nat→AV) (m:Mem) (t:Option Nat) (v:AV):St.put ⟨r,m⟩ t v=⟨bH r t v,m⟩:=by cases t<;>rfl
theorem pd (hkind:c.op.kind≠5):step G c K ⟨r,m⟩↔∃v m',Out G c r m v m'∧K ⟨bH r c.dst v,m'⟩:=by
 have other:(∀f args,c.op≠.call f args)→(∀fs x args,c.op≠.callv fs x args)→(∀f T args,c.op≠.callN f T args)→(∀f T args,c.op≠.callW f T args)→(step G c K ⟨r,m⟩↔∃v m',dC (ev c.op (c.dst.getD 0) ⟨r,m⟩)=some (true,v,m')∧K ⟨bH r c.dst v,m'⟩):=by
  intro hn hn2 hn3 hn4;have hs:step G c K ⟨r,m⟩=(match ev c.op (c.dst.getD 0) ⟨r,m⟩ with
   |some (p,v,t)=>p=true∧K (t.put c.dst v)
   |none=>False):=by
   unfold step;cases hc:c.op<;>first | (exact absurd hc (hn _ _)) | (exact absurd hc (hn2 _ _ _)) | (exact absurd hc (hn3 _ _ _)) | (exact absurd hc (hn4 _ _ _)) | rfl | (exact absurd (by rw[hc];rfl) hkind)
  rw[hs];cases he:ev c.op (c.dst.getD 0) ⟨r,m⟩ with
  |none=>simp[dC]
  |some x =>
   obtain⟨p,v,t⟩:=x;have hr:=u4 he;obtain⟨tr,tm⟩:=t;simp only at hr;subst hr;simp only[dC,z99,z97,dD];constructor
   ·rintro⟨rfl,hk⟩;exact⟨v,tm,⟨rfl,rfl,rfl⟩,hk⟩
   ·rintro⟨v',m',⟨rfl,rfl,rfl⟩,hk⟩;exact⟨rfl,hk⟩
 by_cases hcall:∃f args,c.op = .call f args
 ·obtain⟨f,args,hop⟩:=hcall;unfold step Out;rw[hop];simp only;constructor
  ·intro h;split at h
   ·rename_i ds hds;obtain⟨d,hg,hk⟩:=h;rw[dD] at hk;exact⟨_,m,⟨ds,d,hds,hg,rfl,rfl⟩,hk⟩
   ·exact h.elim
  ·rintro⟨v,m',⟨ds,d,hds,hg,rfl,rfl⟩,hk⟩;rw[hds];exact⟨d,hg,by rw[dD];exact hk⟩
 by_cases hcv:∃fs x args,c.op = .callv fs x args
 ·obtain⟨fs,x,args,hop⟩:=hcv;unfold step Out;rw[hop];simp only;constructor
  ·intro h;split at h
   case h_2=>exact h.elim
   rename_i f a b ds hfv hds;obtain⟨h1,d,hg,hk⟩:=h;rw[dD] at hk;exact⟨_,m,⟨f,a,b,ds,d,hfv,hds,h1,hg,rfl,rfl⟩,hk⟩
  ·rintro⟨v,m',⟨f,a,b,ds,d,hfv,hds,h1,hg,rfl,rfl⟩,hk⟩;rw[hfv,hds];exact⟨h1,d,hg,by rw[dD];exact hk⟩
 by_cases hcn:∃f T args,c.op = .callN f T args
 ·obtain⟨f,T,args,hop⟩:=hcn;unfold step Out;rw[hop];simp only;constructor
  ·intro h;split at h
   case h_2=>exact h.elim
   rename_i ds hds;split at h
   case h_2=>exact h.elim
   rename_i hid;obtain⟨sz,l,hg,hk⟩:=h;rw[dD] at hk;exact⟨_,_,⟨ds,sz,l,hds,hid,hg,rfl,rfl⟩,hk⟩
  ·rintro⟨v,m',⟨ds,sz,l,hds,hid,hg,rfl,rfl⟩,hk⟩;rw[hds];simp only[hid];exact⟨sz,l,hg,by rw[dD];exact hk⟩
 by_cases hcw:∃f B args,c.op = .callW f B args
 ·obtain⟨f,B,args,hop⟩:=hcw;unfold step Out;rw[hop];simp only;constructor
  ·intro h;split at h
   case h_2=>exact h.elim
   rename_i ds hds;obtain⟨haw,d,hg,hk⟩:=h;rw[dD] at hk;exact⟨_,m,⟨ds,d,hds,haw,hg,rfl,rfl⟩,hk⟩
  ·rintro⟨v,m',⟨ds,d,hds,haw,hg,rfl,rfl⟩,hk⟩;rw[hds];exact⟨haw,d,hg,by rw[dD];exact hk⟩
 ·have hn:∀f args,c.op≠.call f args:=fun f args h=>hcall ⟨f,args,h⟩
  have hn2:∀fs x args,c.op≠.callv fs x args:=fun fs x args h=>hcv ⟨fs,x,args,h⟩
  have hn3:∀f T args,c.op≠.callN f T args:=fun f T args h=>hcn ⟨f,T,args,h⟩
  have hn4:∀f B args,c.op≠.callW f B args:=fun f B args h=>hcw ⟨f,B,args,h⟩
  rw[other hn hn2 hn3 hn4];have ho:∀v m',Out G c r m v m'=(dC (ev c.op (c.dst.getD 0) ⟨r,m⟩)=some (true,v,m')):=by
   intro v m';unfold Out;cases hc:c.op<;>first | (exact absurd hc (hn _ _)) | (exact absurd hc (hn2 _ _ _)) | (exact absurd hc (hn3 _ _ _)) | (exact absurd hc (hn4 _ _ _)) | rfl
  simp only[ho]
theorem fB (hkind:c.op.kind≠5):bK G c K ⟨r,m⟩↔∃v m',cI G c r m v m'∧K ⟨bH r c.dst v,m'⟩:=by
 unfold bK cI;cases hg:c.guard with
 |none=>exact pd hkind
 |some x =>
  obtain⟨g,want⟩:=x;simp only;constructor
  ·intro h;split at h
   ·rename_i b hb;split at h
    ·rename_i hbw;obtain⟨v,m',h1,h2⟩:=(pd hkind).1 h;exact⟨v,m',.inl ⟨b,hb,.inl ⟨hbw,h1⟩⟩,h2⟩
    ·rename_i hbw;rw[dD] at h;exact⟨.p (.tup []),m,.inl ⟨b,hb,.inr ⟨hbw,rfl,rfl⟩⟩,h⟩
   ·rename_i hb;rw[dD] at h;exact⟨.p (.tup []),m,.inr ⟨hb,rfl,rfl⟩,h⟩
   ·exact h.elim
  ·rintro⟨v,m',⟨b,hb,h1⟩ | ⟨hb,rfl,rfl⟩,h2⟩
   ·rw[hb];simp only;rcases h1 with⟨hbw,h1⟩ | ⟨hbw,rfl,rfl⟩
    ·rw[if_pos hbw];exact (pd hkind).2 ⟨v,m',h1,h2⟩
    ·rw[if_neg hbw,dD];exact h2
   ·rw[hb];simp only;rw[dD];exact h2
theorem u5 (h:step G c K s) (hk:∀t,K t→K' t):step G c K' s:=by
 unfold step at *;split at h
 ·split at h
  ·obtain⟨d,h1,h2⟩:=h;exact⟨d,h1,hk _ h2⟩
  ·exact h.elim
 ·split at h
  ·exact⟨h.1,hk _ h.2⟩
  ·exact h.elim
 ·split at h
  ·exact⟨h.1,hk _ h.2⟩
  ·exact h.elim
 ·split at h
  case h_3=>exact h.elim
  case h_2 =>
   split at h
   case h_2=>exact h.elim
   obtain⟨r,l',h2,h3⟩:=h;exact⟨r,l',h2,hk _ h3⟩
  split at h
  case h_2=>exact h.elim
  split at h
  case h_2=>exact h.elim
  obtain⟨h1,r,l',h2,h3⟩:=h;exact⟨h1,r,l',h2,hk _ h3⟩
 ·split at h
  case h_2=>exact h.elim
  obtain⟨h1,d,h2,h3⟩:=h;exact⟨h1,d,h2,hk _ h3⟩
 ·split at h
  case h_2=>exact h.elim
  split at h
  case h_2=>exact h.elim
  obtain⟨sz,l,h2,h3⟩:=h;exact⟨sz,l,h2,hk _ h3⟩
 ·split at h
  case h_2=>exact h.elim
  obtain⟨h1,d,h2,h3⟩:=h;exact⟨h1,d,h2,hk _ h3⟩
 ·split at h
  ·exact hk _ h
  ·exact fun b hb=>hk _ (h b hb)
  ·exact h.elim
 ·split at h
  ·exact⟨h.1,hk _ h.2⟩
  ·exact h.elim
theorem lU (h:bK G c K s) (hk:∀t,K t→K' t):bK G c K' s:=by
 unfold bK at *;split at h
 ·exact u5 h hk
 ·split at h
  ·split at h
   ·rename_i hb;rw[if_pos hb];exact u5 h hk
   ·rename_i hb;rw[if_neg hb];exact hk _ h
  ·exact hk _ h
  ·exact h.elim
theorem u6:∀(l:List COp) (s:St),bC G l K s→(∀t,K t→K' t)→bC G l K' s
 |[],_,h,hk=>hk _ h
 |_::l,_,h,hk=>lU h fun t ht=>u6 l t ht hk
def fC:List Opd→List Nat
 |[]=>[]
 |.t n::l=>n::fC l
 |.k _::l=>fC l
def COp.reads (c:COp):List Nat:=fC c.op.opds++(match c.guard with | some (g,_)=>[g] | none=>[])
theorem lV:∀(l:List Opd),(∀n∈fC l,r n=r' n)→∀x∈l,x.ev r=x.ev r'
 |.t n::l,h,x,hx=>by
  rcases z9L.1 hx with rfl | hx
  ·exact h n (by simp[fC])
  ·exact lV l (fun k hk=>h k (by simp[fC,hk])) x hx
 |.k v::l,h,x,hx=>by
  rcases z9L.1 hx with rfl | hx
  ·rfl
  ·exact lV l (fun k hk=>h k (by simpa[fC] using hk)) x hx
theorem Out.congr (h:∀n∈fC c.op.opds,r n=r' n) (ho:Out G c r m v m'):Out G c r' m v m':=by
 have hx:=lV (r:=r) (r':=r') c.op.opds h;unfold Out at *;have hev:=zaV (m:=m) c.op (c.dst.getD 0) hx;cases hc:c.op<;>simp only[hc] at ho hev hx ⊢<;>first | (rw[←hev];exact ho) | skip
 ·obtain⟨ds,d,h1,h2,h3,h4⟩:=ho;exact⟨ds,d,by have hq:=gQ (m:=m) (r:=r) (r':=r') _ hx;simp only[AOp.opds] at hq;rw[←hq];exact h1,h2,h3,h4⟩
 ·obtain⟨f,a,b,ds,d,h0,h1,h2,h3,h4,h5⟩:=ho;simp only[AOp.opds,z9L] at hx;exact⟨f,a,b,ds,d,by rw[←hx _ (.inl rfl)];exact h0,by rw[←gQ (m:=m) (r:=r) (r':=r') _ (fun y hy=>hx y (.inr hy))];exact h1,h2,h3,h4,h5⟩
 ·obtain⟨ds,sz,l,h1,h2,h3,h4,h5⟩:=ho;exact⟨ds,sz,l,by have hq:=gQ (m:=m) (r:=r) (r':=r') _ hx;simp only[AOp.opds] at hq;rw[←hq];exact h1,h2,h3,h4,h5⟩
 ·obtain⟨ds,d,h1,h2,h3,h4,h5⟩:=ho;exact⟨ds,d,by have hq:=gQ (m:=m) (r:=r) (r':=r') _ hx;simp only[AOp.opds] at hq;rw[←hq];exact h1,h2,h3,h4,h5⟩
theorem cI.congr (h:∀n∈c.reads,r n=r' n) (ho:cI G c r m v m'):cI G c r' m v m':=by
 have hx:∀n∈fC c.op.opds,r n=r' n:=fun n hn=>h n (by simp[COp.reads,hn])
 unfold cI at *;cases hg:c.guard with
 |none=>rw[hg] at ho;exact ho.congr hx
 |some x =>
  obtain⟨g,want⟩:=x;rw[hg] at ho;simp only at ho ⊢;have e:r g=r' g:=h g (by simp[COp.reads,hg]);rcases ho with⟨b,hb,h1⟩ | ⟨hb,h1⟩
  ·exact .inl ⟨b,by rw[←e];exact hb,h1.imp (fun h1=>⟨h1.1,h1.2.congr hx⟩) id⟩
  ·exact .inr ⟨by rw[←e];exact hb,h1⟩
end
end Go.Proofs.YtbnhgnhgbhjkcaaGreat.M
namespace Go.Proofs.YtbnhgnhgbhjkcaaGreat
set_option linter.unusedSimpArgs false
set_option maxRecDepth 100000
set_option maxHeartbeats 2000000
open Go.RowKit
theorem vB {m n:Bool}{p q:Int}:sg (!(m == n)) (p*q)=sg m p*sg n q:=by cases m<;>cases n<;>simp[sg,Int.neg_mul,Int.mul_neg]
theorem pow_add' (i j:Nat):(4294967296:Int)^(i+j)=4294967296^i*4294967296^j:=Int.pow_add ..
theorem zbM (x y:IV) (a b:Int) (w:World) (hx:IsI w x a) (hy:IsI w y b) (hs:Sm (a*b)) :
  Calls Tryz.prog 116 #[.agg #[.bool x.n,.slice x.s.a x.s.len x.s.cap],.agg #[.bool y.n,.slice y.s.a y.s.len y.s.cap]] w (g8 w (a*b)):=by
 obtain⟨la,hla,na,da,hlea,hza,h0a,hsa⟩:=hx.open_;obtain⟨lb,hlb,nb,db,hleb,hzb,h0b,hsb⟩:=hy.open_;obtain⟨nx,sx⟩:=x;obtain⟨ny,sy⟩:=y;obtain⟨ao,ca,rfl,hca,hcam,hopa⟩:=hla.open_;obtain⟨bo,cb,rfl,hcb,hcbm,hopb⟩:=hlb.open_;have hv:=hd_ ((vB (m:=nx) (n:=ny) (p:=valL la) (q:=valL lb)).trans (show _=a*b by rw[hza,hzb]));replace hs:=hd_ hs;have he0:=(((Ext.rf w).al (Obj.cells #[Value.bool nx,Value.slice ao la.length ca] 86)).al (Obj.cells #[Value.bool ny,Value.slice bo lb.length cb] 86)).al (Obj.cells #[Value.bool false,Value.slice none 0 0] 86);clear hx hy hza hzb h0a h0b hsa hsb na nb;go_enter Tryz.func116,Tryz.ntmps116;go_wp2_with (at_make;refine fq _ rfl _ _ 84 rfl 173 .u32 4 Tryz.underlying84 d8 _ _ _ _ (la.length+lb.length) rfl rfl (by omega) (by omega) (by omega) (by omega) ?_;intro w1 hown1 hx1 hlt1;obtain⟨hc1,hf1⟩:=cS hx1);go_loopw [22] (fun i wr => ∃(k:Nat) (o:List Int),i = .int .i64 k∧k≤la.length∧Own wr (w.heap.size+1+1+1) 173 .u32 o∧o.length=la.length+lb.length∧Dig o ∧
   valL o=valL (la.take k)*valL lb∧(∀t,k+lb.length≤t→at_ o t=0)∧Ext (((w.alloc (Obj.cells #[Value.bool nx,Value.slice ao la.length ca] 86)).alloc (Obj.cells #[Value.bool ny,Value.slice bo lb.length cb] 86)).alloc (Obj.cells #[Value.bool false,Value.slice none 0 0] 86)) wr) (fun i _=>la.length-(intOf i).toNat)
 case atStart=>exact⟨0,_,rfl,z9O _,by simpa using hown1,by simp,fA _,by simp[valL];exact valL_zero (fun j=>by simp[at_,List.getElem?_replicate];split<;>rfl),fun t _=>by simp[at_,List.getElem?_replicate];split<;>rfl,hx1⟩
 case round =>
  clear hown1 hx1 hc1 hf1 hlt1;obtain⟨k,o,rfl,hk,hown,hol,hdo,hval,hzt,hx⟩:=hrel;replace hval:=hd_ hval;replace hol:=hd_ hol;replace hzt:=hd_ hzt;obtain⟨hc1,hf1⟩:=cS hx;have hsz:=hx.size;simp only[World.size_alloc] at hsz;by_cases hlt:k<la.length
  ·obtain⟨ba,oa,rfl,hba,ga⟩:=hopa (by omega);have hbl:=hba.lt;have ga:=(hx.cell (p:=⟨ba,oa+k,none⟩) (by simp;omega)).trans ((he0.cell (p:=⟨ba,oa+k,none⟩) hbl).trans (ga k hlt));have fa:=da.at_ k;go_wp2;go_loopw [30,8] (fun j c wi => ∃(m:Nat) (cc:Int) (o2:List Int),j = .int .i64 m∧c = .int .u64 cc∧m≤lb.length∧(0≤cc∧cc≤4294967295)∧Own wi (w.heap.size+1+1+1) 173 .u32 o2∧o2.length=la.length+lb.length∧Dig o2 ∧
     valL o2+cc*4294967296^(k+m)=valL (la.take k)*valL lb+at_ la k*valL (lb.take m)*4294967296^k∧(∀t,k+lb.length≤t→at_ o2 t=0)∧Ext (((w.alloc (Obj.cells #[Value.bool nx,Value.slice (some ⟨ba,oa,none⟩) la.length ca] 86)).alloc (Obj.cells #[Value.bool ny,Value.slice bo lb.length cb] 86)).alloc (Obj.cells #[Value.bool false,Value.slice none 0 0] 86)) wi) (fun j _ _=>lb.length-(intOf j).toNat)
   case atStart=>exact⟨0,0,o,rfl,rfl,z9O _,by omega,hown,hol.out,hdo,by rw[hval.out];simp[valL],hzt.out,hx⟩
   case round =>
    clear hown hdo hval hol hzt hx hc1 hf1 hsz;obtain⟨m,cc,o2,rfl,rfl,hm,hcc,hown,hol,hdo,hval,hzt,hx⟩:=hrel;replace hval:=hd_ hval;replace hol:=hd_ hol;replace hzt:=hd_ hzt;obtain⟨hc1,hf1⟩:=cS hx;by_cases hlt2:m<lb.length
    ·obtain⟨bb,ob,rfl,hbb,gb⟩:=hopb (by omega);have hbl2:=hbb.lt;have gb:=(hx.cell (p:=⟨bb,ob+m,none⟩) (by simp;omega)).trans ((he0.cell (p:=⟨bb,ob+m,none⟩) hbl2).trans (gb m hlt2));have fb:=db.at_ m;have fab:=mul_bound fa fb;have go:=hown.cell (i:=k+m) (by have:=hol.out;omega);have gf:=hown.frozen (k+m);have fo:=hdo.at_ (k+m);go_wp2;go_roundw
     case rel =>
      refine⟨m+1,_,o2.set (k+m) _,by go_num,rfl,by omega,?_,hown.set (k+m) _,by rw[z9R];exact hol.out,hdo.set _ (by omega),?_,?_,?_⟩
      ·omega
      ·rw[valL_set_full (by have:=hol.out;omega),valL_take_succ,←Nat.add_assoc];exact mul_step hval.out (z9H ..).symm (by rw[pow_add'];grind)
      ·intro t ht;rw[cC (by omega)];exact hzt.out t ht
      ·exact hx.st (by simp) _
     case measure=>first | (simp[intOf];done) | (simp[intOf];omega)
    ·obtain rfl:m=lb.length:=by omega
     have go:=hown.cell (i:=k+lb.length) (by have:=hol.out;omega);have gf:=hown.frozen (k+lb.length);go_wp2;go_roundw
     case rel =>
      refine⟨k+1,o2.set (k+lb.length) _,by go_num,by omega,hown.set (k+lb.length) _,by rw[z9R];exact hol.out,hdo.set _ (by omega),?_,?_,?_⟩
      ·have h1:=hval.out;rw[z93 (z95 _)] at h1;rw[valL_set_full (by have:=hol.out;omega),hzt.out _ (z95 _),valL_take_succ,z9G,h1];grind
      ·intro t ht;rw[cC (by omega)];exact hzt.out t (by omega)
      ·exact hx.st (by simp) _
     case measure=>first | (simp[intOf];done) | (simp[intOf];omega)
  ·obtain rfl:k=la.length:=by omega
   rw[z93 (z95 _)] at hval;go_wp2_with fail;have hL:=Own.isL (k:=.u32) hown (by have:=hol.out;omega) hdo;rw[hol.out] at hL;refine (made_any _ ⟨some ⟨w.heap.size+1+1+1,0,none⟩,la.length+lb.length,la.length+lb.length⟩ o _ hL (by rw[hval.out,hv.out];exact hs.out)).mono ?_;rintro e w2 ⟨y,rfl,hy,hx2⟩;have k0:w2.cell? ⟨w.heap.size+1+1,0,none⟩=some (Value.bool false):=cell_later hx2 (cell_later hx (by simp[go_sem]));have k1:w2.cell? ⟨w.heap.size+1+1,1,none⟩=some (Value.slice none 0 0):=cell_later hx2 (cell_later hx (by simp[go_sem]));have f0:∀i,w2.frozen? ⟨w.heap.size+1+1,i,none⟩=false:=fun i=>(hx2.frozen (p:=⟨w.heap.size+1+1,i,none⟩) (by show w.heap.size+1+1<_;omega)).trans ((hx.frozen (p:=⟨w.heap.size+1+1,i,none⟩) (by simp)).trans (by simp[go_sem]))
   go_wp2;refine bodyPost_ret (v:=.agg #[.bool y.n,.slice y.s.a y.s.len y.s.cap]) (by simp[results,Tryz.results116,go_sem,k0,k1]) rfl ⟨y,rfl,?_,?_⟩
   ·rw[hval.out,hv.out] at hy;exact hy.kept ((bn.rf _ _).st2 (T':=86) (((Ty.new' (by simp)).keep hx).keep hx2) (by decide) _ _)
   ·exact ((he0.tr hx).tr hx2).st2 (by omega) _ _
set_option linter.unusedSimpArgs false
set_option maxRecDepth 100000
set_option maxHeartbeats 1000000
open Go.RowKit
def aJ (t:List UInt8):Int:=t.foldl (fun a c=>a*10+((c.toNat:Int)-48)) 0
theorem nA (t:List UInt8) (c:UInt8):aJ (t++[c])=aJ t*10+((c.toNat:Int)-48):=by simp[aJ]
theorem NV (b:List UInt8):∀x:Int,b.foldl (fun a c=>a*10+((c.toNat:Int)-48)) x=x*10^b.length+aJ b:=by
 induction b with
 |nil=>intro x;simp[aJ]
 |cons c t ih =>
  intro x;have h0:=ih (0*10+((c.toNat:Int)-48));simp only[List.foldl_cons,List.length_cons,z9H,aJ] at *;rw[ih,h0];grind
theorem NW (a b:List UInt8):aJ (a++b)=aJ a*10^b.length+aJ b:=by
 unfold aJ;rw[List.foldl_append,NV];rfl
theorem kN {q:List UInt8}{j:Nat} (h:j<q.length):aJ (q.take (j+1))=aJ (q.take j)*10+((byt q j:Int)-48):=by
 rw[z9c h,nA,jW h]
theorem kO {j:Nat} (h:j≤9):(1:Int)≤10^j∧(10:Int)^j≤1000000000:=by
 have h1:(10:Nat)^j≤10^9:=z9j (by omega) h;have h2:0<(10:Nat)^j:=Nat.pow_pos (by omega);have e:(10:Int)^j=((10^j:Nat):Int):=by rw[Int.natCast_pow];rfl
 rw[e];simp only[Nat.reducePow] at h1;omega
theorem valL_snoc (l:List Int) (x:Int):valL (l++[x])=valL l+x*4294967296^l.length:=by
 induction l with
 |nil=>simp[valL]
 |cons y t ih=>simp only[List.cons_append,valL,ih,List.length_cons,z9H];grind
theorem Dig.snoc {l:List Int} (h:Dig l){x:Int} (hx:0≤x∧x≤4294967295):Dig (l++[x]):=by
 intro y hy;rcases z9y.1 hy with hy | hy
 ·exact h y hy
 ·rw[z9e.1 hy];exact hx
theorem NX {m d:Int} (hm:0≤m∧m≤4294967295) (hd:1≤d∧d≤1000000000):0≤m*d∧m*d≤4294967295000000000:=by
 refine⟨Int.mul_nonneg hm.1 (by omega),?_⟩;have:=Int.mul_le_mul hm.2 hd.2 (by omega) (by omega);omega
theorem NY {V c V0 d P0 m p q:Int} (h:V+c*p=V0*d+P0) (hq:p*4294967296=q) :
  V+(c+m*d) % 4294967296*p+(c+m*d) / 4294967296*q=(V0+m*p)*d+P0:=by
 have h1:(c+m*d) % 4294967296=(c+m*d)-4294967296*((c+m*d) / 4294967296):=by omega
 rw[h1,←hq];generalize (c+m*d) / 4294967296=e;grind
theorem NZ (t:List UInt8) (w:World) (hs:t.length≤1099511627776) (hd:∀j,j<t.length→48≤byt t j∧byt t j≤57) :
  Calls Tryz.prog 104 #[.string (bs t)] w (zaT w (aJ t)):=by
 replace hd:=hd_ hd;go_enter Tryz.func104,Tryz.ntmps104;go_wp2;go_loopw [0,3] (fun v m wr => ∃p s l,v = .string (bs (t.drop p))∧m = .slice (SV.a s) (SV.len s) (SV.cap s)∧p≤t.length∧Rw wr w.heap.size .u32 s l∧Dig l∧valL l=aJ (t.take p)∧l.length≤p∧Ext w wr) (fun v _ _=>match v with | .string b=>b.size | _=>0)
 case atStart=>exact⟨0,⟨none,0,0⟩,[],by simp,rfl,z9O _,Rw.nil_ _ _ _,(fun x hx=>by cases hx),rfl,z95 _,Ext.rf _⟩
 case round =>
  obtain⟨p,s,l,rfl,rfl,hp,hrw,hdl,hval,hll,hx⟩:=hrel;have hsl:=hrw.len;obtain⟨sa,sn,sc⟩:=s;simp only at hsl;subst hsl;obtain⟨q,hq⟩:∃q,q=t.drop p:=⟨_,rfl⟩
  have hql:q.length+p=t.length:=by rw[hq];simp;omega
  have HQD:Hd (∀j,j<q.length→48≤byt q j∧byt q j≤57):=hd_ (fun j hj=>by rw[hq,mu];exact hd.out _ (by omega));have HQ:=hd_ hq;have HQL:=hd_ hql;replace hql:q.length≤t.length:=by omega
  rw[←hq];clear hq;replace hval:=hd_ hval;by_cases h0:0<q.length
  ·obtain⟨n,hn,hn1,hn9,hnq⟩:∃n:Nat,((q.length:Int)-1) % 9+1=(n:Int)∧1≤n∧n≤9∧n≤q.length:=⟨(q.length-1) % 9+1,by omega,by omega,by omega,by omega⟩
   go_wp2_with ((refine zbu _ rfl 9 156 _ rfl Tryz.underlying9 Tryz.underlying156 Tryz.underlying5 (q.take n) (by rfl) (by simp;omega) ?_);intro cb w1 hb1 hx1 hcell1);have htl:(q.take n).length=n:=by simp;omega
   have HTL:=hd_ htl;clear htl;go_loop [23,5,6] (fun j pt b => ∃(m:Nat) (pp bb:Int),j = .int .i64 m∧pt = .int .u64 pp∧b = .int .u64 bb∧m≤n∧bb=10^m∧pp=aJ (q.take m)∧0≤pp∧pp<bb) (fun j _ _=>n-(intOf j).toNat)
   case atStart=>exact⟨0,0,1,rfl,rfl,rfl,z9O _,by simp,rfl,by omega,by omega⟩
   case round =>
    obtain⟨m,pp,bb,rfl,rfl,rfl,hm,hbb,hpp,hpp0,hpp1⟩:=hrel;have hb9:=kO (j:=m) (by omega);rw[←hbb] at hb9;replace hbb:=hd_ hbb;replace hpp:=hd_ hpp;by_cases hlt:m<n
    ·have hc:=hcell1 m (by rw[HTL.out];exact hlt);have hby:byt (q.take n) m=byt q m:=by simp[byt,hlt]
     have hd1:=HQD.out m (by omega);have hb9':=kO (j:=m+1) (by omega);have hbs:(10:Int)^(m+1)=bb*10:=by rw[hbb.out,z9H]
     rw[hbs] at hb9';replace hbs:=hd_ hbs;go_wp2;go_round
     case rel =>
      refine⟨m+1,_,_,by go_num,rfl,rfl,by omega,hbs.out.symm,?_,by omega,by omega⟩;rw[kN (by omega),←hpp.out]
     case measure=>first | (simp[intOf];done) | (simp[intOf];omega)
    ·obtain rfl:m=n:=by omega
     clear hcell1;go_wp2;go_loopw [41,5] (fun i c wi => ∃(k:Nat) (cc:Int) (l2:List Int),i = .int .i64 k∧c = .int .u64 cc∧k≤l.length∧0≤cc∧cc≤1000000000∧Rw wi w.heap.size .u32 ⟨sa,l.length,sc⟩ l2∧l2.length=l.length∧Dig l2 ∧
       valL (l2.take k)+cc*4294967296^k=valL (l.take k)*bb+pp∧(∀j,k≤j→at_ l2 j=at_ l j)∧Ext w wi) (fun i _ _=>l.length-(intOf i).toNat)
     case atStart=>exact⟨0,pp,l,rfl,rfl,z9O _,hpp0,by omega,hrw.keep hx1,rfl,hdl,by simp[valL],fun _ _=>rfl,hx.tr hx1⟩
     case round =>
      clear hb1 hx1 hrw hx;obtain⟨k,cc,l2,rfl,rfl,hk,hcc0,hcc1,hrw,hl2,hdl2,hval2,htl2,hx⟩:=hrel;replace hval2:=hd_ hval2;replace htl2:=hd_ htl2;replace hl2:=hd_ hl2;by_cases hlt:k<l.length
      ·obtain⟨g,cap,hsv,hgb,hgt,hgc1,hgc2,hgc,hgf⟩:=hrw.open_ (by rw[hl2.out];omega);rw[SV.mk.injEq] at hsv;obtain⟨rfl,-,rfl⟩:=hsv;have gc:=hgc k (by rw[hl2.out];exact hlt);have gf:=hgf k;clear hgc hgf;have fm:=hdl2.at_ k;have fmb:=NX fm hb9;go_wp2;go_roundw
       case rel =>
        refine⟨k+1,_,l2.set k ((cc+at_ l2 k*bb) % 4294967296),by go_num,rfl,by omega,by omega,by omega,?_,by rw[z9R];exact hl2.out,hdl2.set k (by omega),?_,?_,?_⟩
        ·have:=Rw.set (l:=l2) (g:=g) (cap:=sc) (by rw[hl2.out];exact hrw) k ((cc+at_ l2 k*bb) % 4294967296);rw[hl2.out] at this;exact this
        ·rw[valL_set (by rw[hl2.out];exact hlt),valL_take_succ,←htl2.out k (z95 _)];exact NY hval2.out (z9H ..).symm
        ·intro j hj;rw[cC (by omega)];exact htl2.out j (by omega)
        ·exact hx.st hgb _
       case measure=>first | (simp[intOf];done) | (simp[intOf];omega)
      ·obtain rfl:k=l.length:=by omega
       have hfin:valL l2+cc*4294967296^l.length=aJ (t.take (p+m)):=by
        have h1:=hval2.out;rw[z93 (by rw[hl2.out];exact z95 _),z93 (z95 _),hval.out,hpp.out,hbb.out] at h1;rw[h1,List.take_add,NW,←HQ.out,HTL.out]
       have hdq:q.drop m=t.drop (p+m):=by rw[HQ.out,List.drop_drop]
       replace hfin:=hd_ hfin;by_cases hc0:0<cc
       ·have hsl:l2.length=(⟨sa,l.length,sc⟩:SV).len:=hl2.out;go_wp2_with ((refine eA _ rfl _ _ 84 rfl .u32 4 Tryz.underlying84 d8 w ⟨sa,l.length,sc⟩ l2 cc rfl rfl hrw hx (by rw[hl2.out];omega) (by rw[hl2.out];omega) ?_);intro s3 w3 hrw3 hx3 _);try rw[hdq]
        go_roundw
        case rel =>
         refine⟨p+m,s3,l2++[cc],rfl,rfl,?_,hrw3,hdl2.snoc (by omega),?_,?_,hx3⟩
         ·have:=HQL.out;omega
         ·rw[valL_snoc,hl2.out,hfin.out]
         ·rw[z96,hl2.out];simp;omega
        case measure=>have:=HQL.out;simp;omega
       ·obtain rfl:cc=0:=by omega
        go_wp2;try rw[hdq]
        go_roundw
        case rel =>
         refine⟨p+m,⟨sa,l.length,sc⟩,l2,rfl,rfl,?_,hrw,hdl2,?_,?_,hx⟩
         ·have:=HQL.out;omega
         ·have:=hfin.out;rw[Int.zero_mul,z8Y] at this;exact this
         ·rw[hl2.out];omega
        case measure=>have:=HQL.out;simp;omega
  ·have hp:p=t.length:=by have:=HQL.out;omega
   replace hp:=hd_ hp;go_wp2;go_ret;refine⟨⟨sa,l.length,sc⟩,l,rfl,hrw.isL hdl,?_,hx⟩;rw[hval.out,hp.out,z93 (z95 _)]
end Go.Proofs.YtbnhgnhgbhjkcaaGreat
