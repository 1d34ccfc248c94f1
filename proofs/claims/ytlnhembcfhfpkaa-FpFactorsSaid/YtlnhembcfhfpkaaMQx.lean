/- The small machine: operations that do not touch one another may change places. -/
import Derived.Test.YtlnhembcfhfpkaaMOx
namespace Go.Proofs.Ytlnhembcfhfpkaa.M
open Go.RowKit
def optL {α:Type}:Option α→List α
 | some x=>[x]
 | none=>[]
def AOp.opds:AOp→List Opd
 | .mov x | .nilCheck x | .box _ _ x | .load _ _ x | .un _ x | .conv _ x | .strB x | .bytS _ x | .fieldAddr _ _ _ x | .field _ _ _ x | .extract x _ | .len x | .lenS x=>[x]
 | .pick c a b=>[c,a,b]
 | .alloc _ _ _=>[]
 | .build _ ps=>ps.map (·.2.2)
 | .buildSlice _ _ _ _ ps=>ps.map (·.2)
 | .buildSliceF _ _ _ _ ps=>ps.map (·.2)
 | .store _ x v | .bin _ _ x v | .eqs _ _ x v | .indexAddr _ x v | .index x v | .indexAddrA _ _ _ x v | .indexA _ _ _ x v | .makeSlice _ _ _ _ x v | .append _ _ _ x v | .appendF _ _ _ x v | .mm _ x v=>[x,v]
 | .slice _ x lo hi mx=>[x]++optL lo++optL hi++optL mx
 | .sliceA _ x lo hi mx=>[x]++optL lo++optL hi++optL mx
 | .copyA x y=>[x,y]
 | .clearS _ _ x=>[x]
 | .isNil _ x=>[x]
 | .sliceS x lo hi=>[x]++optL lo++optL hi
 | .call _ args=>args
 | .callL _ _ args=>args
 | .callN _ _ args=>args
 | .copyS _ _ _ y | .copyF _ _ _ y=>[y]
 | .bad=>[]
 | .callv _ x args=>x::args
 | .fnv _ a b=>a++b
section
variable {r r':Nat→AV} {m m':Mem}
theorem fillA_congr:∀ (ps:List (Nat × Nat × Opd)) (l:List AV),(∀ x∈ps.map (·.2.2),x.ev r=x.ev r')→fillA l r ps=fillA l r' ps
 | [],_,_=>rfl
 | (off,sz,x)::ps,l,h=>by
  have h1:=h x (by simp)
  simp only[fillA,h1]
  split
  ·exact fillA_congr ps _ (fun y hy=>h y (by simp at hy ⊢;exact .inr hy))
  ·rfl
theorem fillR_congr (sz:Nat):∀ (ps:List (Nat × Opd)) (l:List D),(∀ x∈ps.map (·.2),x.ev r=x.ev r')→fillR sz l r m ps=fillR sz l r' m ps
 | [],_,_=>rfl
 | (i,x)::ps,l,h=>by
  have h1:=h x (by simp)
  simp only[fillR,h1]
  split
  ·split
   ·exact fillR_congr sz ps _ (fun y hy=>h y (by simp at hy ⊢;exact .inr hy))
   ·rfl
  ·rfl
theorem bounds_congr {len:Nat} {lo hi mx:Option Opd} (h:∀ x∈optL lo++optL hi++optL mx,x.ev r=x.ev r'):bounds r len lo hi mx=bounds r' len lo hi mx:=by
 unfold bounds
 have h1:∀ x,lo=some x→x.ev r=x.ev r':=fun x hx=>h x (by simp[hx,optL])
 have h2:∀ x,hi=some x→x.ev r=x.ev r':=fun x hx=>h x (by simp[hx,optL])
 have h3:∀ x,mx=some x→x.ev r=x.ev r':=fun x hx=>h x (by simp[hx,optL])
 cases lo<;>cases hi<;>cases mx<;>simp_all
theorem opdsD_congr:∀ (l:List Opd),(∀ x∈l,x.ev r=x.ev r')→opdsD r m l=opdsD r' m l
 | [],_=>rfl
 | x::l,h=>by
  simp only[opdsD,h x (by simp),opdsD_congr l (fun y hy=>h y (by simp[hy]))]
theorem argsD_congr:∀ (l:List Opd),(∀ x∈l,x.ev r=x.ev r')→argsD ⟨r,m⟩ l=argsD ⟨r',m⟩ l
 | [],_=>rfl
 | x::l,h=>by
  simp only[argsD,h x (by simp),argsD_congr l (fun y hy=>h y (by simp[hy]))]
def outM:Option (Bool × AV × St)→Option (Bool × AV × Mem)
 | some (p,v,s)=>some (p,v,s.m)
 | none=>none
theorem ev_congr (o:AOp) (id:Nat) (h:∀ x∈o.opds,x.ev r=x.ev r'):outM (ev o id ⟨r,m⟩)=outM (ev o id ⟨r',m⟩):=by
 cases o with
 | build z ps=>simp only[ev,fillA_congr ps z h];split<;>rfl
 | buildSlice T sz z n ps=>simp only[ev,fillR_congr (m:=m) sz ps _ h];(repeat' split)<;>rfl
 | buildSliceF T sz z n ps=>simp only[ev,fillR_congr (m:=m) sz ps _ h];(repeat' split)<;>rfl
 | slice sz x lo hi mx =>
  have hb:=fun n=>bounds_congr (r:=r) (r':=r') (len:=n) (lo:=lo) (hi:=hi) (mx:=mx) (fun y hy=>h y (by simp only[AOp.opds,List.append_assoc,List.mem_append] at hy ⊢;exact .inr hy))
  have hx:=h x (by simp[AOp.opds])
  simp only[ev,hx,hb]
  (repeat' split)<;>rfl
 | sliceA sz x lo hi mx =>
  have hb:=fun n=>bounds_congr (r:=r) (r':=r') (len:=n) (lo:=lo) (hi:=hi) (mx:=mx) (fun y hy=>h y (by simp only[AOp.opds,List.append_assoc,List.mem_append] at hy ⊢;exact .inr hy))
  have hx:=h x (by simp[AOp.opds])
  simp only[ev,hx,hb]
  (repeat' split)<;>rfl
 | sliceS x lo hi =>
  have hb:=fun n=>bounds_congr (r:=r) (r':=r') (len:=n) (lo:=lo) (hi:=hi) (mx:=none) (fun y hy=>h y (by
   simp only[AOp.opds,List.mem_append] at hy ⊢
   rcases hy with (hy | hy) | hy
   ·exact .inl (.inr hy)
   ·exact .inr hy
   ·cases hy))
  have hx:=h x (by simp[AOp.opds])
  simp only[ev,hx,hb]
  (repeat' split)<;>rfl
 | call f args=>rfl
 | callL f k args=>rfl
 | callN f T args=>rfl
 | callv fs x args=>rfl
 | fnv f a b =>
  have h1:=opdsD_congr (m:=m) a (fun x hx=>h x (by simp[AOp.opds,hx]))
  have h2:=opdsD_congr (m:=m) b (fun x hx=>h x (by simp[AOp.opds,hx]))
  simp only[ev,h1,h2];(repeat' split)<;>rfl
 | bad=>rfl
 | isNil neg x=>rfl
 | clearS sz z x=>have h1:=h x (by simp[AOp.opds]);simp only[ev,h1];(repeat' split)<;>rfl
 | copyA x v =>
  have h1:=h x (by simp[AOp.opds]);have h2:=h v (by simp[AOp.opds])
  simp only[ev,h1,h2];(repeat' split)<;>rfl
 | copyS T sz b y=>have h1:=h y (by simp[AOp.opds]);simp only[ev,h1];(repeat' split)<;>rfl
 | copyF T sz b y=>have h1:=h y (by simp[AOp.opds]);simp only[ev,h1];(repeat' split)<;>rfl
 | indexAddrA n esz ag x v =>
  have h1:=h x (by simp[AOp.opds]);have h2:=h v (by simp[AOp.opds])
  simp only[ev,h1,h2];(repeat' split)<;>rfl
 | indexA n esz ag x v =>
  have h1:=h x (by simp[AOp.opds]);have h2:=h v (by simp[AOp.opds])
  simp only[ev,h1,h2];(repeat' split)<;>rfl
 | append T sz b x y=>rfl
 | appendF T sz b x y=>rfl
 | alloc T sz z=>simp only[ev];split<;>rfl
 | pick c a b =>
  have h1:=h c (by simp[AOp.opds]);have h2:=h a (by simp[AOp.opds]);have h3:=h b (by simp[AOp.opds])
  simp only[ev,h1,h2,h3];(repeat' split)<;>rfl
 | store sz x v =>
  have h1:=h x (by simp[AOp.opds]);have h2:=h v (by simp[AOp.opds])
  simp only[ev,h1,h2];(repeat' split)<;>rfl
 | bin bo op x v =>
  have h1:=h x (by simp[AOp.opds]);have h2:=h v (by simp[AOp.opds])
  simp only[ev,h1,h2];(repeat' split)<;>rfl
 | eqs n neg x v =>
  have h1:=h x (by simp[AOp.opds]);have h2:=h v (by simp[AOp.opds])
  simp only[ev,h1,h2];(repeat' split)<;>rfl
 | indexAddr sz x v =>
  have h1:=h x (by simp[AOp.opds]);have h2:=h v (by simp[AOp.opds])
  simp only[ev,h1,h2];(repeat' split)<;>rfl
 | index x v =>
  have h1:=h x (by simp[AOp.opds]);have h2:=h v (by simp[AOp.opds])
  simp only[ev,h1,h2];(repeat' split)<;>rfl
 | makeSlice T sz b z x v =>
  have h1:=h x (by simp[AOp.opds]);have h2:=h v (by simp[AOp.opds])
  simp only[ev,h1,h2];(repeat' split)<;>rfl
 | mov x=>have h1:=h x (by simp[AOp.opds]);simp only[ev,h1];rfl
 | nilCheck x=>have h1:=h x (by simp[AOp.opds]);simp only[ev,h1];(repeat' split)<;>rfl
 | box T sz x=>have h1:=h x (by simp[AOp.opds]);simp only[ev,h1];(repeat' split)<;>rfl
 | load ag sz x=>have h1:=h x (by simp[AOp.opds]);simp only[ev,h1];(repeat' split)<;>rfl
 | un op x=>have h1:=h x (by simp[AOp.opds]);simp only[ev,h1];(repeat' split)<;>rfl
 | strB x=>have h1:=h x (by simp[AOp.opds]);simp only[ev,h1];(repeat' split)<;>rfl
 | bytS T x=>have h1:=h x (by simp[AOp.opds]);simp only[ev,h1];(repeat' split)<;>rfl
 | conv k x=>have h1:=h x (by simp[AOp.opds]);simp only[ev,h1];(repeat' split)<;>rfl
 | fieldAddr off sz ag x=>have h1:=h x (by simp[AOp.opds]);simp only[ev,h1];(repeat' split)<;>rfl
 | field off sz ag x=>have h1:=h x (by simp[AOp.opds]);simp only[ev,h1];(repeat' split)<;>rfl
 | extract x i=>have h1:=h x (by simp[AOp.opds]);simp only[ev,h1];(split<;>(try rfl))<;>(rename_i l _;cases l[i]?<;>rfl)
 | len x=>have h1:=h x (by simp[AOp.opds]);simp only[ev,h1];(repeat' split)<;>rfl
 | mm mx x v =>
  have h1:=h x (by simp[AOp.opds]);have h2:=h v (by simp[AOp.opds])
  simp only[ev,h1,h2];(repeat' split)<;>rfl
 | lenS x=>have h1:=h x (by simp[AOp.opds]);simp only[ev,h1];(repeat' split)<;>rfl
theorem ev_r {o:AOp} {id:Nat} {s t:St} {p:Bool} {v:AV} (h:ev o id s=some (p,v,t)):t.r=s.r:=by
 cases o<;>simp only[ev] at h <;>
  ((
   repeat' (split at h))<;>simp only[Option.some.injEq,Prod.mk.injEq,reduceCtorEq,Option.map_eq_some_iff] at h <;>
   first
    | (obtain⟨-,-,rfl⟩:=h;rfl)
    | (obtain⟨_,-,-,-,rfl⟩:=h;rfl))
end
def AOp.kind:AOp→Nat
 | .mov _ | .nilCheck _ | .pick .. | .build .. | .bin .. | .eqs .. | .un .. | .conv .. | .sliceS .. | .fieldAddr .. | .field .. | .index .. | .indexAddrA .. | .indexA .. | .extract .. | .len _ | .lenS _ | .mm .. => 0
 | .load .. | .strB .. | .slice .. | .sliceA .. | .indexAddr .. | .call .. | .callv .. | .fnv .. => 1
 | .alloc .. | .box .. | .makeSlice .. | .bytS .. => 2
 | .buildSlice .. | .buildSliceF .. | .copyS .. | .copyF .. | .callN .. => 3
 | .store .. => 4
 | _=>5
def Out (G:FuncId→List D→D→Prop) (c:COp) (r:Nat→AV) (m:Mem) (v:AV) (m':Mem):Prop:=
 match c.op with
 | .call f args => ∃ ds d,argsD ⟨r,m⟩ args=some ds∧G f ds d∧v = .p d∧m'=m
 | .callv fs x args => ∃ f a b ds d,(x.ev r).toD false m 20=some (.fn (.func f) a b)∧argsD ⟨r,m⟩ args=some ds∧fs.contains f=true∧G f (a++ds++b) d∧v = .p d∧m'=m
 | .callN f T args => ∃ ds sz l,argsD ⟨r,m⟩ args=some ds∧m (c.dst.getD 0)=none∧G (f+LB*(8+1)) ds (.list T sz l)∧v = .slice (c.dst.getD 0) 0 l.length∧m'=upd m (c.dst.getD 0) (some ⟨T,sz,.row l,false⟩)
 | op=>outM (ev op (c.dst.getD 0) ⟨r,m⟩)=some (true,v,m')
def GOut (G:FuncId→List D→D→Prop) (c:COp) (r:Nat→AV) (m:Mem) (v:AV) (m':Mem):Prop:=
 match c.guard with
 | none=>Out G c r m v m'
 | some (g,want)=>(∃ b,r g = .p (.bool b)∧((b=want∧Out G c r m v m')∨(b≠want∧v = .p (.tup [])∧m'=m)))∨(r g = .p (.tup [])∧v = .p (.tup [])∧m'=m)
def putr (r:Nat→AV):Option Nat→AV→Nat→AV
 | some t,v=>upd r t v
 | none,_=>r
section
variable {G:FuncId→List D→D→Prop} {c c1 c2:COp} {K K':St→Prop} {s:St} {r r':Nat→AV} {m m':Mem} {v:AV}
theorem put_eq (r:Nat→AV) (m:Mem) (t:Option Nat) (v:AV):St.put ⟨r,m⟩ t v=⟨putr r t v,m⟩:=by cases t<;>rfl
theorem step_out (hkind:c.op.kind≠5):step G c K ⟨r,m⟩↔∃ v m',Out G c r m v m'∧K ⟨putr r c.dst v,m'⟩:=by
 have other:(∀ f args,c.op≠.call f args)→(∀ fs x args,c.op≠.callv fs x args)→(∀ f T args,c.op≠.callN f T args)→(step G c K ⟨r,m⟩↔∃ v m',outM (ev c.op (c.dst.getD 0) ⟨r,m⟩)=some (true,v,m')∧K ⟨putr r c.dst v,m'⟩):=by
  intro hn hn2 hn3
  have hs:step G c K ⟨r,m⟩=(match ev c.op (c.dst.getD 0) ⟨r,m⟩ with
   | some (p,v,t)=>p=true∧K (t.put c.dst v)
   | none=>False):=by
   unfold step
   cases hc:c.op<;>first | (exact absurd hc (hn _ _)) | (exact absurd hc (hn2 _ _ _)) | (exact absurd hc (hn3 _ _ _)) | rfl | (exact absurd (by rw[hc];rfl) hkind)
  rw[hs]
  cases he:ev c.op (c.dst.getD 0) ⟨r,m⟩ with
  | none=>simp[outM]
  | some x =>
   obtain⟨p,v,t⟩:=x
   have hr:=ev_r he
   obtain⟨tr,tm⟩:=t
   simp only at hr
   subst hr
   simp only[outM,Option.some.injEq,Prod.mk.injEq,put_eq]
   constructor
   ·rintro⟨rfl,hk⟩;exact⟨v,tm,⟨rfl,rfl,rfl⟩,hk⟩
   ·rintro⟨v',m',⟨rfl,rfl,rfl⟩,hk⟩;exact⟨rfl,hk⟩
 by_cases hcall:∃ f args,c.op = .call f args
 ·obtain⟨f,args,hop⟩:=hcall
  unfold step Out
  rw[hop]
  simp only
  constructor
  ·intro h
   split at h
   ·rename_i ds hds
    obtain⟨d,hg,hk⟩:=h
    rw[put_eq] at hk
    exact⟨_,m,⟨ds,d,hds,hg,rfl,rfl⟩,hk⟩
   ·exact h.elim
  ·rintro⟨v,m',⟨ds,d,hds,hg,rfl,rfl⟩,hk⟩
   rw[hds]
   exact⟨d,hg,by rw[put_eq];exact hk⟩
 by_cases hcv:∃ fs x args,c.op = .callv fs x args
 ·obtain⟨fs,x,args,hop⟩:=hcv
  unfold step Out
  rw[hop]
  simp only
  constructor
  ·intro h
   split at h
   case h_2=>exact h.elim
   rename_i f a b ds hfv hds
   obtain⟨h1,d,hg,hk⟩:=h
   rw[put_eq] at hk
   exact⟨_,m,⟨f,a,b,ds,d,hfv,hds,h1,hg,rfl,rfl⟩,hk⟩
  ·rintro⟨v,m',⟨f,a,b,ds,d,hfv,hds,h1,hg,rfl,rfl⟩,hk⟩
   rw[hfv,hds]
   exact⟨h1,d,hg,by rw[put_eq];exact hk⟩
 by_cases hcn:∃ f T args,c.op = .callN f T args
 ·obtain⟨f,T,args,hop⟩:=hcn
  unfold step Out
  rw[hop]
  simp only
  constructor
  ·intro h
   split at h
   case h_2=>exact h.elim
   rename_i ds hds
   split at h
   case h_2=>exact h.elim
   rename_i hid
   obtain⟨sz,l,hg,hk⟩:=h
   rw[put_eq] at hk
   exact⟨_,_,⟨ds,sz,l,hds,hid,hg,rfl,rfl⟩,hk⟩
  ·rintro⟨v,m',⟨ds,sz,l,hds,hid,hg,rfl,rfl⟩,hk⟩
   rw[hds]
   simp only[hid]
   exact⟨sz,l,hg,by rw[put_eq];exact hk⟩
 ·have hn:∀ f args,c.op≠.call f args:=fun f args h=>hcall ⟨f,args,h⟩
  have hn2:∀ fs x args,c.op≠.callv fs x args:=fun fs x args h=>hcv ⟨fs,x,args,h⟩
  have hn3:∀ f T args,c.op≠.callN f T args:=fun f T args h=>hcn ⟨f,T,args,h⟩
  rw[other hn hn2 hn3]
  have ho:∀ v m',Out G c r m v m'=(outM (ev c.op (c.dst.getD 0) ⟨r,m⟩)=some (true,v,m')):=by
   intro v m'
   unfold Out
   cases hc:c.op<;>first | (exact absurd hc (hn _ _)) | (exact absurd hc (hn2 _ _ _)) | (exact absurd hc (hn3 _ _ _)) | rfl
  simp only[ho]
theorem gstep_out (hkind:c.op.kind≠5):gstep G c K ⟨r,m⟩↔∃ v m',GOut G c r m v m'∧K ⟨putr r c.dst v,m'⟩:=by
 unfold gstep GOut
 cases hg:c.guard with
 | none=>exact step_out hkind
 | some x =>
  obtain⟨g,want⟩:=x
  simp only
  constructor
  ·intro h
   split at h
   ·rename_i b hb
    split at h
    ·rename_i hbw
     obtain⟨v,m',h1,h2⟩:=(step_out hkind).1 h
     exact⟨v,m',.inl ⟨b,hb,.inl ⟨hbw,h1⟩⟩,h2⟩
    ·rename_i hbw
     rw[put_eq] at h
     exact⟨.p (.tup []),m,.inl ⟨b,hb,.inr ⟨hbw,rfl,rfl⟩⟩,h⟩
   ·rename_i hb
    rw[put_eq] at h
    exact⟨.p (.tup []),m,.inr ⟨hb,rfl,rfl⟩,h⟩
   ·exact h.elim
  ·rintro⟨v,m',⟨b,hb,h1⟩ | ⟨hb,rfl,rfl⟩,h2⟩
   ·rw[hb]
    simp only
    rcases h1 with⟨hbw,h1⟩ | ⟨hbw,rfl,rfl⟩
    ·rw[if_pos hbw];exact (step_out hkind).2 ⟨v,m',h1,h2⟩
    ·rw[if_neg hbw,put_eq];exact h2
   ·rw[hb]
    simp only
    rw[put_eq];exact h2
theorem step_mono (h:step G c K s) (hk:∀ t,K t→K' t):step G c K' s:=by
 unfold step at *
 split at h
 ·split at h
  ·obtain⟨d,h1,h2⟩:=h;exact⟨d,h1,hk _ h2⟩
  ·exact h.elim
 ·split at h
  ·exact⟨h.1,hk _ h.2⟩
  ·exact h.elim
 ·split at h
  ·exact⟨h.1,hk _ h.2⟩
  ·exact h.elim
 ·split at h
  case h_2=>exact h.elim
  split at h
  case h_2=>exact h.elim
  split at h
  case h_2=>exact h.elim
  obtain⟨h1,r,l',h2,h3⟩:=h
  exact⟨h1,r,l',h2,hk _ h3⟩
 ·split at h
  case h_2=>exact h.elim
  obtain⟨h1,d,h2,h3⟩:=h
  exact⟨h1,d,h2,hk _ h3⟩
 ·split at h
  case h_2=>exact h.elim
  split at h
  case h_2=>exact h.elim
  obtain⟨sz,l,h2,h3⟩:=h
  exact⟨sz,l,h2,hk _ h3⟩
 ·split at h
  ·exact hk _ h
  ·exact fun b hb=>hk _ (h b hb)
  ·exact h.elim
 ·split at h
  ·exact⟨h.1,hk _ h.2⟩
  ·exact h.elim
theorem gstep_mono (h:gstep G c K s) (hk:∀ t,K t→K' t):gstep G c K' s:=by
 unfold gstep at *
 split at h
 ·exact step_mono h hk
 ·split at h
  ·split at h
   ·rename_i hb
    rw[if_pos hb]
    exact step_mono h hk
   ·rename_i hb
    rw[if_neg hb]
    exact hk _ h
  ·exact hk _ h
  ·exact h.elim
theorem cops_mono:∀ (l:List COp) (s:St),cops G l K s→(∀ t,K t→K' t)→cops G l K' s
 | [],_,h,hk=>hk _ h
 | _::l,_,h,hk=>gstep_mono h fun t ht=>cops_mono l t ht hk
def readsL:List Opd→List Nat
 | []=>[]
 | .t n::l=>n::readsL l
 | .k _::l=>readsL l
def COp.reads (c:COp):List Nat:=readsL c.op.opds++(match c.guard with | some (g,_)=>[g] | none=>[])
theorem readsL_ev:∀ (l:List Opd),(∀ n∈readsL l,r n=r' n)→∀ x∈l,x.ev r=x.ev r'
 | .t n::l,h,x,hx=>by
  rcases List.mem_cons.1 hx with rfl | hx
  ·exact h n (by simp[readsL])
  ·exact readsL_ev l (fun k hk=>h k (by simp[readsL,hk])) x hx
 | .k v::l,h,x,hx=>by
  rcases List.mem_cons.1 hx with rfl | hx
  ·rfl
  ·exact readsL_ev l (fun k hk=>h k (by simpa[readsL] using hk)) x hx
theorem Out.congr (h:∀ n∈readsL c.op.opds,r n=r' n) (ho:Out G c r m v m'):Out G c r' m v m':=by
 have hx:=readsL_ev (r:=r) (r':=r') c.op.opds h
 unfold Out at *
 have hev:=ev_congr (m:=m) c.op (c.dst.getD 0) hx
 cases hc:c.op<;>simp only[hc] at ho hev hx ⊢<;>first | (rw[←hev];exact ho) | skip
 ·obtain⟨ds,d,h1,h2,h3,h4⟩:=ho
  exact⟨ds,d,by have hq:=argsD_congr (m:=m) (r:=r) (r':=r') _ hx;simp only[AOp.opds] at hq;rw[←hq];exact h1,h2,h3,h4⟩
 ·obtain⟨f,a,b,ds,d,h0,h1,h2,h3,h4,h5⟩:=ho
  simp only[AOp.opds,List.mem_cons] at hx
  exact⟨f,a,b,ds,d,by rw[←hx _ (.inl rfl)];exact h0,by rw[←argsD_congr (m:=m) (r:=r) (r':=r') _ (fun y hy=>hx y (.inr hy))];exact h1,h2,h3,h4,h5⟩
 ·obtain⟨ds,sz,l,h1,h2,h3,h4,h5⟩:=ho
  exact⟨ds,sz,l,by have hq:=argsD_congr (m:=m) (r:=r) (r':=r') _ hx;simp only[AOp.opds] at hq;rw[←hq];exact h1,h2,h3,h4,h5⟩
theorem GOut.congr (h:∀ n∈c.reads,r n=r' n) (ho:GOut G c r m v m'):GOut G c r' m v m':=by
 have hx:∀ n∈readsL c.op.opds,r n=r' n:=fun n hn=>h n (by simp[COp.reads,hn])
 unfold GOut at *
 cases hg:c.guard with
 | none=>rw[hg] at ho;exact ho.congr hx
 | some x =>
  obtain⟨g,want⟩:=x
  rw[hg] at ho
  simp only at ho ⊢
  have e:r g=r' g:=h g (by simp[COp.reads,hg])
  rcases ho with⟨b,hb,h1⟩ | ⟨hb,h1⟩
  ·exact .inl ⟨b,by rw[←e];exact hb,h1.imp (fun h1=>⟨h1.1,h1.2.congr hx⟩) id⟩
  ·exact .inr ⟨by rw[←e];exact hb,h1⟩
end
end Go.Proofs.Ytlnhembcfhfpkaa.M
