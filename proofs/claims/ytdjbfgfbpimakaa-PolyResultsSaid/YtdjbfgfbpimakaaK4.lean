/- The small machine: operations that do not touch one another may change places. Mul. Div32, Len32, LeadingZeros32. The small machine: operations change places. The small machine: a region that draws its order. The small machine: regions, in their own order and in any. The small machine: code, and functions. The small machine: a function's contract out of its code. Functions of the program in the small machine's words: written by a program of mine. The small machine: states written out; what may be forgotten. Functions of the program in the small machine's words: written by a program of mine. Functions of the program in the small machine's words: written by a program of mine. What a statement's arguments read as, in the small machine's words. The small machine: what each operation does, as equations. -/
import Derived.Test.YtdjbfgfbpimakaaMOx
import Derived.Test.YtdjbfgfbpimakaaNumEx
import Derived.Test.YtdjbfgfbpimakaaK1
import Derived.ChangeArms
import Derived.OpenShut
section
namespace Go.Proofs.Ytdjbfgfbpimakaa.M
open Go.RowKit
def optL {α:Type}:Option α→List α
 | some x=>[x]
 | none=>[]
def AOp.opds:AOp→List Opd
 | .mov x | .nilCheck x | .box _ _ x | .load _ _ x | .un _ x | .conv _ x | .fieldAddr _ _ _ x | .field _ _ _ x | .extract x _ | .len x | .lenS x=>[x]
 | .pick c a b=>[c,a,b]
 | .alloc _ _ _=>[]
 | .build _ ps=>ps.map (·.2.2)
 | .buildSlice _ _ _ _ ps=>ps.map (·.2)
 | .buildSliceF _ _ _ _ ps=>ps.map (·.2)
 | .store _ x v | .bin _ _ x v | .eqs _ _ x v | .indexAddr _ x v | .index x v | .makeSlice _ _ _ _ x v | .append _ _ _ x v | .appendF _ _ _ x v | .mm _ x v=>[x,v]
 | .slice _ x lo hi mx=>[x]++optL lo++optL hi++optL mx
 | .sliceS x lo hi=>[x]++optL lo++optL hi
 | .call _ args=>args
 | .fnv _ a b=>a++b
section
variable {r r':Nat→AV} {m m':Mem}
theorem fillA_congr:∀ (ps:List (Nat × Nat × Opd)) (l:List AV),(∀ x∈ps.map (·.2.2),x.ev r=x.ev r')→fillA l r ps=fillA l r' ps
 | [],_,_=>rfl
 | (off,sz,x)::ps,l,h=>by
  have h1:=h x (by simp)
  simp only[fillA,h1]
  split
  ·exact fillA_congr ps _ (fun y hy=>h y (by simp at hy ⊢;exact .inr hy))
  ·rfl
theorem fillR_congr (sz:Nat):∀ (ps:List (Nat × Opd)) (l:List D),(∀ x∈ps.map (·.2),x.ev r=x.ev r')→fillR sz l r m ps=fillR sz l r' m ps
 | [],_,_=>rfl
 | (i,x)::ps,l,h=>by
  have h1:=h x (by simp)
  simp only[fillR,h1]
  split
  ·split
   ·exact fillR_congr sz ps _ (fun y hy=>h y (by simp at hy ⊢;exact .inr hy))
   ·rfl
  ·rfl
theorem bounds_congr {len:Nat} {lo hi mx:Option Opd} (h:∀ x∈optL lo++optL hi++optL mx,x.ev r=x.ev r'):bounds r len lo hi mx=bounds r' len lo hi mx:=by
 unfold bounds
 have h1:∀ x,lo=some x→x.ev r=x.ev r':=fun x hx=>h x (by simp[hx,optL])
 have h2:∀ x,hi=some x→x.ev r=x.ev r':=fun x hx=>h x (by simp[hx,optL])
 have h3:∀ x,mx=some x→x.ev r=x.ev r':=fun x hx=>h x (by simp[hx,optL])
 cases lo<;>cases hi<;>cases mx<;>simp_all
theorem argsD_congr:∀ (l:List Opd),(∀ x∈l,x.ev r=x.ev r')→argsD ⟨r,m⟩ l=argsD ⟨r',m⟩ l
 | [],_=>rfl
 | x::l,h=>by
  simp only[argsD,h x (by simp),argsD_congr l (fun y hy=>h y (by simp[hy]))]
def outM:Option (Bool × AV × St)→Option (Bool × AV × Mem)
 | some (p,v,s)=>some (p,v,s.m)
 | none=>none
theorem ev_congr (o:AOp) (id:Nat) (h:∀ x∈o.opds,x.ev r=x.ev r'):outM (ev o id ⟨r,m⟩)=outM (ev o id ⟨r',m⟩):=by
 cases o with
 | build z ps=>simp only[ev,fillA_congr ps z h];split<;>rfl
 | buildSlice T sz z n ps=>simp only[ev,fillR_congr (m:=m) sz ps _ h];(repeat' split)<;>rfl
 | buildSliceF T sz z n ps=>simp only[ev,fillR_congr (m:=m) sz ps _ h];(repeat' split)<;>rfl
 | slice sz x lo hi mx =>
  have hb:=fun n=>bounds_congr (r:=r) (r':=r') (len:=n) (lo:=lo) (hi:=hi) (mx:=mx) (fun y hy=>h y (by simp only[AOp.opds,List.append_assoc,List.mem_append] at hy ⊢;exact .inr hy))
  have hx:=h x (by simp[AOp.opds])
  simp only[ev,hx,hb]
  (repeat' split)<;>rfl
 | sliceS x lo hi =>
  have hb:=fun n=>bounds_congr (r:=r) (r':=r') (len:=n) (lo:=lo) (hi:=hi) (mx:=none) (fun y hy=>h y (by
   simp only[AOp.opds,List.mem_append] at hy ⊢
   rcases hy with (hy | hy) | hy
   ·exact .inl (.inr hy)
   ·exact .inr hy
   ·cases hy))
  have hx:=h x (by simp[AOp.opds])
  simp only[ev,hx,hb]
  (repeat' split)<;>rfl
 | call f args=>rfl
 | fnv f a b=>rfl
 | append T sz b x y=>rfl
 | appendF T sz b x y=>rfl
 | alloc T sz z=>simp only[ev];split<;>rfl
 | pick c a b =>
  have h1:=h c (by simp[AOp.opds]);have h2:=h a (by simp[AOp.opds]);have h3:=h b (by simp[AOp.opds])
  simp only[ev,h1,h2,h3];(repeat' split)<;>rfl
 | store sz x v =>
  have h1:=h x (by simp[AOp.opds]);have h2:=h v (by simp[AOp.opds])
  simp only[ev,h1,h2];(repeat' split)<;>rfl
 | bin bo op x v =>
  have h1:=h x (by simp[AOp.opds]);have h2:=h v (by simp[AOp.opds])
  simp only[ev,h1,h2];(repeat' split)<;>rfl
 | eqs n neg x v =>
  have h1:=h x (by simp[AOp.opds]);have h2:=h v (by simp[AOp.opds])
  simp only[ev,h1,h2];(repeat' split)<;>rfl
 | indexAddr sz x v =>
  have h1:=h x (by simp[AOp.opds]);have h2:=h v (by simp[AOp.opds])
  simp only[ev,h1,h2];(repeat' split)<;>rfl
 | index x v =>
  have h1:=h x (by simp[AOp.opds]);have h2:=h v (by simp[AOp.opds])
  simp only[ev,h1,h2];(repeat' split)<;>rfl
 | makeSlice T sz b z x v =>
  have h1:=h x (by simp[AOp.opds]);have h2:=h v (by simp[AOp.opds])
  simp only[ev,h1,h2];(repeat' split)<;>rfl
 | mov x=>have h1:=h x (by simp[AOp.opds]);simp only[ev,h1];rfl
 | nilCheck x=>have h1:=h x (by simp[AOp.opds]);simp only[ev,h1];(repeat' split)<;>rfl
 | box T sz x=>have h1:=h x (by simp[AOp.opds]);simp only[ev,h1];(repeat' split)<;>rfl
 | load ag sz x=>have h1:=h x (by simp[AOp.opds]);simp only[ev,h1];(repeat' split)<;>rfl
 | un op x=>have h1:=h x (by simp[AOp.opds]);simp only[ev,h1];(repeat' split)<;>rfl
 | conv k x=>have h1:=h x (by simp[AOp.opds]);simp only[ev,h1];(repeat' split)<;>rfl
 | fieldAddr off sz ag x=>have h1:=h x (by simp[AOp.opds]);simp only[ev,h1];(repeat' split)<;>rfl
 | field off sz ag x=>have h1:=h x (by simp[AOp.opds]);simp only[ev,h1];(repeat' split)<;>rfl
 | extract x i=>have h1:=h x (by simp[AOp.opds]);simp only[ev,h1];(split<;>(try rfl))<;>(rename_i l _;cases l[i]?<;>rfl)
 | len x=>have h1:=h x (by simp[AOp.opds]);simp only[ev,h1];(repeat' split)<;>rfl
 | mm mx x v =>
  have h1:=h x (by simp[AOp.opds]);have h2:=h v (by simp[AOp.opds])
  simp only[ev,h1,h2];(repeat' split)<;>rfl
 | lenS x=>have h1:=h x (by simp[AOp.opds]);simp only[ev,h1];(repeat' split)<;>rfl
theorem ev_r {o:AOp} {id:Nat} {s t:St} {p:Bool} {v:AV} (h:ev o id s=some (p,v,t)):t.r=s.r:=by
 cases o<;>simp only[ev] at h <;>
  ((
   repeat' (split at h))<;>simp only[Option.some.injEq,Prod.mk.injEq,reduceCtorEq,Option.map_eq_some_iff] at h <;>
   first
    | (obtain⟨-,-,rfl⟩:=h;rfl)
    | (obtain⟨_,-,-,-,rfl⟩:=h;rfl))
end
def AOp.kind:AOp→Nat
 | .mov _ | .nilCheck _ | .pick .. | .build .. | .bin .. | .eqs .. | .un .. | .conv .. | .sliceS .. | .fieldAddr .. | .field .. | .index .. | .extract .. | .len _ | .lenS _ | .mm .. => 0
 | .load .. | .slice .. | .indexAddr .. | .call .. => 1
 | .alloc .. | .box .. | .makeSlice .. => 2
 | .buildSlice .. | .buildSliceF .. => 3
 | .store .. => 4
 | _=>5
def Out (G:FuncId→List D→D→Prop) (c:COp) (r:Nat→AV) (m:Mem) (v:AV) (m':Mem):Prop:=
 match c.op with
 | .call f args => ∃ ds d,argsD ⟨r,m⟩ args=some ds∧G f ds d∧v = .p d∧m'=m
 | op=>outM (ev op (c.dst.getD 0) ⟨r,m⟩)=some (true,v,m')
def GOut (G:FuncId→List D→D→Prop) (c:COp) (r:Nat→AV) (m:Mem) (v:AV) (m':Mem):Prop:=
 match c.guard with
 | none=>Out G c r m v m'
 | some (g,want) => ∃ b,r g = .p (.bool b)∧((b=want∧Out G c r m v m')∨(b≠want∧v = .und∧m'=m))
def putr (r:Nat→AV):Option Nat→AV→Nat→AV
 | some t,v=>upd r t v
 | none,_=>r
section
variable {G:FuncId→List D→D→Prop} {c c1 c2:COp} {K K':St→Prop} {s:St} {r r':Nat→AV} {m m':Mem} {v:AV}
theorem put_eq (r:Nat→AV) (m:Mem) (t:Option Nat) (v:AV):St.put ⟨r,m⟩ t v=⟨putr r t v,m⟩:=by cases t<;>rfl
theorem step_out (hkind:c.op.kind≠5):step G c K ⟨r,m⟩↔∃ v m',Out G c r m v m'∧K ⟨putr r c.dst v,m'⟩:=by
 have other:(∀ f args,c.op≠.call f args)→(step G c K ⟨r,m⟩↔∃ v m',outM (ev c.op (c.dst.getD 0) ⟨r,m⟩)=some (true,v,m')∧K ⟨putr r c.dst v,m'⟩):=by
  intro hn
  have hs:step G c K ⟨r,m⟩=(match ev c.op (c.dst.getD 0) ⟨r,m⟩ with
   | some (p,v,t)=>p=true∧K (t.put c.dst v)
   | none=>False):=by
   unfold step
   cases hc:c.op<;>first | (exact absurd hc (hn _ _)) | rfl | (exact absurd (by rw[hc];rfl) hkind)
  rw[hs]
  cases he:ev c.op (c.dst.getD 0) ⟨r,m⟩ with
  | none=>simp[outM]
  | some x =>
   obtain⟨p,v,t⟩:=x
   have hr:=ev_r he
   obtain⟨tr,tm⟩:=t
   simp only at hr
   subst hr
   simp only[outM,Option.some.injEq,Prod.mk.injEq,put_eq]
   constructor
   ·rintro⟨rfl,hk⟩;exact⟨v,tm,⟨rfl,rfl,rfl⟩,hk⟩
   ·rintro⟨v',m',⟨rfl,rfl,rfl⟩,hk⟩;exact⟨rfl,hk⟩
 by_cases hcall:∃ f args,c.op = .call f args
 ·obtain⟨f,args,hop⟩:=hcall
  unfold step Out
  rw[hop]
  simp only
  constructor
  ·intro h
   split at h
   ·rename_i ds hds
    obtain⟨d,hg,hk⟩:=h
    rw[put_eq] at hk
    exact⟨_,m,⟨ds,d,hds,hg,rfl,rfl⟩,hk⟩
   ·exact h.elim
  ·rintro⟨v,m',⟨ds,d,hds,hg,rfl,rfl⟩,hk⟩
   rw[hds]
   exact⟨d,hg,by rw[put_eq];exact hk⟩
 ·have hn:∀ f args,c.op≠.call f args:=fun f args h=>hcall ⟨f,args,h⟩
  rw[other hn]
  have ho:∀ v m',Out G c r m v m'=(outM (ev c.op (c.dst.getD 0) ⟨r,m⟩)=some (true,v,m')):=by
   intro v m'
   unfold Out
   cases hc:c.op<;>first | (exact absurd hc (hn _ _)) | rfl
  simp only[ho]
theorem gstep_out (hkind:c.op.kind≠5):gstep G c K ⟨r,m⟩↔∃ v m',GOut G c r m v m'∧K ⟨putr r c.dst v,m'⟩:=by
 unfold gstep GOut
 cases hg:c.guard with
 | none=>exact step_out hkind
 | some x =>
  obtain⟨g,want⟩:=x
  simp only
  constructor
  ·intro h
   split at h
   ·rename_i b hb
    split at h
    ·rename_i hbw
     obtain⟨v,m',h1,h2⟩:=(step_out hkind).1 h
     exact⟨v,m',⟨b,hb,.inl ⟨hbw,h1⟩⟩,h2⟩
    ·rename_i hbw
     rw[put_eq] at h
     exact⟨.und,m,⟨b,hb,.inr ⟨hbw,rfl,rfl⟩⟩,h⟩
   ·exact h.elim
  ·rintro⟨v,m',⟨b,hb,h1⟩,h2⟩
   rw[hb]
   simp only
   rcases h1 with⟨hbw,h1⟩ | ⟨hbw,rfl,rfl⟩
   ·rw[if_pos hbw];exact (step_out hkind).2 ⟨v,m',h1,h2⟩
   ·rw[if_neg hbw,put_eq];exact h2
theorem step_mono (h:step G c K s) (hk:∀ t,K t→K' t):step G c K' s:=by
 unfold step at *
 split at h
 ·split at h
  ·obtain⟨d,h1,h2⟩:=h;exact⟨d,h1,hk _ h2⟩
  ·exact h.elim
 ·split at h
  ·exact⟨h.1,hk _ h.2⟩
  ·exact h.elim
 ·split at h
  ·exact⟨h.1,hk _ h.2⟩
  ·exact h.elim
 ·split at h
  ·exact⟨h.1,hk _ h.2⟩
  ·exact h.elim
theorem gstep_mono (h:gstep G c K s) (hk:∀ t,K t→K' t):gstep G c K' s:=by
 unfold gstep at *
 split at h
 ·exact step_mono h hk
 ·split at h
  ·split at h
   ·rename_i hb
    rw[if_pos hb]
    exact step_mono h hk
   ·rename_i hb
    rw[if_neg hb]
    exact hk _ h
  ·exact h.elim
def readsL:List Opd→List Nat
 | []=>[]
 | .t n::l=>n::readsL l
 | .k _::l=>readsL l
def COp.reads (c:COp):List Nat:=readsL c.op.opds++(match c.guard with | some (g,_)=>[g] | none=>[])
theorem readsL_ev:∀ (l:List Opd),(∀ n∈readsL l,r n=r' n)→∀ x∈l,x.ev r=x.ev r'
 | .t n::l,h,x,hx=>by
  rcases List.mem_cons.1 hx with rfl | hx
  ·exact h n (by simp[readsL])
  ·exact readsL_ev l (fun k hk=>h k (by simp[readsL,hk])) x hx
 | .k v::l,h,x,hx=>by
  rcases List.mem_cons.1 hx with rfl | hx
  ·rfl
  ·exact readsL_ev l (fun k hk=>h k (by simpa[readsL] using hk)) x hx
theorem Out.congr (h:∀ n∈readsL c.op.opds,r n=r' n) (ho:Out G c r m v m'):Out G c r' m v m':=by
 have hx:=readsL_ev (r:=r) (r':=r') c.op.opds h
 unfold Out at *
 have hev:=ev_congr (m:=m) c.op (c.dst.getD 0) hx
 cases hc:c.op<;>simp only[hc] at ho hev hx ⊢<;>first | (rw[←hev];exact ho) | skip
 obtain⟨ds,d,h1,h2,h3,h4⟩:=ho
 exact⟨ds,d,by have hq:=argsD_congr (m:=m) (r:=r) (r':=r') _ hx;simp only[AOp.opds] at hq;rw[←hq];exact h1,h2,h3,h4⟩
theorem GOut.congr (h:∀ n∈c.reads,r n=r' n) (ho:GOut G c r m v m'):GOut G c r' m v m':=by
 have hx:∀ n∈readsL c.op.opds,r n=r' n:=fun n hn=>h n (by simp[COp.reads,hn])
 unfold GOut at *
 cases hg:c.guard with
 | none=>rw[hg] at ho;exact ho.congr hx
 | some x =>
  obtain⟨g,want⟩:=x
  rw[hg] at ho
  simp only at ho ⊢
  obtain⟨b,hb,h1⟩:=ho
  exact⟨b,by rw[←h g (by simp[COp.reads,hg])];exact hb,h1.imp (fun h1=>⟨h1.1,h1.2.congr hx⟩) id⟩
end
end Go.Proofs.Ytdjbfgfbpimakaa.M
end

section
namespace Go.Proofs.Ytdjbfgfbpimakaa
open Go.RowKit
theorem sg_mul {m n:Bool} {p q:Int}:sg (!(m == n)) (p*q)=sg m p*sg n q:=by cases m<;>cases n<;>simp[sg,Int.neg_mul,Int.mul_neg]
theorem pow_add' (i j:Nat):(4294967296:Int)^(i+j)=4294967296^i*4294967296^j:=Int.pow_add ..
set_option maxRecDepth 100000 in
set_option maxHeartbeats 2000000 in
theorem mul_any (x y:IV) (a b:Int) (w:World) (hx:IsI w x a) (hy:IsI w y b) (hs:Sm (a*b)) :
  Calls Try.prog 63 #[.agg #[.bool x.n,.slice x.s.a x.s.len x.s.cap],.agg #[.bool y.n,.slice y.s.a y.s.len y.s.cap]] w (RetI w (a*b)):=by
 obtain⟨la,hla,na,da,hlea,hza,h0a,hsa⟩:=hx.open_
 obtain⟨lb,hlb,nb,db,hleb,hzb,h0b,hsb⟩:=hy.open_
 obtain⟨nx,sx⟩:=x
 obtain⟨ny,sy⟩:=y
 obtain⟨ao,ca,rfl,hca,hcam,hopa⟩:=hla.open_
 obtain⟨bo,cb,rfl,hcb,hcbm,hopb⟩:=hlb.open_
 have hv:=hd_ ((sg_mul (m:=nx) (n:=ny) (p:=valL la) (q:=valL lb)).trans (show _=a*b by rw[hza,hzb]))
 replace hs:=hd_ hs
 have he0:=(((Ext.rf w).al (Obj.cells #[Value.bool nx,Value.slice ao la.length ca] 37)).al (Obj.cells #[Value.bool ny,Value.slice bo lb.length cb] 37)).al (Obj.cells #[Value.bool false,Value.slice none 0 0] 37)
 clear hx hy hza hzb h0a h0b hsa hsb na nb
 go_enter Try.func63,Try.ntmps63
 go_wp2_with (at_make;refine wpL_make _ rfl _ _ 35 rfl 116 .u32 4 Try.underlying35 infoU32 _ _ _ _ (la.length+lb.length) rfl rfl (by omega) (by omega) (by omega) (by omega) ?_;intro w1 hown1 hx1 hlt1;obtain⟨hc1,hf1⟩:=bcell hx1)
 go_loopw [22] (fun i wr => ∃ (k:Nat) (o:List Int),i = .int .i64 k∧k≤la.length∧Own wr (w.heap.size+1+1+1) 116 .u32 o∧o.length=la.length+lb.length∧Dig o ∧
   valL o=valL (la.take k)*valL lb∧(∀ t,k+lb.length≤t→at_ o t=0)∧Ext (((w.alloc (Obj.cells #[Value.bool nx,Value.slice ao la.length ca] 37)).alloc (Obj.cells #[Value.bool ny,Value.slice bo lb.length cb] 37)).alloc (Obj.cells #[Value.bool false,Value.slice none 0 0] 37)) wr) (fun i _=>la.length-(intOf i).toNat)
 case atStart=>exact⟨0,_,rfl,Nat.zero_le _,by simpa using hown1,by simp,dig_zeros _,by simp[valL];exact valL_zero (fun j=>by simp[at_,List.getElem?_replicate];split<;>rfl),fun t _=>by simp[at_,List.getElem?_replicate];split<;>rfl,hx1⟩
 case round =>
  clear hown1 hx1 hc1 hf1 hlt1
  obtain⟨k,o,rfl,hk,hown,hol,hdo,hval,hzt,hx⟩:=hrel
  replace hval:=hd_ hval
  replace hol:=hd_ hol
  replace hzt:=hd_ hzt
  obtain⟨hc1,hf1⟩:=bcell hx
  have hsz:=hx.size
  simp only[World.size_alloc] at hsz
  by_cases hlt:k<la.length
  ·obtain⟨ba,oa,rfl,hba,ga⟩:=hopa (by omega)
   have hbl:=hba.lt
   have ga:=(hx.cell (p:=⟨ba,oa+k,none⟩) (by simp;omega)).trans ((he0.cell (p:=⟨ba,oa+k,none⟩) hbl).trans (ga k hlt))
   have fa:=da.at_ k
   go_wp2
   go_loopw [30,8] (fun j c wi => ∃ (m:Nat) (cc:Int) (o2:List Int),j = .int .i64 m∧c = .int .u64 cc∧m≤lb.length∧(0≤cc∧cc≤4294967295)∧Own wi (w.heap.size+1+1+1) 116 .u32 o2∧o2.length=la.length+lb.length∧Dig o2 ∧
     valL o2+cc*4294967296^(k+m)=valL (la.take k)*valL lb+at_ la k*valL (lb.take m)*4294967296^k∧(∀ t,k+lb.length≤t→at_ o2 t=0)∧Ext (((w.alloc (Obj.cells #[Value.bool nx,Value.slice (some ⟨ba,oa,none⟩) la.length ca] 37)).alloc (Obj.cells #[Value.bool ny,Value.slice bo lb.length cb] 37)).alloc (Obj.cells #[Value.bool false,Value.slice none 0 0] 37)) wi) (fun j _ _=>lb.length-(intOf j).toNat)
   case atStart=>exact⟨0,0,o,rfl,rfl,Nat.zero_le _,by omega,hown,hol.out,hdo,by rw[hval.out];simp[valL],hzt.out,hx⟩
   case round =>
    clear hown hdo hval hol hzt hx hc1 hf1 hsz
    obtain⟨m,cc,o2,rfl,rfl,hm,hcc,hown,hol,hdo,hval,hzt,hx⟩:=hrel
    replace hval:=hd_ hval
    replace hol:=hd_ hol
    replace hzt:=hd_ hzt
    obtain⟨hc1,hf1⟩:=bcell hx
    by_cases hlt2:m<lb.length
    ·obtain⟨bb,ob,rfl,hbb,gb⟩:=hopb (by omega)
     have hbl2:=hbb.lt
     have gb:=(hx.cell (p:=⟨bb,ob+m,none⟩) (by simp;omega)).trans ((he0.cell (p:=⟨bb,ob+m,none⟩) hbl2).trans (gb m hlt2))
     have fb:=db.at_ m
     have fab:=mul_bound fa fb
     have go:=hown.cell (i:=k+m) (by have:=hol.out;omega)
     have gf:=hown.frozen (k+m)
     have fo:=hdo.at_ (k+m)
     go_wp2
     go_roundw
     case rel =>
      refine⟨m+1,_,o2.set (k+m) _,by go_num,rfl,by omega,?_,hown.set (k+m) _,by rw[List.length_set];exact hol.out,hdo.set _ (by omega),?_,?_,?_⟩
      ·omega
      ·rw[valL_set_full (by have:=hol.out;omega),valL_take_succ,←Nat.add_assoc]
       exact mul_step hval.out (Int.pow_succ ..).symm (by rw[pow_add'];grind)
      ·intro t ht
       rw[at_set_ne (by omega)]
       exact hzt.out t ht
      ·exact hx.st (by simp) _
     case measure=>first | (simp[intOf];done) | (simp[intOf];omega)
    ·obtain rfl:m=lb.length:=by omega
     have go:=hown.cell (i:=k+lb.length) (by have:=hol.out;omega)
     have gf:=hown.frozen (k+lb.length)
     go_wp2
     go_roundw
     case rel =>
      refine⟨k+1,o2.set (k+lb.length) _,by go_num,by omega,hown.set (k+lb.length) _,by rw[List.length_set];exact hol.out,hdo.set _ (by omega),?_,?_,?_⟩
      ·have h1:=hval.out
       rw[List.take_of_length_le (Nat.le_refl _)] at h1
       rw[valL_set_full (by have:=hol.out;omega),hzt.out _ (Nat.le_refl _),valL_take_succ,Int.sub_zero,h1]
       grind
      ·intro t ht
       rw[at_set_ne (by omega)]
       exact hzt.out t (by omega)
      ·exact hx.st (by simp) _
     case measure=>first | (simp[intOf];done) | (simp[intOf];omega)
  ·obtain rfl:k=la.length:=by omega
   rw[List.take_of_length_le (Nat.le_refl _)] at hval
   go_wp2_with fail
   have hL:=Own.isL (k:=.u32) hown (by have:=hol.out;omega) hdo
   rw[hol.out] at hL
   refine (made_any _ ⟨some ⟨w.heap.size+1+1+1,0,none⟩,la.length+lb.length,la.length+lb.length⟩ o _ hL (by rw[hval.out,hv.out];exact hs.out)).mono ?_
   rintro e w2 ⟨y,rfl,hy,hx2⟩
   have k0:w2.cell? ⟨w.heap.size+1+1,0,none⟩=some (Value.bool false):=cell_later hx2 (cell_later hx (by simp[go_sem]))
   have k1:w2.cell? ⟨w.heap.size+1+1,1,none⟩=some (Value.slice none 0 0):=cell_later hx2 (cell_later hx (by simp[go_sem]))
   have f0:∀ i,w2.frozen? ⟨w.heap.size+1+1,i,none⟩=false:=fun i=>(hx2.frozen (p:=⟨w.heap.size+1+1,i,none⟩) (by show w.heap.size+1+1<_;omega)).trans ((hx.frozen (p:=⟨w.heap.size+1+1,i,none⟩) (by simp)).trans (by simp[go_sem]))
   go_wp2
   refine bodyPost_ret (v:=.agg #[.bool y.n,.slice y.s.a y.s.len y.s.cap]) (by simp[results,Try.results63,go_sem,k0,k1]) rfl ⟨y,rfl,?_,?_⟩
   ·rw[hval.out,hv.out] at hy
    exact hy.kept ((Kept.rf _ _).st2 (T':=37) (((Ty.new' (by simp)).keep hx).keep hx2) (by decide) _ _)
   ·exact ((he0.tr hx).tr hx2).st2 (by omega) _ _
end Go.Proofs.Ytdjbfgfbpimakaa
end

section
namespace Go.Proofs.Ytdjbfgfbpimakaa
open Go.RowKit
theorem or_low {p x:Int} (hp:0≤p∧p≤4294967295) (hx:0≤x∧x≤4294967295):bits BinOp.or IntKind.u64 (p*4294967296) x=p*4294967296+x:=by
 rw[u64_or _ _ (by omega) (by omega) (by omega) (by omega)]
 rw[nat_join 32 _ _ (by omega) (by omega)]
 omega
theorem div32_bounds {hi lo y:Int} (h0:0≤hi) (h1:hi<y) (h2:0≤lo∧lo≤4294967295):0≤(hi*4294967296+lo) / y∧(hi*4294967296+lo) / y≤4294967295∧0≤(hi*4294967296+lo) % y∧(hi*4294967296+lo) % y<y:=by
 refine⟨Int.ediv_nonneg (by omega) (by omega),?_,Int.emod_nonneg _ (by omega),Int.emod_lt_of_pos _ (by omega)⟩
 have:(hi*4294967296+lo) / y<4294967296:=Int.ediv_lt_of_lt_mul (by omega) (by omega)
 omega
set_option maxHeartbeats 400000 in
theorem div32 (hi lo y:Int) (w:World) (h0:0≤hi) (h1:hi<y) (hy:y≤4294967295) (h2:0≤lo∧lo≤4294967295) :
  Calls Try.prog 105 #[.int .u32 hi,.int .u32 lo,.int .u32 y] w (fun e w'=>e = .returned (.tuple #[.int .u32 ((hi*4294967296+lo) / y),.int .u32 ((hi*4294967296+lo) % y)])∧Ext w w'):=by
 have ho:=or_low (p:=hi) (by omega) h2
 have hb:=div32_bounds h0 h1 h2
 go_enter Try.func105,Try.ntmps105
 go_wp2
 go_quiet (fail)
 go_wp2
 go_ret2
 exact⟨rfl,below_drewN (Ext.rf _) _⟩
theorem valL_set_drop {l:List Int} {k:Nat} (h:k<l.length) (v:Int):valL ((l.set k v).drop k)=v+4294967296*valL (l.drop (k+1)):=by
 rw[valL_at_drop,at_set_eq h,List.drop_set_of_lt (by omega)]
def RetShort (w:World) (n:Nat) (q r:Int) (e:Ending) (w':World):Prop:=
 ∃ (s:SV) (l:List Int),e = .returned (.tuple #[.slice s.a s.len s.cap,.int .u32 r])∧IsL w' s .u32 l∧l.length=n∧valL l=q∧Ext w w'
theorem short_end {A D o r:Int} (h:o*D+r=A) (h0:0≤r) (h1:r<D):o=A / D∧r=A % D:=by
 have h2:=Int.mul_ediv_add_emod A D
 have h3:=Int.emod_nonneg A (show D≠0 by omega)
 have h4:=Int.emod_lt_of_pos A (show 0<D by omega)
 have:A / D=o:=by
  rw[←h,Int.add_comm,Int.add_mul_ediv_right _ _ (by omega),Int.ediv_eq_zero_of_lt h0 h1,Int.zero_add]
 rw[this] at h2
 refine⟨this.symm,?_⟩
 have e:D*o=o*D:=Int.mul_comm ..
 omega
theorem short_step {V o r a D:Int} (h:o*D+r=V):((r*4294967296+a) / D+4294967296*o)*D+(r*4294967296+a) % D=a+4294967296*V:=by
 have h2:=Int.mul_ediv_add_emod (r*4294967296+a) D
 generalize (r*4294967296+a) / D=q at *
 generalize (r*4294967296+a) % D=s at *
 subst h
 grind
set_option maxRecDepth 100000 in
set_option maxHeartbeats 1000000 in
theorem short_any (s:SV) (a:List Int) (d:Int) (w:World) (ha:IsL w s .u32 a) (hla:a.length≤13000000000000) (hd:1≤d∧d≤4294967295) :
  Calls Try.prog 94 #[.slice s.a s.len s.cap,.int .u32 d] w (RetShort w a.length (valL a / d) (valL a % d)):=by
 have da:Dig a:=ha.2
 obtain⟨ao,ca,rfl,hca,hcam,hopa⟩:=ha.open_
 go_enter Try.func94,Try.ntmps94
 go_wp2_with (at_make;refine wpL_make _ rfl _ _ 35 rfl 116 .u32 4 Try.underlying35 infoU32 _ _ _ _ a.length rfl rfl (by omega) (by omega) (by omega) (by omega) ?_;intro w1 hown1 hx1 hlt1)
 go_loopw [7,8] (fun rv i wr => ∃ (k:Nat) (r:Int) (o:List Int),rv = .int .u32 r∧i = .int .i64 ((k:Int)-1)∧k≤a.length∧Own wr w.heap.size 116 .u32 o∧o.length=a.length∧Dig o∧(0≤r∧r<d) ∧
   valL (o.drop k)*d+r=valL (a.drop k)∧Ext w wr) (fun _ i _=>(intOf i+1).toNat)
 case atStart=>exact⟨a.length,0,_,rfl,rfl,Nat.le_refl _,hown1,by simp,dig_zeros _,by omega,by rw[List.drop_of_length_le (by simp),List.drop_of_length_le (by simp)];simp[valL],hx1⟩
 case round =>
  obtain⟨k,r,o,rfl,rfl,hk,hown,hol,hdo,hr,hval,hx⟩:=hrel
  clear hown1
  replace hval:=hd_ hval
  replace hol:=hd_ hol
  match k,hk,hval with
  | 0,hk,hval =>
   go_wp2
   go_ret2
   have h1:=short_end hval.out hr.1 hr.2
   rw[List.drop_zero,List.drop_zero] at h1
   refine⟨⟨some ⟨w.heap.size,0,none⟩,a.length,a.length⟩,o,by rw[←h1.2];rfl,?_,hol.out,h1.1,hx⟩
   have:=hown.isL (by have:=hol.out;omega) hdo
   rw[hol.out] at this
   exact this
  | k+1,hk,hval =>
   rw[show ((k+1:Nat):Int)-1=(k:Int) by omega]
   obtain⟨ba,oa,rfl,hba,ga⟩:=hopa (by omega)
   have ga:=(hx.cell (p:=⟨ba,oa+k,none⟩) hba.lt).trans (ga k hk)
   have fa:=da.at_ k
   have hb:=div32_bounds (y:=d) hr.1 hr.2 fa
   go_wp2_with fail
   refine (div32 _ _ _ _ hr.1 hr.2 hd.2 fa).mono ?_
   rintro e w2 ⟨rfl,hx2⟩
   have go:=(hown.keep hx2).cell (i:=k) (by have:=hol.out;omega)
   have gf:=(hown.keep hx2).frozen k
   go_wp2
   go_roundw
   case rel =>
    refine⟨k,_,o.set k _,rfl,rfl,by omega,(hown.keep hx2).set k _,by rw[List.length_set];exact hol.out,hdo.set k ⟨hb.1,hb.2.1⟩,⟨hb.2.2.1,hb.2.2.2⟩,?_,(hx.tr hx2).st (Nat.le_refl _) _⟩
    rw[valL_set_drop (by have:=hol.out;omega),valL_at_drop a k]
    exact short_step hval.out
   case measure=>first | (simp[intOf];done) | (simp[intOf];omega)
theorem at_zeros (n i:Nat):at_ (List.replicate n 0) i=0:=by
 simp only[at_,List.getD_eq_getElem?_getD,List.getElem?_replicate]
 split<;>rfl
def RetOwn (w:World) (n:Nat) (z:Int) (e:Ending) (w':World):Prop:=
 ∃ (b:Nat) (l:List Int),e = .returned (.slice (some ⟨b,0,none⟩) n n)∧Own w' b 116 .u32 l∧l.length=n∧Dig l∧valL l=z∧w.heap.size≤b∧Ext w w'
theorem pow2_le {r:Nat} (h:r<32):(1:Int)≤2^r∧(2:Int)^r≤2147483648∧(4294967296:Int)=2^r*2^(32-r):=by
 have h1:(2:Nat)^r≤2^31:=Nat.pow_le_pow_right (by omega) (by omega)
 have h2:(1:Nat)≤2^r:=Nat.one_le_two_pow
 have e:(2:Int)^r=((2^r:Nat):Int):=by simp
 have e3:(2:Int)^r*2^(32-r)=2^32:=by rw[←Int.pow_add,show r+(32-r)=32 by omega]
 refine⟨by omega,by omega,e3.symm⟩
theorem or_join32 {r:Nat} {c l:Int} (hr:r<32) (hc:0≤c∧c<2^r) (hl:0≤l∧l≤4294967295) (hd:l % 2^r=0):bits BinOp.or IntKind.u32 c l=c+l∧bits BinOp.or IntKind.u32 l c=l+c∧c+l≤4294967295:=by
 have h2:=pow2_le hr
 obtain⟨C,rfl⟩:=Int.eq_ofNat_of_zero_le hc.1
 obtain⟨L,rfl⟩:=Int.eq_ofNat_of_zero_le hl.1
 have e:(2:Int)^r=((2^r:Nat):Int):=by simp
 have e2:(2:Int)^(32-r)=((2^(32-r):Nat):Int):=by simp
 rw[e] at hd hc h2
 rw[e2] at h2
 have hd':L % 2^r=0:=by omega
 have hj:=nat_join r L C hd' (by omega)
 have hj2:C ||| L=C+L:=by rw[Nat.or_comm,hj];omega
 have hlt:C+L<4294967296:=by
  obtain⟨m,hm⟩:=Nat.dvd_of_mod_eq_zero hd'
  have h5:4294967296=2^r*2^(32-r):=by have:=h2.2.2;rw[←Int.natCast_mul] at this;omega
  generalize 2^(32-r)=q at *
  generalize 2^r=p at *
  subst hm
  have h6:m<q:=by
   refine Nat.lt_of_mul_lt_mul_left (a:=p) ?_
   omega
  have h7:=Nat.mul_le_mul_left p (show m+1≤q from h6)
  rw[Nat.mul_add,Nat.mul_one] at h7
  omega
 refine⟨?_,?_,by omega⟩
 ·rw[u32_or_nat _ _ (by omega) (by omega),hj2];simp
 ·rw[u32_or_nat _ _ (by omega) (by omega),hj];simp
theorem left_cells {r:Nat} {x c:Int} (hr:r<32) (hx:0≤x∧x≤4294967295) (hc:0≤c∧c<2^r) :
  bits BinOp.or IntKind.u32 c (IntKind.u64.wrap (x*2^r) % 4294967296)=c+(x*2^r) % 4294967296 ∧
  bits BinOp.or IntKind.u32 0 (IntKind.u64.wrap (x*2^r) / 4294967296 % 4294967296)=x*2^r / 4294967296 ∧
  (0≤c+(x*2^r) % 4294967296∧c+(x*2^r) % 4294967296≤4294967295)∧(0≤x*2^r / 4294967296∧x*2^r / 4294967296<2^r)∧(2:Int)^r≤4294967296:=by
 have h2:=pow2_le hr
 have hd:(x*2^r) % 4294967296 % 2^r=0:=by
  rw[Int.emod_emod_of_dvd _ ⟨_,h2.2.2⟩,Int.mul_emod_left]
 have hb:0≤x*2^r∧x*2^r≤4294967295*2147483648:=⟨Int.mul_nonneg hx.1 (by omega),Int.mul_le_mul hx.2 h2.2.1 (by omega) (by omega)⟩
 have hlt:x*2^r<2^r*4294967296:=by
  have:=Int.mul_le_mul_of_nonneg_right hx.2 (show (0:Int)≤2^r by omega)
  omega
 have hw:IntKind.u64.wrap (x*2^r)=x*2^r:=by rw[IntKind.wrap_u64];omega
 rw[hw]
 have hl:0≤(x*2^r) % 4294967296∧(x*2^r) % 4294967296≤4294967295:=by omega
 have hj:=or_join32 hr hc hl hd
 have hh:0≤x*2^r / 4294967296∧x*2^r / 4294967296<2^r:=⟨by omega,Int.ediv_lt_of_lt_mul (by omega) hlt⟩
 have hh2:=hh.2
 refine⟨hj.1,?_,⟨by omega,hj.2.2⟩,hh,by omega⟩
 rw[Int.emod_eq_of_lt hh.1 (by omega)]
 rw[u32_or _ _ (by omega) (by omega) (by omega) (by omega)]
 simp;omega
set_option maxRecDepth 100000 in
set_option maxHeartbeats 1000000 in
theorem left_any (s:SV) (a:List Int) (N:Int) (q r:Nat) (w:World) (ha:IsL w s .u32 a) (hla:a.length≤13000000000000) (hN:N=32*q+r) (hr:r<32) (hq:q≤13000000000000) :
  Calls Try.prog 107 #[.slice s.a s.len s.cap,.int .i64 N] w (RetOwn w (a.length+q+1) (valL a*2^r*4294967296^q)):=by
 have da:Dig a:=ha.2
 obtain⟨ao,ca,rfl,hca,hcam,hopa⟩:=ha.open_
 have e1:N / 32=q:=by omega
 have e2:N % 32=r:=by omega
 have hN0:0≤N:=by omega
 clear hN
 go_enter Try.func107,Try.ntmps107
 go_wp2_with (at_make;refine wpL_make _ rfl _ _ 35 rfl 116 .u32 4 Try.underlying35 infoU32 _ _ _ _ (a.length+q+1) rfl rfl (by omega) (by omega) (by omega) (by omega) ?_;intro w1 hown1 hx1 hlt1)
 go_loopw [18] (fun i wr => ∃ (k:Nat) (o:List Int),i = .int .i64 k∧k≤a.length∧Own wr w.heap.size 116 .u32 o∧o.length=a.length+q+1∧Dig o ∧
   valL o=valL (a.take k)*2^r*4294967296^q∧(∀ t,k+q<t→at_ o t=0)∧at_ o (k+q)<2^r∧Ext w wr) (fun i _=>a.length-(intOf i).toNat)
 case atStart =>
  refine⟨0,_,rfl,Nat.zero_le _,hown1,by simp,dig_zeros _,?_,fun t _ => ?_,?_,hx1⟩
  ·rw[valL_zero (fun j=>at_zeros _ j)];simp[valL]
  ·exact at_zeros _ t
  ·rw[at_zeros];exact Int.pow_pos (by omega)
 case round =>
  obtain⟨k,o,rfl,hk,hown,hol,hdo,hval,hz,htop,hx⟩:=hrel
  clear hown1
  replace hval:=hd_ hval
  replace hol:=hd_ hol
  replace hz:=hd_ hz
  replace htop:=hd_ htop
  by_cases hlt:k<a.length
  ·obtain⟨ba,oa,rfl,hba,ga⟩:=hopa (by omega)
   have ga:=(hx.cell (p:=⟨ba,oa+k,none⟩) hba.lt).trans (ga k hlt)
   have fa:=da.at_ k
   have go:=hown.cell (i:=k+q) (by have:=hol.out;omega)
   have gf:=hown.frozen (k+q)
   have go2:=hown.cell (i:=k+q+1) (by have:=hol.out;omega)
   have gf2:=hown.frozen (k+q+1)
   go_wp2
   have hz1:at_ o (k+q+1)=0:=hz.out _ (by omega)
   have fo:=hdo.at_ (k+q)
   obtain⟨c1,c2,c3,c4,c5⟩:=left_cells hr fa ⟨fo.1,htop.out⟩
   rw[hz1,c1,c2]
   go_roundw
   case rel =>
    refine⟨k+1,(o.set (k+q) _).set (k+q+1) _,rfl,by omega,(hown.set (k+q) _).set (k+q+1) _,by rw[List.length_set,List.length_set];exact hol.out,(hdo.set _ c3).set _ (by have:=c4.2;omega),?_,?_,?_,(hx.st (Nat.le_refl _) _).st (Nat.le_refl _) _⟩
    ·rw[valL_set_full (by rw[List.length_set];have:=hol.out;omega),valL_set_full (by have:=hol.out;omega),at_set_ne (by omega),hz1,hval.out,valL_take_succ]
     rw[show k+q+1=k+q+1 from rfl,Int.pow_succ,pow_add' k q]
     generalize (2:Int)^r=p2 at *
     have e:=Int.mul_ediv_add_emod (at_ a k*p2) 4294967296
     generalize (at_ a k*p2) / 4294967296=h at *
     generalize (at_ a k*p2) % 4294967296=l at *
     generalize (4294967296:Int)^k=bk at *
     generalize (4294967296:Int)^q=bq at *
     clear c1 c2 c3 c4 c5
     grind
    ·intro t ht
     rw[at_set_ne (by omega),at_set_ne (by omega)]
     exact hz.out t (by omega)
    ·rw[show k+1+q=k+q+1 by omega,at_set_eq (by rw[List.length_set];have:=hol.out;omega)]
     exact c4.2
   case measure=>first | (simp[intOf];done) | (simp[intOf];omega)
  ·obtain rfl:k=a.length:=by omega
   go_wp2
   go_ret
   refine⟨w.heap.size,o,rfl,hown,hol.out,hdo,?_,Nat.le_refl _,hx⟩
   rw[hval.out,List.take_of_length_le (Nat.le_refl _)]
end Go.Proofs.Ytdjbfgfbpimakaa
end

section
namespace Go.Proofs.Ytdjbfgfbpimakaa.M
open Go.RowKit
section
variable {G:FuncId→List D→D→Prop} {c c1 c2:COp} {K K':St→Prop} {s:St} {r r':Nat→AV} {m m':Mem} {v:AV}
theorem outM_some {x:Option (Bool × AV × St)} {p:Bool} {v:AV} {m:Mem} (h:outM x=some (p,v,m)):∃ t,x=some (p,v,t)∧t.m=m:=by
 cases x with
 | none=>simp[outM] at h
 | some x=>obtain⟨p',v',t⟩:=x;simp only[outM,Option.some.injEq,Prod.mk.injEq] at h;obtain⟨rfl,rfl,rfl⟩:=h;exact⟨t,rfl,rfl⟩
theorem ev_pure {o:AOp} {id:Nat} (hk:o.kind=0) (m m2:Mem):outM (ev o id ⟨r,m⟩)=(outM (ev o id ⟨r,m2⟩)).map (fun x=>(x.1,x.2.1,m)):=by
 cases o<;>simp only[AOp.kind,reduceCtorEq] at hk<;>try omega
 case extract x i=>simp only[ev];(split<;>(try rfl))<;>(rename_i l _;cases l[i]?<;>rfl)
 all_goals (simp only[ev];(repeat' split)<;>rfl)
theorem Out.pure (hk:c.op.kind=0) (h:Out G c r m v m'):m'=m∧∀ m2,Out G c r m2 v m2:=by
 have hn:∀ f args,c.op≠.call f args:=by intro f args e;rw[e] at hk;simp[AOp.kind] at hk
 have ho:∀ m v m',Out G c r m v m'=(outM (ev c.op (c.dst.getD 0) ⟨r,m⟩)=some (true,v,m')):=by
  intro m v m'
  unfold Out
  cases hc:c.op<;>first | (exact absurd hc (hn _ _)) | rfl
 rw[ho] at h
 have key:∀ m2,outM (ev c.op (c.dst.getD 0) ⟨r,m2⟩)=some (true,v,m2):=by
  intro m2
  rw[ev_pure hk m2 m,h]
  rfl
 have:=key m
 rw[h] at this
 simp only[Option.some.injEq,Prod.mk.injEq,true_and] at this
 exact⟨this,fun m2=>by rw[ho];exact key m2⟩
theorem toD_more {any:Bool} {M M':Mem} (h:∀ i o,M i=some o→M' i=some o):∀ (n:Nat),(∀ (x:AV) (d:D),x.toD any M n=some d→x.toD any M' n=some d)∧(∀ (l:List AV) (ds:List D),toDL any M n l=some ds→toDL any M' n l=some ds):=by
 intro n
 induction n with
 | zero=>exact⟨fun x d hd=>by simp[AV.toD] at hd,fun l ds hd=>by simp[toDL] at hd⟩
 | succ n ih =>
  refine⟨fun x d hd => ?_,fun l ds hd => ?_⟩
  ·cases x with
   | und=>simp[AV.toD] at hd
   | p e=>simpa[AV.toD] using hd
   | nils T sz=>simpa[AV.toD] using hd
   | agg l =>
    simp only[AV.toD,Option.map_eq_some_iff] at hd ⊢
    obtain⟨ds,h1,h2⟩:=hd
    exact⟨ds,ih.2 l ds h1,h2⟩
   | tup l =>
    simp only[AV.toD,Option.map_eq_some_iff] at hd ⊢
    obtain⟨ds,h1,h2⟩:=hd
    exact⟨ds,ih.2 l ds h1,h2⟩
   | slice i off len =>
    simp only[AV.toD] at hd ⊢
    split at hd
    case h_2=>cases hd
    rename_i o ho
    rw[h i o ho]
    exact hd
   | ptr i j off =>
    simp only[AV.toD] at hd ⊢
    split at hd
    case isFalse=>cases hd
    rename_i hij
    rw[if_pos hij]
    split at hd
    case h_2=>cases hd
    rename_i o ho
    rw[h i o ho]
    simp only
    split at hd
    case h_2=>cases hd
    rename_i u hu
    (try rw[hu])
    (try simp only)
    split at hd
    case isFalse=>cases hd
    rename_i hf
    rw[if_pos hf]
    simp only[Option.map_eq_some_iff] at hd ⊢
    obtain⟨e,h1,h2⟩:=hd
    exact⟨e,ih.1 u e h1,h2⟩
  ·cases l with
   | nil=>simpa[toDL] using hd
   | cons x l =>
    simp only[toDL] at hd ⊢
    split at hd
    case h_2=>cases hd
    rename_i d ds' h1 h2
    rw[ih.1 x d h1,ih.2 l ds' h2]
    exact hd
theorem argsD_more {M M':Mem} (h:∀ i o,M i=some o→M' i=some o):∀ (l:List Opd) (ds:List D),argsD ⟨r,M⟩ l=some ds→argsD ⟨r,M'⟩ l=some ds
 | [],ds,hd=>by simpa[argsD] using hd
 | x::l,ds,hd=>by
  simp only[argsD] at hd ⊢
  split at hd
  case h_2=>cases hd
  rename_i d ds' h1 h2
  rw[(toD_more h 20).1 _ _ h1,argsD_more h l ds' h2]
  exact hd
theorem Out.read (hk:c.op.kind=1) (h:Out G c r m v m'):m'=m∧∀ m2,(∀ i o,m i=some o→m2 i=some o)→Out G c r m2 v m2:=by
 unfold Out at *
 cases hc:c.op<;>simp only[hc,AOp.kind,reduceCtorEq] at hk h ⊢<;>try omega
 case call f args =>
  obtain⟨ds,d,h1,h2,h3,rfl⟩:=h
  exact⟨rfl,fun m2 hm=>⟨ds,d,argsD_more hm _ _ h1,h2,h3,(by first | rfl | trivial)⟩⟩
 case load ag sz x =>
  obtain⟨t,h1,rfl⟩:=outM_some h
  simp only[ev] at h1 ⊢
  split at h1
  ·rename_i i j off hx
   (try rw[hx])
   (try simp only)
   split at h1
   ·rename_i T osz l frz hm
    split at h1
    case h_2=>cases h1
    rename_i u hu
    simp only[Option.some.injEq,Prod.mk.injEq] at h1
    obtain⟨h2,rfl,rfl⟩:=h1
    refine⟨rfl,fun m2 hm2 => ?_⟩
    rw[hm2 _ _ hm]
    simp only[hu,h2]
    rfl
   ·rename_i T osz u frz hm
    split at h1
    case isFalse=>cases h1
    rename_i hj
    split at h1
    case h_2=>cases h1
    rename_i z hz
    simp only[Option.some.injEq,Prod.mk.injEq,true_and] at h1
    obtain⟨rfl,rfl⟩:=h1
    refine⟨rfl,fun m2 hm2 => ?_⟩
    rw[hm2 _ _ hm]
    simp only[hz,hj,if_true]
    rfl
   ·cases h1
  ·rename_i e hx
   (try rw[hx])
   (try simp only)
   split at h1
   case isFalse=>cases h1
   rename_i hag
   simp only[Option.some.injEq,Prod.mk.injEq] at h1
   obtain⟨h2,rfl,rfl⟩:=h1
   refine⟨rfl,fun m2 hm2 => ?_⟩
   rw[if_pos hag,h2]
   rfl
  ·cases h1
 case slice sz x lo hi mx =>
  obtain⟨t,h1,rfl⟩:=outM_some h
  simp only[ev] at h1 ⊢
  split at h1
  ·rename_i T sz' l hx
   (try rw[hx])
   (try simp only)
   split at h1
   case isFalse=>cases h1
   rename_i hs
   split at h1
   case h_2=>cases h1
   rename_i cc a b hb
   simp only[Option.some.injEq,Prod.mk.injEq] at h1
   obtain⟨h2,rfl,rfl⟩:=h1
   exact⟨rfl,fun m2 hm2=>by (try simp only[hs,if_true]);(try simp only[hb]);(try simp only[h2]);rfl⟩
  ·rename_i i off len hx
   (try rw[hx])
   (try simp only)
   split at h1
   case h_2=>cases h1
   rename_i ob hob
   split at h1
   case isFalse=>cases h1
   rename_i hs
   split at h1
   case h_2=>cases h1
   rename_i cc a b hb
   simp only[Option.some.injEq,Prod.mk.injEq] at h1
   obtain⟨h2,rfl,rfl⟩:=h1
   exact⟨rfl,fun m2 hm2=>by rw[hm2 _ _ hob];(try simp only[hs,if_true]);(try simp only[hb]);(try simp only[h2]);rfl⟩
  ·rename_i T sz' hx
   (try rw[hx])
   (try simp only)
   split at h1
   case h_2=>cases h1
   rename_i cc a b hb
   simp only[Option.some.injEq,Prod.mk.injEq] at h1
   obtain⟨h2,rfl,rfl⟩:=h1
   exact⟨rfl,fun m2 hm2=>by (try simp only[hb]);(try simp only[h2]);rfl⟩
  ·cases h1
 case indexAddr sz x i =>
  obtain⟨t,h1,rfl⟩:=outM_some h
  simp only[ev] at h1 ⊢
  split at h1
  ·rename_i T sz' l n hx hi
   (try rw[hx,hi])
   (try simp only)
   split at h1
   case isFalse=>cases h1
   rename_i hs
   simp only[Option.some.injEq,Prod.mk.injEq] at h1
   obtain⟨h2,rfl,rfl⟩:=h1
   exact⟨rfl,fun m2 hm2=>by (try simp only[hs,if_true]);(try simp only[h2]);rfl⟩
  ·rename_i j off len n hx hi
   (try rw[hx,hi])
   (try simp only)
   split at h1
   case h_2=>cases h1
   rename_i ob hob
   split at h1
   case isFalse=>cases h1
   rename_i hs
   simp only[Option.some.injEq,Prod.mk.injEq] at h1
   obtain⟨h2,rfl,rfl⟩:=h1
   exact⟨rfl,fun m2 hm2=>by rw[hm2 _ _ hob];(try simp only[hs,if_true]);(try simp only[h2]);rfl⟩
  ·cases h1
theorem Out.made (hk:c.op.kind=2) (h:Out G c r m v m'):m (c.dst.getD 0)=none∧∃ ob,m'=upd m (c.dst.getD 0) (some ob)∧∀ m2:Mem,m2 (c.dst.getD 0)=none→Out G c r m2 v (upd m2 (c.dst.getD 0) (some ob)):=by
 unfold Out at *
 cases hc:c.op<;>simp only[hc,AOp.kind,reduceCtorEq] at hk h ⊢<;>try omega
 case alloc T sz z =>
  obtain⟨t,h1,rfl⟩:=outM_some h
  simp only[ev] at h1 ⊢
  split at h1
  case h_2=>cases h1
  rename_i hid
  simp only[Option.some.injEq,Prod.mk.injEq,true_and] at h1
  obtain⟨rfl,rfl⟩:=h1
  exact⟨hid,_,rfl,fun m2 hm2=>by rw[hm2];rfl⟩
 case box T sz x =>
  obtain⟨t,h1,rfl⟩:=outM_some h
  simp only[ev] at h1 ⊢
  split at h1
  case h_2=>cases h1
  rename_i hid
  split at h1
  case isFalse=>cases h1
  rename_i hcc
  simp only[Option.some.injEq,Prod.mk.injEq,true_and] at h1
  obtain⟨rfl,rfl⟩:=h1
  exact⟨hid,_,rfl,fun m2 hm2=>by rw[hm2];simp only;rw[if_pos hcc];rfl⟩
 case makeSlice T sz b z l cc =>
  obtain⟨t,h1,rfl⟩:=outM_some h
  simp only[ev] at h1 ⊢
  split at h1
  case h_2=>cases h1
  rename_i hid
  split at h1
  case h_2=>cases h1
  rename_i n k hn hk
  simp only[Option.some.injEq,Prod.mk.injEq] at h1
  obtain⟨h2,rfl,rfl⟩:=h1
  exact⟨hid,_,rfl,fun m2 hm2=>by rw[hm2];(try simp only[h2]);rfl⟩
theorem Out.built (hk:c.op.kind=3) (h:Out G c r m v m'):m (c.dst.getD 0)=none∧∃ ob,m'=upd m (c.dst.getD 0) (some ob):=by
 unfold Out at *
 cases hc:c.op<;>simp only[hc,AOp.kind,reduceCtorEq] at hk h ⊢<;>try omega
 case buildSlice T sz z n ps =>
  obtain⟨t,h1,rfl⟩:=outM_some h
  simp only[ev] at h1
  split at h1
  case h_2=>cases h1
  rename_i hid
  split at h1
  case h_2=>cases h1
  simp only[Option.some.injEq,Prod.mk.injEq,true_and] at h1
  obtain⟨rfl,rfl⟩:=h1
  exact⟨hid,_,rfl⟩
 case buildSliceF T sz z n ps =>
  obtain⟨t,h1,rfl⟩:=outM_some h
  simp only[ev] at h1
  split at h1
  case h_2=>cases h1
  rename_i hid
  split at h1
  case h_2=>cases h1
  simp only[Option.some.injEq,Prod.mk.injEq,true_and] at h1
  obtain⟨rfl,rfl⟩:=h1
  exact⟨hid,_,rfl⟩
def apartV:AV→AV→Bool
 | .ptr i _ _,.ptr j _ _=>i != j
 | .p (.ref _),.ptr _ _ _=>true
 | .ptr _ _ _,.und=>true
 | .p (.ref _),.und=>true
 | _,_=>false
theorem Out.load_store {ag:Bool} {sz sz2:Nat} {x y z:Opd} {v2:AV} {m2:Mem} (h1:c1.op = .load ag sz x) (h2:c2.op = .store sz2 y z) (ha:apartV (x.ev r) (y.ev r)=true) (ho1:Out G c1 r m v m') (ho2:Out G c2 r m v2 m2):Out G c1 r m2 v m2:=by
 have hm2:∃ (j:Nat) (o:Nat × Nat) (o':Option AObj),y.ev r = .ptr j o.1 o.2∧m2=upd m j o':=by
  unfold Out at ho2
  rw[h2] at ho2
  simp only at ho2
  obtain⟨t,g1,rfl⟩:=outM_some ho2
  simp only[ev] at g1
  split at g1
  case h_2=>cases g1
  rename_i i j off hy
  split at g1
  ·split at g1
   case h_2=>cases g1
   split at g1
   case isFalse=>cases g1
   split at g1<;>simp only[Option.some.injEq,Prod.mk.injEq,reduceCtorEq] at g1
   obtain⟨-,-,rfl⟩:=g1
   exact⟨i,(j,off),_,hy,rfl⟩
  ·split at g1
   case isFalse=>cases g1
   split at g1
   ·simp only[Option.some.injEq,Prod.mk.injEq] at g1
    obtain⟨-,-,rfl⟩:=g1
    exact⟨i,(j,off),_,hy,rfl⟩
   ·split at g1<;>simp only[Option.some.injEq,Prod.mk.injEq,reduceCtorEq] at g1
    obtain⟨-,-,rfl⟩:=g1
    exact⟨i,(j,off),_,hy,rfl⟩
  ·split at g1
   case isFalse=>cases g1
   split at g1<;>simp only[Option.some.injEq,Prod.mk.injEq,reduceCtorEq] at g1
   obtain⟨-,-,rfl⟩:=g1
   exact⟨i,(j,off),_,hy,rfl⟩
  ·cases g1
 obtain⟨j,o,o',hy,rfl⟩:=hm2
 unfold Out at ho1 ⊢
 rw[h1] at ho1 ⊢
 simp only at ho1 ⊢
 obtain⟨t,g1,rfl⟩:=outM_some ho1
 simp only[ev] at g1 ⊢
 cases hx:x.ev r with
 | ptr i k off =>
  rw[hx,hy] at ha
  simp only[apartV,bne_iff_ne,ne_eq] at ha
  rw[hx] at g1
  simp only at g1 ⊢
  rw[upd_ne _ _ ha]
  split at g1
  ·rename_i T osz l frz hm
   split at g1
   case h_2=>cases g1
   rename_i u hu
   simp only[Option.some.injEq,Prod.mk.injEq] at g1
   obtain⟨h3,rfl,rfl⟩:=g1
   (try simp only[hu])
   (try simp only[h3])
   rfl
  ·rename_i T osz u frz hm
   split at g1
   case isFalse=>cases g1
   rename_i hj
   split at g1
   case h_2=>cases g1
   rename_i q hq
   simp only[Option.some.injEq,Prod.mk.injEq,true_and] at g1
   obtain⟨rfl,rfl⟩:=g1
   (try simp only[hj,if_true])
   (try simp only[hq])
   rfl
  ·cases g1
 | p d =>
  rw[hx] at g1
  cases d with
  | ref e =>
   simp only at g1 ⊢
   split at g1
   case isFalse=>cases g1
   rename_i hag
   simp only[Option.some.injEq,Prod.mk.injEq] at g1
   obtain⟨h3,rfl,rfl⟩:=g1
   (try simp only[hag,if_true])
   (try simp only[h3])
   rfl
  | _=>simp at g1
 | _=>rw[hx] at g1;simp at g1
end
end Go.Proofs.Ytdjbfgfbpimakaa.M
end

section
namespace Go.Proofs.Ytdjbfgfbpimakaa.M
open Go.RowKit
def swapOk (ap:List (Nat × Nat)) (c1 c2:COp):Bool:=
 (match c1.dst with | some t => !c2.reads.contains t&&c2.dst != some t | none=>true) &&
 (match c2.dst with | some t => !c1.reads.contains t | none=>true) &&
 ((
  c1.op.kind≤1&&c2.op.kind≤3)||((c1.op.kind == 2||c1.op.kind == 3)&&c2.op.kind == 0)||(c1.op.kind == 2&&(c2.op.kind == 2&&(c1.dst.isSome&&c2.dst.isSome)))||(c1.op.kind == 0&&c2.op.kind == 4)||(c1.op.kind == 4&&c2.op.kind == 0) ||
  (
   match c1.op,c2.op with
   | .load _ _ (.t x),.store _ (.t y) _=>ap.contains (x,y)
   | _,_=>false))
def COp.alc (c:COp):Bool:=c.guard.isNone&&match c.op with
 | .alloc .. => true
 | .box .. => true
 | _=>false
def apFree (ap:List (Nat × Nat)) (c:COp):Bool:=ap.isEmpty||(c.op.kind != 5)&&match c.dst with
 | some t=>ap.all fun p=>p.1 != t&&(p.2 != t||c.alc)
 | none=>true
def apOk (ap:List (Nat × Nat)) (r:Nat→AV):Bool:=ap.all fun p=>apartV (r p.1) (r p.2)
section
variable {G:FuncId→List D→D→Prop} {c c1 c2:COp} {K K':St→Prop} {s:St} {r r':Nat→AV} {m m':Mem} {v:AV} {ap:List (Nat × Nat)}
theorem GOut.cases_ (h:GOut G c r m v m'):Out G c r m v m'∧(∀ m2 v2 m2',Out G c r m2 v2 m2'→GOut G c r m2 v2 m2')∨(v = .und∧m'=m∧∀ m2,GOut G c r m2 .und m2):=by
 unfold GOut at h ⊢
 cases hg:c.guard with
 | none=>rw[hg] at h;exact .inl ⟨h,fun _ _ _ h=>h⟩
 | some x =>
  obtain⟨g,want⟩:=x
  rw[hg] at h
  simp only at h ⊢
  obtain⟨b,hb,h1 | h1⟩:=h
  ·exact .inl ⟨h1.2,fun m2 v2 m2' ho=>⟨b,hb,.inl ⟨h1.1,ho⟩⟩⟩
  ·exact .inr ⟨h1.2.1,h1.2.2,fun m2=>⟨b,hb,.inr (by simp[h1.1])⟩⟩
theorem Out.le1 (hk:c.op.kind≤1) (h:Out G c r m v m'):m'=m∧∀ m2,(∀ i o,m i=some o→m2 i=some o)→Out G c r m2 v m2:=by
 rcases (by omega:c.op.kind=0∨c.op.kind=1) with h0 | h1
 ·exact⟨(h.pure h0).1,fun m2 _=>(h.pure h0).2 m2⟩
 ·exact h.read h1
theorem upd_more {m:Mem} {i:Nat} {o:AObj} (h:m i=none):∀ j q,m j=some q→upd m i (some o) j=some q:=by
 intro j q hq
 rw[upd_ne];exact hq
 rintro rfl;rw[h] at hq;cases hq
theorem memSwap {m1 m2:Mem} {v1 v2:AV} (hs:swapOk ap c1 c2=true) (ha:apOk ap r=true) (h1:GOut G c1 r m v1 m1) (h2:GOut G c2 r m1 v2 m2):∃ m',GOut G c2 r m v2 m'∧GOut G c1 r m' v1 m2:=by
 rcases h1.cases_ with⟨o1,g1⟩ | ⟨rfl,rfl,g1⟩
 case inr=>exact⟨m2,h2,g1 m2⟩
 rcases h2.cases_ with⟨o2,g2⟩ | ⟨rfl,rfl,g2⟩
 case inr=>exact⟨m,g2 m,h1⟩
 simp only[swapOk,Bool.and_eq_true,Bool.or_eq_true,decide_eq_true_eq,beq_iff_eq] at hs
 obtain⟨⟨hd1,hd2⟩,((((hk | hk) | hk) | hk) | hk) | hk⟩:=hs
 ·-- nothing is changed by the first
  obtain⟨rfl,q1⟩:=o1.le1 hk.1
  rcases (by omega:c2.op.kind≤1∨c2.op.kind=2∨c2.op.kind=3) with hk2 | hk2 | hk2
  ·obtain⟨rfl,q2⟩:=o2.le1 hk2
   exact⟨_,h2,h1⟩
  ·obtain⟨e,ob,rfl,-⟩:=o2.made hk2
   exact⟨_,h2,g1 _ _ _ (q1 _ (upd_more e))⟩
  ·obtain⟨e,ob,rfl⟩:=o2.built hk2
   exact⟨_,h2,g1 _ _ _ (q1 _ (upd_more e))⟩
 ·obtain⟨rfl,q2⟩:=o2.pure hk.2
  exact⟨m,g2 _ _ _ (q2 m),h1⟩
 ·obtain⟨hk1,hk2,s1,s2⟩:=hk
  obtain⟨e2,ob2,rfl,q2⟩:=o2.made hk2
  have hne:c1.dst.getD 0≠c2.dst.getD 0:=by
   obtain⟨t1,h1'⟩:=Option.isSome_iff_exists.1 s1
   obtain⟨t2,h2'⟩:=Option.isSome_iff_exists.1 s2
   rw[h1'] at hd1
   rw[h1',h2']
   rintro e
   simp only[Option.getD_some] at e
   subst e
   simp[h2'] at hd1
  obtain⟨e1,ob1,rfl,q1⟩:=o1.made hk1
  rw[upd_ne _ _ hne.symm] at e2
  refine⟨_,g2 _ _ _ (q2 m e2),?_⟩
  rw[upd_comm _ _ _ hne]
  exact g1 _ _ _ (q1 _ (by rw[upd_ne _ _ hne];exact e1))
 ·obtain⟨rfl,q1⟩:=o1.pure hk.1
  exact⟨m2,h2,g1 _ _ _ (q1 m2)⟩
 ·obtain⟨rfl,q2⟩:=o2.pure hk.2
  exact⟨m,g2 _ _ _ (q2 m),h1⟩
 ·split at hk
  ·rename_i ag sz x sz2 y z e1 e2
   have hap:apartV (r x) (r y)=true:=by
    simp only[apOk,List.all_eq_true] at ha
    exact ha (x,y) (by simpa using hk)
   obtain⟨rfl,-⟩:=o1.le1 (by rw[e1];simp[AOp.kind])
   exact⟨m2,h2,g1 _ _ _ (Out.load_store e1 e2 hap o1 o2)⟩
  ·cases hk
theorem putr_at {t:Option Nat} {n:Nat} (h:∀ k,t=some k→k≠n) (r:Nat→AV) (v:AV):putr r t v n=r n:=by
 cases t with
 | none=>rfl
 | some k=>exact upd_ne _ _ (h k rfl).symm
theorem swapOk_kind (hs:swapOk ap c1 c2=true):c1.op.kind≠5∧c2.op.kind≠5:=by
 simp only[swapOk,Bool.and_eq_true,Bool.or_eq_true,decide_eq_true_eq,beq_iff_eq] at hs
 obtain⟨-,((((hk | hk) | hk) | hk) | hk) | hk⟩:=hs
 ·exact⟨by omega,by omega⟩
 ·exact⟨by omega,by omega⟩
 ·exact⟨by omega,by omega⟩
 ·exact⟨by omega,by omega⟩
 ·exact⟨by omega,by omega⟩
 ·split at hk
  ·rename_i e1 e2
   rw[e1,e2]
   exact⟨by simp[AOp.kind],by simp[AOp.kind]⟩
  ·cases hk
theorem gstep_swap (hs:swapOk ap c1 c2=true) (ha:apOk ap s.r=true) (h:gstep G c1 (gstep G c2 K) s):gstep G c2 (gstep G c1 K) s:=by
 obtain⟨r,m⟩:=s
 have k1:=(swapOk_kind hs).1
 have k2:=(swapOk_kind hs).2
 obtain⟨v1,m1,h1,h2⟩:=(gstep_out k1).1 h
 obtain⟨v2,m2,h3,h4⟩:=(gstep_out k2).1 h2
 have hs':=hs
 simp only[swapOk,Bool.and_eq_true] at hs'
 obtain⟨⟨hd1,hd2⟩,-⟩:=hs'
 have e1:∀ n∈c2.reads,putr r c1.dst v1 n=r n:=fun n hn=>putr_at (fun k hk e=>by
  subst e;rw[hk] at hd1;simp at hd1;exact hd1.1 hn) r v1
 have e2:∀ n∈c1.reads,r n=putr r c2.dst v2 n:=fun n hn=>(putr_at (fun k hk e=>by
  subst e;rw[hk] at hd2;simp at hd2;exact hd2 hn) r v2).symm
 obtain⟨m',g1,g2⟩:=memSwap hs ha h1 (h3.congr e1)
 refine (gstep_out k2).2 ⟨v2,m',g1,(gstep_out k1).2 ⟨v1,m2,g2.congr e2,?_⟩⟩
 have:putr (putr r c2.dst v2) c1.dst v1=putr (putr r c1.dst v1) c2.dst v2:=by
  cases hc1:c1.dst with
  | none=>rfl
  | some t1 =>
   cases hc2:c2.dst with
   | none=>rfl
   | some t2 =>
    rw[hc1] at hd1
    exact upd_comm _ _ _ (fun e=>by subst e;simp[hc2] at hd1)
 rw[this]
 exact h4
def ApI (al:Nat→Prop) (ap:List (Nat × Nat)) (r:Nat→AV):Prop:=apOk ap r=true∧∀ p∈ap,al p.2→∀ j o,r p.1≠.ptr p.2 j o
theorem alc_out (ha:c.alc=true) (h:GOut G c r m v m'):v = .ptr (c.dst.getD 0) 0 0:=by
 simp only[COp.alc,Bool.and_eq_true,Option.isNone_iff_eq_none] at ha
 obtain⟨h1,h2⟩:=ha
 unfold GOut at h
 rw[h1] at h
 unfold Out at h
 cases hc:c.op<;>rw[hc] at h h2<;>first | (simp at h2;done) | skip
 case alloc T sz z =>
  obtain⟨t,h3,-⟩:=outM_some h
  simp only[ev] at h3
  split at h3
  ·simp only[Option.some.injEq,Prod.mk.injEq,true_and] at h3;exact h3.1.symm
  ·cases h3
 case box T sz x =>
  obtain⟨t,h3,-⟩:=outM_some h
  simp only[ev] at h3
  split at h3
  ·split at h3
   ·simp only[Option.some.injEq,Prod.mk.injEq,true_and] at h3;exact h3.1.symm
   ·cases h3
  ·cases h3
theorem apartV_und {a b:AV} (h:apartV a b=true):(∃ i j o,a = .ptr i j o)∨∃ d,a = .p (.ref d):=by
 unfold apartV at h
 split at h
 ·exact .inl ⟨_,_,_,rfl⟩
 ·exact .inr ⟨_,rfl⟩
 ·exact .inl ⟨_,_,_,rfl⟩
 ·exact .inr ⟨_,rfl⟩
 ·cases h
theorem apI_put {al:Nat→Prop} (hf:apFree ap c=true) (hal:c.alc=true→∀ t,c.dst=some t→al t) (ha:ApI al ap r) (v:AV) (hv:c.alc=true→v = .ptr (c.dst.getD 0) 0 0):ApI al ap (putr r c.dst v):=by
 obtain⟨ha,hi⟩:=ha
 simp only[apOk,List.all_eq_true] at ha
 have hx:∀ p∈ap,putr r c.dst v p.1=r p.1:=fun p hp=>putr_at (fun k hk e=>by
  subst e
  have hne:ap.isEmpty=false:=by cases ap with
   | nil=>cases hp
   | cons=>rfl
  simp only[apFree,hne,hk,Bool.false_or,Bool.and_eq_true,List.all_eq_true] at hf
  have:=(hf.2 p hp).1
  simp at this) r v
 refine⟨?_,fun p hp hal' j o=>by rw[hx p hp];exact hi p hp hal' j o⟩
 simp only[apOk,List.all_eq_true]
 intro p hp
 rw[hx p hp]
 have hne:ap.isEmpty=false:=by cases ap with
  | nil=>cases hp
  | cons=>rfl
 by_cases hd:c.dst=some p.2
 ·have hf':=hf
  simp only[apFree,hne,hd,Bool.false_or,Bool.and_eq_true,List.all_eq_true] at hf'
  have h2:=(hf'.2 p hp).2
  simp only[bne_self_eq_false,Bool.false_or] at h2
  have hv':=hv h2
  rw[hd] at hv' ⊢
  simp only[Option.getD_some] at hv'
  rw[hv']
  show apartV (r p.1) (upd r p.2 _ p.2)=true
  rw[upd_same]
  rcases apartV_und (ha p hp) with⟨i,j,o,e⟩ | ⟨d,e⟩
  ·have:=hi p hp (hal h2 _ hd)
   rw[e] at this ⊢
   simp only[apartV,bne_iff_ne,ne_eq]
   rintro rfl
   exact this j o rfl
  ·rw[e];rfl
 ·rw[putr_at (fun k hk e=>hd (by rw[hk,e])) r v]
  exact ha p hp
theorem gstep_keep {al:Nat→Prop} (hf:apFree ap c=true) (hal:c.alc=true→∀ t,c.dst=some t→al t) (ha:ApI al ap s.r) (h:gstep G c K s):gstep G c (fun t=>ApI al ap t.r∧K t) s:=by
 obtain⟨r,m⟩:=s
 cases hap:ap with
 | nil=>exact gstep_mono h fun t ht=>⟨⟨rfl,by simp⟩,ht⟩
 | cons p q =>
  have k:c.op.kind≠5:=by
   simp only[apFree,hap,List.isEmpty_cons,Bool.false_or,Bool.and_eq_true,bne_iff_ne,ne_eq] at hf
   exact hf.1
  obtain⟨v,m',h1,h2⟩:=(gstep_out k).1 h
  exact (gstep_out k).2 ⟨v,m',h1,hap ▸ apI_put hf hal ha v (fun hc=>alc_out hc h1),h2⟩
theorem cops_pull {al:Nat→Prop}:∀ (l1 l2:List COp) (s:St),(∀ c'∈l1,swapOk ap c' c=true∧apFree ap c'=true∧(c'.alc=true→∀ t,c'.dst=some t→al t))→ApI al ap s.r→cops G (l1++c::l2) K s→gstep G c (cops G (l1++l2) K) s
 | [],_,_,_,_,h=>h
 | c'::l1,l2,s,hl,ha,h=>by
  have hc':=hl c' (by simp)
  have h1:gstep G c' (cops G (l1++c::l2) K) s:=h
  have h2:gstep G c' (gstep G c (cops G (l1++l2) K)) s:=gstep_mono (gstep_keep hc'.2.1 hc'.2.2 ha h1) fun t ht=>cops_pull l1 l2 t (fun q hq=>hl q (by simp[hq])) ht.1 ht.2
  exact gstep_swap hc'.1 ha.1 h2
theorem upd_dom {i j:Nat} {o:AObj} (hi:m i≠none):upd m j (some o) i≠none:=by
 unfold upd;split<;>simp_all
theorem Out.dom (hk:c.op.kind≠5) (h:Out G c r m v m') {i:Nat} (hi:m i≠none):m' i≠none:=by
 rcases (by omega:c.op.kind≤1∨c.op.kind=2∨c.op.kind=3∨c.op.kind=4∨5<c.op.kind) with h0 | h0 | h0 | h0 | h0
 ·rw[(h.le1 h0).1];exact hi
 ·obtain⟨-,ob,rfl,-⟩:=h.made h0
  exact upd_dom hi
 ·obtain⟨-,ob,rfl⟩:=h.built h0
  exact upd_dom hi
 ·unfold Out at h
  cases hc:c.op<;>rw[hc] at h h0<;>first | (simp[AOp.kind] at h0;done) | skip
  case store sz x z =>
   obtain⟨t,g1,rfl⟩:=outM_some h
   simp only[ev] at g1
   (repeat' split at g1)<;>first | (cases g1;done) | (simp only[Option.some.injEq,Prod.mk.injEq] at g1;obtain⟨-,-,rfl⟩:=g1;exact upd_dom hi)
 ·exfalso;revert h0;cases c.op<;>simp[AOp.kind]
theorem cops_fresh:∀ (l:List COp) (s:St),(∀ c∈l,c.op.kind≠5)→cops G l K s→∀ c∈l,c.alc=true→∀ t,c.dst=some t→s.m t=none
 | [],_,_,_,c,hc,_,_,_=>by cases hc
 | c'::l,⟨r,m⟩,hk,h,c,hc,ha,t,ht=>by
  have k:=hk c' (by simp)
  have h1:gstep G c' (cops G l K) ⟨r,m⟩:=h
  obtain⟨v,m',h2,h3⟩:=(gstep_out k).1 h1
  have hdom:∀ i,m i≠none→m' i≠none:=fun i hi=>by
   rcases h2.cases_ with⟨o,-⟩ | ⟨-,rfl,-⟩
   ·exact o.dom k hi
   ·exact hi
  rcases List.mem_cons.1 hc with rfl | hc
  ·refine Classical.byContradiction fun hn => ?_
   have hg:c.guard=none:=by
    simp only[COp.alc,Bool.and_eq_true,Option.isNone_iff_eq_none] at ha
    exact ha.1
   have o:Out G c r m v m':=by unfold GOut at h2;rwa[hg] at h2
   have k2:c.op.kind=2:=by
    simp only[COp.alc,Bool.and_eq_true] at ha
    have:=ha.2
    cases hc:c.op<;>rw[hc] at this<;>first | rfl | (simp at this;done)
   have:=(o.made k2).1
   rw[ht] at this
   exact hn this
  ·refine Classical.byContradiction fun hn => ?_
   exact absurd (cops_fresh l _ (fun q hq=>hk q (by simp[hq])) h3 c hc ha t ht) (hdom t hn)
end
end Go.Proofs.Ytdjbfgfbpimakaa.M
end

section
namespace Go.Proofs.Ytdjbfgfbpimakaa.M
open Go.RowKit
def noEdge (ops:Array Oper) (x y:Nat):Bool:=match ops[x]? with
 | some o=>o.after.all fun e => !Region.binds .any e||e.on != y
 | none=>true
def beforeB (am:List Nat) (x y:Nat):Bool:=(am.getD y 0).testBit x
def pairsOk (ops:Array Oper) (am:List Nat) (ap:List (Nat × Nat)):List (Nat × COp)→Bool
 | []=>true
 | x::l=>noEdge ops x.1 x.1&&l.all (fun y=>noEdge ops x.1 y.1&&x.1 != y.1&&(beforeB am x.1 y.1||swapOk ap x.2 y.2))&&pairsOk ops am ap l
def ancOk (ops:Array Oper) (am:List Nat) (n:Nat):Bool:=(List.range n).all fun i=>match ops[i]? with
 | some o=>o.after.all (fun e => !Region.binds .any e||decide (e.on<n))&&(List.range n).all fun j => !beforeB am j i||o.after.any fun e=>Region.binds .any e&&(e.on == j||beforeB am j e.on)
 | none=>true
def regOk (ops:Array Oper) (am:List Nat) (ap:List (Nat × Nat)) (l:List (Nat × COp)):Bool:=
 l.length == ops.size&&(List.range ops.size).all (fun i=>(l.map (·.1)).contains i)&&l.all (fun x=>decide (x.1<ops.size)&&apFree ap x.2)&&ancOk ops am ops.size&&pairsOk ops am ap l
section
variable {C:Ctx} {s:St} {a:Act} {w:World} {ops:Array Oper} {Q:Exit→Act→World→Prop} {K:St→Prop} {am:List Nat} {ap:List (Nat × Nat)}
def Rp (ops:Array Oper) (am:List Nat) (ap:List (Nat × Nat)) (x y:Nat × COp):Prop:=noEdge ops x.1 y.1=true∧x.1≠y.1∧(beforeB am x.1 y.1=true∨swapOk ap x.2 y.2=true)
theorem pairs_spec:∀ {l:List (Nat × COp)},pairsOk ops am ap l=true→l.Pairwise (Rp ops am ap)∧∀ x∈l,noEdge ops x.1 x.1=true
 | [],_=>⟨.nil,by simp⟩
 | x::l,h=>by
  simp only[pairsOk,Bool.and_eq_true,List.all_eq_true,Bool.or_eq_true,bne_iff_ne,ne_eq] at h
  obtain⟨⟨h1,h2⟩,h3⟩:=h
  obtain⟨g1,g2⟩:=pairs_spec h3
  refine⟨.cons (fun y hy=>⟨(h2 y hy).1.1,(h2 y hy).1.2,(h2 y hy).2⟩) g1,fun y hy => ?_⟩
  rcases List.mem_cons.1 hy with rfl | hy
  ·exact h1
  ·exact g2 y hy
theorem noEdge_spec {x y:Nat} {o:Oper} (ho:ops[x]? = some o) (h:noEdge ops x y=true):∀ e∈o.after,Region.binds .any e=true→e.on≠y:=by
 intro e he hb heq
 simp only[noEdge,ho,Array.all_eq_true_iff_forall_mem,Bool.or_eq_true,Bool.not_eq_true',bne_iff_ne,ne_eq] at h
 rcases h e he with h | h
 ·rw[hb] at h;cases h
 ·exact h heq
theorem anyRegion {al:Nat→Prop} (hC:C.Ok) (hanc:ancOk ops am ops.size=true) (hQ:∀ t a' w',Is C t a' w'→K t→Q .normal a' w') :
  ∀ (n:Nat) (l:List (Nat × COp)) (listed:Array Bool) (s:St) (a:Act) (w:World),l.length=n→listed.size=ops.size →
   (∀ i,i<ops.size→(listed.getD i true=false↔i∈l.map (·.1)))→l.Pairwise (Rp ops am ap)→(∀ x∈l,noEdge ops x.1 x.1=true∧x.1<ops.size∧(apFree ap x.2=true∧(x.2.alc=true→∀ t,x.2.dst=some t→al t))∧∃ o,ops[x.1]? = some o∧cop C.P C.nt C.OT ops o=some x.2) →
   (∀ j,j<ops.size→listed.getD j true=true→∀ k,k<ops.size→beforeB am k j=true→listed.getD k true=true) →
   Is C s a w→ApI al ap s.r→cops (Con C.P C.A) (l.map (·.2)) K s→wpAny C.P .any ops Q n listed a w:=by
 intro n
 induction n with
 | zero =>
  intro l listed s a w hl hsz hlist _ _ _ his _ hK
  have hnil:l=[]:=List.eq_nil_of_length_eq_zero hl
  subst hnil
  refine⟨?_,hQ s a w his hK⟩
  rw[List.eq_nil_iff_forall_not_mem]
  intro i hi
  obtain⟨h1,o,ho,_⟩:=mem_ready.1 hi
  have:=(hlist i (Array.getElem?_eq_some_iff.1 ho).1).1 h1
  simp at this
 | succ n ih =>
  intro l listed s a w hl hsz hlist hp hall hcl his hap hK
  refine⟨fun h0 => ?_,fun i hi => ?_⟩
  ·exfalso
   match l,hl,hlist,hp,hall with
   | x::l',_,hlist,hp,hall =>
    obtain⟨g1,g2,g3,o,ho,-⟩:=hall x (by simp)
    have hmem:x.1∈Region.ready .any ops listed:=by
     rw[mem_ready]
     refine⟨(hlist x.1 g2).2 (by simp),o,ho,fun e he hb => ?_⟩
     have hon:e.on<ops.size:=by
      simp only[ancOk,List.all_eq_true,List.mem_range] at hanc
      have:=hanc x.1 g2
      rw[ho] at this
      simp only[Bool.and_eq_true,Array.all_eq_true_iff_forall_mem,Bool.or_eq_true,Bool.not_eq_true',decide_eq_true_eq] at this
      rcases this.1 e he with h | h
      ·rw[hb] at h;cases h
      ·exact h
     have hnot:¬ (listed.getD e.on true=false):=by
      intro hf
      have:=(hlist e.on hon).1 hf
      simp only[List.map_cons,List.mem_cons,List.mem_map] at this
      rcases this with h | ⟨y,hy,h⟩
      ·exact noEdge_spec ho g1 e he hb h
      ·exact noEdge_spec ho ((List.pairwise_cons.1 hp).1 y hy).1 e he hb h.symm
     have hlt:e.on<listed.size:=by omega
     simp[hlt] at hnot ⊢
     exact hnot
    rw[h0] at hmem
    cases hmem
  ·obtain⟨h1,o,ho,hpre⟩:=mem_ready.1 hi
   have hin:i<ops.size:=(Array.getElem?_eq_some_iff.1 ho).1
   have hmem:=(hlist i hin).1 h1
   obtain⟨x,hx,rfl⟩:=List.mem_map.1 hmem
   obtain⟨l1,l2,rfl⟩:=List.append_of_mem hx
   obtain⟨g1,g2,g3,o',ho',hcop⟩:=hall x hx
   rw[ho] at ho'
   cases ho'
   have hbef:∀ k,k<ops.size→beforeB am k x.1=true→listed.getD k true=true:=by
    intro k hk hb
    simp only[ancOk,List.all_eq_true,List.mem_range] at hanc
    have:=hanc x.1 hin
    rw[ho] at this
    simp only[Bool.and_eq_true,List.all_eq_true,List.mem_range,Bool.or_eq_true,Bool.not_eq_true'] at this
    rcases this.2 k hk with h | h
    ·rw[hb] at h;cases h
    ·obtain⟨e,he,hh⟩:=Array.any_eq_true'.1 h
     simp only[Bool.and_eq_true,Bool.or_eq_true,beq_iff_eq] at hh
     have hl':=hpre e he hh.1
     have hon:e.on<ops.size:=by
      rw[←hsz]
      rcases Nat.lt_or_ge e.on listed.size with h' | h'
      ·exact h'
      ·simp[Array.getElem?_eq_none h'] at hl'
     have hlt:e.on<listed.size:=by omega
     have hl'':listed.getD e.on true=true:=by simp[hlt] at hl' ⊢;exact hl'
     rcases hh.2 with rfl | hh2
     ·exact hl''
     ·exact hcl e.on hon hl'' k hk hh2
   have hsw:∀ c'∈l1.map (·.2),swapOk ap c' x.2=true∧apFree ap c'=true∧(c'.alc=true→∀ t,c'.dst=some t→al t):=by
    intro c' hc'
    obtain⟨y,hy,rfl⟩:=List.mem_map.1 hc'
    obtain⟨q1,q2,q3,-⟩:=hall y (by simp[hy])
    have hR:=(List.pairwise_append.1 hp).2.2 y hy x (by simp)
    refine⟨hR.2.2.resolve_left fun hb => ?_,q3⟩
    have:=hbef y.1 q2 hb
    have hf:=(hlist y.1 q2).2 (by simp;exact .inl ⟨_,hy⟩)
    rw[hf] at this
    cases this
   have hK':cops (Con C.P C.A) (l1.map (·.2)++x.2::l2.map (·.2)) K s:=by simpa using hK
   have hg:=gstep_keep g3.1 g3.2 hap (cops_pull (l1.map (·.2)) (l2.map (·.2)) s hsw hap hK')
   refine wp_cop hC ho hcop his (fun t a' w' ht hk => ?_) hg
   have hsub:(l1++l2).Sublist (l1++x::l2):=List.Sublist.append (List.Sublist.refl _) (List.sublist_cons_self _ _)
   have hxn:x.1 ∉ (l1++l2).map (·.1):=by
    intro hm
    obtain⟨y,hy,he⟩:=List.mem_map.1 hm
    rcases List.mem_append.1 hy with hy | hy
    ·exact ((List.pairwise_append.1 hp).2.2 y hy x (by simp)).2.1 he
    ·exact ((List.pairwise_cons.1 (List.pairwise_append.1 hp).2.1).1 y hy).2.1 he.symm
   refine ih (l1++l2) _ t a' w' (by simp at hl ⊢;omega) (by simpa using hsz) (fun k hk' => ?_) (hp.sublist hsub) (fun y hy=>hall y (hsub.subset hy)) (fun j hj hlj k hk' hb => ?_) ht hk.1 (by simpa using hk.2)
   ·by_cases hkx:x.1=k
    ·subst hkx
     have hlt:x.1<listed.size:=by omega
     simp only[Array.getD_eq_getD_getElem?,Array.getElem?_setIfInBounds_self,hlt,if_true,Option.getD_some]
     exact⟨fun h=>(by cases h),fun h=>absurd h hxn⟩
    ·rw[getD_set_ne true hkx,hlist k hk']
     constructor
     ·intro hm
      obtain⟨y,hy,rfl⟩:=List.mem_map.1 hm
      simp only[List.mem_append,List.mem_cons] at hy
      rcases hy with hy | rfl | hy
      ·exact List.mem_map.2 ⟨y,by simp[hy],rfl⟩
      ·exact absurd rfl hkx
      ·exact List.mem_map.2 ⟨y,by simp[hy],rfl⟩
     ·intro hm
      obtain⟨y,hy,rfl⟩:=List.mem_map.1 hm
      exact List.mem_map.2 ⟨y,hsub.subset hy,rfl⟩
   ·have hset:∀ q,listed.getD q true=true→(listed.setIfInBounds x.1 true).getD q true=true:=by
     intro q hq
     by_cases hqx:x.1=q
     ·subst hqx
      have hlt:x.1<listed.size:=by omega
      simp[hlt]
     ·rw[getD_set_ne true hqx];exact hq
    by_cases hjx:x.1=j
    ·subst hjx
     exact hset k (hbef k hk' hb)
    ·rw[getD_set_ne true hjx] at hlj
     exact hset k (hcl j hj hlj k hk' hb)
end
end Go.Proofs.Ytdjbfgfbpimakaa.M
end

section
namespace Go.Proofs.Ytdjbfgfbpimakaa.M
open Go.RowKit
inductive CC where
 | skip
 | ops (ap:List (Nat × Nat)) (l:List COp)
 | seq (a b:CC)
 | cond (x:Opd) (a b:CC)
 | block (id:Nat) (a:CC)
 | loop (a:CC)
 | exit (id:Nat)
 | ret
inductive AExit where
 | normal
 | exit (id:Nat)
 | ret
def Sub (OT:List TypeId) (s t:St):Prop:=∀ (C:Ctx) (a:Act) (w:World),C.OT=OT→Is C s a w→Is C t a w
theorem Sub.rf {OT:List TypeId} (s:St):Sub OT s s:=fun _ _ _ _ h=>h
theorem Sub.tr {OT:List TypeId} {s t u:St} (h:Sub OT s t) (k:Sub OT t u):Sub OT s u:=fun C a w e hs=>k C a w e (h C a w e hs)
def cw (OT:List TypeId) (G:FuncId→List D→D→Prop):CC→(AExit→St→Prop)→St→Prop
 | .skip,Q,s=>Q .normal s
 | .ops ap l,Q,s=>apOk ap s.r=true∧cops G l (Q .normal) s
 | .seq a b,Q,s=>cw OT G a (fun e t=>match e with
  | .normal => ∃ u,Sub OT t u∧cw OT G b Q u
  | e=>Q e t) s
 | .cond x a b,Q,s=>match x.ev s.r with
  | .p (.bool c)=>(c=true→cw OT G a Q s)∧(c=false→cw OT G b Q s)
  | _=>False
 | .block id a,Q,s=>cw OT G a (fun e t=>match e with
  | .exit j=>if j=id then Q .normal t else Q (.exit j) t
  | e=>Q e t) s
 | .loop a,Q,s => ∃ (ι:Type) (I:ι→St) (μ:ι→Nat) (i0:ι),Sub OT s (I i0)∧∀ i,cw OT G a (fun e t=>match e with
  | .normal => ∃ j,Sub OT t (I j)∧μ j<μ i
  | e=>Q e t) (I i)
 | .exit id,Q,s=>Q (.exit id) s
 | .ret,Q,s=>Q .ret s
structure Hint where
 id:Nat
 ord:List Nat
 am:List Nat
 ap:List (Nat × Nat)
def copsAt (P:Program) (nt:Nat) (OT:List TypeId) (ops:Array Oper):List Nat→Option (List (Nat × COp))
 | []=>some []
 | i::l=>match ops[i]? with
  | some o=>match cop P nt OT ops o,copsAt P nt OT ops l with
   | some c,some m=>some ((i,c)::m)
   | _,_=>none
  | none=>none
def comp (P:Program) (nt:Nat) (OT:List TypeId) (H:List Hint):Code→Option CC
 | .skip=>some .skip
 | .region id ops draw=>if draw then
   match H.find? (·.id == id) with
   | some h=>match copsAt P nt OT ops h.ord with
    | some l=>if regOk ops h.am h.ap l then some (.ops h.ap (l.map (·.2))) else none
    | none=>none
   | none=>none
  else (copsAt P nt OT ops (List.range ops.size)).map fun l => .ops [] (l.map (·.2))
 | .seq a b=>match comp P nt OT H a,comp P nt OT H b with
  | some x,some y=>some (.seq x y)
  | _,_=>none
 | .cond c a b=>match comp P nt OT H a,comp P nt OT H b with
  | some x,some y=>some (.cond (opd P none c) x y)
  | _,_=>none
 | .block id a=>(comp P nt OT H a).map (.block id)
 | .loop a=>(comp P nt OT H a).map .loop
 | .exit id=>some (.exit id)
 | .ret=>some .ret
 | _=>none
section
variable {C:Ctx} {s:St} {a:Act} {w:World}
def Qm (C:Ctx) (Q:AExit→St→Prop):Exit→Act→World→Prop
 | .normal,a,w => ∃ t,Is C t a w∧Q .normal t
 | .exit id,a,w => ∃ t,Is C t a w∧Q (.exit id) t
 | .ret,a,w => ∃ t,Is C t a w∧Q .ret t
 | _,_,_=>False
theorem copsAt_spec {P:Program} {nt:Nat} {OT:List TypeId} {ops:Array Oper}:∀ {l:List Nat} {m:List (Nat × COp)},copsAt P nt OT ops l=some m→m.map (·.1)=l∧∀ x∈m,∃ o,ops[x.1]? = some o∧cop P nt OT ops o=some x.2
 | [],m,h=>by simp only[copsAt,Option.some.injEq] at h;subst h;exact⟨rfl,by simp⟩
 | i::l,m,h=>by
  simp only[copsAt] at h
  split at h
  case h_2=>cases h
  rename_i o ho
  split at h
  case h_2=>cases h
  rename_i c m' h1 h2
  simp only[Option.some.injEq] at h
  subst h
  obtain⟨g1,g2⟩:=copsAt_spec h2
  refine⟨by simp[g1],fun x hx => ?_⟩
  rcases List.mem_cons.1 hx with rfl | hx
  ·exact⟨o,ho,h1⟩
  ·exact g2 x hx
theorem seqOps {ops:Array Oper} {Q:Exit→Act→World→Prop} {K:St→Prop} (hC:C.Ok) (hQ:∀ t a' w',Is C t a' w'→K t→Q .normal a' w'):∀ (m:List (Nat × COp)) (s:St) (a:Act) (w:World),
  (∀ x∈m,∃ o,ops[x.1]? = some o∧cop C.P C.nt C.OT ops o=some x.2)→Is C s a w→cops (Con C.P C.A) (m.map (·.2)) K s→wpOps C.P ops Q (m.map (·.1)) a w
 | [],s,a,w,_,his,hK=>hQ s a w his hK
 | x::m,s,a,w,hm,his,hK=>by
  obtain⟨o,ho,hc⟩:=hm x (by simp)
  rw[List.map_cons,wpOps_cons]
  exact wp_cop hC ho hc his (fun t a' w' ht hk=>seqOps hC hQ m t a' w' (fun y hy=>hm y (by simp[hy])) ht hk) hK
theorem Is.later (h:Is C s a w) {w':World} (he:Ext w w'):Is C s a w':=⟨h.1.elim fun loc hr=>⟨loc,hr.later he⟩,h.2⟩
theorem cw_sound (hC:C.Ok) (hm:C.P.follows .mixedOrders=true) (H:List Hint):∀ (c:Code) (cc:CC) (Q:AExit→St→Prop) (s:St) (a:Act) (w:World),comp C.P C.nt C.OT H c=some cc→cw C.OT (Con C.P C.A) cc Q s→Is C s a w→c.wp C.P (Qm C Q) a w:=by
 intro c
 induction c with
 | skip=>intro cc Q s a w h1 h2 h3;simp only[comp,Option.some.injEq] at h1;subst h1;exact wp_skip ⟨s,h3,h2⟩
 | region id ops draw =>
  intro cc Q s a w h1 h2 h3
  simp only[comp] at h1
  cases draw with
  | true =>
   simp only[if_true] at h1
   split at h1
   case h_2=>cases h1
   rename_i h _
   split at h1
   case h_2=>cases h1
   rename_i l hl
   split at h1
   case isFalse=>cases h1
   rename_i hok
   simp only[Option.some.injEq] at h1
   subst h1
   obtain⟨hap,hcw⟩:=h2
   simp only[regOk,Bool.and_eq_true,beq_iff_eq,List.all_eq_true,decide_eq_true_eq] at hok
   obtain⟨⟨⟨⟨hlen,hevery⟩,hall⟩,hanc⟩,hpairs⟩:=hok
   obtain⟨g1,g2⟩:=copsAt_spec hl
   obtain⟨p1,p2⟩:=pairs_spec hpairs
   refine wp_region_any hm ?_
   have hw:Is C s a { w with drawn:=w.drawn+1 }:=h3.later (Below.drew (Below.refl _ _))
   have hfull:∀ i,i<ops.size→i∈l.map (·.1):=by
    intro i hi
    have:=hevery i (List.mem_range.2 hi)
    simpa using this
   have hfree:ApI (fun t => ∃ c∈l.map (·.2),c.alc=true∧c.dst=some t) h.ap s.r:=by
    refine⟨hap,fun p hp ⟨c,hc,hca,hct⟩ j o he => ?_⟩
    have hk5:∀ c∈l.map (·.2),c.op.kind≠5:=fun c hc=>by
     obtain⟨x,hx,rfl⟩:=List.mem_map.1 hc
     have hne:h.ap.isEmpty=false:=by cases hq:h.ap with
      | nil=>rw[hq] at hp;cases hp
      | cons=>rfl
     have:=(hall x hx).2
     simp only[apFree,hne,Bool.false_or,Bool.and_eq_true,bne_iff_ne,ne_eq] at this
     exact this.1
    have hm:=cops_fresh _ s hk5 hcw c hc hca _ hct
    obtain⟨⟨loc,hR⟩,-⟩:=h3
    have h5:=hR.tmps p.1
    rw[he] at h5
    generalize a.tmps.getD p.1 undef=vv at h5
    cases h5 with
    | ptr L id i off h1 h2=>rw[hR.dom _ hm] at h1;cases h1
   have:=anyRegion (Q:=Qm C Q) (K:=Q .normal) (ap:=h.ap) hC hanc (fun t a' w' ht hk=>⟨t,ht,hk⟩) l.length l (Array.replicate ops.size false) s a _ rfl (by simp) (fun i hi=>by
     simp only[Array.getD_eq_getD_getElem?,Array.getElem?_replicate,hi,if_true,Option.getD_some,true_iff]
     exact hfull i hi) p1 (fun x hx=>⟨p2 x hx,(hall x hx).1,⟨(hall x hx).2,fun ha t ht=>⟨x.2,List.mem_map.2 ⟨x,hx,rfl⟩,ha,ht⟩⟩,g2 x hx⟩) (fun j hj hlj=>by simp[hj] at hlj) hw hfree hcw
   rwa[hlen] at this
  | false =>
   simp only[Bool.false_eq_true,if_false,Option.map_eq_some_iff] at h1
   obtain⟨l,hl,rfl⟩:=h1
   obtain⟨hap,hcw⟩:=h2
   obtain⟨g1,g2⟩:=copsAt_spec hl
   refine wp_region ?_
   rw[←g1]
   exact seqOps hC (fun t a' w' ht hk=>⟨t,ht,hk⟩) l s a w g2 h3 hcw
 | seq x y ihx ihy =>
  intro cc Q s a w h1 h2 h3
  simp only[comp] at h1
  split at h1
  case h_2=>cases h1
  rename_i cx cy hx hy
  simp only[Option.some.injEq] at h1
  subst h1
  refine wp_seq (wp_mono (ihx cx _ s a w hx h2 h3) ?_)
  intro e a' w' hq
  cases e with
  | normal =>
   obtain⟨t,ht,u,hsub,hu⟩:=hq
   exact ihy cy Q u a' w' hy hu (hsub C a' w' rfl ht)
  | exit id=>exact hq
  | ret=>exact hq
  | _=>exact hq.elim
 | cond o x y ihx ihy =>
  intro cc Q s a w h1 h2 h3
  simp only[comp] at h1
  split at h1
  case h_2=>cases h1
  rename_i cx cy hx hy
  simp only[Option.some.injEq] at h1
  subst h1
  simp only[cw] at h2
  split at h2
  case h_2=>exact h2.elim
  rename_i b hb
  obtain⟨loc,hr⟩:=h3.1
  have hv:=hr.opd (P:=C.P) none o
  rw[hb] at hv
  have hv:=hv.inv
  generalize hov:a.eval o=v at hv
  cases hv
  cases b with
  | true=>exact wp_cond_true hov (ihx cx Q s a w hx (h2.1 rfl) h3)
  | false=>exact wp_cond_false hov (ihy cy Q s a w hy (h2.2 rfl) h3)
 | block id x ih =>
  intro cc Q s a w h1 h2 h3
  simp only[comp,Option.map_eq_some_iff] at h1
  obtain⟨cx,hx,rfl⟩:=h1
  refine wp_block (wp_mono (ih cx _ s a w hx h2 h3) ?_)
  intro e a' w' hq
  cases e with
  | normal=>exact hq
  | exit j =>
   obtain⟨t,ht,hq⟩:=hq
   simp only[Exit.inBlock]
   by_cases hj:j=id
   ·rw[if_pos hj];simp only[hj,if_true] at hq;exact⟨t,ht,hq⟩
   ·rw[if_neg hj];simp only[hj,if_false] at hq;exact⟨t,ht,hq⟩
  | ret=>exact hq
  | _=>exact hq.elim
 | loop x ih =>
  intro cc Q s a w h1 h2 h3
  simp only[comp,Option.map_eq_some_iff] at h1
  obtain⟨cx,hx,rfl⟩:=h1
  obtain⟨ι,I,μ,i0,hsub,hround⟩:=h2
  intro b k cs
  have key:∀ n i a w,μ i=n→Is C (I i) a w →
    ∃ e a' w',Qm C Q e a' w'∧Arrives C.P (lone (b.at a (.code x::.inLoop x::k)) cs w) b k cs e a' w':=by
   intro n
   induction n using Nat.strongRecOn with
   | _ n ihn =>
    intro i a w hn hI
    obtain⟨e,a₁,w₁,hq,harr⟩:=ih cx _ (I i) a w hx (hround i) hI b (.inLoop x::k) cs
    cases e with
    | normal =>
     obtain⟨t,ht,j,hj,hlt⟩:=hq
     obtain⟨e₂,a₂,w₂,hq₂,harr₂⟩:=ihn (μ j) (hn ▸ hlt) j a₁ w₁ rfl (hj C a₁ w₁ rfl ht)
     exact⟨e₂,a₂,w₂,hq₂,.of_steps (Steps.trans harr (.one step_inLoop)) harr₂⟩
    | exit id=>exact⟨.exit id,a₁,w₁,hq,.pass (x:=.inLoop x) rfl (fun _ _ => .inl (by simp)) harr⟩
    | ret=>exact⟨.ret,a₁,w₁,hq,.pass (x:=.inLoop x) rfl (fun _ _ => .inl (by simp)) harr⟩
    | _=>exact hq.elim
  obtain⟨e,a',w',hq,harr⟩:=key _ i0 a w rfl (hsub C a w rfl h3)
  exact⟨e,a',w',hq,.of_steps (.one step_loop) harr⟩
 | exit id=>intro cc Q s a w h1 h2 h3;simp only[comp,Option.some.injEq] at h1;subst h1;exact wp_exit ⟨s,h3,h2⟩
 | ret=>intro cc Q s a w h1 h2 h3;simp only[comp,Option.some.injEq] at h1;subst h1;exact wp_ret ⟨s,h3,h2⟩
 | _=>intro cc Q s a w h1;simp[comp] at h1
end
end Go.Proofs.Ytdjbfgfbpimakaa.M
end

section
namespace Go.Proofs.Ytdjbfgfbpimakaa.M
open Go.RowKit
def resC (P:Program):List ResultVar→Option (List (Nat × Option (Bool × Nat)))
 | []=>some []
 | .tmp t::l=>(resC P l).map ((t,none)::·)
 | .cell a T::l=>match tyOf P T with
  | some (ag,sz)=>if ag||sz == 1 then (resC P l).map ((a,some (ag,sz))::·) else none
  | none=>none
def resV (s:St):Nat × Option (Bool × Nat)→Option AV
 | (t,none)=>some (s.r t)
 | (t,some (ag,sz))=>match s.r t with
  | .ptr i 0 0=>match s.m i with
   | some ⟨_,osz,.box v,_⟩=>v.get 0 sz osz ag
   | _=>none
  | _=>none
def resL (s:St):List (Nat × Option (Bool × Nat))→Option (List D)
 | []=>some []
 | x::l=>match (match resV s x with | some v=>v.toD true s.m 20 | none=>none),resL s l with
  | some d,some ds=>some (d::ds)
  | _,_=>none
def resD (s:St) (rs:List (Nat × Option (Bool × Nat))):Option D:=match resL s rs with
 | some [d]=>some d
 | some ds=>some (.tup ds)
 | none=>none
def init (ds:List D):St:=⟨fun t=>match ds[t]? with
 | some d => .p d
 | none => .und,fun _=>none⟩
section
variable {C:Ctx} {s:St} {a:Act} {w:World}
def resRun (tmps:Array Value):ResultVar→Sem Value
 | .tmp t=>pure (tmps.getD t undef)
 | .cell a t=>do loadVar t (← asAddr (tmps.getD a undef))
theorem results_eq (fn:Func) (tmps:Array Value):results fn tmps=(fn.results.mapM (resRun tmps) >>= fun vs=>pure (if h:vs.size=1 then vs[0] else .tuple vs)):=rfl
theorem resL_run {loc:Locs} (h:Rel C.w0 C.base C.nt loc s a w):∀ (l:List ResultVar) (rs:List (Nat × Option (Bool × Nat))) (ds:List D),resC C.P l=some rs→resL s rs=some ds →
  ∃ vs:List Value,(l.mapM (resRun a.tmps)).run C.P w = .ok vs w∧vs.length=ds.length∧∀ (i:Nat) (d:D),ds[i]? = some d→V w (fun b=>b<w.heap.size∧¬ C.base b) (vs.getD i undef) d
 | [],rs,ds,h1,h2=>by
  simp only[resC,Option.some.injEq] at h1
  subst h1
  simp only[resL,Option.some.injEq] at h2
  subst h2
  exact⟨[],by simp,rfl,fun i d hd=>by simp at hd⟩
 | x::l,rs,ds,h1,h2=>by
  have hx:∃ y rs',rs=y::rs'∧resC C.P l=some rs'∧∀ u,resV s y=some u→∃ v,(resRun a.tmps x).run C.P w = .ok v w∧RV w (NB C.base s.m loc w) loc v u:=by
   cases x with
   | tmp t =>
    simp only[resC,Option.map_eq_some_iff] at h1
    obtain⟨rs',h1,rfl⟩:=h1
    refine⟨_,rs',rfl,h1,fun u hu => ?_⟩
    simp only[resV,Option.some.injEq] at hu
    subst hu
    exact⟨_,by simp[resRun],h.tmps t⟩
   | cell t T =>
    simp only[resC] at h1
    split at h1
    case h_2=>cases h1
    rename_i ag sz hT
    split at h1
    case isFalse=>cases h1
    rename_i hs
    simp only[Option.map_eq_some_iff] at h1
    obtain⟨rs',h1,rfl⟩:=h1
    refine⟨_,rs',rfl,h1,fun u hu => ?_⟩
    simp only[resV] at hu
    split at hu
    case h_2=>cases hu
    rename_i i hp
    split at hu
    case h_2=>cases hu
    rename_i T' osz v frz hm
    have hrv:=h.tmps t
    rw[hp] at hrv
    generalize hq:a.tmps.getD t undef=q at hrv
    cases hrv with
    | ptr L _ _ _ hL hn =>
    obtain⟨L',hL',hok⟩:=h.objs i _ hm
    rw[hL] at hL'
    cases hL'
    obtain⟨c,fr,k1,k2,k3,-⟩:=hok.at_ hn
    obtain⟨m1,m2,m3,m4⟩:=k3
    obtain⟨x,hx1,hx2⟩:=rv_get (P:=C.P) (T':=T) k1 m1 m2 m3 m4 hu (tyOf_ok hT) (fun e=>by simpa[e] using hs)
    refine⟨x,?_,hx2⟩
    have:(Instr.loadAt T (.pointer (some ⟨L.b,L.o+0,none⟩))).run C.P w=(loadVar T ⟨L.b,L.o+0,none⟩).run C.P w:=by simp[Instr.loadAt,Instr.sureAddr]
    rw[this] at hx1
    simp only[Nat.zero_mul,Nat.add_zero] at hq hx1
    simp[resRun,hq,asAddr,hx1]
  obtain⟨y,rs',rfl,hl,hrun⟩:=hx
  simp only[resL] at h2
  split at h2
  case h_2=>cases h2
  rename_i d ds' g1 g2
  simp only[Option.some.injEq] at h2
  subst h2
  split at g1
  case h_2=>cases g1
  rename_i u hu
  obtain⟨v,hv1,hv2⟩:=hrun u hu
  obtain⟨vs,q1,q2,q3⟩:=resL_run h l rs' ds' hl g2
  refine⟨v::vs,by simp[List.mapM_cons,hv1,q1],by simp[q2],fun i e he => ?_⟩
  match i,he with
  | 0,he =>
   simp at he
   subst he
   exact toD_ok (any:=true) (N':=fun b=>b<w.heap.size∧¬ C.base b) h (fun b hb=>⟨hb.1,hb.2.1⟩) (fun i o L ho _ hL hn=>⟨h.obj_lt ho hL hn,fun hb=>by
    obtain⟨L',hL',hok⟩:=h.objs i o ho
    rw[hL] at hL'
    cases hL'
    obtain⟨c,fr,k1,k2,k3,k4,k5⟩:=hok.at_ hn
    cases hf:o.frz with
    | false=>have:=(k4 hf).1;have:=h.low _ hb;omega
    | true=>exact (k5 hf).2.1 hb⟩) 20 u v d g1 hv2
  | i+1,he=>simpa using q3 i e (by simpa using he)
theorem con_of {P:Program} {A OT:List TypeId} {f:FuncId} {fn:Func} {code:Code} {H:List Hint} {cc:CC} {rs:List (Nat × Option (Bool × Nat))} {ds:List D} {d:D}
  (hf:P.funcs[f]? = some fn) (hb:fn.body=some code) (hm:P.follows .mixedOrders=true) (hc:comp P fn.ntmps OT H code=some cc) (hr:resC P fn.results.toList=some rs) (hA:OT.all (fun T => !A.contains T)=true) (hn:ds.length≤fn.ntmps)
  (hcw:cw OT (Con P A) cc (fun e s=>(match e with | .exit _=>False | _=>True)∧resD s rs=some d) (init ds)):Con P A f ds d:=by
 intro base w vs h1 h2 h3 h4
 have hbody:=cw_sound (C:=⟨P,A,OT,fn.ntmps,w,base⟩) ⟨h2,fun T hT=>by
  rw[List.all_eq_true] at hA
  have:=hA T hT
  simpa using this⟩ hm H code cc _ (init ds) { tmps:=vs++Array.replicate (fn.ntmps-vs.size) undef,defers:=[] } w hc hcw ⟨⟨fun _=>none,Ext.rf w,rfl,by simp;omega,h1,fun _ _=>rfl,fun t => ?_,fun id o ho=>by simp[init] at ho,fun id _ o _ _ _ ho=>by simp[init] at ho⟩,fun id o ho=>by simp[init] at ho⟩
 ·refine calls_of_wp hf hb (wp_mono hbody ?_)
  intro e a' w' hq
  have fin:(∃ t,Is ⟨P,A,OT,fn.ntmps,w,base⟩ t a' w'∧resD t rs=some d)→a'.defers=[]∧∃ v,(results fn a'.tmps).run P w' = .ok v w'∧∃ v',Ending.returned v=Ending.returned v'∧V w' (fun b=>b<w'.heap.size∧¬ base b) v' d∧Ext w w':=by
   rintro⟨t,ht,hres⟩
   obtain⟨loc,hrel⟩:=ht.1
   refine⟨hrel.defers,?_⟩
   have key:∀ ds',resL t rs=some ds'→∃ vs:List Value,(fn.results.mapM (resRun a'.tmps)).run P w' = .ok vs.toArray w'∧vs.length=ds'.length∧∀ (i:Nat) (d:D),ds'[i]? = some d→V w' (fun b=>b<w'.heap.size∧¬ base b) (vs.getD i undef) d:=by
    intro ds' hds
    obtain⟨vs,q1,q2,q3⟩:=resL_run hrel _ _ _ hr hds
    refine⟨vs,?_,q2,q3⟩
    rw[Array.mapM_eq_mapM_toList]
    simp only at q1
    simp[q1]
   have hresults:∀ vs:List Value,(fn.results.mapM (resRun a'.tmps)).run P w' = .ok vs.toArray w'→(results fn a'.tmps).run P w' = .ok (if h:vs.toArray.size=1 then vs.toArray[0] else .tuple vs.toArray) w':=by
    intro vs hv
    rw[results_eq]
    simp only[Sem.run_bind,hv,Result.andThen]
    rfl
   unfold resD at hres
   split at hres
   ·rename_i d' hd'
    simp only[Option.some.injEq] at hres
    subst hres
    obtain⟨vs,q1,q2,q3⟩:=key _ hd'
    match vs,q2 with
    | [v],_ =>
     refine⟨v,by rw[hresults _ q1];simp,v,rfl,?_,hrel.ext⟩
     have:=q3 0 d' rfl
     simpa using this
   ·rename_i ds' hne hd'
    simp only[Option.some.injEq] at hres
    subst hres
    obtain⟨vs,q1,q2,q3⟩:=key _ hd'
    have hne1:vs.length≠1:=by
     intro h1
     rw[q2] at h1
     match ds',h1 with
     | [d'],_=>exact hne d' rfl
    refine⟨.tuple vs.toArray,by rw[hresults _ q1,dif_neg (by simpa using hne1)],_,rfl,.tup _ _ (by simpa using q2) (fun i e he=>by simpa using q3 i e he),hrel.ext⟩
   ·cases hres
  cases e with
  | normal=>obtain⟨t,ht,-,hres⟩:=hq;exact fin ⟨t,ht,hres⟩
  | ret=>obtain⟨t,ht,-,hres⟩:=hq;exact fin ⟨t,ht,hres⟩
  | exit id=>obtain⟨t,ht,hbad,hres⟩:=hq;exact hbad.elim
  | _=>exact hq.elim
 ·by_cases ht:t<vs.size
  ·have hd:∃ d,ds[t]? = some d:=⟨ds[t]'(by omega),by simp⟩
   obtain⟨d',hd⟩:=hd
   have hr':(init ds).r t = .p d':=by simp[init,hd]
   rw[hr']
   have hg:(vs++Array.replicate (fn.ntmps-vs.size) undef).getD t undef=vs.getD t undef:=by
    simp only[Array.getD_eq_getD_getElem?]
    rw[Array.getElem?_append_left ht]
   simp only[hg]
   exact .p _ _ ((h4 t d' hd).mono (fun _ _=>rfl) fun b hb=>⟨hb.1,hb.2,by rintro⟨id,o,L,ho,_⟩;simp[init] at ho⟩)
  ·have hr':(init ds).r t = .und:=by
    have:ds[t]? = none:=List.getElem?_eq_none (by omega)
    simp[init,this]
   rw[hr']
   exact .und _
def FnOk (P:Program) (f:FuncId) (OT:List TypeId) (cc:CC) (rs:List (Nat × Option (Bool × Nat))) (nt:Nat):Prop:=
 ∃ fn H,P.funcs[f]? = some fn∧fn.body.isSome=true∧P.follows .mixedOrders=true∧comp P fn.ntmps OT H (fn.body.getD .skip)=some cc∧resC P fn.results.toList=some rs∧fn.ntmps=nt
def Ends (d:D) (rs:List (Nat × Option (Bool × Nat))):AExit→St→Prop
 | .exit _,_=>False
 | _,s=>resD s rs=some d
theorem FnOk.con {P:Program} {A OT:List TypeId} {f:FuncId} {cc:CC} {rs:List (Nat × Option (Bool × Nat))} {nt:Nat} {ds:List D} {d:D} (h:FnOk P f OT cc rs nt) (hA:OT.all (fun T => !A.contains T)=true) (hn:ds.length≤nt)
  (hcw:cw OT (Con P A) cc (Ends d rs) (init ds)):Con P A f ds d:=by
 obtain⟨fn,H,h1,h2,h3,h4,h5,rfl⟩:=h
 obtain⟨code,hcode⟩:=Option.isSome_iff_exists.1 h2
 rw[hcode] at h4
 have hE:Ends d rs=fun e s=>(match e with | .exit _=>False | _=>True)∧resD s rs=some d:=by
  funext e s
  cases e<;>simp[Ends]
 rw[hE] at hcw
 exact con_of h1 hcode h3 h4 h5 hA hn hcw
end
end Go.Proofs.Ytdjbfgfbpimakaa.M
end

section
namespace Go.Proofs.Ytdjbfgfbpimakaa.M
open Go.RowKit
def l35_0:List COp:=[
 ⟨some 2,.alloc 47 4 (.p (.agg [(.bool false),(.list 3 1 []),(.bool false),(.list 3 1 [])])),none⟩,
 ⟨some 3,.alloc 27 2 (.p (.agg [(.int .i64 0),(.int .i64 0)])),none⟩]
def c35_1:CC:=.ops [] (l35_0)
def l35_2:List COp:=[
 ⟨some 11,.build [(.p (.bool false)),(.p (.list 3 1 []))] [],none⟩,
 ⟨some 12,.call 73 [(.k (.p (.int .i64 1)))],none⟩]
def l35_3:List COp:=[
 ⟨some 13,.build [(.p (.bool false)),(.p (.list 3 1 [])),(.p (.bool false)),(.p (.list 3 1 []))] [(0,2,(.t 11)),(2,2,(.t 12))],none⟩,
 ⟨some 4,.alloc 47 4 (.p (.agg [(.bool false),(.list 3 1 []),(.bool false),(.list 3 1 [])])),none⟩,
 ⟨none,.store 4 (.t 4) (.t 13),none⟩]
def c35_4:CC:=.ops [] (l35_2++(l35_3))
def l35_5:List COp:=[
 ⟨some 15,.mov (.t 0),none⟩,
 ⟨some 16,.call 74 [(.t 15),(.k (.p (.bool true))),(.k (.p (.bool true)))],none⟩]
def l35_6:List COp:=[
 ⟨some 14,.mov (.t 16),none⟩,
 ⟨some 17,.extract (.t 14) 0,none⟩,
 ⟨some 18,.extract (.t 14) 1,none⟩,
 ⟨some 5,.mov (.t 17),none⟩,
 ⟨some 6,.mov (.t 18),none⟩]
def c35_7:CC:=.ops [] (l35_5++(l35_6))
def l35_8:List COp:=[
 ⟨some 19,.mov (.t 5),none⟩,
 ⟨some 7,.mov (.t 19),none⟩]
def c35_9:CC:=.ops [] (l35_8)
def l35_10:List COp:=[
 ⟨some 20,.mov (.t 6),none⟩,
 ⟨some 21,.mov (.t 20),none⟩,
 ⟨some 22,.mov (.t 5),some (21,true)⟩,
 ⟨some 23,.mov (.t 0),some (21,true)⟩,
 ⟨some 24,.lenS (.t 23),some (21,true)⟩,
 ⟨some 25,.bin false .lss (.t 22) (.t 24),some (21,true)⟩,
 ⟨some 26,.pick (.t 21) (.t 25) (.k (.p (.bool false))),none⟩,
 ⟨some 27,.mov (.t 26),none⟩,
 ⟨some 28,.mov (.t 0),some (27,true)⟩,
 ⟨some 29,.mov (.t 5),some (27,true)⟩,
 ⟨some 30,.index (.t 28) (.t 29),some (27,true)⟩,
 ⟨some 31,.bin false .eql (.t 30) (.k (.p (.int .u8 47))),some (27,true)⟩,
 ⟨some 32,.pick (.t 27) (.t 31) (.k (.p (.bool false))),none⟩]
def c35_11:CC:=.ops [] (l35_10)
def l35_12:List COp:=[
 ⟨some 34,.mov (.t 0),none⟩,
 ⟨some 35,.mov (.t 5),none⟩,
 ⟨some 36,.bin false .add (.t 35) (.k (.p (.int .i64 1))),none⟩,
 ⟨some 37,.sliceS (.t 34) (some (.t 36)) none,none⟩,
 ⟨some 38,.call 74 [(.t 37),(.k (.p (.bool false))),(.k (.p (.bool false)))],none⟩]
def l35_13:List COp:=[
 ⟨some 33,.mov (.t 38),none⟩,
 ⟨some 39,.extract (.t 33) 0,none⟩,
 ⟨some 40,.extract (.t 33) 1,none⟩,
 ⟨some 8,.mov (.t 39),none⟩,
 ⟨some 9,.mov (.t 40),none⟩]
def c35_14:CC:=.ops [] (l35_12++(l35_13))
def l35_15:List COp:=[
 ⟨some 41,.mov (.t 5),none⟩,
 ⟨some 42,.bin false .add (.t 41) (.k (.p (.int .i64 1))),none⟩,
 ⟨some 43,.mov (.t 8),none⟩,
 ⟨some 44,.bin false .add (.t 42) (.t 43),none⟩,
 ⟨some 7,.mov (.t 44),none⟩]
def c35_16:CC:=.ops [] (l35_15)
def l35_17:List COp:=[
 ⟨some 45,.mov (.t 9),none⟩,
 ⟨some 6,.mov (.t 45),none⟩]
def c35_18:CC:=.ops [] (l35_17)
def c35_19:CC:=.seq c35_16 c35_18
def c35_20:CC:=.seq c35_14 c35_19
def c35_21:CC:=.cond (.t 32) c35_20 .skip
def c35_22:CC:=.seq c35_11 c35_21
def l35_23:List COp:=[
 ⟨some 46,.mov (.t 6),none⟩,
 ⟨some 47,.un .not (.t 46),none⟩,
 ⟨some 48,.mov (.t 47),none⟩,
 ⟨some 49,.mov (.t 7),some (48,false)⟩,
 ⟨some 50,.mov (.t 0),some (48,false)⟩,
 ⟨some 51,.lenS (.t 50),some (48,false)⟩,
 ⟨some 52,.bin false .lss (.t 49) (.t 51),some (48,false)⟩,
 ⟨some 53,.pick (.t 48) (.k (.p (.bool true))) (.t 52),none⟩]
def c35_24:CC:=.ops [] (l35_23)
def l35_25:List COp:=[
 ⟨some 54,.load true 4 (.t 4),none⟩,
 ⟨some 55,.mov (.t 7),none⟩,
 ⟨some 56,.build [(.p (.int .i64 0)),(.p (.int .i64 0))] [(0,1,(.k (.p (.int .i64 1)))),(1,1,(.t 55))],none⟩,
 ⟨none,.store 4 (.t 2) (.t 54),none⟩,
 ⟨none,.store 2 (.t 3) (.t 56),none⟩]
def c35_26:CC:=.ops [] (l35_25)
def c35_27:CC:=.seq c35_26 .ret
def c35_28:CC:=.cond (.t 53) c35_27 .skip
def c35_29:CC:=.seq c35_24 c35_28
def l35_30:List COp:=[
 ⟨some 57,.mov (.t 0),none⟩,
 ⟨some 58,.mov (.t 5),none⟩,
 ⟨some 59,.sliceS (.t 57) none (some (.t 58)),none⟩,
 ⟨some 60,.call 75 [(.t 59)],none⟩]
def l35_31:List COp:=[
 ⟨some 61,.bin false .gtr (.t 60) (.k (.p (.int .i64 1000))),none⟩,
 ⟨some 62,.mov (.t 61),none⟩,
 ⟨some 63,.mov (.t 7),some (62,false)⟩,
 ⟨some 64,.mov (.t 5),some (62,false)⟩,
 ⟨some 65,.bin false .sub (.t 63) (.t 64),some (62,false)⟩,
 ⟨some 66,.bin false .sub (.t 65) (.k (.p (.int .i64 1))),some (62,false)⟩,
 ⟨some 67,.bin false .gtr (.t 66) (.k (.p (.int .i64 1000))),some (62,false)⟩,
 ⟨some 68,.pick (.t 62) (.k (.p (.bool true))) (.t 67),none⟩]
def c35_32:CC:=.ops [] (l35_30++(l35_31))
def l35_33:List COp:=[
 ⟨some 69,.load true 4 (.t 4),none⟩,
 ⟨some 70,.build [(.p (.int .i64 0)),(.p (.int .i64 0))] [(0,1,(.k (.p (.int .i64 2))))],none⟩,
 ⟨none,.store 4 (.t 2) (.t 69),none⟩,
 ⟨none,.store 2 (.t 3) (.t 70),none⟩]
def c35_34:CC:=.ops [] (l35_33)
def c35_35:CC:=.seq c35_34 .ret
def c35_36:CC:=.cond (.t 68) c35_35 .skip
def c35_37:CC:=.seq c35_32 c35_36
def l35_38:List COp:=[
 ⟨some 71,.mov (.t 0),none⟩,
 ⟨some 72,.mov (.t 5),none⟩,
 ⟨some 73,.sliceS (.t 71) none (some (.t 72)),none⟩,
 ⟨some 74,.call 76 [(.t 73)],none⟩]
def l35_39:List COp:=[
 ⟨some 75,.call 73 [(.k (.p (.int .i64 1)))],none⟩]
def l35_40:List COp:=[
 ⟨some 76,.build [(.p (.bool false)),(.p (.list 3 1 [])),(.p (.bool false)),(.p (.list 3 1 []))] [(0,2,(.t 74)),(2,2,(.t 75))],none⟩,
 ⟨some 10,.alloc 47 4 (.p (.agg [(.bool false),(.list 3 1 []),(.bool false),(.list 3 1 [])])),none⟩,
 ⟨none,.store 4 (.t 10) (.t 76),none⟩]
def c35_41:CC:=.ops [] (l35_38++(l35_39++(l35_40)))
def l35_42:List COp:=[
 ⟨some 77,.mov (.t 7),none⟩,
 ⟨some 78,.mov (.t 5),none⟩,
 ⟨some 79,.bin false .gtr (.t 77) (.t 78),none⟩]
def c35_43:CC:=.ops [] (l35_42)
def l35_44:List COp:=[
 ⟨some 80,.mov (.t 0),none⟩,
 ⟨some 81,.mov (.t 5),none⟩,
 ⟨some 82,.sliceS (.t 80) none (some (.t 81)),none⟩,
 ⟨some 83,.call 76 [(.t 82)],none⟩]
def l35_45:List COp:=[
 ⟨some 84,.mov (.t 0),none⟩,
 ⟨some 85,.mov (.t 5),none⟩,
 ⟨some 86,.bin false .add (.t 85) (.k (.p (.int .i64 1))),none⟩,
 ⟨some 87,.sliceS (.t 84) (some (.t 86)) none,none⟩,
 ⟨some 88,.call 76 [(.t 87)],none⟩]
def l35_46:List COp:=[
 ⟨some 89,.call 77 [(.t 83),(.t 88)],none⟩]
def l35_47:List COp:=[
 ⟨none,.store 4 (.t 10) (.t 89),none⟩]
def c35_48:CC:=.ops [] (l35_44++(l35_45++(l35_46++(l35_47))))
def c35_49:CC:=.cond (.t 79) c35_48 .skip
def c35_50:CC:=.seq c35_43 c35_49
def l35_51:List COp:=[
 ⟨some 90,.load true 4 (.t 10),none⟩,
 ⟨some 91,.call 11 [(.t 90)],none⟩]
def l35_52:List COp:=[
 ⟨some 92,.mov (.t 0),none⟩,
 ⟨some 93,.bin false .neq (.t 91) (.t 92),none⟩]
def c35_53:CC:=.ops [] (l35_51++(l35_52))
def l35_54:List COp:=[
 ⟨some 94,.load true 4 (.t 4),none⟩,
 ⟨some 95,.build [(.p (.int .i64 0)),(.p (.int .i64 0))] [(0,1,(.k (.p (.int .i64 3))))],none⟩,
 ⟨none,.store 4 (.t 2) (.t 94),none⟩,
 ⟨none,.store 2 (.t 3) (.t 95),none⟩]
def c35_55:CC:=.ops [] (l35_54)
def c35_56:CC:=.seq c35_55 .ret
def c35_57:CC:=.cond (.t 93) c35_56 .skip
def c35_58:CC:=.seq c35_53 c35_57
def l35_59:List COp:=[
 ⟨some 96,.load true 4 (.t 10),none⟩,
 ⟨some 97,.build [(.p (.int .i64 0)),(.p (.int .i64 0))] [],none⟩,
 ⟨none,.store 4 (.t 2) (.t 96),none⟩,
 ⟨none,.store 2 (.t 3) (.t 97),none⟩]
def c35_60:CC:=.ops [] (l35_59)
def c35_61:CC:=.seq c35_60 .ret
def c35_62:CC:=.seq c35_58 c35_61
def c35_63:CC:=.seq c35_50 c35_62
def c35_64:CC:=.seq c35_41 c35_63
def c35_65:CC:=.seq c35_37 c35_64
def c35_66:CC:=.seq c35_29 c35_65
def c35_67:CC:=.seq c35_22 c35_66
def c35_68:CC:=.seq c35_9 c35_67
def c35_69:CC:=.seq c35_7 c35_68
def c35_70:CC:=.seq c35_4 c35_69
def c35_71:CC:=.seq c35_1 c35_70
def c35:CC:=c35_71
theorem fn35:FnOk Try.prog 35 [47,27] c35 [(2,some (true,4)),(3,some (true,2))] 98:=
 ⟨Try.f35,[⟨14,[0,1,2,3,4,5,6,7,8,9,10],[0,0,3,7,0,0,32,112,255,511,1023],[]⟩],Try.func35,by kernel_rfl,by kernel_rfl,by kernel_rfl,by kernel_rfl,by kernel_rfl⟩
def l65_0:List COp:=[
 ⟨some 2,.box 39 4 (.t 0),none⟩,
 ⟨some 3,.box 39 4 (.t 1),none⟩,
 ⟨some 4,.alloc 39 4 (.p (.agg [(.bool false),(.list 116 1 []),(.bool false),(.list 116 1 [])])),none⟩]
def c65_1:CC:=.ops [] (l65_0)
def l65_2:List COp:=[
 ⟨some 7,.load true 4 (.t 3),none⟩,
 ⟨some 8,.call 45 [(.t 7)],none⟩]
def l65_3:List COp:=[
 ⟨some 12,.load true 4 (.t 2),none⟩,
 ⟨some 16,.load true 4 (.t 2),none⟩,
 ⟨some 18,.load true 4 (.t 3),none⟩,
 ⟨some 5,.fieldAddr 0 2 true (.t 2),none⟩,
 ⟨some 6,.load true 2 (.t 5),none⟩,
 ⟨some 9,.call 63 [(.t 6),(.t 8)],none⟩]
def l65_4:List COp:=[
 ⟨some 13,.call 45 [(.t 12)],none⟩]
def l65_5:List COp:=[
 ⟨some 10,.fieldAddr 0 2 true (.t 3),none⟩,
 ⟨some 11,.load true 2 (.t 10),none⟩,
 ⟨some 14,.call 63 [(.t 11),(.t 13)],none⟩]
def l65_6:List COp:=[
 ⟨some 15,.call 83 [(.t 9),(.t 14)],none⟩]
def l65_7:List COp:=[
 ⟨some 17,.call 45 [(.t 16)],none⟩]
def l65_8:List COp:=[
 ⟨some 19,.call 45 [(.t 18)],none⟩]
def l65_9:List COp:=[
 ⟨some 20,.call 63 [(.t 17),(.t 19)],none⟩]
def l65_10:List COp:=[
 ⟨some 21,.call 59 [(.t 15),(.t 20)],none⟩]
def l65_11:List COp:=[
 ⟨none,.store 4 (.t 4) (.t 21),none⟩]
def c65_12:CC:=.ops [] (l65_2++(l65_3++(l65_4++(l65_5++(l65_6++(l65_7++(l65_8++(l65_9++(l65_10++(l65_11))))))))))
def c65_13:CC:=.seq c65_12 .ret
def c65_14:CC:=.seq c65_1 c65_13
def c65:CC:=c65_14
theorem fn65:FnOk Try.prog 65 [39] c65 [(4,some (true,4))] 22:=
 ⟨Try.f65,[⟨1,[2,3,7,11,13,0,1,4,8,5,6,9,10,12,14,15,16,17],[0,1,0,4,15,0,32,0,159,511,1023,0,4095,0,16383,32767,65535,131071],[]⟩],Try.func65,by kernel_rfl,by kernel_rfl,by kernel_rfl,by kernel_rfl,by kernel_rfl⟩
def l61_0:List COp:=[
 ⟨some 2,.box 39 4 (.t 0),none⟩,
 ⟨some 3,.box 39 4 (.t 1),none⟩,
 ⟨some 4,.alloc 39 4 (.p (.agg [(.bool false),(.list 116 1 []),(.bool false),(.list 116 1 [])])),none⟩]
def c61_1:CC:=.ops [] (l61_0)
def l61_2:List COp:=[
 ⟨some 5,.load true 4 (.t 2),none⟩,
 ⟨some 6,.fieldAddr 0 2 true (.t 3),none⟩,
 ⟨some 7,.load true 2 (.t 6),none⟩,
 ⟨some 8,.call 80 [(.t 7)],none⟩]
def l61_3:List COp:=[
 ⟨some 9,.fieldAddr 2 2 true (.t 3),none⟩,
 ⟨some 10,.load true 2 (.t 9),none⟩,
 ⟨some 11,.build [(.p (.bool false)),(.p (.list 116 1 [])),(.p (.bool false)),(.p (.list 116 1 []))] [(0,2,(.t 8)),(2,2,(.t 10))],none⟩,
 ⟨some 12,.call 65 [(.t 5),(.t 11)],none⟩]
def l61_4:List COp:=[
 ⟨none,.store 4 (.t 4) (.t 12),none⟩]
def c61_5:CC:=.ops [] (l61_2++(l61_3++(l61_4)))
def c61_6:CC:=.seq c61_5 .ret
def c61_7:CC:=.seq c61_1 c61_6
def c61:CC:=c61_7
theorem fn61:FnOk Try.prog 61 [39] c61 [(4,some (true,4))] 13:=
 ⟨Try.f61,[⟨1,[0,1,2,3,4,5,6,7,8],[0,0,2,6,0,16,62,127,255],[]⟩],Try.func61,by kernel_rfl,by kernel_rfl,by kernel_rfl,by kernel_rfl,by kernel_rfl⟩
def l27_0:List COp:=[
 ⟨some 2,.box 39 4 (.t 0),none⟩,
 ⟨some 3,.box 39 4 (.t 1),none⟩,
 ⟨some 4,.alloc 39 4 (.p (.agg [(.bool false),(.list 116 1 []),(.bool false),(.list 116 1 [])])),none⟩]
def c27_1:CC:=.ops [] (l27_0)
def l27_2:List COp:=[
 ⟨some 10,.load true 4 (.t 2),none⟩,
 ⟨some 12,.load true 4 (.t 3),none⟩,
 ⟨some 5,.fieldAddr 0 2 true (.t 2),none⟩,
 ⟨some 6,.load true 2 (.t 5),none⟩,
 ⟨some 7,.fieldAddr 0 2 true (.t 3),none⟩,
 ⟨some 8,.load true 2 (.t 7),none⟩,
 ⟨some 9,.call 63 [(.t 6),(.t 8)],none⟩]
def l27_3:List COp:=[
 ⟨some 11,.call 45 [(.t 10)],none⟩]
def l27_4:List COp:=[
 ⟨some 13,.call 45 [(.t 12)],none⟩]
def l27_5:List COp:=[
 ⟨some 14,.call 63 [(.t 11),(.t 13)],none⟩]
def l27_6:List COp:=[
 ⟨some 15,.call 59 [(.t 9),(.t 14)],none⟩]
def l27_7:List COp:=[
 ⟨none,.store 4 (.t 4) (.t 15),none⟩]
def c27_8:CC:=.ops [] (l27_2++(l27_3++(l27_4++(l27_5++(l27_6++(l27_7))))))
def c27_9:CC:=.seq c27_8 .ret
def c27_10:CC:=.seq c27_1 c27_9
def c27:CC:=c27_10
theorem fn27:FnOk Try.prog 27 [39] c27 [(4,some (true,4))] 16:=
 ⟨Try.f27,[⟨1,[5,7,0,1,2,3,4,6,8,9,10,11],[0,1,0,4,15,0,63,0,255,511,1023,2047],[]⟩],Try.func27,by kernel_rfl,by kernel_rfl,by kernel_rfl,by kernel_rfl,by kernel_rfl⟩
def l40_0:List COp:=[
 ⟨some 1,.box 39 4 (.t 0),none⟩,
 ⟨some 2,.alloc 39 4 (.p (.agg [(.bool false),(.list 116 1 []),(.bool false),(.list 116 1 [])])),none⟩]
def c40_1:CC:=.ops [] (l40_0)
def l40_2:List COp:=[
 ⟨some 3,.fieldAddr 0 2 true (.t 1),none⟩,
 ⟨some 4,.load true 2 (.t 3),none⟩,
 ⟨some 5,.call 80 [(.t 4)],none⟩]
def l40_3:List COp:=[
 ⟨some 6,.fieldAddr 2 2 true (.t 1),none⟩,
 ⟨some 7,.load true 2 (.t 6),none⟩,
 ⟨some 8,.build [(.p (.bool false)),(.p (.list 116 1 [])),(.p (.bool false)),(.p (.list 116 1 []))] [(0,2,(.t 5)),(2,2,(.t 7))],none⟩,
 ⟨none,.store 4 (.t 2) (.t 8),none⟩]
def c40_4:CC:=.ops [] (l40_2++(l40_3))
def c40_5:CC:=.seq c40_4 .ret
def c40_6:CC:=.seq c40_1 c40_5
def c40:CC:=c40_6
theorem fn40:FnOk Try.prog 40 [39] c40 [(2,some (true,4))] 9:=
 ⟨Try.f40,[⟨1,[0,1,2,3,4,5,6],[0,1,3,0,8,31,63],[]⟩],Try.func40,by kernel_rfl,by kernel_rfl,by kernel_rfl,by kernel_rfl,by kernel_rfl⟩
def l15_0:List COp:=[
 ⟨some 1,.box 39 4 (.t 0),none⟩,
 ⟨some 2,.mov (.k (.p (.int .i64 0))),none⟩]
def c15_1:CC:=.ops [] (l15_0)
def l15_2:List COp:=[
 ⟨some 3,.fieldAddr 0 2 true (.t 1),none⟩,
 ⟨some 4,.load true 2 (.t 3),none⟩,
 ⟨some 5,.call 43 [(.t 4)],none⟩]
def l15_3:List COp:=[
 ⟨some 2,.mov (.t 5),none⟩]
def c15_4:CC:=.ops [] (l15_2++(l15_3))
def c15_5:CC:=.seq c15_4 .ret
def c15_6:CC:=.seq c15_1 c15_5
def c15:CC:=c15_6
theorem fn15:FnOk Try.prog 15 [39] c15 [(2,none)] 6:=
 ⟨Try.f15,[],Try.func15,by kernel_rfl,by kernel_rfl,by kernel_rfl,by kernel_rfl,by kernel_rfl⟩
def l84_0:List COp:=[
 ⟨some 2,.box 47 4 (.t 0),none⟩,
 ⟨some 3,.box 47 4 (.t 1),none⟩,
 ⟨some 4,.alloc 47 4 (.p (.agg [(.bool false),(.list 3 1 []),(.bool false),(.list 3 1 [])])),none⟩]
def c84_1:CC:=.ops [] (l84_0)
def l84_2:List COp:=[
 ⟨some 5,.fieldAddr 0 2 true (.t 2),none⟩,
 ⟨some 6,.load true 2 (.t 5),none⟩,
 ⟨some 7,.fieldAddr 2 2 true (.t 3),none⟩,
 ⟨some 8,.load true 2 (.t 7),none⟩,
 ⟨some 9,.call 52 [(.t 6),(.t 8)],none⟩]
def l84_3:List COp:=[
 ⟨some 10,.fieldAddr 0 2 true (.t 3),none⟩,
 ⟨some 11,.load true 2 (.t 10),none⟩,
 ⟨some 12,.fieldAddr 2 2 true (.t 2),none⟩,
 ⟨some 13,.load true 2 (.t 12),none⟩,
 ⟨some 14,.call 52 [(.t 11),(.t 13)],none⟩]
def l84_4:List COp:=[
 ⟨some 15,.call 98 [(.t 9),(.t 14)],none⟩]
def l84_5:List COp:=[
 ⟨some 16,.fieldAddr 2 2 true (.t 2),none⟩,
 ⟨some 17,.load true 2 (.t 16),none⟩,
 ⟨some 18,.fieldAddr 2 2 true (.t 3),none⟩,
 ⟨some 19,.load true 2 (.t 18),none⟩,
 ⟨some 20,.call 52 [(.t 17),(.t 19)],none⟩]
def l84_6:List COp:=[
 ⟨some 21,.call 77 [(.t 15),(.t 20)],none⟩]
def l84_7:List COp:=[
 ⟨none,.store 4 (.t 4) (.t 21),none⟩]
def c84_8:CC:=.ops [] (l84_2++(l84_3++(l84_4++(l84_5++(l84_6++(l84_7))))))
def c84_9:CC:=.seq c84_8 .ret
def c84_10:CC:=.seq c84_1 c84_9
def c84:CC:=c84_10
theorem fn84:FnOk Try.prog 84 [47] c84 [(4,some (true,4))] 22:=
 ⟨Try.f84,[⟨1,[0,1,2,3,4,5,6,7,8,9,10,11,12,13,14,15,16,17],[0,1,0,4,15,0,32,0,128,511,1023,0,2048,0,8192,32767,65535,131071],[]⟩],Try.func84,by kernel_rfl,by kernel_rfl,by kernel_rfl,by kernel_rfl,by kernel_rfl⟩
def l53_0:List COp:=[
 ⟨some 2,.box 47 4 (.t 0),none⟩,
 ⟨some 3,.box 47 4 (.t 1),none⟩,
 ⟨some 4,.alloc 47 4 (.p (.agg [(.bool false),(.list 3 1 []),(.bool false),(.list 3 1 [])])),none⟩]
def c53_1:CC:=.ops [] (l53_0)
def l53_2:List COp:=[
 ⟨some 5,.fieldAddr 0 2 true (.t 2),none⟩,
 ⟨some 6,.load true 2 (.t 5),none⟩,
 ⟨some 7,.fieldAddr 0 2 true (.t 3),none⟩,
 ⟨some 8,.load true 2 (.t 7),none⟩,
 ⟨some 9,.call 52 [(.t 6),(.t 8)],none⟩]
def l53_3:List COp:=[
 ⟨some 10,.fieldAddr 2 2 true (.t 2),none⟩,
 ⟨some 11,.load true 2 (.t 10),none⟩,
 ⟨some 12,.fieldAddr 2 2 true (.t 3),none⟩,
 ⟨some 13,.load true 2 (.t 12),none⟩,
 ⟨some 14,.call 52 [(.t 11),(.t 13)],none⟩]
def l53_4:List COp:=[
 ⟨some 15,.call 77 [(.t 9),(.t 14)],none⟩]
def l53_5:List COp:=[
 ⟨none,.store 4 (.t 4) (.t 15),none⟩]
def c53_6:CC:=.ops [] (l53_2++(l53_3++(l53_4++(l53_5))))
def c53_7:CC:=.seq c53_6 .ret
def c53_8:CC:=.seq c53_1 c53_7
def c53:CC:=c53_8
theorem fn53:FnOk Try.prog 53 [47] c53 [(4,some (true,4))] 16:=
 ⟨Try.f53,[⟨1,[0,1,2,3,4,5,6,7,8,9,10,11],[0,1,0,4,15,0,32,0,128,511,1023,2047],[]⟩],Try.func53,by kernel_rfl,by kernel_rfl,by kernel_rfl,by kernel_rfl,by kernel_rfl⟩
def l19_0:List COp:=[
 ⟨some 1,.box 47 4 (.t 0),none⟩,
 ⟨some 2,.alloc 47 4 (.p (.agg [(.bool false),(.list 3 1 []),(.bool false),(.list 3 1 [])])),none⟩]
def c19_1:CC:=.ops [] (l19_0)
def l19_2:List COp:=[
 ⟨some 3,.fieldAddr 0 2 true (.t 1),none⟩,
 ⟨some 4,.load true 2 (.t 3),none⟩,
 ⟨some 5,.call 55 [(.t 4)],none⟩]
def l19_3:List COp:=[
 ⟨some 6,.fieldAddr 2 2 true (.t 1),none⟩,
 ⟨some 7,.load true 2 (.t 6),none⟩,
 ⟨some 8,.build [(.p (.bool false)),(.p (.list 3 1 [])),(.p (.bool false)),(.p (.list 3 1 []))] [(0,2,(.t 5)),(2,2,(.t 7))],none⟩,
 ⟨none,.store 4 (.t 2) (.t 8),none⟩]
def c19_4:CC:=.ops [] (l19_2++(l19_3))
def c19_5:CC:=.seq c19_4 .ret
def c19_6:CC:=.seq c19_1 c19_5
def c19:CC:=c19_6
theorem fn19:FnOk Try.prog 19 [47] c19 [(2,some (true,4))] 9:=
 ⟨Try.f19,[⟨1,[0,1,2,3,4,5,6],[0,1,3,0,8,31,63],[]⟩],Try.func19,by kernel_rfl,by kernel_rfl,by kernel_rfl,by kernel_rfl,by kernel_rfl⟩
def l36_0:List COp:=[
 ⟨some 1,.box 47 4 (.t 0),none⟩,
 ⟨some 2,.mov (.k (.p (.int .i64 0))),none⟩]
def c36_1:CC:=.ops [] (l36_0)
def l36_2:List COp:=[
 ⟨some 3,.fieldAddr 0 2 true (.t 1),none⟩,
 ⟨some 4,.load true 2 (.t 3),none⟩,
 ⟨some 5,.call 78 [(.t 4)],none⟩]
def l36_3:List COp:=[
 ⟨some 2,.mov (.t 5),none⟩]
def c36_4:CC:=.ops [] (l36_2++(l36_3))
def c36_5:CC:=.seq c36_4 .ret
def c36_6:CC:=.seq c36_1 c36_5
def c36:CC:=c36_6
theorem fn36:FnOk Try.prog 36 [47] c36 [(2,none)] 6:=
 ⟨Try.f36,[],Try.func36,by kernel_rfl,by kernel_rfl,by kernel_rfl,by kernel_rfl,by kernel_rfl⟩
def l16_0:List COp:=[
 ⟨some 2,.box 47 4 (.t 0),none⟩,
 ⟨some 3,.box 47 4 (.t 1),none⟩,
 ⟨some 4,.alloc 47 4 (.p (.agg [(.bool false),(.list 3 1 []),(.bool false),(.list 3 1 [])])),none⟩,
 ⟨some 5,.alloc 27 2 (.p (.agg [(.int .i64 0),(.int .i64 0)])),none⟩]
def c16_1:CC:=.ops [] (l16_0)
def l16_2:List COp:=[
 ⟨some 6,.fieldAddr 0 2 true (.t 2),none⟩,
 ⟨some 7,.load true 2 (.t 6),none⟩,
 ⟨some 8,.fieldAddr 2 2 true (.t 3),none⟩,
 ⟨some 9,.load true 2 (.t 8),none⟩,
 ⟨some 10,.call 52 [(.t 7),(.t 9)],none⟩]
def l16_3:List COp:=[
 ⟨some 11,.fieldAddr 2 2 true (.t 2),none⟩,
 ⟨some 12,.load true 2 (.t 11),none⟩,
 ⟨some 13,.fieldAddr 0 2 true (.t 3),none⟩,
 ⟨some 14,.load true 2 (.t 13),none⟩,
 ⟨some 15,.call 52 [(.t 12),(.t 14)],none⟩]
def l16_4:List COp:=[
 ⟨some 16,.call 51 [(.t 10),(.t 15)],none⟩]
def l16_5:List COp:=[
 ⟨some 17,.extract (.t 16) 0,none⟩,
 ⟨some 18,.extract (.t 16) 1,none⟩,
 ⟨none,.store 4 (.t 4) (.t 17),none⟩,
 ⟨none,.store 2 (.t 5) (.t 18),none⟩]
def c16_6:CC:=.ops [] (l16_2++(l16_3++(l16_4++(l16_5))))
def c16_7:CC:=.seq c16_6 .ret
def c16_8:CC:=.seq c16_1 c16_7
def c16:CC:=c16_8
theorem fn16:FnOk Try.prog 16 [47,27] c16 [(4,some (true,4)),(5,some (true,2))] 19:=
 ⟨Try.f16,[⟨1,[0,1,2,3,4,5,6,7,8,9,10,11,12,13,14],[0,1,0,4,15,0,32,0,128,511,1023,2047,2047,8191,16383],[]⟩],Try.func16,by kernel_rfl,by kernel_rfl,by kernel_rfl,by kernel_rfl,by kernel_rfl⟩
def l77_0:List COp:=[
 ⟨some 2,.box 45 2 (.t 0),none⟩,
 ⟨some 3,.box 45 2 (.t 1),none⟩,
 ⟨some 4,.alloc 47 4 (.p (.agg [(.bool false),(.list 3 1 []),(.bool false),(.list 3 1 [])])),none⟩]
def c77_1:CC:=.ops [] (l77_0)
def l77_2:List COp:=[
 ⟨some 8,.load true 2 (.t 2),none⟩,
 ⟨some 9,.load true 2 (.t 3),none⟩,
 ⟨some 10,.call 51 [(.t 8),(.t 9)],none⟩]
def l77_3:List COp:=[
 ⟨some 7,.mov (.t 10),none⟩,
 ⟨some 11,.extract (.t 7) 0,none⟩,
 ⟨some 12,.extract (.t 7) 1,none⟩,
 ⟨some 5,.alloc 47 4 (.p (.agg [(.bool false),(.list 3 1 []),(.bool false),(.list 3 1 [])])),none⟩,
 ⟨some 6,.alloc 27 2 (.p (.agg [(.int .i64 0),(.int .i64 0)])),none⟩,
 ⟨none,.store 4 (.t 5) (.t 11),none⟩,
 ⟨none,.store 2 (.t 6) (.t 12),none⟩]
def c77_4:CC:=.ops [] (l77_2++(l77_3))
def l77_5:List COp:=[
 ⟨some 13,.load true 4 (.t 5),none⟩,
 ⟨none,.store 4 (.t 4) (.t 13),none⟩]
def c77_6:CC:=.ops [] (l77_5)
def c77_7:CC:=.seq c77_6 .ret
def c77_8:CC:=.seq c77_4 c77_7
def c77_9:CC:=.seq c77_1 c77_8
def c77:CC:=c77_9
theorem fn77:FnOk Try.prog 77 [45,47,27] c77 [(4,some (true,4))] 14:=
 ⟨Try.f77,[],Try.func77,by kernel_rfl,by kernel_rfl,by kernel_rfl,by kernel_rfl,by kernel_rfl⟩
end Go.Proofs.Ytdjbfgfbpimakaa.M
end

section
namespace Go.Proofs.Ytdjbfgfbpimakaa.M
open Go.RowKit
def look:List (Nat × AV)→Nat→AV
 | [],_ => .und
 | (i,v)::l,t=>if t=i then v else look l t
def lookM:List (Nat × AObj)→Mem
 | [],_=>none
 | (i,v)::l,t=>if t=i then some v else lookM l t
def setR (t:Nat) (v:AV):List (Nat × AV)→List (Nat × AV)
 | []=>[(t,v)]
 | (i,u)::l=>if i=t then (t,v)::l else (i,u)::setR t v l
def setM (t:Nat) (v:AObj):List (Nat × AObj)→List (Nat × AObj)
 | []=>[(t,v)]
 | (i,u)::l=>if i=t then (t,v)::l else (i,u)::setM t v l
def sel (r:Nat→AV):List Nat→List (Nat × AV)
 | []=>[]
 | t::l=>(t,r t)::sel r l
theorem look_nil (t:Nat):look [] t = .und:=rfl
theorem look_cons (i:Nat) (v:AV) (l:List (Nat × AV)) (t:Nat):look ((i,v)::l) t=if t=i then v else look l t:=rfl
theorem lookM_nil (t:Nat):lookM [] t=none:=rfl
theorem lookM_cons (i:Nat) (v:AObj) (l:List (Nat × AObj)) (t:Nat):lookM ((i,v)::l) t=if t=i then some v else lookM l t:=rfl
theorem setR_nil (t:Nat) (v:AV):setR t v []=[(t,v)]:=rfl
theorem setR_cons (t:Nat) (v:AV) (i:Nat) (u:AV) (l:List (Nat × AV)):setR t v ((i,u)::l)=if i=t then (t,v)::l else (i,u)::setR t v l:=rfl
theorem setM_nil (t:Nat) (v:AObj):setM t v []=[(t,v)]:=rfl
theorem setM_cons (t:Nat) (v:AObj) (i:Nat) (u:AObj) (l:List (Nat × AObj)):setM t v ((i,u)::l)=if i=t then (t,v)::l else (i,u)::setM t v l:=rfl
theorem sel_nil (r:Nat→AV):sel r []=[]:=rfl
theorem sel_cons (r:Nat→AV) (t:Nat) (l:List Nat):sel r (t::l)=(t,r t)::sel r l:=rfl
theorem upd_look (t:Nat) (v:AV):∀ (l:List (Nat × AV)),upd (look l) t v=look (setR t v l)
 | []=>by funext j;simp only[upd,setR_nil,look_cons,look_nil]
 | (i,u)::l=>by
  funext j
  have ih:=congrFun (upd_look t v l) j
  simp only[upd] at ih
  simp only[upd,setR_cons,look_cons]
  by_cases hit:i=t
  ·subst hit
   rw[if_pos rfl,look_cons]
   split
   ·rfl
   ·rfl
  ·rw[if_neg hit,look_cons,←ih]
   by_cases hj:j=t
   ·subst hj
    rw[if_pos rfl,if_neg (fun e=>hit e.symm),if_pos rfl]
   ·rw[if_neg hj,if_neg hj]
theorem upd_lookM (t:Nat) (v:AObj):∀ (l:List (Nat × AObj)),upd (lookM l) t (some v)=lookM (setM t v l)
 | []=>by funext j;simp only[upd,setM_nil,lookM_cons,lookM_nil]
 | (i,u)::l=>by
  funext j
  have ih:=congrFun (upd_lookM t v l) j
  simp only[upd] at ih
  simp only[upd,setM_cons,lookM_cons]
  by_cases hit:i=t
  ·subst hit
   rw[if_pos rfl,lookM_cons]
   split
   ·rfl
   ·rfl
  ·rw[if_neg hit,lookM_cons,←ih]
   by_cases hj:j=t
   ·subst hj
    rw[if_pos rfl,if_neg (fun e=>hit e.symm),if_pos rfl]
   ·rw[if_neg hj,if_neg hj]
theorem sel_or {r:Nat→AV}:∀ (ts:List Nat) (t:Nat),look (sel r ts) t = .und∨look (sel r ts) t=r t
 | [],_ => .inl rfl
 | i::ts,t=>by
  rw[sel_cons,look_cons]
  split
  ·rename_i e;subst e;exact .inr rfl
  ·exact sel_or ts t
section
variable {s t:St} {r:Nat→AV} {m:Mem} {OT:List TypeId}
theorem Sub.und {r':Nat→AV} (h:∀ t,r' t = .und∨r' t=r t):Sub OT ⟨r,m⟩ ⟨r',m⟩:=by
 rintro C a w-⟨⟨loc,hr⟩,h2⟩
 refine⟨⟨loc,hr.ext,hr.defers,hr.size,hr.low,hr.dom,fun t => ?_,hr.objs,hr.inj⟩,h2⟩
 rcases h t with e | e<;>simp only[e]
 ·exact .und _
 ·exact hr.tmps t
theorem Sub.nil {T sz:Nat} (i id:Nat) (hi:r i = .nils T sz) (hm:m id=none) (hT:T∈OT):Sub OT ⟨r,m⟩ ⟨upd r i (.slice id 0 0),upd m id (some ⟨T,sz,.row [],false⟩)⟩:=by
 rintro C a w rfl ⟨⟨loc,hr⟩,h2⟩
 have h':=hr.allocNil hm T sz
 refine⟨⟨_,h'.ext,h'.defers,h'.size,h'.low,h'.dom,fun t => ?_,h'.objs,h'.inj⟩,fun j o ho => ?_⟩
 ·by_cases e:t=i
  ·subst e
   have hv:RV w (NB C.base m loc w) loc (a.tmps.getD t undef) (r t):=hr.tmps t
   rw[hi] at hv
   simp only[upd_same]
   generalize a.tmps.getD t undef=v at hv
   cases hv with
   | nils=>exact .sliceEmp _ id 0 none (upd_same _ _ _)
  ·simp only[upd_ne _ _ e]
   exact h'.tmps t
 ·by_cases e:j=id
  ·subst e
   simp only[upd_same,Option.some.injEq] at ho
   subst ho
   exact hT
  ·simp only[upd_ne _ _ e] at ho
   exact h2 j o ho
theorem keep (ts:List Nat) {R:St→Prop} (h:R ⟨look (sel r ts),m⟩):∃ u,Sub OT ⟨r,m⟩ u∧R u:=⟨_,Sub.und (sel_or ts),h⟩
theorem init1 (a:D):init [a]=⟨look [(0,.p a)],lookM []⟩:=by
 unfold init;congr 1;funext t
 match t with
 | 0=>rfl
 | t+1=>simp[look_cons,look_nil]
theorem init2 (a b:D):init [a,b]=⟨look [(0,.p a),(1,.p b)],lookM []⟩:=by
 unfold init;congr 1;funext t
 match t with
 | 0 | 1=>rfl
 | t+2=>simp[look_cons,look_nil]
theorem dc_bool (b:Bool):D.cells (.bool b)=[.bool b]:=rfl
theorem do_bool (b:Bool):D.one (.bool b)=true:=rfl
theorem da_bool (b:Bool):D.isAgg (.bool b)=false:=rfl
theorem dc_int (k:IntKind) (n:Int):D.cells (.int k n)=[.int k n]:=rfl
theorem do_int (k:IntKind) (n:Int):D.one (.int k n)=true:=rfl
theorem da_int (k:IntKind) (n:Int):D.isAgg (.int k n)=false:=rfl
theorem dc_str (s:List UInt8):D.cells (.str s)=[.str s]:=rfl
theorem do_str (s:List UInt8):D.one (.str s)=true:=rfl
theorem da_str (s:List UInt8):D.isAgg (.str s)=false:=rfl
theorem dc_list (T:TypeId) (sz:Nat) (l:List D):D.cells (.list T sz l)=[.list T sz l]:=rfl
theorem do_list (T:TypeId) (sz:Nat) (l:List D):D.one (.list T sz l)=true:=rfl
theorem da_list (T:TypeId) (sz:Nat) (l:List D):D.isAgg (.list T sz l)=false:=rfl
theorem dc_nilp :D.cells .nilp=[.nilp]:=rfl
theorem do_nilp :D.one .nilp=true:=rfl
theorem da_nilp :D.isAgg .nilp=false:=rfl
theorem dc_ref (d:D):D.cells (.ref d)=[.ref d]:=rfl
theorem do_ref (d:D):D.one (.ref d)=true:=rfl
theorem da_ref (d:D):D.isAgg (.ref d)=false:=rfl
theorem dc_fn (f:Fn) (x y:List D):D.cells (.fn f x y)=[.fn f x y]:=rfl
theorem do_fn (f:Fn) (x y:List D):D.one (.fn f x y)=true:=rfl
theorem da_fn (f:Fn) (x y:List D):D.isAgg (.fn f x y)=false:=rfl
theorem dc_agg (l:List D):D.cells (.agg l)=l:=rfl
theorem do_agg (l:List D):D.one (.agg l)=false:=rfl
theorem da_agg (l:List D):D.isAgg (.agg l)=true:=rfl
theorem ac_p (d:D):AV.cells (.p d)=d.cells.map AV.p:=rfl
theorem ao_p (d:D):AV.one (.p d)=d.one:=rfl
theorem aa_p (d:D):AV.isAgg (.p d)=some d.isAgg:=rfl
theorem ac_agg (l:List AV):AV.cells (.agg l)=l:=rfl
theorem aa_agg (l:List AV):AV.isAgg (.agg l)=some true:=rfl
theorem ao_agg (l:List AV):AV.one (.agg l)=false:=rfl
theorem ac_slice (i o n:Nat):AV.cells (.slice i o n)=[.slice i o n]:=rfl
theorem ao_slice (i o n:Nat):AV.one (.slice i o n)=true:=rfl
theorem aa_slice (i o n:Nat):AV.isAgg (.slice i o n)=some false:=rfl
theorem ac_ptr (i j o:Nat):AV.cells (.ptr i j o)=[.ptr i j o]:=rfl
theorem ao_ptr (i j o:Nat):AV.one (.ptr i j o)=true:=rfl
theorem aa_ptr (i j o:Nat):AV.isAgg (.ptr i j o)=some false:=rfl
theorem ac_nils (T:TypeId) (sz:Nat):AV.cells (.nils T sz)=[.nils T sz]:=rfl
theorem ao_nils (T:TypeId) (sz:Nat):AV.one (.nils T sz)=true:=rfl
theorem aa_nils (T:TypeId) (sz:Nat):AV.isAgg (.nils T sz)=some false:=rfl
theorem init0:init []=⟨look [],lookM []⟩:=rfl
theorem cops_app (G:FuncId→List D→D→Prop) (K:St→Prop):∀ (l l':List COp) (s:St),cops G (l++l') K s=cops G l (cops G l' K) s
 | [],_,_=>rfl
 | c::l,l',s=>by
  have:(fun t=>cops G (l++l') K t)=cops G l (cops G l' K):=funext fun t=>cops_app G K l l' t
  show gstep G c (fun t=>cops G (l++l') K t) s=gstep G c (cops G l (cops G l' K)) s
  rw[this]
theorem loop_of {G:FuncId→List D→D→Prop} {a:CC} {Q:AExit→St→Prop} {s:St} {ι:Type} (p:ι→Prop) (I:ι→St) (μ:ι→Nat) (i0:ι) (h0:p i0) (hs:Sub OT s (I i0))
  (round:∀ i,p i→cw OT G a (fun e t=>match e with
   | .normal => ∃ j,p j∧Sub OT t (I j)∧μ j<μ i
   | e=>Q e t) (I i)):cw OT G (.loop a) Q s:=
 ⟨{i // p i},fun i=>I i.1,fun i=>μ i.1,⟨i0,h0⟩,hs,fun i=>by
  have:=round i.1 i.2
  have e:(fun (e:AExit) (t:St)=>match e with
   | .normal => ∃ j,p j∧Sub OT t (I j)∧μ j<μ i.1
   | e=>Q e t)=(fun e t=>match e with
   | .normal => ∃ j:{i // p i},Sub OT t (I j.1)∧μ j.1<μ i.1
   | e=>Q e t):=by
   funext e t
   cases e with
   | normal=>exact propext ⟨fun ⟨j,h1,h2⟩=>⟨⟨j,h1⟩,h2⟩,fun ⟨j,h⟩=>⟨j.1,j.2,h⟩⟩
   | _=>rfl
  rw[e] at this
  exact this⟩
theorem getD_I (l:List Int) (i:Nat):(l.map (D.int .i64)).getD i default=D.int .i64 (l.getD i 0):=by
 rw[List.getD_eq_getElem?_getD,List.getD_eq_getElem?_getD,List.getElem?_map]
 cases l[i]?<;>rfl
theorem set_I (l:List Int) (i:Nat) (x:Int):(l.map (D.int .i64)).set i (D.int .i64 x)=(l.set i x).map (D.int .i64):=List.map_set.symm
theorem rep_I (n:Nat) (x:Int):List.replicate n (D.int .i64 x)=(List.replicate n x).map (D.int .i64):=List.map_replicate.symm
theorem take_I (l:List Int) (n:Nat):(l.map (D.int .i64)).take n=(l.take n).map (D.int .i64):=List.map_take.symm
theorem drop_I (l:List Int) (n:Nat):(l.map (D.int .i64)).drop n=(l.drop n).map (D.int .i64):=List.map_drop.symm
theorem app_I (l m:List Int):l.map (D.int .i64)++m.map (D.int .i64)=(l++m).map (D.int .i64):=List.map_append.symm
theorem cast0:((0:Nat):Int)=0:=rfl
theorem toNat1 (n:Nat):((n:Int)+1).toNat=n+1:=by omega
theorem cast1 (n:Nat):((n+1:Nat):Int)=(n:Int)+1:=rfl
end
end Go.Proofs.Ytdjbfgfbpimakaa.M
end

section
namespace Go.Proofs.Ytdjbfgfbpimakaa.M
open Go.RowKit
def l33_0:List COp:=[
 ⟨some 2,.alloc 25 1 (.p (.agg [(.list 39 4 [])])),none⟩]
def c33_1:CC:=.ops [] (l33_0)
def l33_2:List COp:=[
 ⟨some 4,.mov (.t 0),none⟩,
 ⟨some 5,.len (.t 4),none⟩,
 ⟨some 3,.mov (.t 5),none⟩]
def c33_3:CC:=.ops [] (l33_2)
def l33_4:List COp:=[
 ⟨some 6,.mov (.t 3),none⟩,
 ⟨some 7,.bin false .gtr (.t 6) (.k (.p (.int .i64 0))),none⟩,
 ⟨some 8,.mov (.t 7),none⟩,
 ⟨some 9,.mov (.t 0),some (8,true)⟩,
 ⟨some 10,.mov (.t 3),some (8,true)⟩,
 ⟨some 11,.bin false .sub (.t 10) (.k (.p (.int .i64 1))),some (8,true)⟩,
 ⟨some 12,.indexAddr 4 (.t 9) (.t 11),some (8,true)⟩,
 ⟨some 13,.load true 4 (.t 12),some (8,true)⟩,
 ⟨some 14,.call 15 [(.t 13)],some (8,true)⟩]
def l33_5:List COp:=[
 ⟨some 15,.bin false .eql (.t 14) (.k (.p (.int .i64 0))),some (8,true)⟩,
 ⟨some 16,.pick (.t 8) (.t 15) (.k (.p (.bool false))),none⟩]
def c33_6:CC:=.ops [] (l33_4++(l33_5))
def c33_7:CC:=.cond (.t 16) .skip (.exit 0)
def c33_8:CC:=.seq c33_6 c33_7
def l33_9:List COp:=[
 ⟨some 17,.mov (.t 3),none⟩,
 ⟨some 18,.bin false .sub (.t 17) (.k (.p (.int .i64 1))),none⟩,
 ⟨some 3,.mov (.t 18),none⟩]
def c33_10:CC:=.ops [] (l33_9)
def c33_11:CC:=.block 1 c33_10
def c33_12:CC:=.seq c33_8 c33_11
def c33_13:CC:=.loop c33_12
def c33_14:CC:=.block 0 c33_13
def l33_15:List COp:=[
 ⟨some 19,.mov (.t 0),none⟩,
 ⟨some 20,.mov (.t 3),none⟩,
 ⟨some 21,.mov (.t 3),none⟩,
 ⟨some 22,.slice 4 (.t 19) none (some (.t 20)) (some (.t 21)),none⟩,
 ⟨some 23,.build [(.p (.list 39 4 []))] [(0,1,(.t 22))],none⟩,
 ⟨none,.store 1 (.t 2) (.t 23),none⟩]
def c33_16:CC:=.ops [] (l33_15)
def c33_17:CC:=.seq c33_16 .ret
def c33_18:CC:=.seq c33_14 c33_17
def c33_19:CC:=.seq c33_3 c33_18
def c33_20:CC:=.seq c33_1 c33_19
def c33:CC:=c33_20
theorem fn33:FnOk Try.prog 33 [25] c33 [(2,some (true,1))] 24:=
 ⟨Try.f33,[],Try.func33,by kernel_rfl,by kernel_rfl,by kernel_rfl,by kernel_rfl,by kernel_rfl⟩
def l71_0:List COp:=[
 ⟨some 2,.box 25 1 (.t 0),none⟩,
 ⟨some 4,.alloc 39 4 (.p (.agg [(.bool false),(.list 116 1 []),(.bool false),(.list 116 1 [])])),none⟩]
def c71_1:CC:=.ops [] (l71_0)
def l71_2:List COp:=[
 ⟨some 5,.mov (.t 1),none⟩,
 ⟨some 6,.bin false .lss (.t 5) (.k (.p (.int .i64 0))),none⟩,
 ⟨some 7,.mov (.t 6),none⟩,
 ⟨some 8,.mov (.t 1),some (7,false)⟩,
 ⟨some 9,.fieldAddr 0 1 false (.t 2),some (7,false)⟩,
 ⟨some 10,.load false 1 (.t 9),some (7,false)⟩,
 ⟨some 11,.len (.t 10),some (7,false)⟩,
 ⟨some 12,.bin false .geq (.t 8) (.t 11),some (7,false)⟩,
 ⟨some 13,.pick (.t 7) (.k (.p (.bool true))) (.t 12),none⟩]
def c71_3:CC:=.ops [] (l71_2)
def l71_4:List COp:=[
 ⟨some 14,.build [(.p (.bool false)),(.p (.list 116 1 [])),(.p (.bool false)),(.p (.list 116 1 []))] [],none⟩,
 ⟨none,.store 4 (.t 4) (.t 14),none⟩]
def c71_5:CC:=.ops [] (l71_4)
def c71_6:CC:=.seq c71_5 .ret
def c71_7:CC:=.cond (.t 13) c71_6 .skip
def c71_8:CC:=.seq c71_3 c71_7
def l71_9:List COp:=[
 ⟨some 15,.fieldAddr 0 1 false (.t 2),none⟩,
 ⟨some 16,.load false 1 (.t 15),none⟩,
 ⟨some 17,.mov (.t 1),none⟩,
 ⟨some 18,.indexAddr 4 (.t 16) (.t 17),none⟩,
 ⟨some 19,.load true 4 (.t 18),none⟩,
 ⟨none,.store 4 (.t 4) (.t 19),none⟩]
def c71_10:CC:=.ops [] (l71_9)
def c71_11:CC:=.seq c71_10 .ret
def c71_12:CC:=.seq c71_8 c71_11
def c71_13:CC:=.seq c71_1 c71_12
def c71:CC:=c71_13
theorem fn71:FnOk Try.prog 71 [25,39] c71 [(4,some (true,4))] 20:=
 ⟨Try.f71,[],Try.func71,by kernel_rfl,by kernel_rfl,by kernel_rfl,by kernel_rfl,by kernel_rfl⟩
def l42_0:List COp:=[
 ⟨some 1,.box 25 1 (.t 0),none⟩,
 ⟨some 2,.alloc 39 4 (.p (.agg [(.bool false),(.list 116 1 []),(.bool false),(.list 116 1 [])])),none⟩]
def c42_1:CC:=.ops [] (l42_0)
def l42_2:List COp:=[
 ⟨some 3,.load true 1 (.t 1),none⟩,
 ⟨some 4,.fieldAddr 0 1 false (.t 1),none⟩,
 ⟨some 5,.load false 1 (.t 4),none⟩,
 ⟨some 6,.len (.t 5),none⟩,
 ⟨some 7,.bin false .sub (.t 6) (.k (.p (.int .i64 1))),none⟩,
 ⟨some 8,.call 71 [(.t 3),(.t 7)],none⟩]
def l42_3:List COp:=[
 ⟨none,.store 4 (.t 2) (.t 8),none⟩]
def c42_4:CC:=.ops [] (l42_2++(l42_3))
def c42_5:CC:=.seq c42_4 .ret
def c42_6:CC:=.seq c42_1 c42_5
def c42:CC:=c42_6
theorem fn42:FnOk Try.prog 42 [25,39] c42 [(2,some (true,4))] 9:=
 ⟨Try.f42,[],Try.func42,by kernel_rfl,by kernel_rfl,by kernel_rfl,by kernel_rfl,by kernel_rfl⟩
def l22_0:List COp:=[
 ⟨some 1,.box 25 1 (.t 0),none⟩,
 ⟨some 2,.mov (.k (.p (.int .i64 0))),none⟩]
def c22_1:CC:=.ops [] (l22_0)
def l22_2:List COp:=[
 ⟨some 3,.fieldAddr 0 1 false (.t 1),none⟩,
 ⟨some 4,.load false 1 (.t 3),none⟩,
 ⟨some 5,.len (.t 4),none⟩,
 ⟨some 6,.bin false .sub (.t 5) (.k (.p (.int .i64 1))),none⟩,
 ⟨some 2,.mov (.t 6),none⟩]
def c22_3:CC:=.ops [] (l22_2)
def c22_4:CC:=.seq c22_3 .ret
def c22_5:CC:=.seq c22_1 c22_4
def c22:CC:=c22_5
theorem fn22:FnOk Try.prog 22 [25] c22 [(2,none)] 7:=
 ⟨Try.f22,[],Try.func22,by kernel_rfl,by kernel_rfl,by kernel_rfl,by kernel_rfl,by kernel_rfl⟩
def l32_0:List COp:=[
 ⟨some 4,.alloc 27 2 (.p (.agg [(.int .i64 0),(.int .i64 0)])),none⟩]
def c32_1:CC:=.ops [] (l32_0)
def l32_2:List COp:=[
 ⟨some 5,.mov (.t 0),none⟩,
 ⟨some 6,.mov (.t 1),none⟩,
 ⟨some 7,.build [(.p (.int .i64 0)),(.p (.int .i64 0))] [(0,1,(.t 5)),(1,1,(.t 6))],none⟩,
 ⟨none,.store 2 (.t 4) (.t 7),none⟩]
def c32_3:CC:=.ops [] (l32_2)
def c32_4:CC:=.seq c32_3 .ret
def c32_5:CC:=.seq c32_1 c32_4
def c32:CC:=c32_5
theorem fn32:FnOk Try.prog 32 [27] c32 [(4,some (true,2))] 8:=
 ⟨Try.f32,[],Try.func32,by kernel_rfl,by kernel_rfl,by kernel_rfl,by kernel_rfl,by kernel_rfl⟩
def l6_0:List COp:=[
 ⟨some 2,.alloc 25 1 (.p (.agg [(.list 39 4 [])])),none⟩,
 ⟨some 3,.alloc 27 2 (.p (.agg [(.int .i64 0),(.int .i64 0)])),none⟩]
def c6_1:CC:=.ops [] (l6_0)
def l6_2:List COp:=[
 ⟨some 10,.mov (.t 0),none⟩,
 ⟨some 11,.len (.t 10),none⟩,
 ⟨some 12,.bin false .gtr (.t 11) (.k (.p (.int .i64 201))),none⟩]
def c6_3:CC:=.ops [] (l6_2)
def l6_4:List COp:=[
 ⟨some 13,.build [(.p (.list 39 4 []))] [],none⟩,
 ⟨some 14,.call 32 [(.k (.p (.int .i64 9))),(.k (.p (.int .i64 0)))],none⟩]
def l6_5:List COp:=[
 ⟨none,.store 1 (.t 2) (.t 13),none⟩,
 ⟨none,.store 2 (.t 3) (.t 14),none⟩]
def c6_6:CC:=.ops [] (l6_4++(l6_5))
def c6_7:CC:=.seq c6_6 .ret
def c6_8:CC:=.cond (.t 12) c6_7 .skip
def c6_9:CC:=.seq c6_3 c6_8
def l6_10:List COp:=[
 ⟨some 4,.mov (.k (.nils 39 4)),none⟩]
def c6_11:CC:=.ops [] (l6_10)
def l6_12:List COp:=[
 ⟨some 15,.mov (.t 0),none⟩,
 ⟨some 16,.len (.t 15),none⟩,
 ⟨some 17,.mov (.k (.p (.int .i64 0))),none⟩]
def c6_13:CC:=.ops [] (l6_12)
def l6_14:List COp:=[
 ⟨some 18,.bin false .lss (.t 17) (.t 16),none⟩]
def c6_15:CC:=.ops [] (l6_14)
def c6_16:CC:=.cond (.t 18) .skip (.exit 0)
def l6_17:List COp:=[
 ⟨some 19,.mov (.t 17),none⟩,
 ⟨some 20,.indexAddr 1 (.t 15) (.t 17),none⟩,
 ⟨some 21,.load false 1 (.t 20),none⟩,
 ⟨some 5,.mov (.t 19),none⟩,
 ⟨some 6,.mov (.t 21),none⟩]
def c6_18:CC:=.ops [] (l6_17)
def l6_19:List COp:=[
 ⟨some 23,.mov (.t 6),none⟩,
 ⟨some 24,.call 20 [(.t 23)],none⟩]
def l6_20:List COp:=[
 ⟨some 22,.mov (.t 24),none⟩,
 ⟨some 25,.extract (.t 22) 0,none⟩,
 ⟨some 26,.extract (.t 22) 1,none⟩,
 ⟨some 7,.alloc 39 4 (.p (.agg [(.bool false),(.list 116 1 []),(.bool false),(.list 116 1 [])])),none⟩,
 ⟨some 8,.alloc 27 2 (.p (.agg [(.int .i64 0),(.int .i64 0)])),none⟩,
 ⟨none,.store 4 (.t 7) (.t 25),none⟩,
 ⟨none,.store 2 (.t 8) (.t 26),none⟩]
def c6_21:CC:=.ops [] (l6_19++(l6_20))
def l6_22:List COp:=[
 ⟨some 27,.fieldAddr 0 1 false (.t 8),none⟩,
 ⟨some 28,.load false 1 (.t 27),none⟩,
 ⟨some 29,.bin false .neq (.t 28) (.k (.p (.int .i64 0))),none⟩]
def c6_23:CC:=.ops [] (l6_22)
def l6_24:List COp:=[
 ⟨some 30,.build [(.p (.list 39 4 []))] [],none⟩,
 ⟨some 31,.fieldAddr 0 1 false (.t 8),none⟩,
 ⟨some 32,.load false 1 (.t 31),none⟩,
 ⟨some 33,.mov (.t 5),none⟩,
 ⟨some 34,.call 32 [(.t 32),(.t 33)],none⟩]
def l6_25:List COp:=[
 ⟨none,.store 1 (.t 2) (.t 30),none⟩,
 ⟨none,.store 2 (.t 3) (.t 34),none⟩]
def c6_26:CC:=.ops [] (l6_24++(l6_25))
def c6_27:CC:=.seq c6_26 .ret
def c6_28:CC:=.cond (.t 29) c6_27 .skip
def c6_29:CC:=.seq c6_23 c6_28
def l6_30:List COp:=[
 ⟨some 35,.mov (.t 4),none⟩,
 ⟨some 36,.load true 4 (.t 7),none⟩,
 ⟨some 37,.buildSlice 39 4 (.agg [(.bool false),(.list 116 1 []),(.bool false),(.list 116 1 [])]) 1 [(0,(.t 36))],none⟩,
 ⟨some 38,.append 39 4 64 (.t 35) (.t 37),none⟩,
 ⟨some 4,.mov (.t 38),none⟩]
def c6_31:CC:=.ops [] (l6_30)
def c6_32:CC:=.seq c6_29 c6_31
def c6_33:CC:=.seq c6_21 c6_32
def c6_34:CC:=.seq c6_18 c6_33
def c6_35:CC:=.block 1 c6_34
def l6_36:List COp:=[
 ⟨some 39,.bin false .add (.t 17) (.k (.p (.int .i64 1))),none⟩,
 ⟨some 17,.mov (.t 39),none⟩]
def c6_37:CC:=.ops [] (l6_36)
def c6_38:CC:=.seq c6_35 c6_37
def c6_39:CC:=.seq c6_16 c6_38
def c6_40:CC:=.seq c6_15 c6_39
def c6_41:CC:=.loop c6_40
def c6_42:CC:=.block 0 c6_41
def c6_43:CC:=.seq c6_13 c6_42
def l6_44:List COp:=[
 ⟨some 40,.mov (.t 4),none⟩,
 ⟨some 41,.len (.t 40),none⟩,
 ⟨some 9,.mov (.t 41),none⟩]
def c6_45:CC:=.ops [] (l6_44)
def l6_46:List COp:=[
 ⟨some 42,.mov (.t 9),none⟩,
 ⟨some 43,.bin false .gtr (.t 42) (.k (.p (.int .i64 0))),none⟩,
 ⟨some 44,.mov (.t 43),none⟩,
 ⟨some 45,.mov (.t 4),some (44,true)⟩,
 ⟨some 46,.mov (.t 9),some (44,true)⟩,
 ⟨some 47,.bin false .sub (.t 46) (.k (.p (.int .i64 1))),some (44,true)⟩,
 ⟨some 48,.indexAddr 4 (.t 45) (.t 47),some (44,true)⟩,
 ⟨some 49,.load true 4 (.t 48),some (44,true)⟩,
 ⟨some 50,.call 15 [(.t 49)],some (44,true)⟩]
def l6_47:List COp:=[
 ⟨some 51,.bin false .eql (.t 50) (.k (.p (.int .i64 0))),some (44,true)⟩,
 ⟨some 52,.pick (.t 44) (.t 51) (.k (.p (.bool false))),none⟩]
def c6_48:CC:=.ops [] (l6_46++(l6_47))
def l6_49:List COp:=[
 ⟨some 53,.build [(.p (.list 39 4 []))] [],none⟩,
 ⟨some 54,.mov (.t 9),none⟩,
 ⟨some 55,.bin false .sub (.t 54) (.k (.p (.int .i64 1))),none⟩,
 ⟨some 56,.call 32 [(.k (.p (.int .i64 3))),(.t 55)],none⟩]
def l6_50:List COp:=[
 ⟨none,.store 1 (.t 2) (.t 53),none⟩,
 ⟨none,.store 2 (.t 3) (.t 56),none⟩]
def c6_51:CC:=.ops [] (l6_49++(l6_50))
def c6_52:CC:=.seq c6_51 .ret
def c6_53:CC:=.cond (.t 52) c6_52 .skip
def c6_54:CC:=.seq c6_48 c6_53
def c6_55:CC:=.seq c6_45 c6_54
def l6_56:List COp:=[
 ⟨some 57,.mov (.t 4),none⟩,
 ⟨some 58,.call 33 [(.t 57)],none⟩]
def l6_57:List COp:=[
 ⟨some 59,.build [(.p (.int .i64 0)),(.p (.int .i64 0))] [],none⟩,
 ⟨none,.store 1 (.t 2) (.t 58),none⟩,
 ⟨none,.store 2 (.t 3) (.t 59),none⟩]
def c6_58:CC:=.ops [] (l6_56++(l6_57))
def c6_59:CC:=.seq c6_58 .ret
def c6_60:CC:=.seq c6_55 c6_59
def c6_61:CC:=.seq c6_43 c6_60
def c6_62:CC:=.seq c6_11 c6_61
def c6_63:CC:=.seq c6_9 c6_62
def c6_64:CC:=.seq c6_1 c6_63
def c6:CC:=c6_64
theorem fn6:FnOk Try.prog 6 [25,27,39] c6 [(2,some (true,1)),(3,some (true,2))] 60:=
 ⟨Try.f6,[],Try.func6,by kernel_rfl,by kernel_rfl,by kernel_rfl,by kernel_rfl,by kernel_rfl⟩
def l41_0:List COp:=[
 ⟨some 2,.box 25 1 (.t 0),none⟩,
 ⟨some 3,.box 25 1 (.t 1),none⟩,
 ⟨some 4,.alloc 25 1 (.p (.agg [(.list 39 4 [])])),none⟩,
 ⟨some 5,.alloc 25 1 (.p (.agg [(.list 39 4 [])])),none⟩,
 ⟨some 6,.alloc 27 2 (.p (.agg [(.int .i64 0),(.int .i64 0)])),none⟩]
def c41_1:CC:=.ops [] (l41_0)
def l41_2:List COp:=[
 ⟨some 14,.fieldAddr 0 1 false (.t 3),none⟩,
 ⟨some 15,.load false 1 (.t 14),none⟩,
 ⟨some 16,.len (.t 15),none⟩,
 ⟨some 17,.bin false .eql (.t 16) (.k (.p (.int .i64 0))),none⟩]
def c41_3:CC:=.ops [] (l41_2)
def l41_4:List COp:=[
 ⟨some 18,.build [(.p (.list 39 4 []))] [],none⟩,
 ⟨some 19,.build [(.p (.list 39 4 []))] [],none⟩,
 ⟨some 20,.call 32 [(.k (.p (.int .i64 4))),(.k (.p (.int .i64 0)))],none⟩]
def l41_5:List COp:=[
 ⟨none,.store 1 (.t 4) (.t 18),none⟩,
 ⟨none,.store 1 (.t 5) (.t 19),none⟩,
 ⟨none,.store 2 (.t 6) (.t 20),none⟩]
def c41_6:CC:=.ops [] (l41_4++(l41_5))
def c41_7:CC:=.seq c41_6 .ret
def c41_8:CC:=.cond (.t 17) c41_7 .skip
def c41_9:CC:=.seq c41_3 c41_8
def l41_10:List COp:=[
 ⟨some 21,.fieldAddr 0 1 false (.t 2),none⟩,
 ⟨some 22,.load false 1 (.t 21),none⟩,
 ⟨some 23,.append 39 4 64 (.k (.nils 39 4)) (.t 22),none⟩,
 ⟨some 7,.mov (.t 23),none⟩]
def c41_11:CC:=.ops [] (l41_10)
def l41_12:List COp:=[
 ⟨some 24,.mov (.t 7),none⟩,
 ⟨some 25,.len (.t 24),none⟩,
 ⟨some 26,.fieldAddr 0 1 false (.t 3),none⟩,
 ⟨some 27,.load false 1 (.t 26),none⟩,
 ⟨some 28,.len (.t 27),none⟩,
 ⟨some 29,.bin false .lss (.t 25) (.t 28),none⟩]
def c41_13:CC:=.ops [] (l41_12)
def l41_14:List COp:=[
 ⟨some 31,.load true 1 (.t 2),none⟩,
 ⟨some 30,.build [(.p (.list 39 4 []))] [],none⟩,
 ⟨some 32,.build [(.p (.int .i64 0)),(.p (.int .i64 0))] [],none⟩,
 ⟨none,.store 1 (.t 4) (.t 30),none⟩,
 ⟨none,.store 1 (.t 5) (.t 31),none⟩,
 ⟨none,.store 2 (.t 6) (.t 32),none⟩]
def c41_15:CC:=.ops [(2,4)] (l41_14)
def c41_16:CC:=.seq c41_15 .ret
def c41_17:CC:=.cond (.t 29) c41_16 .skip
def c41_18:CC:=.seq c41_13 c41_17
def l41_19:List COp:=[
 ⟨some 33,.mov (.t 7),none⟩,
 ⟨some 34,.len (.t 33),none⟩,
 ⟨some 35,.fieldAddr 0 1 false (.t 3),none⟩,
 ⟨some 36,.load false 1 (.t 35),none⟩,
 ⟨some 37,.len (.t 36),none⟩,
 ⟨some 38,.bin false .sub (.t 34) (.t 37),none⟩,
 ⟨some 39,.bin false .add (.t 38) (.k (.p (.int .i64 1))),none⟩,
 ⟨some 40,.makeSlice 39 4 64 (.agg [(.bool false),(.list 116 1 []),(.bool false),(.list 116 1 [])]) (.t 39) (.t 39),none⟩,
 ⟨some 8,.mov (.t 40),none⟩]
def c41_20:CC:=.ops [] (l41_19)
def l41_21:List COp:=[
 ⟨some 41,.mov (.t 8),none⟩,
 ⟨some 42,.len (.t 41),none⟩,
 ⟨some 43,.bin false .sub (.t 42) (.k (.p (.int .i64 1))),none⟩,
 ⟨some 9,.mov (.t 43),none⟩]
def c41_22:CC:=.ops [] (l41_21)
def l41_23:List COp:=[
 ⟨some 44,.mov (.t 9),none⟩,
 ⟨some 45,.bin false .geq (.t 44) (.k (.p (.int .i64 0))),none⟩]
def c41_24:CC:=.ops [] (l41_23)
def c41_25:CC:=.cond (.t 45) .skip (.exit 0)
def c41_26:CC:=.seq c41_24 c41_25
def l41_27:List COp:=[
 ⟨some 58,.load true 1 (.t 3),none⟩,
 ⟨some 59,.call 42 [(.t 58)],none⟩]
def l41_28:List COp:=[
 ⟨some 49,.mov (.t 7),none⟩,
 ⟨some 50,.mov (.t 9),none⟩,
 ⟨some 51,.fieldAddr 0 1 false (.t 3),none⟩,
 ⟨some 52,.load false 1 (.t 51),none⟩,
 ⟨some 53,.len (.t 52),none⟩,
 ⟨some 54,.bin false .add (.t 50) (.t 53),none⟩,
 ⟨some 55,.bin false .sub (.t 54) (.k (.p (.int .i64 1))),none⟩,
 ⟨some 56,.indexAddr 4 (.t 49) (.t 55),none⟩,
 ⟨some 57,.load true 4 (.t 56),none⟩,
 ⟨some 60,.call 50 [(.t 57),(.t 59)],none⟩]
def l41_29:List COp:=[
 ⟨some 48,.mov (.t 60),none⟩,
 ⟨some 61,.extract (.t 48) 0,none⟩,
 ⟨some 62,.extract (.t 48) 1,none⟩,
 ⟨some 10,.alloc 39 4 (.p (.agg [(.bool false),(.list 116 1 []),(.bool false),(.list 116 1 [])])),none⟩,
 ⟨some 11,.alloc 27 2 (.p (.agg [(.int .i64 0),(.int .i64 0)])),none⟩,
 ⟨none,.store 4 (.t 10) (.t 61),none⟩,
 ⟨none,.store 2 (.t 11) (.t 62),none⟩]
def c41_30:CC:=.ops [] (l41_27++(l41_28++(l41_29)))
def l41_31:List COp:=[
 ⟨some 63,.mov (.t 8),none⟩,
 ⟨some 64,.mov (.t 9),none⟩,
 ⟨some 65,.load true 4 (.t 10),none⟩,
 ⟨some 66,.indexAddr 4 (.t 63) (.t 64),none⟩,
 ⟨none,.store 4 (.t 66) (.t 65),none⟩]
def c41_32:CC:=.ops [] (l41_31)
def l41_33:List COp:=[
 ⟨some 67,.load true 4 (.t 10),none⟩,
 ⟨some 68,.call 15 [(.t 67)],none⟩]
def l41_34:List COp:=[
 ⟨some 69,.bin false .eql (.t 68) (.k (.p (.int .i64 0))),none⟩]
def c41_35:CC:=.ops [] (l41_33++(l41_34))
def c41_36:CC:=.cond (.t 69) (.exit 1) .skip
def c41_37:CC:=.seq c41_35 c41_36
def l41_38:List COp:=[
 ⟨some 70,.fieldAddr 0 1 false (.t 3),none⟩,
 ⟨some 71,.load false 1 (.t 70),none⟩,
 ⟨some 72,.len (.t 71),none⟩,
 ⟨some 73,.mov (.k (.p (.int .i64 0))),none⟩]
def c41_39:CC:=.ops [] (l41_38)
def l41_40:List COp:=[
 ⟨some 74,.bin false .lss (.t 73) (.t 72),none⟩]
def c41_41:CC:=.ops [] (l41_40)
def c41_42:CC:=.cond (.t 74) .skip (.exit 2)
def l41_43:List COp:=[
 ⟨some 75,.mov (.t 73),none⟩,
 ⟨some 76,.indexAddr 4 (.t 71) (.t 73),none⟩,
 ⟨some 77,.load true 4 (.t 76),none⟩,
 ⟨some 13,.alloc 39 4 (.p (.agg [(.bool false),(.list 116 1 []),(.bool false),(.list 116 1 [])])),none⟩,
 ⟨some 12,.mov (.t 75),none⟩,
 ⟨none,.store 4 (.t 13) (.t 77),none⟩]
def c41_44:CC:=.ops [] (l41_43)
def l41_45:List COp:=[
 ⟨some 88,.load true 4 (.t 10),none⟩,
 ⟨some 89,.load true 4 (.t 13),none⟩,
 ⟨some 90,.call 27 [(.t 88),(.t 89)],none⟩]
def l41_46:List COp:=[
 ⟨some 78,.mov (.t 7),none⟩,
 ⟨some 79,.mov (.t 9),none⟩,
 ⟨some 80,.mov (.t 12),none⟩,
 ⟨some 81,.bin false .add (.t 79) (.t 80),none⟩,
 ⟨some 82,.mov (.t 7),none⟩,
 ⟨some 83,.mov (.t 9),none⟩,
 ⟨some 84,.mov (.t 12),none⟩,
 ⟨some 85,.bin false .add (.t 83) (.t 84),none⟩,
 ⟨some 86,.indexAddr 4 (.t 82) (.t 85),none⟩,
 ⟨some 87,.load true 4 (.t 86),none⟩,
 ⟨some 91,.call 61 [(.t 87),(.t 90)],none⟩]
def l41_47:List COp:=[
 ⟨some 92,.indexAddr 4 (.t 78) (.t 81),none⟩,
 ⟨none,.store 4 (.t 92) (.t 91),none⟩]
def c41_48:CC:=.ops [] (l41_45++(l41_46++(l41_47)))
def c41_49:CC:=.seq c41_44 c41_48
def c41_50:CC:=.block 3 c41_49
def l41_51:List COp:=[
 ⟨some 93,.bin false .add (.t 73) (.k (.p (.int .i64 1))),none⟩,
 ⟨some 73,.mov (.t 93),none⟩]
def c41_52:CC:=.ops [] (l41_51)
def c41_53:CC:=.seq c41_50 c41_52
def c41_54:CC:=.seq c41_42 c41_53
def c41_55:CC:=.seq c41_41 c41_54
def c41_56:CC:=.loop c41_55
def c41_57:CC:=.block 2 c41_56
def c41_58:CC:=.seq c41_39 c41_57
def c41_59:CC:=.seq c41_37 c41_58
def c41_60:CC:=.seq c41_32 c41_59
def c41_61:CC:=.seq c41_30 c41_60
def c41_62:CC:=.block 1 c41_61
def l41_63:List COp:=[
 ⟨some 46,.mov (.t 9),none⟩,
 ⟨some 47,.bin false .sub (.t 46) (.k (.p (.int .i64 1))),none⟩,
 ⟨some 9,.mov (.t 47),none⟩]
def c41_64:CC:=.ops [] (l41_63)
def c41_65:CC:=.seq c41_62 c41_64
def c41_66:CC:=.seq c41_26 c41_65
def c41_67:CC:=.loop c41_66
def c41_68:CC:=.block 0 c41_67
def c41_69:CC:=.seq c41_22 c41_68
def l41_70:List COp:=[
 ⟨some 94,.mov (.t 8),none⟩,
 ⟨some 95,.call 33 [(.t 94)],none⟩]
def l41_71:List COp:=[
 ⟨some 96,.mov (.t 7),none⟩,
 ⟨some 97,.call 33 [(.t 96)],none⟩]
def l41_72:List COp:=[
 ⟨some 98,.build [(.p (.int .i64 0)),(.p (.int .i64 0))] [],none⟩,
 ⟨none,.store 1 (.t 4) (.t 95),none⟩,
 ⟨none,.store 1 (.t 5) (.t 97),none⟩,
 ⟨none,.store 2 (.t 6) (.t 98),none⟩]
def c41_73:CC:=.ops [] (l41_70++(l41_71++(l41_72)))
def c41_74:CC:=.seq c41_73 .ret
def c41_75:CC:=.seq c41_69 c41_74
def c41_76:CC:=.seq c41_20 c41_75
def c41_77:CC:=.seq c41_18 c41_76
def c41_78:CC:=.seq c41_11 c41_77
def c41_79:CC:=.seq c41_9 c41_78
def c41_80:CC:=.seq c41_1 c41_79
def c41:CC:=c41_80
theorem fn41:FnOk Try.prog 41 [25,27,39] c41 [(4,some (true,1)),(5,some (true,1)),(6,some (true,2))] 99:=
 ⟨Try.f41,[⟨5,[1,0,2,3,4,5],[0,0,0,1,11,31],[(2,4)]⟩,⟨10,[9,10,0,1,2,3,4,5,6,7,8,11,12,13,14,15,16,17,18],[0,0,0,4,12,30,62,127,255,0,512,2047,4095,8191,8191,0,0,114687,262143],[]⟩,⟨16,[10,11,12,0,1,2,3,4,5,6,7,8,9,13,14,15],[0,0,0,6,0,0,0,96,240,496,0,0,3072,8176,16383,32767],[]⟩],Try.func41,by kernel_rfl,by kernel_rfl,by kernel_rfl,by kernel_rfl,by kernel_rfl⟩
def l29_0:List COp:=[
 ⟨some 1,.box 25 1 (.t 0),none⟩,
 ⟨some 2,.alloc 25 1 (.p (.agg [(.list 39 4 [])])),none⟩]
def c29_1:CC:=.ops [] (l29_0)
def l29_2:List COp:=[
 ⟨some 3,.mov (.k (.nils 39 4)),none⟩]
def c29_3:CC:=.ops [] (l29_2)
def l29_4:List COp:=[
 ⟨some 6,.fieldAddr 0 1 false (.t 1),none⟩,
 ⟨some 7,.load false 1 (.t 6),none⟩,
 ⟨some 8,.len (.t 7),none⟩,
 ⟨some 9,.mov (.k (.p (.int .i64 0))),none⟩]
def c29_5:CC:=.ops [] (l29_4)
def l29_6:List COp:=[
 ⟨some 10,.bin false .lss (.t 9) (.t 8),none⟩]
def c29_7:CC:=.ops [] (l29_6)
def c29_8:CC:=.cond (.t 10) .skip (.exit 0)
def l29_9:List COp:=[
 ⟨some 11,.mov (.t 9),none⟩,
 ⟨some 12,.indexAddr 4 (.t 7) (.t 9),none⟩,
 ⟨some 13,.load true 4 (.t 12),none⟩,
 ⟨some 5,.alloc 39 4 (.p (.agg [(.bool false),(.list 116 1 []),(.bool false),(.list 116 1 [])])),none⟩,
 ⟨some 4,.mov (.t 11),none⟩,
 ⟨none,.store 4 (.t 5) (.t 13),none⟩]
def c29_10:CC:=.ops [] (l29_9)
def l29_11:List COp:=[
 ⟨some 14,.mov (.t 4),none⟩,
 ⟨some 15,.bin false .gtr (.t 14) (.k (.p (.int .i64 0))),none⟩]
def c29_12:CC:=.ops [] (l29_11)
def l29_13:List COp:=[
 ⟨some 17,.load true 4 (.t 5),none⟩,
 ⟨some 16,.mov (.t 3),none⟩,
 ⟨some 18,.mov (.t 4),none⟩,
 ⟨some 19,.call 38 [(.t 18)],none⟩]
def l29_14:List COp:=[
 ⟨some 20,.call 37 [(.t 19)],none⟩]
def l29_15:List COp:=[
 ⟨some 21,.call 27 [(.t 17),(.t 20)],none⟩]
def l29_16:List COp:=[
 ⟨some 22,.buildSlice 39 4 (.agg [(.bool false),(.list 116 1 []),(.bool false),(.list 116 1 [])]) 1 [(0,(.t 21))],none⟩,
 ⟨some 23,.append 39 4 64 (.t 16) (.t 22),none⟩,
 ⟨some 3,.mov (.t 23),none⟩]
def c29_17:CC:=.ops [] (l29_13++(l29_14++(l29_15++(l29_16))))
def c29_18:CC:=.cond (.t 15) c29_17 .skip
def c29_19:CC:=.seq c29_12 c29_18
def c29_20:CC:=.seq c29_10 c29_19
def c29_21:CC:=.block 1 c29_20
def l29_22:List COp:=[
 ⟨some 24,.bin false .add (.t 9) (.k (.p (.int .i64 1))),none⟩,
 ⟨some 9,.mov (.t 24),none⟩]
def c29_23:CC:=.ops [] (l29_22)
def c29_24:CC:=.seq c29_21 c29_23
def c29_25:CC:=.seq c29_8 c29_24
def c29_26:CC:=.seq c29_7 c29_25
def c29_27:CC:=.loop c29_26
def c29_28:CC:=.block 0 c29_27
def c29_29:CC:=.seq c29_5 c29_28
def l29_30:List COp:=[
 ⟨some 25,.mov (.t 3),none⟩,
 ⟨some 26,.call 33 [(.t 25)],none⟩]
def l29_31:List COp:=[
 ⟨none,.store 1 (.t 2) (.t 26),none⟩]
def c29_32:CC:=.ops [] (l29_30++(l29_31))
def c29_33:CC:=.seq c29_32 .ret
def c29_34:CC:=.seq c29_29 c29_33
def c29_35:CC:=.seq c29_3 c29_34
def c29_36:CC:=.seq c29_1 c29_35
def c29:CC:=c29_36
theorem fn29:FnOk Try.prog 29 [25,39] c29 [(2,some (true,1))] 27:=
 ⟨Try.f29,[⟨6,[1,0,2,3,4,5,6,7,8],[0,0,0,4,12,30,62,127,255],[]⟩],Try.func29,by kernel_rfl,by kernel_rfl,by kernel_rfl,by kernel_rfl,by kernel_rfl⟩
def l39_0:List COp:=[
 ⟨some 2,.box 39 4 (.t 0),none⟩,
 ⟨some 4,.alloc 39 4 (.p (.agg [(.bool false),(.list 116 1 []),(.bool false),(.list 116 1 [])])),none⟩]
def c39_1:CC:=.ops [] (l39_0)
def l39_2:List COp:=[
 ⟨some 6,.call 38 [(.k (.p (.int .i64 1)))],none⟩]
def l39_3:List COp:=[
 ⟨some 7,.call 37 [(.t 6)],none⟩]
def l39_4:List COp:=[
 ⟨some 5,.alloc 39 4 (.p (.agg [(.bool false),(.list 116 1 []),(.bool false),(.list 116 1 [])])),none⟩,
 ⟨none,.store 4 (.t 5) (.t 7),none⟩]
def c39_5:CC:=.ops [] (l39_2++(l39_3++(l39_4)))
def l39_6:List COp:=[
 ⟨some 8,.mov (.t 1),none⟩,
 ⟨some 9,.mov (.k (.p (.int .i64 0))),none⟩]
def c39_7:CC:=.ops [] (l39_6)
def l39_8:List COp:=[
 ⟨some 10,.bin false .lss (.t 9) (.t 8),none⟩]
def c39_9:CC:=.ops [] (l39_8)
def c39_10:CC:=.cond (.t 10) .skip (.exit 0)
def l39_11:List COp:=[
 ⟨some 11,.load true 4 (.t 5),none⟩,
 ⟨some 12,.load true 4 (.t 2),none⟩,
 ⟨some 13,.call 27 [(.t 11),(.t 12)],none⟩]
def l39_12:List COp:=[
 ⟨none,.store 4 (.t 5) (.t 13),none⟩]
def c39_13:CC:=.ops [] (l39_11++(l39_12))
def c39_14:CC:=.block 1 c39_13
def l39_15:List COp:=[
 ⟨some 14,.bin false .add (.t 9) (.k (.p (.int .i64 1))),none⟩,
 ⟨some 9,.mov (.t 14),none⟩]
def c39_16:CC:=.ops [] (l39_15)
def c39_17:CC:=.seq c39_14 c39_16
def c39_18:CC:=.seq c39_10 c39_17
def c39_19:CC:=.seq c39_9 c39_18
def c39_20:CC:=.loop c39_19
def c39_21:CC:=.block 0 c39_20
def c39_22:CC:=.seq c39_7 c39_21
def l39_23:List COp:=[
 ⟨some 15,.load true 4 (.t 5),none⟩,
 ⟨none,.store 4 (.t 4) (.t 15),none⟩]
def c39_24:CC:=.ops [] (l39_23)
def c39_25:CC:=.seq c39_24 .ret
def c39_26:CC:=.seq c39_22 c39_25
def c39_27:CC:=.seq c39_5 c39_26
def c39_28:CC:=.seq c39_1 c39_27
def c39:CC:=c39_28
theorem fn39:FnOk Try.prog 39 [39] c39 [(4,some (true,4))] 16:=
 ⟨Try.f39,[],Try.func39,by kernel_rfl,by kernel_rfl,by kernel_rfl,by kernel_rfl,by kernel_rfl⟩
def l9_0:List COp:=[
 ⟨some 2,.box 25 1 (.t 0),none⟩,
 ⟨some 3,.box 25 1 (.t 1),none⟩,
 ⟨some 4,.alloc 39 4 (.p (.agg [(.bool false),(.list 116 1 []),(.bool false),(.list 116 1 [])])),none⟩]
def c9_1:CC:=.ops [] (l9_0)
def l9_2:List COp:=[
 ⟨some 9,.call 38 [(.k (.p (.int .i64 1)))],none⟩]
def l9_3:List COp:=[
 ⟨some 10,.call 37 [(.t 9)],none⟩]
def l9_4:List COp:=[
 ⟨some 5,.alloc 39 4 (.p (.agg [(.bool false),(.list 116 1 []),(.bool false),(.list 116 1 [])])),none⟩,
 ⟨none,.store 4 (.t 5) (.t 10),none⟩]
def c9_5:CC:=.ops [] (l9_2++(l9_3++(l9_4)))
def l9_6:List COp:=[
 ⟨some 11,.fieldAddr 0 1 false (.t 2),none⟩,
 ⟨some 12,.load false 1 (.t 11),none⟩,
 ⟨some 13,.len (.t 12),none⟩,
 ⟨some 14,.bin false .eql (.t 13) (.k (.p (.int .i64 0))),none⟩,
 ⟨some 15,.mov (.t 14),none⟩,
 ⟨some 16,.fieldAddr 0 1 false (.t 3),some (15,false)⟩,
 ⟨some 17,.load false 1 (.t 16),some (15,false)⟩,
 ⟨some 18,.len (.t 17),some (15,false)⟩,
 ⟨some 19,.bin false .eql (.t 18) (.k (.p (.int .i64 0))),some (15,false)⟩,
 ⟨some 20,.pick (.t 15) (.k (.p (.bool true))) (.t 19),none⟩]
def c9_7:CC:=.ops [] (l9_6)
def l9_8:List COp:=[
 ⟨some 21,.build [(.p (.bool false)),(.p (.list 116 1 [])),(.p (.bool false)),(.p (.list 116 1 []))] [],none⟩,
 ⟨none,.store 4 (.t 4) (.t 21),none⟩]
def c9_9:CC:=.ops [] (l9_8)
def c9_10:CC:=.seq c9_9 .ret
def c9_11:CC:=.cond (.t 20) c9_10 .skip
def c9_12:CC:=.seq c9_7 c9_11
def l9_13:List COp:=[
 ⟨some 22,.load true 1 (.t 3),none⟩,
 ⟨some 23,.call 22 [(.t 22)],none⟩]
def l9_14:List COp:=[
 ⟨some 24,.bin false .eql (.t 23) (.k (.p (.int .i64 0))),none⟩]
def c9_15:CC:=.ops [] (l9_13++(l9_14))
def l9_16:List COp:=[
 ⟨some 25,.load true 4 (.t 5),none⟩,
 ⟨some 30,.load true 1 (.t 2),none⟩,
 ⟨some 31,.call 22 [(.t 30)],none⟩]
def l9_17:List COp:=[
 ⟨some 26,.fieldAddr 0 1 false (.t 3),none⟩,
 ⟨some 27,.load false 1 (.t 26),none⟩,
 ⟨some 28,.indexAddr 4 (.t 27) (.k (.p (.int .i64 0))),none⟩,
 ⟨some 29,.load true 4 (.t 28),none⟩,
 ⟨some 32,.call 39 [(.t 29),(.t 31)],none⟩]
def l9_18:List COp:=[
 ⟨some 33,.call 27 [(.t 25),(.t 32)],none⟩]
def l9_19:List COp:=[
 ⟨none,.store 4 (.t 4) (.t 33),none⟩]
def c9_20:CC:=.ops [] (l9_16++(l9_17++(l9_18++(l9_19))))
def c9_21:CC:=.seq c9_20 .ret
def c9_22:CC:=.cond (.t 24) c9_21 .skip
def c9_23:CC:=.seq c9_15 c9_22
def l9_24:List COp:=[
 ⟨some 34,.load true 1 (.t 2),none⟩,
 ⟨some 35,.call 22 [(.t 34)],none⟩]
def l9_25:List COp:=[
 ⟨some 36,.load true 1 (.t 3),none⟩,
 ⟨some 37,.call 22 [(.t 36)],none⟩]
def l9_26:List COp:=[
 ⟨some 38,.bin false .lss (.t 35) (.t 37),none⟩]
def c9_27:CC:=.ops [] (l9_24++(l9_25++(l9_26)))
def l9_28:List COp:=[
 ⟨some 39,.load true 1 (.t 2),none⟩,
 ⟨some 40,.call 22 [(.t 39)],none⟩]
def l9_29:List COp:=[
 ⟨some 41,.load true 1 (.t 3),none⟩,
 ⟨some 42,.call 22 [(.t 41)],none⟩]
def l9_30:List COp:=[
 ⟨some 43,.bin false .mul (.t 40) (.t 42),none⟩,
 ⟨some 44,.bin false .rem (.t 43) (.k (.p (.int .i64 2))),none⟩,
 ⟨some 45,.bin false .eql (.t 44) (.k (.p (.int .i64 1))),none⟩]
def c9_31:CC:=.ops [] (l9_28++(l9_29++(l9_30)))
def l9_32:List COp:=[
 ⟨some 46,.load true 4 (.t 5),none⟩,
 ⟨some 47,.call 40 [(.t 46)],none⟩]
def l9_33:List COp:=[
 ⟨none,.store 4 (.t 5) (.t 47),none⟩]
def c9_34:CC:=.ops [] (l9_32++(l9_33))
def c9_35:CC:=.cond (.t 45) c9_34 .skip
def c9_36:CC:=.seq c9_31 c9_35
def l9_37:List COp:=[
 ⟨some 48,.load true 1 (.t 3),none⟩,
 ⟨some 49,.load true 1 (.t 2),none⟩,
 ⟨none,.store 1 (.t 2) (.t 48),none⟩,
 ⟨none,.store 1 (.t 3) (.t 49),none⟩]
def c9_38:CC:=.ops [] (l9_37)
def c9_39:CC:=.seq c9_38 (.exit 1)
def c9_40:CC:=.seq c9_36 c9_39
def c9_41:CC:=.cond (.t 38) c9_40 .skip
def c9_42:CC:=.seq c9_27 c9_41
def l9_43:List COp:=[
 ⟨some 51,.load true 1 (.t 2),none⟩,
 ⟨some 52,.load true 1 (.t 3),none⟩,
 ⟨some 53,.call 41 [(.t 51),(.t 52)],none⟩]
def l9_44:List COp:=[
 ⟨some 50,.mov (.t 53),none⟩,
 ⟨some 54,.extract (.t 50) 0,none⟩,
 ⟨some 55,.extract (.t 50) 1,none⟩,
 ⟨some 56,.extract (.t 50) 2,none⟩,
 ⟨some 6,.alloc 25 1 (.p (.agg [(.list 39 4 [])])),none⟩,
 ⟨some 7,.alloc 25 1 (.p (.agg [(.list 39 4 [])])),none⟩,
 ⟨some 8,.alloc 27 2 (.p (.agg [(.int .i64 0),(.int .i64 0)])),none⟩,
 ⟨none,.store 1 (.t 6) (.t 54),none⟩,
 ⟨none,.store 1 (.t 7) (.t 55),none⟩,
 ⟨none,.store 2 (.t 8) (.t 56),none⟩]
def c9_45:CC:=.ops [] (l9_43++(l9_44))
def l9_46:List COp:=[
 ⟨some 57,.fieldAddr 0 1 false (.t 7),none⟩,
 ⟨some 58,.load false 1 (.t 57),none⟩,
 ⟨some 59,.len (.t 58),none⟩,
 ⟨some 60,.bin false .eql (.t 59) (.k (.p (.int .i64 0))),none⟩]
def c9_47:CC:=.ops [] (l9_46)
def l9_48:List COp:=[
 ⟨some 61,.build [(.p (.bool false)),(.p (.list 116 1 [])),(.p (.bool false)),(.p (.list 116 1 []))] [],none⟩,
 ⟨none,.store 4 (.t 4) (.t 61),none⟩]
def c9_49:CC:=.ops [] (l9_48)
def c9_50:CC:=.seq c9_49 .ret
def c9_51:CC:=.cond (.t 60) c9_50 .skip
def c9_52:CC:=.seq c9_47 c9_51
def l9_53:List COp:=[
 ⟨some 62,.load true 1 (.t 2),none⟩,
 ⟨some 63,.call 22 [(.t 62)],none⟩]
def l9_54:List COp:=[
 ⟨some 64,.load true 1 (.t 3),none⟩,
 ⟨some 65,.call 22 [(.t 64)],none⟩]
def l9_55:List COp:=[
 ⟨some 66,.bin false .mul (.t 63) (.t 65),none⟩,
 ⟨some 67,.bin false .rem (.t 66) (.k (.p (.int .i64 2))),none⟩,
 ⟨some 68,.bin false .eql (.t 67) (.k (.p (.int .i64 1))),none⟩]
def c9_56:CC:=.ops [] (l9_53++(l9_54++(l9_55)))
def l9_57:List COp:=[
 ⟨some 69,.load true 4 (.t 5),none⟩,
 ⟨some 70,.call 40 [(.t 69)],none⟩]
def l9_58:List COp:=[
 ⟨none,.store 4 (.t 5) (.t 70),none⟩]
def c9_59:CC:=.ops [] (l9_57++(l9_58))
def c9_60:CC:=.cond (.t 68) c9_59 .skip
def c9_61:CC:=.seq c9_56 c9_60
def l9_62:List COp:=[
 ⟨some 71,.load true 4 (.t 5),none⟩,
 ⟨some 72,.load true 1 (.t 3),none⟩,
 ⟨some 73,.call 42 [(.t 72)],none⟩]
def l9_63:List COp:=[
 ⟨some 74,.load true 1 (.t 2),none⟩,
 ⟨some 75,.call 22 [(.t 74)],none⟩]
def l9_64:List COp:=[
 ⟨some 76,.load true 1 (.t 7),none⟩,
 ⟨some 77,.call 22 [(.t 76)],none⟩]
def l9_65:List COp:=[
 ⟨some 78,.bin false .sub (.t 75) (.t 77),none⟩,
 ⟨some 79,.call 39 [(.t 73),(.t 78)],none⟩]
def l9_66:List COp:=[
 ⟨some 80,.call 27 [(.t 71),(.t 79)],none⟩]
def l9_67:List COp:=[
 ⟨none,.store 4 (.t 5) (.t 80),none⟩]
def c9_68:CC:=.ops [] (l9_62++(l9_63++(l9_64++(l9_65++(l9_66++(l9_67))))))
def l9_69:List COp:=[
 ⟨some 81,.load true 1 (.t 3),none⟩,
 ⟨some 82,.load true 1 (.t 7),none⟩,
 ⟨none,.store 1 (.t 2) (.t 81),none⟩,
 ⟨none,.store 1 (.t 3) (.t 82),none⟩]
def c9_70:CC:=.ops [(7,2)] (l9_69)
def c9_71:CC:=.seq c9_68 c9_70
def c9_72:CC:=.seq c9_61 c9_71
def c9_73:CC:=.seq c9_52 c9_72
def c9_74:CC:=.seq c9_45 c9_73
def c9_75:CC:=.seq c9_42 c9_74
def c9_76:CC:=.seq c9_23 c9_75
def c9_77:CC:=.seq c9_12 c9_76
def c9_78:CC:=.block 1 c9_77
def c9_79:CC:=.loop c9_78
def c9_80:CC:=.block 0 c9_79
def c9_81:CC:=.seq c9_5 c9_80
def c9_82:CC:=.seq c9_1 c9_81
def c9:CC:=c9_82
theorem fn9:FnOk Try.prog 9 [25,39,27] c9 [(4,some (true,4))] 83:=
 ⟨Try.f9,[⟨5,[0,5,6,1,2,3,4,7,8,9],[0,0,2,6,14,0,32,126,255,511],[]⟩,⟨6,[0,1,2,3,4],[0,1,0,7,15],[]⟩,⟨7,[0,1,2,3,4,5,6],[0,1,0,7,15,31,63],[]⟩,⟨13,[0,1,2,3,4,5,6],[0,1,0,7,15,31,63],[]⟩,⟨15,[0,1,2,3,4,5,6,7,8,9,10],[0,0,2,0,14,0,62,126,254,511,1023],[]⟩,⟨16,[0,1,2,3],[0,0,1,7],[(7,2)]⟩],Try.func9,by kernel_rfl,by kernel_rfl,by kernel_rfl,by kernel_rfl,by kernel_rfl⟩
end Go.Proofs.Ytdjbfgfbpimakaa.M
end

section
namespace Go.Proofs.Ytdjbfgfbpimakaa.M
open Go.RowKit
def l54_0:List COp:=[
 ⟨some 2,.mov (.k (.nils 47 4)),none⟩]
def c54_1:CC:=.ops [] (l54_0)
def l54_2:List COp:=[
 ⟨some 4,.mov (.t 0),none⟩,
 ⟨some 5,.len (.t 4),none⟩,
 ⟨some 3,.mov (.t 5),none⟩]
def c54_3:CC:=.ops [] (l54_2)
def l54_4:List COp:=[
 ⟨some 6,.mov (.t 3),none⟩,
 ⟨some 7,.bin false .gtr (.t 6) (.k (.p (.int .i64 0))),none⟩,
 ⟨some 8,.mov (.t 7),none⟩,
 ⟨some 9,.mov (.t 0),some (8,true)⟩,
 ⟨some 10,.mov (.t 3),some (8,true)⟩,
 ⟨some 11,.bin false .sub (.t 10) (.k (.p (.int .i64 1))),some (8,true)⟩,
 ⟨some 12,.indexAddr 4 (.t 9) (.t 11),some (8,true)⟩,
 ⟨some 13,.load true 4 (.t 12),some (8,true)⟩,
 ⟨some 14,.call 36 [(.t 13)],some (8,true)⟩]
def l54_5:List COp:=[
 ⟨some 15,.bin false .eql (.t 14) (.k (.p (.int .i64 0))),some (8,true)⟩,
 ⟨some 16,.pick (.t 8) (.t 15) (.k (.p (.bool false))),none⟩]
def c54_6:CC:=.ops [] (l54_4++(l54_5))
def c54_7:CC:=.cond (.t 16) .skip (.exit 0)
def c54_8:CC:=.seq c54_6 c54_7
def l54_9:List COp:=[
 ⟨some 17,.mov (.t 3),none⟩,
 ⟨some 18,.bin false .sub (.t 17) (.k (.p (.int .i64 1))),none⟩,
 ⟨some 3,.mov (.t 18),none⟩]
def c54_10:CC:=.ops [] (l54_9)
def c54_11:CC:=.block 1 c54_10
def c54_12:CC:=.seq c54_8 c54_11
def c54_13:CC:=.loop c54_12
def c54_14:CC:=.block 0 c54_13
def l54_15:List COp:=[
 ⟨some 19,.mov (.t 0),none⟩,
 ⟨some 20,.mov (.t 3),none⟩,
 ⟨some 21,.slice 4 (.t 19) none (some (.t 20)) none,none⟩,
 ⟨some 2,.mov (.t 21),none⟩]
def c54_16:CC:=.ops [] (l54_15)
def c54_17:CC:=.seq c54_16 .ret
def c54_18:CC:=.seq c54_14 c54_17
def c54_19:CC:=.seq c54_3 c54_18
def c54_20:CC:=.seq c54_1 c54_19
def c54:CC:=c54_20
theorem fn54:FnOk Try.prog 54 [] c54 [(2,none)] 22:=
 ⟨Try.f54,[],Try.func54,by kernel_rfl,by kernel_rfl,by kernel_rfl,by kernel_rfl,by kernel_rfl⟩
def l7_0:List COp:=[
 ⟨some 2,.mov (.k (.nils 47 4)),none⟩,
 ⟨some 3,.alloc 27 2 (.p (.agg [(.int .i64 0),(.int .i64 0)])),none⟩]
def c7_1:CC:=.ops [] (l7_0)
def l7_2:List COp:=[
 ⟨some 9,.mov (.t 0),none⟩,
 ⟨some 10,.len (.t 9),none⟩,
 ⟨some 11,.bin false .gtr (.t 10) (.k (.p (.int .i64 201))),none⟩]
def c7_3:CC:=.ops [] (l7_2)
def l7_4:List COp:=[
 ⟨some 12,.call 34 [(.k (.p (.int .i64 9))),(.k (.p (.int .i64 0)))],none⟩]
def l7_5:List COp:=[
 ⟨some 2,.mov (.k (.nils 47 4)),none⟩,
 ⟨none,.store 2 (.t 3) (.t 12),none⟩]
def c7_6:CC:=.ops [] (l7_4++(l7_5))
def c7_7:CC:=.seq c7_6 .ret
def c7_8:CC:=.cond (.t 11) c7_7 .skip
def c7_9:CC:=.seq c7_3 c7_8
def l7_10:List COp:=[
 ⟨some 4,.mov (.k (.nils 47 4)),none⟩]
def c7_11:CC:=.ops [] (l7_10)
def l7_12:List COp:=[
 ⟨some 5,.mov (.k (.p (.int .i64 0))),none⟩]
def c7_13:CC:=.ops [] (l7_12)
def l7_14:List COp:=[
 ⟨some 13,.mov (.t 5),none⟩,
 ⟨some 14,.mov (.t 0),none⟩,
 ⟨some 15,.len (.t 14),none⟩,
 ⟨some 16,.bin false .lss (.t 13) (.t 15),none⟩]
def c7_15:CC:=.ops [] (l7_14)
def c7_16:CC:=.cond (.t 16) .skip (.exit 0)
def c7_17:CC:=.seq c7_15 c7_16
def l7_18:List COp:=[
 ⟨some 20,.mov (.t 0),none⟩,
 ⟨some 21,.mov (.t 5),none⟩,
 ⟨some 22,.indexAddr 1 (.t 20) (.t 21),none⟩,
 ⟨some 23,.load false 1 (.t 22),none⟩,
 ⟨some 24,.call 35 [(.t 23)],none⟩]
def l7_19:List COp:=[
 ⟨some 19,.mov (.t 24),none⟩,
 ⟨some 25,.extract (.t 19) 0,none⟩,
 ⟨some 26,.extract (.t 19) 1,none⟩,
 ⟨some 6,.alloc 47 4 (.p (.agg [(.bool false),(.list 3 1 []),(.bool false),(.list 3 1 [])])),none⟩,
 ⟨some 7,.alloc 27 2 (.p (.agg [(.int .i64 0),(.int .i64 0)])),none⟩,
 ⟨none,.store 4 (.t 6) (.t 25),none⟩,
 ⟨none,.store 2 (.t 7) (.t 26),none⟩]
def c7_20:CC:=.ops [] (l7_18++(l7_19))
def l7_21:List COp:=[
 ⟨some 27,.fieldAddr 0 1 false (.t 7),none⟩,
 ⟨some 28,.load false 1 (.t 27),none⟩,
 ⟨some 29,.bin false .neq (.t 28) (.k (.p (.int .i64 0))),none⟩]
def c7_22:CC:=.ops [] (l7_21)
def l7_23:List COp:=[
 ⟨some 30,.fieldAddr 0 1 false (.t 7),none⟩,
 ⟨some 31,.load false 1 (.t 30),none⟩,
 ⟨some 32,.mov (.t 5),none⟩,
 ⟨some 33,.call 34 [(.t 31),(.t 32)],none⟩]
def l7_24:List COp:=[
 ⟨some 2,.mov (.k (.nils 47 4)),none⟩,
 ⟨none,.store 2 (.t 3) (.t 33),none⟩]
def c7_25:CC:=.ops [] (l7_23++(l7_24))
def c7_26:CC:=.seq c7_25 .ret
def c7_27:CC:=.cond (.t 29) c7_26 .skip
def c7_28:CC:=.seq c7_22 c7_27
def l7_29:List COp:=[
 ⟨some 34,.mov (.t 4),none⟩,
 ⟨some 35,.load true 4 (.t 6),none⟩,
 ⟨some 36,.buildSlice 47 4 (.agg [(.bool false),(.list 3 1 []),(.bool false),(.list 3 1 [])]) 1 [(0,(.t 35))],none⟩,
 ⟨some 37,.append 47 4 64 (.t 34) (.t 36),none⟩,
 ⟨some 4,.mov (.t 37),none⟩]
def c7_30:CC:=.ops [] (l7_29)
def c7_31:CC:=.seq c7_28 c7_30
def c7_32:CC:=.seq c7_20 c7_31
def c7_33:CC:=.block 1 c7_32
def l7_34:List COp:=[
 ⟨some 17,.mov (.t 5),none⟩,
 ⟨some 18,.bin false .add (.t 17) (.k (.p (.int .i64 1))),none⟩,
 ⟨some 5,.mov (.t 18),none⟩]
def c7_35:CC:=.ops [] (l7_34)
def c7_36:CC:=.seq c7_33 c7_35
def c7_37:CC:=.seq c7_17 c7_36
def c7_38:CC:=.loop c7_37
def c7_39:CC:=.block 0 c7_38
def c7_40:CC:=.seq c7_13 c7_39
def l7_41:List COp:=[
 ⟨some 38,.mov (.t 4),none⟩,
 ⟨some 39,.len (.t 38),none⟩,
 ⟨some 8,.mov (.t 39),none⟩]
def c7_42:CC:=.ops [] (l7_41)
def l7_43:List COp:=[
 ⟨some 40,.mov (.t 8),none⟩,
 ⟨some 41,.bin false .gtr (.t 40) (.k (.p (.int .i64 0))),none⟩,
 ⟨some 42,.mov (.t 41),none⟩,
 ⟨some 43,.mov (.t 4),some (42,true)⟩,
 ⟨some 44,.mov (.t 8),some (42,true)⟩,
 ⟨some 45,.bin false .sub (.t 44) (.k (.p (.int .i64 1))),some (42,true)⟩,
 ⟨some 46,.indexAddr 4 (.t 43) (.t 45),some (42,true)⟩,
 ⟨some 47,.load true 4 (.t 46),some (42,true)⟩,
 ⟨some 48,.call 36 [(.t 47)],some (42,true)⟩]
def l7_44:List COp:=[
 ⟨some 49,.bin false .eql (.t 48) (.k (.p (.int .i64 0))),some (42,true)⟩,
 ⟨some 50,.pick (.t 42) (.t 49) (.k (.p (.bool false))),none⟩]
def c7_45:CC:=.ops [] (l7_43++(l7_44))
def l7_46:List COp:=[
 ⟨some 51,.mov (.t 8),none⟩,
 ⟨some 52,.bin false .sub (.t 51) (.k (.p (.int .i64 1))),none⟩,
 ⟨some 53,.call 34 [(.k (.p (.int .i64 3))),(.t 52)],none⟩]
def l7_47:List COp:=[
 ⟨some 2,.mov (.k (.nils 47 4)),none⟩,
 ⟨none,.store 2 (.t 3) (.t 53),none⟩]
def c7_48:CC:=.ops [] (l7_46++(l7_47))
def c7_49:CC:=.seq c7_48 .ret
def c7_50:CC:=.cond (.t 50) c7_49 .skip
def c7_51:CC:=.seq c7_45 c7_50
def c7_52:CC:=.seq c7_42 c7_51
def l7_53:List COp:=[
 ⟨some 54,.mov (.t 4),none⟩,
 ⟨some 55,.build [(.p (.int .i64 0)),(.p (.int .i64 0))] [],none⟩,
 ⟨some 2,.mov (.t 54),none⟩,
 ⟨none,.store 2 (.t 3) (.t 55),none⟩]
def c7_54:CC:=.ops [] (l7_53)
def c7_55:CC:=.seq c7_54 .ret
def c7_56:CC:=.seq c7_52 c7_55
def c7_57:CC:=.seq c7_40 c7_56
def c7_58:CC:=.seq c7_11 c7_57
def c7_59:CC:=.seq c7_9 c7_58
def c7_60:CC:=.seq c7_1 c7_59
def c7:CC:=c7_60
theorem fn7:FnOk Try.prog 7 [27,47] c7 [(2,none),(3,some (true,2))] 56:=
 ⟨Try.f7,[],Try.func7,by kernel_rfl,by kernel_rfl,by kernel_rfl,by kernel_rfl,by kernel_rfl⟩
def l48_0:List COp:=[
 ⟨some 4,.alloc 47 4 (.p (.agg [(.bool false),(.list 3 1 []),(.bool false),(.list 3 1 [])])),none⟩]
def c48_1:CC:=.ops [] (l48_0)
def l48_2:List COp:=[
 ⟨some 5,.mov (.t 1),none⟩,
 ⟨some 6,.bin false .lss (.t 5) (.k (.p (.int .i64 0))),none⟩,
 ⟨some 7,.mov (.t 6),none⟩,
 ⟨some 8,.mov (.t 1),some (7,false)⟩,
 ⟨some 9,.mov (.t 0),some (7,false)⟩,
 ⟨some 10,.len (.t 9),some (7,false)⟩,
 ⟨some 11,.bin false .geq (.t 8) (.t 10),some (7,false)⟩,
 ⟨some 12,.pick (.t 7) (.k (.p (.bool true))) (.t 11),none⟩]
def c48_3:CC:=.ops [] (l48_2)
def l48_4:List COp:=[
 ⟨some 13,.call 47 [(.k (.p (.int .i64 0)))],none⟩]
def l48_5:List COp:=[
 ⟨none,.store 4 (.t 4) (.t 13),none⟩]
def c48_6:CC:=.ops [] (l48_4++(l48_5))
def c48_7:CC:=.seq c48_6 .ret
def c48_8:CC:=.cond (.t 12) c48_7 .skip
def c48_9:CC:=.seq c48_3 c48_8
def l48_10:List COp:=[
 ⟨some 14,.mov (.t 0),none⟩,
 ⟨some 15,.mov (.t 1),none⟩,
 ⟨some 16,.indexAddr 4 (.t 14) (.t 15),none⟩,
 ⟨some 17,.load true 4 (.t 16),none⟩,
 ⟨none,.store 4 (.t 4) (.t 17),none⟩]
def c48_11:CC:=.ops [] (l48_10)
def c48_12:CC:=.seq c48_11 .ret
def c48_13:CC:=.seq c48_9 c48_12
def c48_14:CC:=.seq c48_1 c48_13
def c48:CC:=c48_14
theorem fn48:FnOk Try.prog 48 [47] c48 [(4,some (true,4))] 18:=
 ⟨Try.f48,[],Try.func48,by kernel_rfl,by kernel_rfl,by kernel_rfl,by kernel_rfl,by kernel_rfl⟩
def l18_0:List COp:=[
 ⟨some 2,.alloc 47 4 (.p (.agg [(.bool false),(.list 3 1 []),(.bool false),(.list 3 1 [])])),none⟩]
def c18_1:CC:=.ops [] (l18_0)
def l18_2:List COp:=[
 ⟨some 3,.mov (.t 0),none⟩,
 ⟨some 4,.mov (.t 0),none⟩,
 ⟨some 5,.len (.t 4),none⟩,
 ⟨some 6,.bin false .sub (.t 5) (.k (.p (.int .i64 1))),none⟩,
 ⟨some 7,.call 48 [(.t 3),(.t 6)],none⟩]
def l18_3:List COp:=[
 ⟨none,.store 4 (.t 2) (.t 7),none⟩]
def c18_4:CC:=.ops [] (l18_2++(l18_3))
def c18_5:CC:=.seq c18_4 .ret
def c18_6:CC:=.seq c18_1 c18_5
def c18:CC:=c18_6
theorem fn18:FnOk Try.prog 18 [47] c18 [(2,some (true,4))] 8:=
 ⟨Try.f18,[],Try.func18,by kernel_rfl,by kernel_rfl,by kernel_rfl,by kernel_rfl,by kernel_rfl⟩
def l17_0:List COp:=[
 ⟨some 2,.mov (.k (.nils 47 4)),none⟩]
def c17_1:CC:=.ops [] (l17_0)
def l17_2:List COp:=[
 ⟨some 3,.mov (.k (.nils 47 4)),none⟩]
def c17_3:CC:=.ops [] (l17_2)
def l17_4:List COp:=[
 ⟨some 4,.mov (.k (.p (.int .i64 1))),none⟩]
def c17_5:CC:=.ops [] (l17_4)
def l17_6:List COp:=[
 ⟨some 5,.mov (.t 4),none⟩,
 ⟨some 6,.mov (.t 0),none⟩,
 ⟨some 7,.len (.t 6),none⟩,
 ⟨some 8,.bin false .lss (.t 5) (.t 7),none⟩]
def c17_7:CC:=.ops [] (l17_6)
def c17_8:CC:=.cond (.t 8) .skip (.exit 0)
def c17_9:CC:=.seq c17_7 c17_8
def l17_10:List COp:=[
 ⟨some 11,.mov (.t 3),none⟩,
 ⟨some 12,.mov (.t 0),none⟩,
 ⟨some 13,.mov (.t 4),none⟩,
 ⟨some 14,.indexAddr 4 (.t 12) (.t 13),none⟩,
 ⟨some 15,.load true 4 (.t 14),none⟩,
 ⟨some 16,.mov (.t 4),none⟩,
 ⟨some 17,.call 47 [(.t 16)],none⟩]
def l17_11:List COp:=[
 ⟨some 18,.call 53 [(.t 15),(.t 17)],none⟩]
def l17_12:List COp:=[
 ⟨some 19,.buildSlice 47 4 (.agg [(.bool false),(.list 3 1 []),(.bool false),(.list 3 1 [])]) 1 [(0,(.t 18))],none⟩,
 ⟨some 20,.append 47 4 64 (.t 11) (.t 19),none⟩,
 ⟨some 3,.mov (.t 20),none⟩]
def c17_13:CC:=.ops [] (l17_10++(l17_11++(l17_12)))
def c17_14:CC:=.block 1 c17_13
def l17_15:List COp:=[
 ⟨some 9,.mov (.t 4),none⟩,
 ⟨some 10,.bin false .add (.t 9) (.k (.p (.int .i64 1))),none⟩,
 ⟨some 4,.mov (.t 10),none⟩]
def c17_16:CC:=.ops [] (l17_15)
def c17_17:CC:=.seq c17_14 c17_16
def c17_18:CC:=.seq c17_9 c17_17
def c17_19:CC:=.loop c17_18
def c17_20:CC:=.block 0 c17_19
def c17_21:CC:=.seq c17_5 c17_20
def l17_22:List COp:=[
 ⟨some 21,.mov (.t 3),none⟩,
 ⟨some 22,.call 54 [(.t 21)],none⟩]
def l17_23:List COp:=[
 ⟨some 2,.mov (.t 22),none⟩]
def c17_24:CC:=.ops [] (l17_22++(l17_23))
def c17_25:CC:=.seq c17_24 .ret
def c17_26:CC:=.seq c17_21 c17_25
def c17_27:CC:=.seq c17_3 c17_26
def c17_28:CC:=.seq c17_1 c17_27
def c17:CC:=c17_28
theorem fn17:FnOk Try.prog 17 [47] c17 [(2,none)] 23:=
 ⟨Try.f17,[⟨5,[0,1,2,3,4,5,6,7,8,9,10],[0,0,0,6,14,0,32,126,254,511,1023],[]⟩],Try.func17,by kernel_rfl,by kernel_rfl,by kernel_rfl,by kernel_rfl,by kernel_rfl⟩
def l47_0:List COp:=[
 ⟨some 2,.alloc 47 4 (.p (.agg [(.bool false),(.list 3 1 []),(.bool false),(.list 3 1 [])])),none⟩]
def c47_1:CC:=.ops [] (l47_0)
def l47_2:List COp:=[
 ⟨some 3,.mov (.t 0),none⟩,
 ⟨some 4,.call 73 [(.t 3)],none⟩]
def l47_3:List COp:=[
 ⟨some 5,.call 73 [(.k (.p (.int .i64 1)))],none⟩]
def l47_4:List COp:=[
 ⟨some 6,.build [(.p (.bool false)),(.p (.list 3 1 [])),(.p (.bool false)),(.p (.list 3 1 []))] [(0,2,(.t 4)),(2,2,(.t 5))],none⟩,
 ⟨none,.store 4 (.t 2) (.t 6),none⟩]
def c47_5:CC:=.ops [] (l47_2++(l47_3++(l47_4)))
def c47_6:CC:=.seq c47_5 .ret
def c47_7:CC:=.seq c47_1 c47_6
def c47:CC:=c47_7
theorem fn47:FnOk Try.prog 47 [47] c47 [(2,some (true,4))] 7:=
 ⟨Try.f47,[],Try.func47,by kernel_rfl,by kernel_rfl,by kernel_rfl,by kernel_rfl,by kernel_rfl⟩
def l34_0:List COp:=[
 ⟨some 4,.alloc 27 2 (.p (.agg [(.int .i64 0),(.int .i64 0)])),none⟩]
def c34_1:CC:=.ops [] (l34_0)
def l34_2:List COp:=[
 ⟨some 5,.mov (.t 0),none⟩,
 ⟨some 6,.mov (.t 1),none⟩,
 ⟨some 7,.build [(.p (.int .i64 0)),(.p (.int .i64 0))] [(0,1,(.t 5)),(1,1,(.t 6))],none⟩,
 ⟨none,.store 2 (.t 4) (.t 7),none⟩]
def c34_3:CC:=.ops [] (l34_2)
def c34_4:CC:=.seq c34_3 .ret
def c34_5:CC:=.seq c34_1 c34_4
def c34:CC:=c34_5
theorem fn34:FnOk Try.prog 34 [27] c34 [(4,some (true,2))] 8:=
 ⟨Try.f34,[],Try.func34,by kernel_rfl,by kernel_rfl,by kernel_rfl,by kernel_rfl,by kernel_rfl⟩
def l14_0:List COp:=[
 ⟨some 4,.alloc 27 2 (.p (.agg [(.int .i64 0),(.int .i64 0)])),none⟩]
def c14_1:CC:=.ops [] (l14_0)
def l14_2:List COp:=[
 ⟨some 5,.mov (.t 0),none⟩,
 ⟨some 6,.mov (.t 1),none⟩,
 ⟨some 7,.build [(.p (.int .i64 0)),(.p (.int .i64 0))] [(0,1,(.t 5)),(1,1,(.t 6))],none⟩,
 ⟨none,.store 2 (.t 4) (.t 7),none⟩]
def c14_3:CC:=.ops [] (l14_2)
def c14_4:CC:=.seq c14_3 .ret
def c14_5:CC:=.seq c14_1 c14_4
def c14:CC:=c14_5
theorem fn14:FnOk Try.prog 14 [27] c14 [(4,some (true,2))] 8:=
 ⟨Try.f14,[],Try.func14,by kernel_rfl,by kernel_rfl,by kernel_rfl,by kernel_rfl,by kernel_rfl⟩
def l8_0:List COp:=[
 ⟨some 0,.mov (.k (.p (.bool false))),none⟩]
def c8_1:CC:=.ops [] (l8_0)
def l8_2:List COp:=[
 ⟨some 6,.buildSliceF 9 1 (.str []) 2 [(0,(.k (.p (.str [45,50])))),(1,(.k (.p (.str [49]))))],none⟩,
 ⟨some 7,.call 6 [(.t 6)],none⟩]
def l8_3:List COp:=[
 ⟨some 5,.mov (.t 7),none⟩,
 ⟨some 8,.extract (.t 5) 0,none⟩,
 ⟨some 9,.extract (.t 5) 1,none⟩,
 ⟨some 1,.alloc 25 1 (.p (.agg [(.list 39 4 [])])),none⟩,
 ⟨some 2,.alloc 27 2 (.p (.agg [(.int .i64 0),(.int .i64 0)])),none⟩,
 ⟨none,.store 1 (.t 1) (.t 8),none⟩,
 ⟨none,.store 2 (.t 2) (.t 9),none⟩]
def c8_4:CC:=.ops [] (l8_2++(l8_3))
def l8_5:List COp:=[
 ⟨some 11,.buildSliceF 9 1 (.str []) 2 [(0,(.k (.p (.str [45,53])))),(1,(.k (.p (.str [49]))))],none⟩,
 ⟨some 12,.call 6 [(.t 11)],none⟩]
def l8_6:List COp:=[
 ⟨some 10,.mov (.t 12),none⟩,
 ⟨some 13,.extract (.t 10) 0,none⟩,
 ⟨some 14,.extract (.t 10) 1,none⟩,
 ⟨some 3,.alloc 25 1 (.p (.agg [(.list 39 4 [])])),none⟩,
 ⟨some 4,.alloc 27 2 (.p (.agg [(.int .i64 0),(.int .i64 0)])),none⟩,
 ⟨none,.store 1 (.t 3) (.t 13),none⟩,
 ⟨none,.store 2 (.t 4) (.t 14),none⟩]
def c8_7:CC:=.ops [] (l8_5++(l8_6))
def l8_8:List COp:=[
 ⟨some 15,.fieldAddr 0 1 false (.t 2),none⟩,
 ⟨some 16,.load false 1 (.t 15),none⟩,
 ⟨some 17,.bin false .eql (.t 16) (.k (.p (.int .i64 0))),none⟩,
 ⟨some 18,.mov (.t 17),none⟩,
 ⟨some 19,.fieldAddr 0 1 false (.t 4),some (18,true)⟩,
 ⟨some 20,.load false 1 (.t 19),some (18,true)⟩,
 ⟨some 21,.bin false .eql (.t 20) (.k (.p (.int .i64 0))),some (18,true)⟩,
 ⟨some 22,.pick (.t 18) (.t 21) (.k (.p (.bool false))),none⟩,
 ⟨some 23,.mov (.t 22),none⟩,
 ⟨some 24,.load true 1 (.t 1),some (23,true)⟩,
 ⟨some 25,.load true 1 (.t 3),some (23,true)⟩,
 ⟨some 26,.call 9 [(.t 24),(.t 25)],some (23,true)⟩]
def l8_9:List COp:=[
 ⟨some 27,.call 10 [(.t 26)],some (23,true)⟩]
def l8_10:List COp:=[
 ⟨some 28,.bin false .eql (.t 27) (.k (.p (.str [45,51]))),some (23,true)⟩,
 ⟨some 29,.pick (.t 23) (.t 28) (.k (.p (.bool false))),none⟩,
 ⟨some 0,.mov (.t 29),none⟩]
def c8_11:CC:=.ops [] (l8_8++(l8_9++(l8_10)))
def c8_12:CC:=.seq c8_11 .ret
def c8_13:CC:=.seq c8_7 c8_12
def c8_14:CC:=.seq c8_4 c8_13
def c8_15:CC:=.seq c8_1 c8_14
def c8:CC:=c8_15
theorem fn8:FnOk Try.prog 8 [9,25,27,2000006,2000011] c8 [(0,none)] 30:=
 ⟨Try.f8,[],Try.func8,by kernel_rfl,by kernel_rfl,by kernel_rfl,by kernel_rfl,by kernel_rfl⟩
end Go.Proofs.Ytdjbfgfbpimakaa.M
end

section
namespace Go.Proofs.Ytdjbfgfbpimakaa.M
open Go.RowKit
set_option linter.unusedVariables false
def CV (w:World) (N:Nat→Prop) (cs:List Value) (l:List D):Prop:=cs.length=l.length∧(∀ d∈l,d.one=true)∧∀ i d,l[i]? = some d→V w N (cs.getD i undef) d
def isStr (P:Program) (t:TypeId):Bool:=match P.underlying t with
 | some (.struct _)=>true
 | _=>false
inductive TyC (P:Program):TypeId→List D→Prop where
 | bool (t:TypeId) (b:Bool):P.underlying t=some .bool→TyC P t [.bool b]
 | int (t:TypeId) (k:IntKind) (n:Int):P.underlying t=some (.int k)→(Lit.int k n).wf=true→TyC P t [.int k n]
 | str (t:TypeId) (s:List UInt8):P.underlying t=some .string→s.length≤maxLen→TyC P t [.str s]
 | slice (t e:TypeId) (l:List D):P.underlying t=some (.slice e)→l.length≤maxLen→(∀ d∈l,TyC P e d.cells)→(∀ d∈l,d.cells.length=P.cellsOf e∧(∀ q∈d.cells,q.one=true)∧d.isAgg=isStr P e)→TyC P t [.list (e+1000000) (P.cellsOf e) l]
 | struct (t:TypeId) (fs:Array Field) (l:List D):P.underlying t=some (.struct fs)→l.length=P.cellsOf t→(∀ f∈fs.toList,TyC P f.type ((l.drop f.offset).take (P.cellsOf f.type)))→TyC P t l
def contig (P:Program):Nat→List Field→Nat→Bool
 | o,[],e=>o == e
 | o,f::fs,e=>f.offset == o&&contig P (o+P.cellsOf f.type) fs e
theorem contig_le {P:Program}:∀ {fs:List Field} {o e:Nat},contig P o fs e=true→o≤e
 | [],o,e,h=>by simp[contig] at h;omega
 | f::fs,o,e,h=>by
  simp only[contig,Bool.and_eq_true] at h
  have:=contig_le h.2
  omega
def plainT (P:Program) (S:List TypeId):Bool:=S.all fun t=>decide (0<P.cellsOf t)&&match P.underlying t with
 | some .bool=>true
 | some (.int _)=>true
 | some .string=>true
 | some (.slice e)=>S.contains e
 | some (.struct fs)=>fs.toList.all (fun f=>S.contains f.type)&&contig P 0 fs.toList (P.cellsOf t)
 | _=>false
theorem CV.append {w:World} {N:Nat→Prop} {cs ds:List Value} {l m:List D} (h:CV w N cs l) (k:CV w N ds m):CV w N (cs++ds) (l++m):=by
 refine⟨by simp[h.1,k.1],fun d hd => ?_,fun i d hd => ?_⟩
 ·rcases List.mem_append.1 hd with hd | hd
  ·exact h.2.1 d hd
  ·exact k.2.1 d hd
 ·have hl:=h.1
  rcases Nat.lt_or_ge i l.length with hi | hi
  ·rw[List.getElem?_append_left hi] at hd
   have:=h.2.2 i d hd
   rw[List.getD_eq_getElem?_getD,List.getElem?_append_left (by omega),←List.getD_eq_getElem?_getD]
   exact this
  ·rw[List.getElem?_append_right hi] at hd
   have:=k.2.2 _ d hd
   rw[List.getD_eq_getElem?_getD,List.getElem?_append_right (by omega),hl,←List.getD_eq_getElem?_getD]
   exact this
theorem join {P:Program} {w:World} {N:Nat→Prop} {cs:List Value}:∀ (fs:List Field) (o:Nat),contig P o fs cs.length=true→(∀ f∈fs,∃ l,CV w N ((cs.drop f.offset).take (P.cellsOf f.type)) l∧TyC P f.type l) →
  ∃ l,CV w N (cs.drop o) l∧∀ f∈fs,o≤f.offset∧TyC P f.type ((l.drop (f.offset-o)).take (P.cellsOf f.type))
 | [],o,h,_=>by
  simp[contig] at h
  refine⟨[],⟨by simp;omega,by simp,by simp⟩,by simp⟩
 | f::fs,o,h,hf=>by
  simp only[contig,Bool.and_eq_true,beq_iff_eq] at h
  obtain⟨rfl,h2⟩:=h
  have hle:=contig_le h2
  obtain⟨l',g1,g2⟩:=join fs _ h2 fun f' hf'=>hf f' (by simp[hf'])
  obtain⟨l,k1,k2⟩:=hf f (by simp)
  have hl:l.length=P.cellsOf f.type:=by rw[←k1.1];simp;omega
  refine⟨l++l',?_,fun f' hf' => ?_⟩
  ·have:=k1.append g1
   rw[←List.drop_drop,List.take_append_drop] at this
   exact this
  ·rcases List.mem_cons.1 hf' with rfl | hf'
   ·refine⟨Nat.le_refl _,?_⟩
    rw[Nat.sub_self,List.drop_zero,List.take_append_of_le_length (by omega),List.take_of_length_le (by omega)]
    exact k2
   ·obtain⟨q1,q2⟩:=g2 f' hf'
    refine⟨by omega,?_⟩
    rw[List.drop_append,List.drop_of_length_le (by omega),List.nil_append,hl,show f'.offset-f.offset-P.cellsOf f.type=f'.offset-(f.offset+P.cellsOf f.type) by omega]
    exact q2
section
variable {H:Type} {enc:TypeId × Value→H} {P:Program} {w:World} {spare:Nat→Bool} {held:Bool} {N:Nat→Prop}
theorem cells_of {a:Addr} {n:Nat} {cs:List Value} (h:w.cells? 0 a n=some cs):cs.length=n∧∀ i,i<n→w.cell? (a.add i)=some (cs.getD i undef):=by
 unfold World.cells? at h
 rw[if_pos (Nat.zero_le _)] at h
 have hl:=mapM_some_length h
 rw[List.length_range] at hl
 refine⟨hl,fun i hi => ?_⟩
 have:=mapM_some_get h i i (by simp[hi])
 rw[this]
 simp[show i<cs.length by omega]
theorem addr_none {a:Addr} {v:Value} (h:w.cell? (a.add 0)=some v):∃ b o,a=⟨b,o,none⟩:=by
 obtain⟨b,o,s⟩:=a
 cases s with
 | none=>exact⟨b,o,rfl⟩
 | some x =>
  exfalso
  unfold Addr.add World.cell? at h
  rw[if_pos rfl] at h
  split at h
  ·simp at h
  ·cases h
theorem add_z {a:Addr}:(a.add 0)=a:=by unfold Addr.add;rw[if_pos rfl]
theorem cell_some {b o:Nat} {v:Value} (h:w.cell? ⟨b,o,none⟩=some v):∃ c T fr,w.heap[b]? = some (.cells c T fr)∧o<c.size∧c.getD o undef=v:=by
 unfold World.cell? at h
 split at h
 ·rename_i c T fr hb
  simp only[Option.isSome_none,Bool.false_eq_true,if_false] at h
  obtain⟨h1,h2⟩:=Array.getElem?_eq_some_iff.1 h
  exact⟨c,T,fr,hb,h1,by simp[h1,h2]⟩
 ·cases h
theorem read_cells {S:List TypeId} (hS:plainT P S=true):∀ (fuel:Nat) (t:TypeId) (cs:List Value) (x:DataW H × List MemPlace),t∈S→DataW.trod enc P w 0 spare held fuel t cs=some x →
  ∃ l,CV w (fun b=>b<w.heap.size) cs l∧TyC P t l∧(isStr P t=false→∃ d,l=[d]∧d.isAgg=false):=by
 intro fuel
 induction fuel with
 | zero=>intro t cs x _ h;simp[DataW.trod] at h
 | succ n ih =>
  intro t cs x ht h
  have hp:=hS
  unfold plainT at hp
  rw[List.all_eq_true] at hp
  have hpt':=hp t ht
  rw[Bool.and_eq_true,decide_eq_true_eq] at hpt'
  have hpos:=hpt'.1
  have hpt:=hpt'.2
  clear hpt'
  split at hpt
  ·rename_i hu
   obtain⟨b,rfl,-⟩:=DataW.trod_bool hu h
   exact⟨[.bool b],⟨rfl,by simp[D.one],fun i d hd=>by
    match i,hd with
    | 0,hd=>simp at hd;subst hd;exact .bool b
    | i+1,hd=>simp at hd⟩,.bool t b hu,fun _=>⟨_,rfl,rfl⟩⟩
  ·rename_i k hu
   obtain⟨m,rfl,-,hw⟩:=DataW.trod_int hu h
   exact⟨[.int k m],⟨rfl,by simp[D.one],fun i d hd=>by
    match i,hd with
    | 0,hd=>simp at hd;subst hd;exact .int k m
    | i+1,hd=>simp at hd⟩,.int t k m hu hw,fun _=>⟨_,rfl,rfl⟩⟩
  ·rename_i hu
   obtain⟨s,rfl,-,hw⟩:=DataW.trod_string hu h
   exact⟨[.str s.data.toList],⟨rfl,by simp[D.one],fun i d hd=>by
    match i,hd with
    | 0,hd=>simp at hd;subst hd;exact .str s
    | i+1,hd=>simp at hd⟩,.str t _ hu (by simpa using hw),fun _=>⟨_,rfl,rfl⟩⟩
  ·rename_i e hu
   have he:e∈S:=by simpa using hpt
   have one:∀ (δ:D),δ.one=true→δ.isAgg=false→∀ v:Value,V w (fun b=>b<w.heap.size) v δ→TyC P t [δ]→cs=[v]→∃ l,CV w (fun b=>b<w.heap.size) cs l∧TyC P t l∧(isStr P t=false→∃ d,l=[d]∧d.isAgg=false):=by
    rintro δ h1 h2 v hv hT rfl
    exact⟨[δ],⟨rfl,by simpa using h1,fun i d hd=>by
     match i,hd with
     | 0,hd=>simp at hd;subst hd;exact hv
     | i+1,hd=>simp at hd⟩,hT,fun _=>⟨_,rfl,h2⟩⟩
   rcases DataW.trod_slice hu h with⟨rfl,-⟩ | ⟨a,len,cap,elems,rest,m,hm,rfl,rfl,hb,hl,hcap,hlen,hel,-,-⟩
   ·exact one _ rfl rfl _ (.empty none 0 (e+1000000) (P.cellsOf e) (by omega)) (.slice t e [] hu (by simp) (by simp) (by simp)) rfl
   ·obtain rfl:m=n:=by omega
    have each:∀ i,i<len→∃ (d:D) (cs':List Value),CV w (fun b=>b<w.heap.size) cs' d.cells∧cs'.length=P.cellsOf e∧(∀ j,j<P.cellsOf e→w.cell? ((a.add (i*P.cellsOf e)).add j)=some (cs'.getD j undef))∧TyC P e d.cells∧d.isAgg=isStr P e:=by
     intro i hi
     have h1:=hel i hi
     rw[show elems[i]? = some (elems[i]'(by omega)) by simp[show i<elems.length by omega],Option.bind_eq_some_iff] at h1
     obtain⟨cs',hcs,hy⟩:=h1
     obtain⟨l,g1,g2,g3⟩:=ih e cs' _ he hy
     obtain⟨q1,q2⟩:=cells_of hcs
     cases hs:isStr P e with
     | true=>exact⟨.agg l,cs',g1,q1,q2,g2,rfl⟩
     | false =>
      obtain⟨d,rfl,hd⟩:=g3 hs
      have hc:d.cells=[d]:=by cases d<;>first | rfl | (simp[D.isAgg] at hd)
      exact⟨d,cs',by rw[hc];exact g1,q1,q2,by rw[hc];exact g2,hd⟩
    have hch:∃ f:Nat→D × List Value,∀ i,i<len→CV w (fun b=>b<w.heap.size) (f i).2 (f i).1.cells∧(f i).2.length=P.cellsOf e∧(∀ j,j<P.cellsOf e→w.cell? ((a.add (i*P.cellsOf e)).add j)=some ((f i).2.getD j undef))∧TyC P e (f i).1.cells∧(f i).1.isAgg=isStr P e:=by
     refine⟨fun i=>open Classical in if hi:i<len then ((each i hi).choose,(each i hi).choose_spec.choose) else default,fun i hi => ?_⟩
     simp only[hi,dif_pos]
     exact (each i hi).choose_spec.choose_spec
    obtain⟨f,hf⟩:=hch
    have hty:TyC P t [.list (e+1000000) (P.cellsOf e) ((List.range len).map fun i=>(f i).1)]:=by
     refine .slice t e _ hu (by simpa using Nat.le_trans hl hcap) ?_ ?_
     ·intro d hd
      obtain⟨i,hi,rfl⟩:=List.mem_map.1 hd
      exact (hf i (List.mem_range.1 hi)).2.2.2.1
     ·intro d hd
      obtain⟨i,hi,rfl⟩:=List.mem_map.1 hd
      obtain⟨k1,k2,k3,k4,k5⟩:=hf i (List.mem_range.1 hi)
      exact⟨k1.1.symm.trans k2,k1.2.1,k5⟩
    have hmax:maxLen=9223372036854775807:=rfl
    by_cases h0:len=0
    ·subst h0
     exact one _ rfl rfl _ (.empty (some a) cap (e+1000000) (P.cellsOf e) (by omega)) hty rfl
    ·have hz0:0<P.cellsOf e:=by
      have:=hp e he
      rw[Bool.and_eq_true,decide_eq_true_eq] at this
      exact this.1
     obtain⟨b,o,rfl⟩:∃ b o,a=⟨b,o,none⟩:=by
      have h1:=(hf 0 (by omega)).2.2.1 0 (by omega)
      rw[Nat.zero_mul,add_z] at h1
      exact addr_none h1
     have hcell:∀ i j,i<len→j<P.cellsOf e→w.cell? ⟨b,o+(i*P.cellsOf e+j),none⟩=some ((f i).2.getD j undef):=by
      intro i j hi hj
      have:=(hf i hi).2.2.1 j hj
      rw[add_mid,add_mid] at this
      rw[←Nat.add_assoc];exact this
     obtain⟨c,T,fr,hblk,-,-⟩:=cell_some (hcell 0 0 (by omega) hz0)
     have hlt:b<w.heap.size:=by
      rcases Nat.lt_or_ge b w.heap.size with h | h
      ·exact h
      ·rw[Array.getElem?_eq_none h] at hblk;cases hblk
     have hget:∀ i j,i<len→j<P.cellsOf e→o+(i*P.cellsOf e+j)<c.size∧c.getD (o+(i*P.cellsOf e+j)) undef=(f i).2.getD j undef:=by
      intro i j hi hj
      obtain⟨c',T',fr',h1,h2,h3⟩:=cell_some (hcell i j hi hj)
      rw[hblk] at h1
      cases h1
      exact⟨h2,h3⟩
     have hidx:∀ (i:Nat) (d:D),((List.range len).map fun i=>(f i).1)[i]? = some d→i<len∧d=(f i).1:=by
      intro i d hd
      rw[List.getElem?_map,Option.map_eq_some_iff] at hd
      obtain⟨q,hq,rfl⟩:=hd
      obtain⟨h1,h2⟩:=List.getElem?_eq_some_iff.1 hq
      simp at h1 h2
      subst h2
      exact⟨h1,rfl⟩
     have:=V.list (w:=w) (N:=fun b=>b<w.heap.size) b o cap (e+1000000) (P.cellsOf e) ((List.range len).map fun i=>(f i).1) c fr ⟨T,hblk,.inr (Nat.le_add_left _ _)⟩ hlt (by simpa using hl) (by omega) ?_ ?_ ?_
     ·simp only[List.length_map,List.length_range] at this
      exact one _ rfl rfl _ this hty rfl
     ·intro d hd
      obtain⟨i,hi,rfl⟩:=List.mem_map.1 hd
      obtain⟨k1,k2,-⟩:=hf i (List.mem_range.1 hi)
      exact⟨k1.1.symm.trans k2,k1.2.1⟩
     ·intro i d j q hd hq
      obtain⟨hi,rfl⟩:=hidx i d hd
      obtain⟨k1,k2,-⟩:=hf i hi
      have hj:=(List.getElem?_eq_some_iff.1 hq).1
      exact (hget i j hi (by have:=k1.1;omega)).1
     ·intro i d j q hd hq
      obtain⟨hi,rfl⟩:=hidx i d hd
      obtain⟨k1,k2,-⟩:=hf i hi
      have hj:=(List.getElem?_eq_some_iff.1 hq).1
      rw[(hget i j hi (by have:=k1.1;omega)).2]
      exact k1.2.2 j q hq
  ·rename_i fs hu
   simp only[Bool.and_eq_true,List.all_eq_true] at hpt
   obtain⟨h1,h2⟩:=hpt
   obtain⟨xs,m,hm,rfl,hlen,hxs,hfs⟩:=DataW.trod_struct hu h
   obtain rfl:m=n:=by omega
   rw[←hlen] at h2
   obtain⟨l,g1,g2⟩:=join (w:=w) (N:=fun b=>b<w.heap.size) fs.toList 0 h2 fun f hf=>by
    obtain⟨i,hi,rfl⟩:=List.mem_iff_getElem.1 hf
    have hfi:fs[i]? = some (fs.toList[i]):=by simp at hi ⊢
    have h3:=hfs i _ hfi
    rw[List.getElem?_eq_getElem (show i<xs.length by simp at hi;omega)] at h3
    obtain⟨l,q1,q2,-⟩:=ih _ _ _ (by simpa using h1 _ hf) h3
    exact⟨l,q1,q2⟩
   rw[List.drop_zero] at g1
   exact⟨l,g1,.struct t fs l hu (by rw[←g1.1];exact hlen) fun f hf=>by simpa using (g2 f hf).2,fun hs=>by simp[isStr,hu] at hs⟩
  ·cases hpt
theorem read_arg {S:List TypeId} (hS:plainT P S=true) {t:TypeId} (ht:t∈S) {r:Reach} {b0:Nat} {v:Value} {d:DataW H} {ps:List MemPlace} (hval:Value.okWide P w r b0 t v) (h:DataW.Trod enc P w 0 spare held t v d ps) :
  ∃ δ,V w (fun b=>b<w.heap.size) v δ∧TyC P t δ.cells∧δ.isAgg=isStr P t:=by
 obtain⟨fuel,h⟩:=h
 obtain⟨l,h1,h2,h3⟩:=read_cells hS fuel t _ _ ht h
 have one:isStr P t=false→v.cells = #[v]→∃ δ,V w (fun b=>b<w.heap.size) v δ∧TyC P t δ.cells∧δ.isAgg=isStr P t:=by
  intro hs hc
  obtain⟨δ,rfl,hδ⟩:=h3 hs
  have hcc:δ.cells=[δ]:=by cases δ<;>first | rfl | (simp[D.isAgg] at hδ)
  refine⟨δ,?_,by rw[hcc];exact h2,by rw[hδ,hs]⟩
  have:=h1.2.2 0 δ rfl
  rw[hc] at this
  simpa using this
 cases h2 with
 | bool t b hu=>obtain⟨x,rfl⟩:=Go.WideShapes.okWide_bool hu hval;exact one (by simp[isStr,hu]) rfl
 | int t k n hu=>obtain⟨x,rfl⟩:=Go.WideShapes.okWide_int hu hval;exact one (by simp[isStr,hu]) rfl
 | str t s hu=>obtain⟨x,rfl⟩:=Go.WideShapes.okWide_string hu hval;exact one (by simp[isStr,hu]) rfl
 | slice t e l hu=>obtain⟨a,n,c,rfl⟩:=Go.WideShapes.okWide_slice hu hval;exact one (by simp[isStr,hu]) rfl
 | struct t fs l hu hl hf =>
  obtain⟨cs,rfl,-⟩:=Go.WideShapes.okWide_struct hu hval
  refine⟨.agg l,.agg cs l (by have:=h1.1;simpa[Value.cells] using this) h1.2.1 fun i d hd => ?_,.struct t fs l hu hl hf,by simp[isStr,hu,D.isAgg]⟩
  have:=h1.2.2 i d hd
  simpa[Value.cells] using this
theorem ty_slice {t e:TypeId} {δ:D} (hu:P.underlying t=some (.slice e)) (h:TyC P t δ.cells) (hg:δ.isAgg=isStr P t):∃ l:List D,δ = .list (e+1000000) (P.cellsOf e) l∧l.length≤maxLen∧(∀ d∈l,TyC P e d.cells)∧(∀ d∈l,d.cells.length=P.cellsOf e∧(∀ q∈d.cells,q.one=true)∧d.isAgg=isStr P e):=by
 have hs:isStr P t=false:=by simp[isStr,hu]
 rw[hs] at hg
 have hcc:δ.cells=[δ]:=by cases δ<;>first | rfl | (simp[D.isAgg] at hg)
 rw[hcc] at h
 generalize he:[δ]=m at h
 cases h with
 | slice t e' l hu' h1 h2 h3 =>
  rw[hu] at hu'
  cases hu'
  injection he with he
  exact⟨l,he,h1,h2,h3⟩
 | bool t b hu'=>rw[hu] at hu';cases hu'
 | int t k n hu'=>rw[hu] at hu';cases hu'
 | str t s hu'=>rw[hu] at hu';cases hu'
 | struct t fs l hu'=>rw[hu] at hu';cases hu'
theorem ty_str {t:TypeId} {δ:D} (hu:P.underlying t=some .string) (h:TyC P t δ.cells) (hg:δ.isAgg=isStr P t):∃ s:List UInt8,δ = .str s∧s.length≤maxLen:=by
 have hs:isStr P t=false:=by simp[isStr,hu]
 rw[hs] at hg
 have hcc:δ.cells=[δ]:=by cases δ<;>first | rfl | (simp[D.isAgg] at hg)
 rw[hcc] at h
 generalize he:[δ]=m at h
 cases h with
 | str t s hu' h1=>injection he with he;exact⟨s,he,h1⟩
 | bool t b hu'=>rw[hu] at hu';cases hu'
 | int t k n hu'=>rw[hu] at hu';cases hu'
 | slice t e l hu'=>rw[hu] at hu';cases hu'
 | struct t fs l hu'=>rw[hu] at hu';cases hu'
theorem ty_strs {t e:TypeId} {δ:D} (hu:P.underlying t=some (.slice e)) (he:P.underlying e=some .string) (hc:P.cellsOf e=1) (h:TyC P t δ.cells) (hg:δ.isAgg=isStr P t):∃ l:List (List UInt8),δ = .list (e+1000000) 1 (l.map .str)∧l.length≤maxLen∧∀ s∈l,s.length≤maxLen:=by
 obtain⟨l,rfl,h1,h2,h3⟩:=ty_slice hu h hg
 have:∃ m:List (List UInt8),l=m.map .str∧∀ s∈m,s.length≤maxLen:=by
  clear h hg h1
  induction l with
  | nil=>exact⟨[],rfl,by simp⟩
  | cons d l ih =>
   obtain⟨m,rfl,hm⟩:=ih (fun d hd=>h2 d (by simp[hd])) (fun d hd=>h3 d (by simp[hd]))
   obtain⟨s,rfl,hs⟩:=ty_str he (h2 d (by simp)) (h3 d (by simp)).2.2
   refine⟨s::m,rfl,fun s' hs' => ?_⟩
   rcases List.mem_cons.1 hs' with rfl | hs'
   ·exact hs
   ·exact hm s' hs'
 obtain⟨m,rfl,hm⟩:=this
 exact⟨m,by rw[hc],by simpa using h1,hm⟩
end
end Go.Proofs.Ytdjbfgfbpimakaa.M
end

section
namespace Go.Proofs.Ytdjbfgfbpimakaa.M
open Go.RowKit
set_option linter.defProp false
def fin (d:Option Nat) (K:St→Prop):Option (Bool × AV × St)→Prop
 | some (p,v,t)=>p=true∧K (t.put d v)
 | none=>False
theorem fin_some (d:Option Nat) (K:St→Prop) (p:Bool) (v:AV) (t:St):fin d K (some (p,v,t))=(p=true∧K (t.put d v)):=rfl
theorem fin_none (d:Option Nat) (K:St→Prop):fin d K none=False:=rfl
theorem st_call (G:FuncId→List D→D→Prop) (d:Option Nat) (f:FuncId) (args:List Opd) (g:Option (Nat × Bool)) (K:St→Prop) (s:St):step G ⟨d,.call f args,g⟩ K s=(match argsD s args with
  | some ds => ∃ e,G f ds e∧K (s.put d (.p e))
  | none=>False):=rfl
theorem st_append (G:FuncId→List D→D→Prop) (d:Option Nat) (T sz b:Nat) (x y:Opd) (g:Option (Nat × Bool)) (K:St→Prop) (s:St):step G ⟨d,.append T sz b x y,g⟩ K s=fin d K (evApp T sz b x y (d.getD 0) s):=rfl
theorem gs_none (G:FuncId→List D→D→Prop) (d:Option Nat) (o:AOp) (K:St→Prop) (s:St):gstep G ⟨d,o,none⟩ K s=step G ⟨d,o,none⟩ K s:=rfl
theorem gs_some (G:FuncId→List D→D→Prop) (d:Option Nat) (o:AOp) (i:Nat) (b:Bool) (K:St→Prop) (s:St):gstep G ⟨d,o,some (i,b)⟩ K s=(match s.r i with
  | .p (.bool c)=>if c=b then step G ⟨d,o,some (i,b)⟩ K s else K (s.put d .und)
  | _=>False):=rfl
theorem opd_t (r:Nat→AV) (n:Nat):Opd.ev r (.t n)=r n:=rfl
theorem opd_k (r:Nat→AV) (v:AV):Opd.ev r (.k v)=v:=rfl
theorem asI_int (k:IntKind) (n:Int):asI (.p (.int k n))=some n:=rfl
theorem toD_p (any:Bool) (M:Mem) (d:D):AV.toD any M 20 (.p d)=some d:=rfl
theorem toD_nils (any:Bool) (M:Mem) (T:TypeId) (sz:Nat):AV.toD any M 20 (.nils T sz)=some (.list T sz []):=rfl
theorem toD_slice (any:Bool) (M:Mem) (id off len:Nat):AV.toD any M 20 (.slice id off len)=(match M id with
  | some o=>match o.cont with
   | .row l=>if (o.frz||any)&&decide (off+len≤l.length) then some (.list o.T o.sz ((l.drop off).take len)) else none
   | _=>none
  | none=>none):=rfl
theorem argsD_nil (s:St):argsD s []=some []:=rfl
theorem argsD_cons (s:St) (x:Opd) (l:List Opd):argsD s (x::l)=(match (x.ev s.r).toD false s.m 20,argsD s l with
  | some d,some ds=>some (d::ds)
  | _,_=>none):=rfl
theorem st_mov (G:FuncId→List D→D→Prop) (dd:Option Nat) (x:Opd) (g:Option (Nat × Bool)) (K:St→Prop) (s:St):step G ⟨dd,.mov x,g⟩ K s=fin dd K (ev (.mov x) (dd.getD 0) s):=rfl
theorem ev_mov (x:Opd) (id:Nat) (s:St):ev (.mov x) id s=(some (true,x.ev s.r,s)):=rfl
theorem st_nilCheck (G:FuncId→List D→D→Prop) (dd:Option Nat) (x:Opd) (g:Option (Nat × Bool)) (K:St→Prop) (s:St):step G ⟨dd,.nilCheck x,g⟩ K s=fin dd K (ev (.nilCheck x) (dd.getD 0) s):=rfl
theorem ev_nilCheck (x:Opd) (id:Nat) (s:St):ev (.nilCheck x) id s=(match x.ev s.r with
  | .ptr i j o=>some (true,.ptr i j o,s)
  | .p (.ref d)=>some (true,.p (.ref d),s)
  | _=>none):=rfl
theorem st_pick (G:FuncId→List D→D→Prop) (dd:Option Nat) (c:Opd) (a:Opd) (b:Opd) (g:Option (Nat × Bool)) (K:St→Prop) (s:St):step G ⟨dd,.pick c a b,g⟩ K s=fin dd K (ev (.pick c a b) (dd.getD 0) s):=rfl
theorem ev_pick (c:Opd) (a:Opd) (b:Opd) (id:Nat) (s:St):ev (.pick c a b) id s=(match c.ev s.r with
  | .p (.bool true)=>some (true,a.ev s.r,s)
  | .p (.bool false)=>some (true,b.ev s.r,s)
  | _=>none):=rfl
theorem st_alloc (G:FuncId→List D→D→Prop) (dd:Option Nat) (T:Nat) (sz:Nat) (z:AV) (g:Option (Nat × Bool)) (K:St→Prop) (s:St):step G ⟨dd,.alloc T sz z,g⟩ K s=fin dd K (ev (.alloc T sz z) (dd.getD 0) s):=rfl
theorem ev_alloc (T:Nat) (sz:Nat) (z:AV) (id:Nat) (s:St):ev (.alloc T sz z) id s=(match s.m id with
  | none=>some (true,.ptr id 0 0,⟨s.r,upd s.m id (some ⟨T,sz,.box z,false⟩)⟩)
  | some _=>none):=rfl
theorem st_box (G:FuncId→List D→D→Prop) (dd:Option Nat) (T:Nat) (sz:Nat) (x:Opd) (g:Option (Nat × Bool)) (K:St→Prop) (s:St):step G ⟨dd,.box T sz x,g⟩ K s=fin dd K (ev (.box T sz x) (dd.getD 0) s):=rfl
theorem ev_box (T:Nat) (sz:Nat) (x:Opd) (id:Nat) (s:St):ev (.box T sz x) id s=(match s.m id with
  | none=>if (x.ev s.r).cells.length=sz∧(x.ev s.r).cells.all AV.one=true then some (true,.ptr id 0 0,⟨s.r,upd s.m id (some ⟨T,sz,.box (x.ev s.r),false⟩)⟩) else none
  | some _=>none):=rfl
theorem st_build (G:FuncId→List D→D→Prop) (dd:Option Nat) (z:List AV) (parts:List (Nat × Nat × Opd)) (g:Option (Nat × Bool)) (K:St→Prop) (s:St):step G ⟨dd,.build z parts,g⟩ K s=fin dd K (ev (.build z parts) (dd.getD 0) s):=rfl
theorem ev_build (z:List AV) (parts:List (Nat × Nat × Opd)) (id:Nat) (s:St):ev (.build z parts) id s=(match fillA z s.r parts with
  | some l=>some (true,AV.mk l,s)
  | none=>none):=rfl
theorem st_buildSlice (G:FuncId→List D→D→Prop) (dd:Option Nat) (T:Nat) (sz:Nat) (z:D) (n:Nat) (parts:List (Nat × Opd)) (g:Option (Nat × Bool)) (K:St→Prop) (s:St):step G ⟨dd,.buildSlice T sz z n parts,g⟩ K s=fin dd K (ev (.buildSlice T sz z n parts) (dd.getD 0) s):=rfl
theorem ev_buildSlice (T:Nat) (sz:Nat) (z:D) (n:Nat) (parts:List (Nat × Opd)) (id:Nat) (s:St):ev (.buildSlice T sz z n parts) id s=(match s.m id with
  | none=>match fillR sz (List.replicate n z) s.r s.m parts with
   | some l=>some (true,.slice id 0 n,⟨s.r,upd s.m id (some ⟨T,sz,.row l,false⟩)⟩)
   | none=>none
  | some _=>none):=rfl
theorem st_load (G:FuncId→List D→D→Prop) (dd:Option Nat) (ag:Bool) (sz:Nat) (x:Opd) (g:Option (Nat × Bool)) (K:St→Prop) (s:St):step G ⟨dd,.load ag sz x,g⟩ K s=fin dd K (ev (.load ag sz x) (dd.getD 0) s):=rfl
theorem ev_load (ag:Bool) (sz:Nat) (x:Opd) (id:Nat) (s:St):ev (.load ag sz x) id s=(match x.ev s.r with
  | .ptr i j off=>match s.m i with
   | some ⟨_,osz,.row l,_⟩=>match (AV.p (l.getD j default)).get off sz osz ag with
    | some v=>some (decide (j<l.length),v,s)
    | none=>none
   | some ⟨_,osz,.box v,_⟩=>if j=0 then match v.get off sz osz ag with
    | some u=>some (true,u,s)
    | none=>none else none
   | _=>none
  | .p (.ref d)=>if d.isAgg=ag then some (decide (d.cells.length=sz∧0<sz),.p d,s) else none
  | _=>none):=rfl
theorem st_store (G:FuncId→List D→D→Prop) (dd:Option Nat) (sz:Nat) (x:Opd) (v:Opd) (g:Option (Nat × Bool)) (K:St→Prop) (s:St):step G ⟨dd,.store sz x v,g⟩ K s=fin dd K (ev (.store sz x v) (dd.getD 0) s):=rfl
theorem ev_store (sz:Nat) (x:Opd) (v:Opd) (id:Nat) (s:St):ev (.store sz x v) id s=(match x.ev s.r with
  | .ptr i j off=>match s.m i with
   | some ⟨T,osz,.row l,false⟩=>match (v.ev s.r).toD false s.m 20 with
    | some d=>if d.cells.length=sz∧d.cells.all D.one=true then
      (
       if off=0∧sz=osz then some (decide (j<l.length),.und,⟨s.r,upd s.m i (some ⟨T,osz,.row (l.set j d),false⟩)⟩)
       else none) else none
    | none=>none
   | some ⟨T,osz,.box u,false⟩=>if (v.ev s.r).cells.length=sz∧(v.ev s.r).cells.all AV.one=true∧j=0 then
     (
      if off=0∧sz=osz then some (true,.und,⟨s.r,upd s.m i (some ⟨T,osz,.box (v.ev s.r),false⟩)⟩)
      else if off+sz≤osz then some (true,.und,⟨s.r,upd s.m i (some ⟨T,osz,.box (AV.mk (u.cells.take off++(v.ev s.r).cells++u.cells.drop (off+sz))),false⟩)⟩) else none) else none
   | some ⟨T,osz,.junk,false⟩=>if (v.ev s.r).cells.length=sz∧(v.ev s.r).cells.all AV.one=true∧j=0 then
     (if off=0∧sz=osz then some (true,.und,⟨s.r,upd s.m i (some ⟨T,osz,.box (v.ev s.r),false⟩)⟩) else none) else none
   | _=>none
  | _=>none):=rfl
theorem st_bin (G:FuncId→List D→D→Prop) (dd:Option Nat) (bo:Bool) (op:BinOp) (x:Opd) (y:Opd) (g:Option (Nat × Bool)) (K:St→Prop) (s:St):step G ⟨dd,.bin bo op x y,g⟩ K s=fin dd K (ev (.bin bo op x y) (dd.getD 0) s):=rfl
theorem ev_bin (bo:Bool) (op:BinOp) (x:Opd) (y:Opd) (id:Nat) (s:St):ev (.bin bo op x y) id s=(match x.ev s.r,y.ev s.r with
  | .p a,.p b=>if a.isBool=bo then match binD op a b with
   | some (c,d)=>some (c,.p d,s)
   | none=>none else none
  | _,_=>none):=rfl
theorem st_eqs (G:FuncId→List D→D→Prop) (dd:Option Nat) (n:Nat) (neg:Bool) (x:Opd) (y:Opd) (g:Option (Nat × Bool)) (K:St→Prop) (s:St):step G ⟨dd,.eqs n neg x y,g⟩ K s=fin dd K (ev (.eqs n neg x y) (dd.getD 0) s):=rfl
theorem ev_eqs (n:Nat) (neg:Bool) (x:Opd) (y:Opd) (id:Nat) (s:St):ev (.eqs n neg x y) id s=(match x.ev s.r,y.ev s.r with
  | .p (.agg a),.p (.agg b)=>match intsOf a,intsOf b with
   | some (k,l),some (k',m)=>if k=k'∧k.length=n then some (true,.p (.bool (if neg then !decide (l=m) else decide (l=m))),s) else none
   | _,_=>none
  | _,_=>none):=rfl
theorem st_un (G:FuncId→List D→D→Prop) (dd:Option Nat) (op:UnOp) (x:Opd) (g:Option (Nat × Bool)) (K:St→Prop) (s:St):step G ⟨dd,.un op x,g⟩ K s=fin dd K (ev (.un op x) (dd.getD 0) s):=rfl
theorem ev_un (op:UnOp) (x:Opd) (id:Nat) (s:St):ev (.un op x) id s=(match x.ev s.r with
  | .p a=>match unD op a with
   | some (c,d)=>some (c,.p d,s)
   | none=>none
  | _=>none):=rfl
theorem st_conv (G:FuncId→List D→D→Prop) (dd:Option Nat) (k:IntKind) (x:Opd) (g:Option (Nat × Bool)) (K:St→Prop) (s:St):step G ⟨dd,.conv k x,g⟩ K s=fin dd K (ev (.conv k x) (dd.getD 0) s):=rfl
theorem ev_conv (k:IntKind) (x:Opd) (id:Nat) (s:St):ev (.conv k x) id s=(match x.ev s.r with
  | .p (.int _ n)=>some (inK k n,.p (.int k n),s)
  | _=>none):=rfl
theorem st_makeSlice (G:FuncId→List D→D→Prop) (dd:Option Nat) (T:Nat) (sz:Nat) (bytes:Nat) (z:D) (l:Opd) (c:Opd) (g:Option (Nat × Bool)) (K:St→Prop) (s:St):step G ⟨dd,.makeSlice T sz bytes z l c,g⟩ K s=fin dd K (ev (.makeSlice T sz bytes z l c) (dd.getD 0) s):=rfl
theorem ev_makeSlice (T:Nat) (sz:Nat) (bytes:Nat) (z:D) (l:Opd) (c:Opd) (id:Nat) (s:St):ev (.makeSlice T sz bytes z l c) id s=(match s.m id with
  | none=>match asI (l.ev s.r),asI (c.ev s.r) with
   | some n,some m=>some (decide (0≤n∧n=m∧bytes*n≤281474976710656∧n≤9223372036854775807),.slice id 0 n.toNat,⟨s.r,upd s.m id (some ⟨T,sz,.row (List.replicate n.toNat z),false⟩)⟩)
   | _,_=>none
  | some _=>none):=rfl
theorem st_sliceS (G:FuncId→List D→D→Prop) (dd:Option Nat) (x:Opd) (lo:Option Opd) (hi:Option Opd) (g:Option (Nat × Bool)) (K:St→Prop) (s:St):step G ⟨dd,.sliceS x lo hi,g⟩ K s=fin dd K (ev (.sliceS x lo hi) (dd.getD 0) s):=rfl
theorem ev_sliceS (x:Opd) (lo:Option Opd) (hi:Option Opd) (id:Nat) (s:St):ev (.sliceS x lo hi) id s=(match x.ev s.r with
  | .p (.str t)=>match bounds s.r t.length lo hi none with
   | some (c,l,h)=>some (c,.p (.str ((t.drop l).take (h-l))),s)
   | none=>none
  | _=>none):=rfl
theorem st_slice (G:FuncId→List D→D→Prop) (dd:Option Nat) (sz:Nat) (x:Opd) (lo:Option Opd) (hi:Option Opd) (mx:Option Opd) (g:Option (Nat × Bool)) (K:St→Prop) (s:St):step G ⟨dd,.slice sz x lo hi mx,g⟩ K s=fin dd K (ev (.slice sz x lo hi mx) (dd.getD 0) s):=rfl
theorem ev_slice (sz:Nat) (x:Opd) (lo:Option Opd) (hi:Option Opd) (mx:Option Opd) (id:Nat) (s:St):ev (.slice sz x lo hi mx) id s=(match x.ev s.r with
  | .p (.list T sz' t)=>if sz=sz' then match bounds s.r t.length lo hi mx with
   | some (c,l,h)=>some (c,.p (.list T sz ((t.drop l).take (h-l))),s)
   | none=>none else none
  | .slice i off len=>match s.m i with
   | some o=>if o.sz=sz then match bounds s.r len lo hi mx with
    | some (c,l,h)=>some (c,.slice i (off+l) (h-l),s)
    | none=>none else none
   | none=>none
  | .nils T sz=>match bounds s.r 0 lo hi mx with
   | some (c,_,_)=>some (c,.nils T sz,s)
   | none=>none
  | _=>none):=rfl
theorem st_fieldAddr (G:FuncId→List D→D→Prop) (dd:Option Nat) (off:Nat) (sz:Nat) (ag:Bool) (x:Opd) (g:Option (Nat × Bool)) (K:St→Prop) (s:St):step G ⟨dd,.fieldAddr off sz ag x,g⟩ K s=fin dd K (ev (.fieldAddr off sz ag x) (dd.getD 0) s):=rfl
theorem ev_fieldAddr (off:Nat) (sz:Nat) (ag:Bool) (x:Opd) (id:Nat) (s:St):ev (.fieldAddr off sz ag x) id s=(match x.ev s.r with
  | .ptr i j o=>some (true,.ptr i j (o+off),s)
  | .p (.ref d)=>match d.part off sz ag with
   | some e=>some (true,.p (.ref e),s)
   | none=>none
  | _=>none):=rfl
theorem st_field (G:FuncId→List D→D→Prop) (dd:Option Nat) (off:Nat) (sz:Nat) (ag:Bool) (x:Opd) (g:Option (Nat × Bool)) (K:St→Prop) (s:St):step G ⟨dd,.field off sz ag x,g⟩ K s=fin dd K (ev (.field off sz ag x) (dd.getD 0) s):=rfl
theorem ev_field (off:Nat) (sz:Nat) (ag:Bool) (x:Opd) (id:Nat) (s:St):ev (.field off sz ag x) id s=(if (x.ev s.r).isAgg=some true then match (x.ev s.r).part off sz ag with
  | some v=>some (true,v,s)
  | none=>none else none):=rfl
theorem st_indexAddr (G:FuncId→List D→D→Prop) (dd:Option Nat) (sz:Nat) (x:Opd) (i:Opd) (g:Option (Nat × Bool)) (K:St→Prop) (s:St):step G ⟨dd,.indexAddr sz x i,g⟩ K s=fin dd K (ev (.indexAddr sz x i) (dd.getD 0) s):=rfl
theorem ev_indexAddr (sz:Nat) (x:Opd) (i:Opd) (id:Nat) (s:St):ev (.indexAddr sz x i) id s=(match x.ev s.r,asI (i.ev s.r) with
  | .p (.list _ sz' t),some n=>if sz=sz' then some (decide (0≤n∧n<t.length),.p (.ref (t.getD n.toNat default)),s) else none
  | .slice j off len,some n=>match s.m j with
   | some o=>if o.sz=sz then some (decide (0≤n∧n<len),.ptr j (off+n.toNat) 0,s) else none
   | none=>none
  | _,_=>none):=rfl
theorem st_index (G:FuncId→List D→D→Prop) (dd:Option Nat) (x:Opd) (i:Opd) (g:Option (Nat × Bool)) (K:St→Prop) (s:St):step G ⟨dd,.index x i,g⟩ K s=fin dd K (ev (.index x i) (dd.getD 0) s):=rfl
theorem ev_index (x:Opd) (i:Opd) (id:Nat) (s:St):ev (.index x i) id s=(match x.ev s.r,asI (i.ev s.r) with
  | .p (.str t),some n=>some (decide (0≤n∧n<t.length),.p (.int .u8 ((t.getD n.toNat 0).toNat:Int)),s)
  | _,_=>none):=rfl
theorem st_extract (G:FuncId→List D→D→Prop) (dd:Option Nat) (x:Opd) (i:Nat) (g:Option (Nat × Bool)) (K:St→Prop) (s:St):step G ⟨dd,.extract x i,g⟩ K s=fin dd K (ev (.extract x i) (dd.getD 0) s):=rfl
theorem ev_extract (x:Opd) (i:Nat) (id:Nat) (s:St):ev (.extract x i) id s=(match x.ev s.r with
  | .p (.tup l)=>(l[i]?).map fun d=>(true,.p d,s)
  | .tup l=>(l[i]?).map fun d=>(true,d,s)
  | _=>none):=rfl
theorem st_mm (G:FuncId→List D→D→Prop) (dd:Option Nat) (mx:Bool) (x y:Opd) (g:Option (Nat × Bool)) (K:St→Prop) (s:St):step G ⟨dd,.mm mx x y,g⟩ K s=fin dd K (ev (.mm mx x y) (dd.getD 0) s):=rfl
theorem ev_mm (mx:Bool) (x y:Opd) (id:Nat) (s:St):ev (.mm mx x y) id s=(match x.ev s.r,y.ev s.r with
  | .p (.int k p),.p (.int k' q)=>if k=k' then some (true,.p (.int k (if mx then (if q > p then q else p) else (if q<p then q else p))),s) else none
  | _,_=>none):=rfl
theorem st_lenS (G:FuncId→List D→D→Prop) (dd:Option Nat) (x:Opd) (g:Option (Nat × Bool)) (K:St→Prop) (s:St):step G ⟨dd,.lenS x,g⟩ K s=fin dd K (ev (.lenS x) (dd.getD 0) s):=rfl
theorem ev_lenS (x:Opd) (id:Nat) (s:St):ev (.lenS x) id s=(match x.ev s.r with
  | .p (.str t)=>some (true,.p (.int .i64 t.length),s)
  | _=>none):=rfl
theorem st_len (G:FuncId→List D→D→Prop) (dd:Option Nat) (x:Opd) (g:Option (Nat × Bool)) (K:St→Prop) (s:St):step G ⟨dd,.len x,g⟩ K s=fin dd K (ev (.len x) (dd.getD 0) s):=rfl
theorem ev_len (x:Opd) (id:Nat) (s:St):ev (.len x) id s=(match x.ev s.r with
  | .p (.list _ _ t)=>some (true,.p (.int .i64 t.length),s)
  | .slice _ _ n=>some (true,.p (.int .i64 n),s)
  | .nils _ _=>some (true,.p (.int .i64 0),s)
  | _=>none):=rfl
def cs0:=And.intro @cops_app (And.intro @fin_some (And.intro @fin_none (And.intro @st_call (And.intro @st_append (And.intro @gs_none (And.intro @gs_some (And.intro @opd_t (And.intro @opd_k (And.intro @asI_int (And.intro @toD_p (And.intro @toD_nils (And.intro @toD_slice (And.intro @argsD_nil (And.intro @argsD_cons (And.intro @st_mov (And.intro @ev_mov (And.intro @st_nilCheck (And.intro @ev_nilCheck (And.intro @st_pick (And.intro @ev_pick (And.intro @st_alloc (And.intro @ev_alloc (And.intro @st_box (And.intro @ev_box (And.intro @st_build (And.intro @ev_build (And.intro @st_buildSlice (And.intro @ev_buildSlice (@st_load)))))))))))))))))))))))))))))
def cs1:=And.intro @ev_load (And.intro @st_store (And.intro @ev_store (And.intro @st_bin (And.intro @ev_bin (And.intro @st_eqs (And.intro @ev_eqs (And.intro @st_un (And.intro @ev_un (And.intro @st_conv (And.intro @ev_conv (And.intro @st_makeSlice (And.intro @ev_makeSlice (And.intro @st_sliceS (And.intro @ev_sliceS (And.intro @st_slice (And.intro @ev_slice (And.intro @st_fieldAddr (And.intro @ev_fieldAddr (And.intro @st_field (And.intro @ev_field (And.intro @st_indexAddr (And.intro @ev_indexAddr (And.intro @st_index (And.intro @ev_index (And.intro @st_extract (And.intro @ev_extract (And.intro @st_mm (And.intro @ev_mm (And.intro @st_lenS (And.intro @ev_lenS (@st_len)))))))))))))))))))))))))))))))
def cs2:=And.intro @ev_len (And.intro @List.all_nil.{0} (And.intro @true_and (And.intro @upd_look (And.intro @upd_lookM (And.intro @setR_nil (And.intro @setR_cons (And.intro @setM_nil (And.intro @setM_cons (And.intro @sel_nil (And.intro @sel_cons (And.intro @look_cons (And.intro @look_nil (And.intro @lookM_cons (And.intro @lookM_nil (And.intro @Option.getD_some.{0} (And.intro @eq_self.{1} (And.intro @decide_true (And.intro @decide_false (And.intro @Bool.not_true (And.intro @Bool.not_false (And.intro @Bool.false_eq_true (And.intro @Bool.true_eq_false (And.intro @dc_bool (And.intro @do_bool (And.intro @da_bool (And.intro @dc_int (And.intro @do_int (And.intro @da_int (@dc_str)))))))))))))))))))))))))))))
def cs3:=And.intro @do_str (And.intro @da_str (And.intro @dc_list (And.intro @do_list (And.intro @da_list (And.intro @dc_nilp (And.intro @do_nilp (And.intro @da_nilp (And.intro @dc_ref (And.intro @do_ref (And.intro @da_ref (And.intro @dc_fn (And.intro @do_fn (And.intro @da_fn (And.intro @dc_agg (And.intro @do_agg (And.intro @da_agg (And.intro @ac_p (And.intro @ao_p (And.intro @aa_p (And.intro @ac_agg (And.intro @aa_agg (And.intro @ao_agg (And.intro @ac_slice (And.intro @ao_slice (And.intro @aa_slice (And.intro @ac_ptr (And.intro @ao_ptr (And.intro @aa_ptr (@ac_nils)))))))))))))))))))))))))))))
def cs4:=And.intro @ao_nils (And.intro @aa_nils (And.intro @decide_eq_true_eq (And.intro @Bool.and_eq_true (And.intro @and_true (And.intro @List.length_map.{0,0} (And.intro @List.map_cons.{0,0} (And.intro @List.map_nil.{0,0} (And.intro @getD_I (And.intro @set_I (And.intro @rep_I (And.intro @take_I (And.intro @drop_I (And.intro @app_I (And.intro @cast1 (And.intro @Int.add_sub_cancel (And.intro @Int.toNat_natCast (And.intro @List.length_set.{0} (And.intro @List.length_replicate.{0} (And.intro @true_implies (And.intro @false_implies (And.intro @List.length_cons.{0} (And.intro @List.length_nil.{0} (And.intro @Nat.zero_add (And.intro @Nat.lt_add_one (And.intro @ne_eq.{1} (And.intro @not_true_eq_false (And.intro @not_false_eq_true (And.intro @Nat.add_zero (@Nat.sub_zero)))))))))))))))))))))))))))))
def cs5:=And.intro @List.drop_zero.{0} (And.intro @List.take_length.{0} (And.intro @Int.toNat_zero (And.intro @toNat1 (And.intro @cast0 (And.intro @List.all_cons.{0} (And.intro @List.append_nil.{0} (And.intro @List.nil_append.{0} (And.intro @List.cons_append.{0} (And.intro @List.take_zero.{0} (And.intro @List.take_nil.{0} (And.intro @List.take_succ_cons.{0} (And.intro @List.drop_succ_cons.{0} (And.intro @List.drop_nil.{0} (And.intro @Bool.and_self (And.intro @and_self (And.intro @List.getElem?_cons_zero.{0} (And.intro @List.getElem?_cons_succ.{0} (And.intro @Option.map_some.{0,0} (And.intro @Nat.le_refl (And.intro @Option.some.injEq.{0} (And.intro @Bool.and_true (And.intro @Bool.true_and (And.intro @if_true.{1} (And.intro @if_false.{1} (@Option.map_none.{0,0})))))))))))))))))))))))))
end Go.Proofs.Ytdjbfgfbpimakaa.M
end
