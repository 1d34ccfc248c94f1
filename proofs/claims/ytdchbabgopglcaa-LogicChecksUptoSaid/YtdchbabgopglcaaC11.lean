/- Lemmas. -/
import Derived.Test.YtdchbabgopglcaaC10
import Derived.Test.YtdchbabgopglcaaC9
namespace Go.Proofs.Ytdchbabgopglcaa.M
open Go.RowKit
section
variable {P:Program}{w0:World}{base:Bs}{nt:Nat}{loc:aU}{s t:St}{a:Act}{w:World}{o:Oper}{id:Nat}{d:AV}
theorem yj {T T2 E E2:TypeId}{c:Call}{x y:Operand}{ag:Bool}{U W:Option TypeId} (h:Rel w0 base nt loc s a w) (ho:o.op = .call c) (hc:c.callee = .builtin .copy) (ha:c.args.toList=[x,y]) (hT:c.argTypes.toList=[T,T2])
  (hu:P.underlying T=some (.slice E)) (hE:bM P E ag 1) (hu2:P.underlying T2=some (.slice E2)) (he:ev (.copyA (opd P U x) (opd P W y)) id s=some (true,d,t)):aK P w0 base nt o a w t d:=by
 have ha':c.args = #[x,y]:=by rw[←Array.toList_inj];exact ha
 have hT':c.argTypes = #[T,T2]:=by rw[←Array.toList_inj];exact hT
 have hx:=h.opd (P:=P) U x;simp only[ev] at he;split at he
 case h_2=>cases he
 rename_i i off len ys hk hys;split at he
 case h_2=>cases he
 rename_i T' osz u hm;split at he
 case isFalse=>cases he
 rename_i hfit;obtain⟨hfit,hall⟩:=hfit;rw[List.all_eq_true] at hall;simp only[Option.some.injEq,Prod.mk.injEq,decide_eq_true_eq] at he;obtain⟨hle,rfl,rfl⟩:=he;obtain⟨news,hsrc,hes,hev⟩:=pj h hu2 hys;have run:∀v w',(Builtin.copy_ #[T,T2] o.type #[a.eval x,a.eval y]).run P w = .ok v w'→(execOp a.eval o).run P w = .ok (.value v) w':=by
  intro v w' hr;simp[execOp,ho,resolve,hc,ha',hT',invoke,builtin,hr]
 have hnl:news.length=ys.length:=by rw[hsrc.newsLen];omega
 have hycell:∀e∈ys,e.cells=[e]:=fun e he=>by
  have h1:=hall e he;cases e<;>first | rfl | simp[D.one] at h1
 have hyV:∀(p:Nat) (e:D),ys[p]? = some e→V w (NB base s.m loc w) (news.getD p undef) e:=fun p e hp=>by
  have:=(hev p e 0 e hp (by rw[hycell e (List.mem_of_getElem? hp)];rfl)).2;simpa using this
 rw[hk] at hx;generalize hxv:a.eval x=xv at hx;obtain⟨L',hL',hok'⟩:=h.objs i _ hm;cases hx with
 |arrEmp L _ _ p hL =>
  rw[hL] at hL';cases hL';obtain rfl:ys=[]:=List.eq_nil_of_length_eq_zero (by omega);have hnews:news=[]:=List.eq_nil_of_length_eq_zero hnl;subst hnews;have hcells:∀w':World,(Builtin.firstCells 1 0 (a.eval y)).run P w = .ok #[] w:=fun _=>hsrc.cells
  have hr:(Builtin.copy_ #[T,T2] o.type #[a.eval x,a.eval y]).run P w = .ok (goInt 0) w:=by
   rw[hxv];have h1:=hsrc.len w;cases p with
   |none=>simp[Builtin.copy_,run_underlying hu,h1,cL hE,hcells w]
   |some ad=>simp[Builtin.copy_,run_underlying hu,h1,cL hE,hcells w,storeCells]
  by_cases hnil:L'.nil=true
  ·have:=hok'.nil hnil;cases this
  ·have hnil:L'.nil=false:=by simpa using hnil
   have hw:=h.write hm rfl hL hnil (k:=.box (AV.mk (u.cells.take off++([]:List D).map .p++u.cells.drop (off+0)))) (p:=0) (vs:=[]) (fun w' c hws hw' hcc hcs=>by
    obtain⟨m1,m2,m3,m4⟩:=hcc;simp only at m1 m2 m3 m4;have e1:u.cells.take off++([]:List D).map AV.p++u.cells.drop (off+0)=u.cells:=by simp
    rw[e1];obtain⟨k1,k2,k3⟩:=mK m3;exact⟨by simpa[bQ] using m1,by rw[k1];exact m2,k2,fun r z hr=>k3 w' _ loc _ r z hr fun e he=>by simpa[bQ] using m4 r e he⟩)
   exact⟨_,_,loc,.inl (run _ _ hr),hw,.p _ _ (.int _ _)⟩
 |arr L _ _ _ cap hL hn h3 h4 h5 =>
  rw[hL] at hL';cases hL';obtain⟨cc,fr,k1,k2,k3,k4,-⟩:=hok'.at_ hn;have k4:=(k4 rfl).2;obtain⟨n1,n2,n3,n4⟩:=k3;simp only at n1 n2 n3 n4 k1;have hr:(Builtin.copy_ #[T,T2] o.type #[a.eval x,a.eval y]).run P w = .ok (goInt ys.length) (w.setCells L'.b (L'.o+off) news):=by
   rw[hxv];have h1:=hsrc.len w;have h2:=hsrc.cells;have hmin:Nat.min ys.length len=ys.length:=Nat.min_eq_left hle;have hst:=run_storeCells_cells (P:=P) L'.b (L'.o+off) news 0 w (fun j hj=>by rw[Nat.add_zero,dn k1 (by omega)];rfl) (fun j hj=>by
    have:=k4 (L'.o+off+j) (by omega);rw[Nat.add_zero];simp only[World.frozen?,k1];simpa using this) hsrc.one
   rw[Nat.add_zero] at hst;simp[Builtin.copy_,run_underlying hu,h1,hmin,cL hE,h2,hst]
  have hw:=h.write hm rfl hL hn (k:=.box (AV.mk (u.cells.take off++ys.map .p++u.cells.drop (off+ys.length)))) (p:=L'.o+off) (vs:=news) (fun w' c hws hw' hcc hcs=>by
   obtain⟨m1,m2,m3,m4⟩:=hcc;simp only at m1 m2 m3 m4;have hall':∀e∈u.cells.take off++ys.map AV.p++u.cells.drop (off+ys.length),e.one=true:=by
    intro e he;rcases List.mem_append.1 he with he | he
    ·rcases List.mem_append.1 he with he | he
     ·exact m3 e (List.mem_of_mem_take he)
     ·obtain⟨q,hq,rfl⟩:=List.mem_map.1 he;exact hall q hq
    ·exact m3 e (List.mem_of_mem_drop he)
   have hlen:(u.cells.take off++ys.map AV.p++u.cells.drop (off+ys.length)).length=osz:=by simp;omega
   obtain⟨g1,g2,g3⟩:=mK hall';refine⟨by simpa using m1,by rw[g1];exact hlen,g2,fun r z hr => ?_⟩;refine g3 w' _ loc _ r z hr fun e he => ?_
   by_cases h1:r<off
   ·rw[List.append_assoc,List.getElem?_append_left (by simp;omega),List.getElem?_take_of_lt h1] at he;rw[cM _ _ _ _ (.inl (by omega))];exact m4 r e he
   ·by_cases h2:r<off+ys.length
    ·rw[List.append_assoc,List.getElem?_append_right (by simp;omega),List.getElem?_append_left (by simp;omega)] at he;simp only[List.length_take,show min off u.cells.length=off by omega,List.getElem?_map,Option.map_eq_some_iff] at he;obtain⟨q,hq,rfl⟩:=he;have hin:=ed news (L'.o+off) c (r-off) (by omega) (by omega);rw[show L'.o+off+(r-off)=L'.o+r by omega] at hin;rw[hin];exact .p _ _ ((hyV _ q hq).mono hw' (fun b hb=>⟨Nat.lt_of_lt_of_le hb.1 hws,hb.2⟩))
    ·rw[List.getElem?_append_right (by simp;omega)] at he;simp only[List.length_append,List.length_take,List.length_map,List.getElem?_drop] at he;rw[show off+ys.length+(r-(min off u.cells.length+ys.length))=r by omega] at he;rw[cM _ _ _ _ (.inr (by omega))];exact m4 r e he)
  exact⟨_,_,loc,.inl (run _ _ hr),hw,.p _ _ (.int _ _)⟩
theorem yk {T E:TypeId}{l0:List D}{ag:Bool}{sz:Nat}{c:Call}{x:Operand}{U:Option TypeId} (h:Rel w0 base nt loc s a w) (ho:o.op = .call c) (hc:c.callee = .builtin .clear) (ha:c.args.toList=[x]) (hT:c.argTypes.toList=[T])
  (hu:P.underlying T=some (.slice E)) (hz:ZOk P E l0 ag sz) (he:ev (.clearS sz (if ag then .agg l0 else l0.headD default) (opd P U x)) id s=some (true,d,t)):aK P w0 base nt o a w t d:=by
 have ha':c.args = #[x]:=by rw[←Array.toList_inj];exact ha
 have hT':c.argTypes = #[T]:=by rw[←Array.toList_inj];exact hT
 have hx:=h.opd (P:=P) U x;simp only[ev] at he;split at he
 case h_2=>cases he
 rename_i i off len hk;split at he
 case h_2=>cases he
 rename_i T' osz l hm;split at he
 case isFalse=>cases he
 rename_i hs;subst hs;simp only[Option.some.injEq,Prod.mk.injEq,decide_eq_true_eq] at he;obtain⟨hfit,rfl,rfl⟩:=he;obtain⟨z,hr,hsz,hl,hcell,-⟩:=gQ (w:=w) hz;generalize hzd:(if ag then D.agg l0 else l0.headD default)=zd;have hcl:zd.cells=l0:=by
  rw[←hzd];cases ag with
  |true=>rfl
  |false =>
   have:osz=1:=by obtain⟨_,_,_,_,_,_,_,h6⟩:=hz;exact h6 rfl
   match l0,hl with
   |[e],_ =>
    have:=(hcell 0 e rfl).1;cases e<;>first | rfl | simp[D.one] at this
   |[],hl=>simp at hl;omega
   |_::_::_,hl=>simp at hl;omega
 have run:∀v w',(Builtin.clear_ #[T] o.type #[a.eval x]).run P w = .ok v w'→(execOp a.eval o).run P w = .ok (.value v) w':=by
  intro v w' hr;simp[execOp,ho,resolve,hc,ha',hT',invoke,builtin,hr]
 rw[hk] at hx;generalize hxv:a.eval x=xv at hx;obtain⟨L',hL',hok'⟩:=h.objs i _ hm;cases hx with
 |sliceEmp L _ _ p hL =>
  rw[hL] at hL';cases hL';have hrun:(Builtin.clear_ #[T] o.type #[a.eval x]).run P w = .ok (.tuple #[]) w:=by
   rw[hxv];cases p<;>simp[Builtin.clear_,run_underlying hu]
  have e1:l.take off++List.replicate 0 zd++l.drop (off+0)=l:=by simp
  rw[e1];have e2:upd s.m i (some ⟨T',osz,.row l,false⟩)=s.m:=by
   funext j
   by_cases e:j=i
   ·subst e;rw[aD,hm]
   ·rw[aA _ _ e]
  rw[e2];exact⟨_,w,loc,.inl (run _ _ hrun),h,.und _⟩
 |slice L _ _ _ cap hL hn h3 h4 h5 =>
  rw[hL] at hL';cases hL';by_cases hlen0:len=0
  ·subst hlen0;have hrun:(Builtin.clear_ #[T] o.type #[a.eval x]).run P w = .ok (.tuple #[]) w:=by
    rw[hxv];simp[Builtin.clear_,run_underlying hu]
   have e1:l.take off++List.replicate 0 zd++l.drop (off+0)=l:=by simp
   rw[e1];have e2:upd s.m i (some ⟨T',osz,.row l,false⟩)=s.m:=by
    funext j
    by_cases e:j=i
    ·subst e;rw[aD,hm]
    ·rw[aA _ _ e]
   rw[e2];exact⟨_,w,loc,.inl (run _ _ hrun),h,.und _⟩
  obtain⟨cc,fr,k1,k2,k3,k4,-⟩:=hok'.at_ hn;have k4:=(k4 rfl).2;have hLs:L'.sz=osz:=hok'.sz;obtain⟨n1,n2,n3⟩:=k3;simp only at n1 n2 n3 k1;have hmul:off*osz+len*osz≤l.length*osz:=by rw[←Nat.add_mul];exact Nat.mul_le_mul_right _ hfit
  have hzl:(Builtin.zeroCells z.cells len).toList.length=len*osz:=by simp[Builtin.zeroCells,hsz]
  have hzget:∀p j,p<len→j<osz→(Builtin.zeroCells z.cells len).toList.getD (p*osz+j) undef=z.cells.getD j undef:=by
   intro p j hp hj;have hlt:p*osz+j<len*osz:=by
    have:=Nat.mul_le_mul_right osz (show p+1≤len by omega);rw[Nat.add_mul] at this;omega
   have hmod:(p*osz+j) % osz=j:=by rw[Nat.add_comm,Nat.add_mul_mod_self_right];exact Nat.mod_eq_of_lt hj
   have hjz:j<z.cells.size:=by omega
   simp[Builtin.zeroCells,hsz,hlt,hmod];rw[getElem!_pos z.cells j hjz];simp[hjz]
  have hrun:(Builtin.clear_ #[T] o.type #[a.eval x]).run P w = .ok (.tuple #[]) (w.setCells L'.b (L'.o+off*L'.sz) (Builtin.zeroCells z.cells len).toList):=by
   rw[hxv];have hst:=run_storeCells_cells (P:=P) L'.b (L'.o+off*L'.sz) (Builtin.zeroCells z.cells len).toList 0 w (fun j hj=>by rw[Nat.add_zero,dn k1 (by rw[hLs];omega)];rfl) (fun j hj=>by
    have:=k4 (L'.o+off*L'.sz+j) (by rw[hLs];omega);rw[Nat.add_zero];simp only[World.frozen?,k1];simpa using this) (fun v hv=>by
    obtain⟨q,hq⟩:=List.getElem?_of_mem hv;have hq':q<len*osz:=by have:=(List.getElem?_eq_some_iff.1 hq).1;omega
    have hop:0<osz:=by rcases Nat.eq_zero_or_pos osz with h0 | h0;(subst h0;simp at hq');exact h0
    have hdiv:=Nat.div_add_mod q osz;have hpq:q / osz<len:=Nat.div_lt_of_lt_mul (by rw[Nat.mul_comm];exact hq');have hj:q % osz<osz:=Nat.mod_lt _ hop;have hg:=hzget _ _ hpq hj;rw[show q / osz*osz+q % osz=q by rw[Nat.mul_comm];exact hdiv] at hg;have hv':(Builtin.zeroCells z.cells len).toList.getD q undef=v:=by simpa using congrArg (·.getD undef) hq
    rw[←hv',hg];have hlq:l0[q % osz]? = some (l0[q % osz]'(by omega)):=by simp
    obtain⟨g1,g2⟩:=hcell _ _ hlq;exact (g2 w (fun _=>True)).one g1)
   rw[Nat.add_zero] at hst;simp[Builtin.clear_,run_underlying hu,hlen0,hr,hst]
  have hw:=h.write hm rfl hL hn (k:=.row (l.take off++List.replicate len zd++l.drop (off+len))) (p:=L'.o+off*L'.sz) (vs:=(Builtin.zeroCells z.cells len).toList) (fun w' c hws hw' hcc hcs=>by
   obtain⟨m1,m2,m3⟩:=hcc;simp only at m1 m2 m3;have hlen:(l.take off++List.replicate len zd++l.drop (off+len)).length=l.length:=by simp;omega
   refine⟨by rw[hlen];simpa using m1,fun e he => ?_,fun p e j q hp hj => ?_⟩
   ·rcases List.mem_append.1 he with he | he
    ·rcases List.mem_append.1 he with he | he
     ·exact m2 e (List.mem_of_mem_take he)
     ·rw[List.eq_of_mem_replicate he,hcl,hl]
    ·exact m2 e (List.mem_of_mem_drop he)
   ·dsimp only;by_cases h1:p<off
    ·rw[List.append_assoc,List.getElem?_append_left (by simp;omega),List.getElem?_take_of_lt h1] at hp;have hjl:j<osz:=by have:=(List.getElem?_eq_some_iff.1 hj).1;have:=m2 e (List.mem_of_getElem? hp);omega
     have:=Nat.mul_le_mul_right osz (show p+1≤off by omega);rw[Nat.add_mul] at this;rw[cM _ _ _ _ (.inl (by rw[hLs];omega))];exact m3 p e j q hp hj
    ·by_cases h2:p<off+len
     ·rw[List.append_assoc,List.getElem?_append_right (by simp;omega),List.getElem?_append_left (by simp;omega)] at hp;have he:=List.eq_of_mem_replicate (List.mem_of_getElem? hp);subst he;rw[hcl] at hj;have hjl:j<osz:=by have:=(List.getElem?_eq_some_iff.1 hj).1;omega
      obtain⟨g1,g2⟩:=hcell j q hj;have hpo:(p-off)*osz+j<len*osz:=by
       have:=Nat.mul_le_mul_right osz (show p-off+1≤len by omega);rw[Nat.add_mul] at this;omega
      have hin:=ed (Builtin.zeroCells z.cells len).toList (L'.o+off*L'.sz) c ((p-off)*osz+j) (by rw[hzl,hLs];omega) (by rw[hzl];exact hpo);have hpe:L'.o+off*L'.sz+((p-off)*osz+j)=L'.o+(p*osz+j):=by
       have:(p-off)*osz+off*osz=p*osz:=by rw[←Nat.add_mul];congr 1;omega
       rw[hLs];omega
      rw[hpe] at hin;rw[hin,hzget _ _ (by omega) hjl];exact⟨g1,g2 w' _⟩
     ·rw[List.getElem?_append_right (by simp;omega)] at hp;simp only[List.length_append,List.length_take,List.length_replicate,List.getElem?_drop] at hp;rw[show off+len+(p-(min off l.length+len))=p by omega] at hp;have:=Nat.mul_le_mul_right osz (show off+len≤p by omega);rw[Nat.add_mul] at this;rw[cM _ _ _ _ (.inr (by rw[hzl,hLs];omega))];exact m3 p e j q hp hj)
  exact⟨_,_,loc,.inl (run _ _ hrun),hw,.und _⟩
end
end Go.Proofs.Ytdchbabgopglcaa.M
