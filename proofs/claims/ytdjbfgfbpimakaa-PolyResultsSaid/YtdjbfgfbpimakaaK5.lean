/- The small machine: objects that are dropped, or not written any more. The small machine: objects that nobody refers to any more are dropped together. The small machine: a slice of an object that is not written any more is plain data. Functions of the program in the small machine's words: written by a program of mine. Functions of the program in the small machine's words: written by a program of mine. Functions of the program in the small machine's words: written by a program of mine. -/
import Derived.Test.YtdjbfgfbpimakaaK4
section
namespace Go.Proofs.Ytdjbfgfbpimakaa.M
open Go.RowKit
set_option linter.defProp false
theorem bd_add (k:IntKind) (a b:Int):binD .add (.int k a) (.int k b)=some (inK k (a+b),.int k (a+b)):=by simp[binD]
theorem bd_sub (k:IntKind) (a b:Int):binD .sub (.int k a) (.int k b)=some (inK k (a-b),.int k (a-b)):=by simp[binD]
theorem bd_mul (k:IntKind) (a b:Int):binD .mul (.int k a) (.int k b)=some (inK k (a*b),.int k (a*b)):=by simp[binD]
theorem bd_quo (k:IntKind) (a b:Int):binD .quo (.int k a) (.int k b)=some (decide (b≠0)&&inK k (a.tdiv b),.int k (a.tdiv b)):=by simp[binD]
theorem bd_rem (k:IntKind) (a b:Int):binD .rem (.int k a) (.int k b)=some (decide (b≠0),.int k (a.tmod b)):=by simp[binD]
theorem bd_eql (k:IntKind) (a b:Int):binD .eql (.int k a) (.int k b)=some (true,.bool (decide (a=b))):=by simp[binD]
theorem bd_neq (k:IntKind) (a b:Int):binD .neq (.int k a) (.int k b)=some (true,.bool (!decide (a=b))):=by simp[binD]
theorem bd_lss (k:IntKind) (a b:Int):binD .lss (.int k a) (.int k b)=some (true,.bool (decide (a<b))):=by simp[binD]
theorem bd_leq (k:IntKind) (a b:Int):binD .leq (.int k a) (.int k b)=some (true,.bool (decide (a≤b))):=by simp[binD]
theorem bd_gtr (k:IntKind) (a b:Int):binD .gtr (.int k a) (.int k b)=some (true,.bool (decide (b<a))):=by simp[binD]
theorem bd_geq (k:IntKind) (a b:Int):binD .geq (.int k a) (.int k b)=some (true,.bool (decide (b≤a))):=by simp[binD]
theorem bd_sadd (a b:List UInt8):binD .add (.str a) (.str b)=some (decide (a.length+b.length≤9223372036854775807),.str (a++b)):=rfl
theorem bd_seql (a b:List UInt8):binD .eql (.str a) (.str b)=some (true,.bool (decide (a=b))):=rfl
theorem bd_sneq (a b:List UInt8):binD .neq (.str a) (.str b)=some (true,.bool (!decide (a=b))):=rfl
theorem bd_beql (a b:Bool):binD .eql (.bool a) (.bool b)=some (true,.bool (a == b)):=rfl
theorem bd_bneq (a b:Bool):binD .neq (.bool a) (.bool b)=some (true,.bool (!(a == b))):=rfl
theorem ud_not (a:Bool):unD .not (.bool a)=some (true,.bool (!a)):=rfl
theorem ud_neg (k:IntKind) (a:Int):unD .neg (.int k a)=some (inK k (-a),.int k (-a)):=rfl
theorem ik_i64 (n:Int):inK .i64 n=decide (-9223372036854775808≤n∧n≤9223372036854775807):=rfl
theorem ik_u8 (n:Int):inK .u8 n=decide (0≤n∧n≤255):=rfl
theorem ib_int (k:IntKind) (n:Int):D.isBool (.int k n)=false:=rfl
theorem ib_str (s:List UInt8):D.isBool (.str s)=false:=rfl
theorem ib_bool (b:Bool):D.isBool (.bool b)=true:=rfl
def cs6:=And.intro @bd_add (And.intro @bd_sub (And.intro @bd_mul (And.intro @bd_quo (And.intro @bd_rem (And.intro @bd_eql (And.intro @bd_neq (And.intro @bd_lss (And.intro @bd_leq (And.intro @bd_gtr (And.intro @bd_geq (And.intro @bd_sadd (And.intro @bd_seql (And.intro @bd_sneq (And.intro @bd_beql (And.intro @bd_bneq (And.intro @ud_not (And.intro @ud_neg (And.intro @ik_i64 (And.intro @ik_u8 (And.intro @ib_int (And.intro @ib_str (@ib_bool))))))))))))))))))))))
def fgR (i:Nat):List (Nat × AV)→List (Nat × AV)
 | []=>[]
 | (j,v)::l=>(j,v.forget i)::fgR i l
def fgM (i:Nat):List (Nat × AObj)→List (Nat × AObj)
 | []=>[]
 | (j,v)::l=>(j,v.forget i)::fgM i l
theorem fgR_nil (i:Nat):fgR i []=[]:=rfl
theorem fgR_cons (i j:Nat) (v:AV) (l:List (Nat × AV)):fgR i ((j,v)::l)=(j,v.forget i)::fgR i l:=rfl
theorem fgM_nil (i:Nat):fgM i []=[]:=rfl
theorem fgM_cons (i j:Nat) (v:AObj) (l:List (Nat × AObj)):fgM i ((j,v)::l)=(j,v.forget i)::fgM i l:=rfl
theorem forget_und (i:Nat):AV.forget i .und = .und:=by unfold AV.forget;rfl
theorem forget_p (i:Nat) (d:D):AV.forget i (.p d) = .p d:=by unfold AV.forget;rfl
theorem forget_nils (i T sz:Nat):AV.forget i (.nils T sz) = .nils T sz:=by unfold AV.forget;rfl
theorem forget_slice (i j o n:Nat):AV.forget i (.slice j o n)=if j=i then .und else .slice j o n:=by unfold AV.forget;rfl
theorem forget_ptr (i j k o:Nat):AV.forget i (.ptr j k o)=if j=i then .und else .ptr j k o:=by unfold AV.forget;rfl
theorem of_row (i T sz:Nat) (l:List D) (f:Bool):AObj.forget i ⟨T,sz,.row l,f⟩=⟨T,sz,.row l,f⟩:=rfl
theorem of_junk (i T sz:Nat) (f:Bool):AObj.forget i ⟨T,sz,.junk,f⟩=⟨T,sz,.junk,f⟩:=rfl
theorem of_boxp (i T sz:Nat) (d:D) (f:Bool):AObj.forget i ⟨T,sz,.box (.p d),f⟩=⟨T,sz,.box (.p d),f⟩:=by simp only[AObj.forget,forget_p]
theorem forgetR_look (i:Nat):∀ (l:List (Nat × AV)),forgetR i (look l)=look (fgR i l)
 | []=>by funext j;simp only[forgetR,fgR_nil,look_nil,forget_und]
 | (k,u)::l=>by
  funext j
  have ih:=congrFun (forgetR_look i l) j
  simp only[forgetR] at ih
  simp only[forgetR,fgR_cons,look_cons]
  split
  ·rfl
  ·exact ih
theorem forgetM_look (i:Nat):∀ (l:List (Nat × AObj)),forgetM i (lookM l)=lookM (fgM i l)
 | []=>by funext j;simp only[forgetM,fgM_nil,lookM_nil,Option.map_none]
 | (k,u)::l=>by
  funext j
  have ih:=congrFun (forgetM_look i l) j
  simp only[forgetM] at ih
  simp only[forgetM,fgM_cons,lookM_cons]
  split
  ·rfl
  ·exact ih
section
variable {w0:World} {base:Nat→Prop} {nt:Nat} {loc:Locs} {s:St} {a:Act} {w:World} {OT:List TypeId}
theorem Rel.freeze (h:Rel w0 base nt loc s a w) {i:Nat} {ob:AObj} (hm:s.m i=some ob):Rel w0 base nt loc ⟨s.r,upd s.m i (some ⟨ob.T,ob.sz,ob.cont,true⟩)⟩ a w:=by
 have hother:∀ j o,upd s.m i (some ⟨ob.T,ob.sz,ob.cont,true⟩) j=some o→∃ o0,s.m j=some o0∧(o.frz=false→j≠i∧o0=o):=by
  intro j o ho
  by_cases e:j=i
  ·subst e;rw[upd_same] at ho;cases ho;exact⟨ob,hm,fun hf=>by cases hf⟩
  ·rw[upd_ne _ _ e] at ho;exact⟨o,ho,fun _=>⟨e,rfl⟩⟩
 have hN:∀ b,NB base s.m loc w b→NB base (upd s.m i (some ⟨ob.T,ob.sz,ob.cont,true⟩)) loc w b:=by
  rintro b hbN
  refine⟨hbN.1,hbN.2.1,?_⟩
  rintro⟨j,o,Lj,h1,h2,h3,h4,h5⟩
  obtain⟨o0,g1,g2⟩:=hother j o h1
  obtain⟨-,rfl⟩:=g2 h2
  exact hbN.2.2 ⟨j,o0,Lj,g1,h2,h3,h4,h5⟩
 refine⟨h.ext,h.defers,h.size,h.low,?_,fun t=>(h.tmps t).mono (fun _ _=>rfl) hN (fun _ _ h=>h),?_,?_⟩
 ·intro j hj
  dsimp only at hj
  by_cases e:j=i
  ·subst e;rw[upd_same] at hj;cases hj
  ·rw[upd_ne _ _ e] at hj;exact h.dom j hj
 ·intro j o ho
  dsimp only at ho
  by_cases e:j=i
  ·subst e
   rw[upd_same] at ho
   cases ho
   obtain⟨L,hL,hok⟩:=h.objs j ob hm
   refine⟨L,hL,hok.sz,hok.nil,fun hn => ?_⟩
   obtain⟨c,fr,k1,k2,k3,k4,k5⟩:=hok.at_ hn
   refine⟨c,fr,k1,k2,k3.mono (fun _ _=>rfl) hN (fun _ _ h=>h),(fun hf=>by cases hf),fun _ => ?_⟩
   cases hf:ob.frz with
   | true=>exact hN _ (k5 hf)
   | false =>
    refine⟨h.obj_lt hm hL hn,fun hb => ?_,?_⟩
    ·have:=(k4 hf).1
     have:=h.low _ hb
     omega
    ·rintro⟨j',o',L',h1,h2,h3,h4,h5⟩
     obtain⟨o0,g1,g2⟩:=hother j' o' h1
     exact (g2 h2).1 (h.inj j j' ob o0 L L' hm g1 hf hL h3 hn h4 h5.symm).symm
  ·rw[upd_ne _ _ e] at ho
   obtain⟨L,hL,hok⟩:=h.objs j o ho
   refine⟨L,hL,hok.sz,hok.nil,fun hn => ?_⟩
   obtain⟨c,fr,k1,k2,k3,k4,k5⟩:=hok.at_ hn
   exact⟨c,fr,k1,k2,k3.mono (fun _ _=>rfl) hN (fun _ _ h=>h),k4,fun hf=>hN _ (k5 hf)⟩
 ·intro j j' o o' Lj Lj' ho ho' hf hLj hLj' hn hn' hbb
  obtain⟨o0,g1,g2⟩:=hother j o ho
  obtain⟨o0',g1',-⟩:=hother j' o' ho'
  obtain⟨-,rfl⟩:=g2 hf
  exact h.inj j j' o0 o0' Lj Lj' g1 g1' hf hLj hLj' hn hn' hbb
theorem Sub.freeze {i:Nat} {r:Nat→AV} {m:Mem} {ob:AObj} (hm:m i=some ob):Sub OT ⟨r,m⟩ ⟨r,upd m i (some ⟨ob.T,ob.sz,ob.cont,true⟩)⟩:=by
 rintro C a w rfl ⟨⟨loc,hr⟩,h2⟩
 refine⟨⟨_,hr.freeze hm⟩,fun j o ho => ?_⟩
 dsimp only at ho
 by_cases e:j=i
 ·subst e;rw[upd_same] at ho;cases ho;exact h2 j ob hm
 ·rw[upd_ne _ _ e] at ho;exact h2 j o ho
theorem keepF (i:Nat) (ob:AObj) (ts:List Nat) {r:Nat→AV} {m:Mem} {R:St→Prop} (hm:m i=some ob) (h:R ⟨look (sel r ts),upd m i (some ⟨ob.T,ob.sz,ob.cont,true⟩)⟩):∃ u,Sub OT ⟨r,m⟩ u∧R u:=⟨_,(Sub.freeze hm).tr (Sub.und (sel_or ts)),h⟩
end
end Go.Proofs.Ytdjbfgfbpimakaa.M
end

section
namespace Go.Proofs.Ytdjbfgfbpimakaa.M
open Go.RowKit
set_option linter.defProp false
mutual
def AV.men (L:List Nat):AV→Bool
 | .slice i _ _=>L.contains i
 | .ptr i _ _=>L.contains i
 | .agg l=>menL L l
 | .tup l=>menL L l
 | _=>false
def menL (L:List Nat):List AV→Bool
 | []=>false
 | v::l=>v.men L||menL L l
end
def AObj.men (L:List Nat) (o:AObj):Bool:=match o.cont with
 | .box v=>v.men L
 | _=>false
def closedR (L:List Nat):List (Nat × AV)→Bool
 | []=>true
 | (_,v)::l => !v.men L&&closedR L l
def closedM (L:List Nat):List (Nat × AObj)→Bool
 | []=>true
 | (i,o)::l=>(L.contains i||!o.men L)&&closedM L l
def memN (i:Nat):List Nat→Bool
 | []=>false
 | j::l=>if i=j then true else memN i l
theorem memN_eq (i:Nat):∀ l:List Nat,l.contains i=memN i l
 | []=>rfl
 | j::l=>by
  rw[List.contains_cons,memN_eq i l,memN]
  by_cases h:i=j<;>simp[h]
def delL (L:List Nat):List (Nat × AObj)→List (Nat × AObj)
 | []=>[]
 | (i,o)::l=>if memN i L=true then delL L l else (i,o)::delL L l
theorem delL_nil (L:List Nat):delL L []=[]:=rfl
theorem delL_cons (L:List Nat) (i:Nat) (o:AObj) (l:List (Nat × AObj)):delL L ((i,o)::l)=if memN i L=true then delL L l else (i,o)::delL L l:=rfl
theorem memN_nil (i:Nat):memN i []=false:=rfl
theorem memN_cons (i j:Nat) (l:List Nat):memN i (j::l)=if i=j then true else memN i l:=rfl
def csG:=And.intro @delL_nil (And.intro @delL_cons (And.intro @memN_nil (@memN_cons)))
theorem menL_mem {L:List Nat} {l:List AV} (h:menL L l=false):∀ v∈l,v.men L=false:=by
 induction l with
 | nil=>simp
 | cons u l ih =>
  simp only[menL,Bool.or_eq_false_iff] at h
  intro v hv
  rcases List.mem_cons.1 hv with rfl | hv
  ·exact h.1
  ·exact ih h.2 v hv
theorem men_cells {L:List Nat} {x:AV} (h:x.men L=false):∀ e∈x.cells,e.men L=false:=by
 cases x with
 | p d =>
  intro e he
  simp only[AV.cells,List.mem_map] at he
  obtain⟨_,_,rfl⟩:=he
  unfold AV.men;rfl
 | agg l=>rw[AV.men] at h;exact menL_mem h
 | _=>intro e he;simp only[AV.cells,List.mem_singleton] at he;subst he;exact h
section
variable {w0:World} {base:Nat→Prop} {nt:Nat} {loc loc':Locs} {a:Act} {w:World} {OT:List TypeId} {N N':Nat→Prop} {r:Nat→AV} {m:Mem}
theorem RV.lose {L:List Nat} {v:Value} {x:AV} (h:RV w N loc v x) (hx:x.men L=false) (hn:∀ b,N b→N' b) (hl:∀ id K,L.contains id=false→loc id=some K→loc' id=some K):RV w N' loc' v x:=by
 induction h with
 | und v=>exact .und v
 | p v d h=>exact .p v d (h.mono (fun _ _=>rfl) hn)
 | agg cs l h1 h2 _ ih=>rw[AV.men] at hx;exact .agg cs l h1 h2 fun i d hd=>ih i d hd (menL_mem hx d (List.mem_of_getElem? hd))
 | tup cs l h1 _ ih=>rw[AV.men] at hx;exact .tup cs l h1 fun i d hd=>ih i d hd (menL_mem hx d (List.mem_of_getElem? hd))
 | nils T sz=>exact .nils T sz
 | slice K id off len cap h1 h2 h3 h4 h5=>rw[AV.men] at hx;exact .slice K id off len cap (hl _ _ hx h1) h2 h3 h4 h5
 | sliceEmp K id off p h1=>rw[AV.men] at hx;exact .sliceEmp K id off p (hl _ _ hx h1)
 | ptr K id i off h1 h2=>rw[AV.men] at hx;exact .ptr K id i off (hl _ _ hx h1) h2
theorem Rel.dropL (h:Rel w0 base nt loc ⟨r,m⟩ a w) (L:List Nat) {r':Nat→AV} {m':Mem} (hr:∀ t,r' t = .und∨(r' t=r t∧(r t).men L=false)) (hm:∀ i,m' i=if L.contains i then none else m i)
  (hc:∀ i o,m' i=some o→o.men L=false):Rel w0 base nt (fun i=>if L.contains i then none else loc i) ⟨r',m'⟩ a w:=by
 have hl:∀ j K,L.contains j=false→loc j=some K→(fun i=>if L.contains i then none else loc i) j=some K:=fun j K hj hK=>by simp only[hj];exact hK
 have hother:∀ j ob,m' j=some ob→L.contains j=false∧m j=some ob:=by
  intro j ob hob
  rw[hm] at hob
  cases hj:L.contains j with
  | true=>rw[hj] at hob;cases hob
  | false=>rw[hj] at hob;exact⟨rfl,hob⟩
 have hN:∀ b,NB base m loc w b→NB base m' (fun i=>if L.contains i then none else loc i) w b:=by
  rintro b hbN
  refine⟨hbN.1,hbN.2.1,?_⟩
  rintro⟨j,ob,Lj,h1,h2,h3,h4,h5⟩
  obtain⟨hj,g1⟩:=hother j ob h1
  simp only[hj] at h3
  exact hbN.2.2 ⟨j,ob,Lj,g1,h2,h3,h4,h5⟩
 refine⟨h.ext,h.defers,h.size,h.low,?_,fun t => ?_,?_,?_⟩
 ·intro j hj
  dsimp only at hj ⊢
  rw[hm] at hj
  cases e:L.contains j with
  | true=>rfl
  | false=>rw[e] at hj;exact h.dom j hj
 ·dsimp only
  rcases hr t with e | ⟨e,e2⟩<;>rw[e]
  ·exact .und _
  ·exact RV.lose (L:=L) (h.tmps t) e2 hN hl
 ·intro j ob hob
  obtain⟨e,g1⟩:=hother j ob hob
  obtain⟨Lj,hLj,hokj⟩:=h.objs j ob g1
  refine⟨Lj,hl j Lj e hLj,hokj.sz,hokj.nil,fun hn => ?_⟩
  obtain⟨c,fr,k1,k2,k3,k4,k5⟩:=hokj.at_ hn
  refine⟨c,fr,k1,k2,?_,k4,fun hf=>hN _ (k5 hf)⟩
  have hmen:=hc j ob hob
  unfold AObj.men at hmen
  cases hcont:ob.cont with
  | row l=>rw[hcont] at k3;exact⟨k3.1,k3.2.1,fun i e j d h1 h2=>⟨(k3.2.2 i e j d h1 h2).1,(k3.2.2 i e j d h1 h2).2.mono (fun _ _=>rfl) hN⟩⟩
  | junk=>rw[hcont] at k3;exact k3
  | box v =>
   rw[hcont] at k3 hmen
   exact⟨k3.1,k3.2.1,k3.2.2.1,fun j d h1=>(k3.2.2.2 j d h1).lose (men_cells hmen d (List.mem_of_getElem? h1)) hN hl⟩
 ·intro j j' ob ob' Lj Lj' hob hob' hf hLj hLj' hn hn' hbb
  obtain⟨e,g1⟩:=hother j ob hob
  obtain⟨e',g1'⟩:=hother j' ob' hob'
  simp only[e] at hLj
  simp only[e'] at hLj'
  exact h.inj j j' ob ob' Lj Lj' g1 g1' hf hLj hLj' hn hn' hbb
theorem Sub.dropL (L:List Nat) {r':Nat→AV} {m':Mem} (hr:∀ t,r' t = .und∨(r' t=r t∧(r t).men L=false)) (hm:∀ i,m' i=if L.contains i then none else m i)
  (hc:∀ i o,m' i=some o→o.men L=false):Sub OT ⟨r,m⟩ ⟨r',m'⟩:=by
 rintro C a w rfl ⟨⟨loc,hR⟩,h2⟩
 refine⟨⟨_,hR.dropL L hr hm hc⟩,fun j o ho => ?_⟩
 dsimp only at ho
 rw[hm] at ho
 split at ho
 ·cases ho
 ·exact h2 j o ho
theorem look_closed {L:List Nat}:∀ {l:List (Nat × AV)} (t:Nat),closedR L l=true→(look l t).men L=false
 | [],t,_=>by rw[look_nil];unfold AV.men;rfl
 | (i,v)::l,t,h=>by
  simp only[closedR,Bool.and_eq_true,Bool.not_eq_true'] at h
  rw[look_cons]
  split
  ·exact h.1
  ·exact look_closed t h.2
theorem lookM_del (L:List Nat):∀ (l:List (Nat × AObj)) (i:Nat),lookM (delL L l) i=if L.contains i then none else lookM l i
 | [],i=>by rw[delL_nil,lookM_nil];split<;>rfl
 | (j,o)::l,i=>by
  have ih:=lookM_del L l i
  rw[delL_cons,lookM_cons]
  by_cases hj:memN j L=true
  ·rw[if_pos hj,ih]
   by_cases e:i=j
   ·subst e;rw[memN_eq,hj];rfl
   ·rw[if_neg e]
  ·rw[if_neg hj,lookM_cons,ih]
   by_cases e:i=j
   ·subst e;rw[if_pos rfl,memN_eq,if_neg hj,if_pos rfl]
   ·rw[if_neg e,if_neg e]
theorem lookM_closed {L:List Nat}:∀ {l:List (Nat × AObj)} (i:Nat) (o:AObj),closedM L l=true→lookM (delL L l) i=some o→o.men L=false
 | [],i,o,_,h=>by rw[delL_nil] at h;cases h
 | (j,q)::l,i,o,h,ho=>by
  simp only[closedM,Bool.and_eq_true,Bool.or_eq_true,Bool.not_eq_true'] at h
  rw[delL_cons] at ho
  split at ho
  ·exact lookM_closed i o h.2 ho
  ·rename_i hj
   rw[lookM_cons] at ho
   split at ho
   ·cases ho
    rw[memN_eq] at h
    exact h.1.resolve_left hj
   ·exact lookM_closed i o h.2 ho
theorem Sub.keepG (ts L:List Nat) {R:List (Nat × AV)} {M:List (Nat × AObj)} (h1:closedR L (sel (look R) ts)=true) (h2:closedM L M=true):Sub OT ⟨look R,lookM M⟩ ⟨look (sel (look R) ts),lookM (delL L M)⟩:=
 (Sub.und (sel_or ts)).tr (Sub.dropL L (fun t => .inr ⟨rfl,look_closed t h1⟩) (lookM_del L M) (fun i o ho=>lookM_closed i o h2 ho))
theorem Sub.toG (ts L:List Nat) {R:List (Nat × AV)} {M:List (Nat × AObj)} {r':Nat→AV} {m':Mem} (h1:closedR L (sel (look R) ts)=true) (h2:closedM L M=true) (e1:look (sel (look R) ts)=r') (e2:lookM (delL L M)=m'):Sub OT ⟨look R,lookM M⟩ ⟨r',m'⟩:=by
 subst e1 e2;exact Sub.keepG ts L h1 h2
theorem Sub.nilG (t i T sz:Nat) {R:List (Nat × AV)} {M:List (Nat × AObj)} {r':Nat→AV} {m':Mem} (ht:look R t = .nils T sz) (hm:lookM M i=none) (hT:OT.contains T=true)
  (e1:look (setR t (.slice i 0 0) R)=r') (e2:lookM (setM i ⟨T,sz,.row [],false⟩ M)=m'):Sub OT ⟨look R,lookM M⟩ ⟨r',m'⟩:=by
 subst e1 e2
 rw[←upd_look,←upd_lookM]
 exact Sub.nil t i ht hm (by simpa using hT)
theorem ea_nils (T sz bytes:Nat) (x y:Opd) (id:Nat) (s:St):evApp T sz bytes x y id s=(match elemsOf sz s.m (y.ev s.r) with
 | none=>none
 | some ys=>match x.ev s.r with
  | .nils _ sz'=>match s.m id with
   | none=>if sz'=sz then some (decide (ys.length*bytes≤140737488355328∧ys.length≤9223372036854775807),.slice id 0 ys.length,⟨s.r,upd s.m id (some ⟨T,sz,.row ys,false⟩)⟩) else none
   | some _=>none
  | .slice i 0 n=>match s.m i with
   | some ⟨T',sz',.row l,false⟩=>if sz'=sz∧T'=T∧n=l.length then
     some (decide ((n+ys.length)*bytes≤140737488355328∧n+ys.length≤9223372036854775807),.slice i 0 (n+ys.length),⟨forgetR i s.r,upd (forgetM i s.m) i (some ⟨T,sz,.row (l++ys),false⟩)⟩) else none
   | _=>none
  | _=>none):=rfl
theorem eo_eq (sz:Nat) (m:Mem) (v:AV):elemsOf sz m v=(match v with
 | .slice j off n=>match m j with
  | some ⟨_,sz',.row l,_⟩=>if sz'=sz∧off+n≤l.length then some ((l.drop off).take n) else none
  | _=>none
 | .p (.list _ sz' l)=>if sz'=sz then some l else none
 | .nils _ sz'=>if sz'=sz then some [] else none
 | _=>none):=rfl
theorem fr_nil (sz:Nat) (l:List D) (r:Nat→AV) (M:Mem):fillR sz l r M []=some l:=rfl
theorem fr_cons (sz:Nat) (l:List D) (r:Nat→AV) (M:Mem) (i:Nat) (x:Opd) (rest:List (Nat × Opd)):fillR sz l r M ((i,x)::rest)=(match (x.ev r).toD false M 20 with
 | some d=>if d.cells.length=sz∧d.cells.all D.one=true∧i<l.length then fillR sz (l.set i d) r M rest else none
 | none=>none):=rfl
theorem rep_1 (z:D):List.replicate 1 z=[z]:=rfl
theorem rep_2 (z:D):List.replicate 2 z=[z,z]:=rfl
theorem set_0 (x z:D) (l:List D):(z::l).set 0 x=x::l:=rfl
theorem set_1 (x y z:D) (l:List D):(z::y::l).set 1 x=z::x::l:=rfl
theorem st_bsF (G:FuncId→List D→D→Prop) (dd:Option Nat) (T:Nat) (sz:Nat) (z:D) (n:Nat) (parts:List (Nat × Opd)) (g:Option (Nat × Bool)) (K:St→Prop) (s:St):step G ⟨dd,.buildSliceF T sz z n parts,g⟩ K s=fin dd K (ev (.buildSliceF T sz z n parts) (dd.getD 0) s):=rfl
theorem ev_bsF (T:Nat) (sz:Nat) (z:D) (n:Nat) (parts:List (Nat × Opd)) (id:Nat) (s:St):ev (.buildSliceF T sz z n parts) id s=(match s.m id with
  | none=>match fillR sz (List.replicate n z) s.r s.m parts with
   | some l=>some (true,.slice id 0 n,⟨s.r,upd s.m id (some ⟨T,sz,.row l,true⟩)⟩)
   | none=>none
  | some _=>none):=rfl
def frzO (id:Nat):Option (Bool × AV × St)→Option (Bool × AV × St)
 | some (p,v,t)=>some (p,v,frzS (slId id v) t)
 | none=>none
theorem frzO_some (id:Nat) (p:Bool) (i o n:Nat) (t:St):frzO id (some (p,.slice i o n,t))=some (p,.slice i o n,frzS i t):=rfl
theorem st_appF (G:FuncId→List D→D→Prop) (d:Option Nat) (T sz b:Nat) (x y:Opd) (g:Option (Nat × Bool)) (K:St→Prop) (s:St):step G ⟨d,.appendF T sz b x y,g⟩ K s=fin d K (frzO (d.getD 0) (evApp T sz b x y (d.getD 0) s)):=by
 unfold step frzO
 simp only
 cases evApp T sz b x y (d.getD 0) s<;>rfl
theorem frzS_eq (id:Nat) (r:Nat→AV) (m:Mem):frzS id ⟨r,m⟩=(match m id with
 | some o=>⟨r,upd m id (some ⟨o.T,o.sz,o.cont,true⟩)⟩
 | none=>⟨r,m⟩):=rfl
def csA:=And.intro @st_bsF (And.intro @ev_bsF (And.intro @frzO_some (And.intro @st_appF (And.intro @frzS_eq (And.intro @fr_nil (And.intro @fr_cons (And.intro @rep_1 (And.intro @rep_2 (And.intro @set_0 (And.intro @set_1 (And.intro @ea_nils (And.intro @eo_eq (And.intro @forgetR_look (And.intro @forgetM_look (And.intro @fgR_nil (And.intro @fgR_cons (And.intro @fgM_nil (And.intro @fgM_cons (And.intro @forget_und (And.intro @forget_p (And.intro @forget_nils (And.intro @forget_slice (And.intro @forget_ptr (And.intro @of_row (And.intro @of_junk (@of_boxp))))))))))))))))))))))))))
def csW:=And.intro cs0 (And.intro cs1 (And.intro cs2 (And.intro cs3 (And.intro cs4 (And.intro cs5 (And.intro cs6 (And.intro csG (And.intro csA (And.intro @St.put.eq_1 (And.intro @St.put.eq_2 (And.intro @apOk.eq_1 (And.intro @bounds.eq_1 (And.intro @bounds.eq_2 (And.intro @bounds.eq_3 (And.intro @bounds.eq_4 (And.intro @bounds.eq_5 (And.intro @Option.getD_none.{0} (And.intro @forall_const.{0} (@forall_const.{1})))))))))))))))))))
end
end Go.Proofs.Ytdjbfgfbpimakaa.M
end

section
namespace Go.Proofs.Ytdjbfgfbpimakaa.M
open Go.RowKit
section
variable {OT:List TypeId} {r:Nat→AV} {m:Mem}
theorem keepF2 (i:Nat) (ob:AObj) (j:Nat) (ob':AObj) (ts:List Nat) {R:St→Prop} (hm:m i=some ob) (hm':upd m i (some ⟨ob.T,ob.sz,ob.cont,true⟩) j=some ob')
  (h:R ⟨look (sel r ts),upd (upd m i (some ⟨ob.T,ob.sz,ob.cont,true⟩)) j (some ⟨ob'.T,ob'.sz,ob'.cont,true⟩)⟩):∃ u,Sub OT ⟨r,m⟩ u∧R u:=
 ⟨_,((Sub.freeze hm).tr (Sub.freeze hm')).tr (Sub.und (sel_or ts)),h⟩
end
end Go.Proofs.Ytdjbfgfbpimakaa.M
end

section
namespace Go.Proofs.Ytdjbfgfbpimakaa.M
open Go.RowKit
def l49_0:List COp:=[
 ⟨some 2,.alloc 47 4 (.p (.agg [(.bool false),(.list 3 1 []),(.bool false),(.list 3 1 [])])),none⟩]
def c49_1:CC:=.ops [] (l49_0)
def l49_2:List COp:=[
 ⟨some 9,.mov (.t 0),none⟩,
 ⟨some 10,.len (.t 9),none⟩,
 ⟨some 11,.bin false .eql (.t 10) (.k (.p (.int .i64 0))),none⟩]
def c49_3:CC:=.ops [] (l49_2)
def l49_4:List COp:=[
 ⟨some 12,.call 47 [(.k (.p (.int .i64 1)))],none⟩]
def l49_5:List COp:=[
 ⟨none,.store 4 (.t 2) (.t 12),none⟩]
def c49_6:CC:=.ops [] (l49_4++(l49_5))
def c49_7:CC:=.seq c49_6 .ret
def c49_8:CC:=.cond (.t 11) c49_7 .skip
def c49_9:CC:=.seq c49_3 c49_8
def l49_10:List COp:=[
 ⟨some 13,.call 47 [(.k (.p (.int .i64 0)))],none⟩]
def l49_11:List COp:=[
 ⟨some 3,.alloc 47 4 (.p (.agg [(.bool false),(.list 3 1 []),(.bool false),(.list 3 1 [])])),none⟩,
 ⟨none,.store 4 (.t 3) (.t 13),none⟩]
def c49_12:CC:=.ops [] (l49_10++(l49_11))
def l49_13:List COp:=[
 ⟨some 4,.mov (.k (.p (.int .i64 0))),none⟩]
def c49_14:CC:=.ops [] (l49_13)
def l49_15:List COp:=[
 ⟨some 14,.mov (.t 4),none⟩,
 ⟨some 15,.mov (.t 0),none⟩,
 ⟨some 16,.len (.t 15),none⟩,
 ⟨some 17,.bin false .lss (.t 14) (.t 16),none⟩]
def c49_16:CC:=.ops [] (l49_15)
def c49_17:CC:=.cond (.t 17) .skip (.exit 0)
def c49_18:CC:=.seq c49_16 c49_17
def l49_19:List COp:=[
 ⟨some 20,.mov (.t 0),none⟩,
 ⟨some 21,.indexAddr 1 (.t 20) (.k (.p (.int .i64 0))),none⟩,
 ⟨some 22,.load false 1 (.t 21),none⟩,
 ⟨some 23,.mov (.t 4),none⟩,
 ⟨some 24,.indexAddr 4 (.t 22) (.t 23),none⟩,
 ⟨some 25,.load true 4 (.t 24),none⟩,
 ⟨some 26,.call 36 [(.t 25)],none⟩]
def l49_20:List COp:=[
 ⟨some 27,.bin false .eql (.t 26) (.k (.p (.int .i64 0))),none⟩]
def c49_21:CC:=.ops [] (l49_19++(l49_20))
def c49_22:CC:=.cond (.t 27) (.exit 1) .skip
def c49_23:CC:=.seq c49_21 c49_22
def l49_24:List COp:=[
 ⟨some 5,.mov (.k (.nils 30 1)),none⟩]
def c49_25:CC:=.ops [] (l49_24)
def l49_26:List COp:=[
 ⟨some 6,.mov (.k (.p (.int .i64 1))),none⟩]
def c49_27:CC:=.ops [] (l49_26)
def l49_28:List COp:=[
 ⟨some 28,.mov (.t 6),none⟩,
 ⟨some 29,.mov (.t 0),none⟩,
 ⟨some 30,.len (.t 29),none⟩,
 ⟨some 31,.bin false .lss (.t 28) (.t 30),none⟩]
def c49_29:CC:=.ops [] (l49_28)
def c49_30:CC:=.cond (.t 31) .skip (.exit 2)
def c49_31:CC:=.seq c49_29 c49_30
def l49_32:List COp:=[
 ⟨some 34,.mov (.t 0),none⟩,
 ⟨some 35,.mov (.t 6),none⟩,
 ⟨some 36,.indexAddr 1 (.t 34) (.t 35),none⟩,
 ⟨some 37,.load false 1 (.t 36),none⟩,
 ⟨some 38,.mov (.t 4),none⟩,
 ⟨some 39,.slice 4 (.t 37) none (some (.t 38)) none,none⟩,
 ⟨some 40,.append 47 4 64 (.k (.nils 47 4)) (.t 39),none⟩,
 ⟨some 7,.mov (.t 40),none⟩]
def c49_33:CC:=.ops [] (l49_32)
def l49_34:List COp:=[
 ⟨some 41,.mov (.t 5),none⟩,
 ⟨some 42,.mov (.t 7),none⟩,
 ⟨some 43,.mov (.t 0),none⟩,
 ⟨some 44,.mov (.t 6),none⟩,
 ⟨some 45,.indexAddr 1 (.t 43) (.t 44),none⟩,
 ⟨some 46,.load false 1 (.t 45),none⟩,
 ⟨some 47,.mov (.t 4),none⟩,
 ⟨some 48,.bin false .add (.t 47) (.k (.p (.int .i64 1))),none⟩,
 ⟨some 49,.slice 4 (.t 46) (some (.t 48)) none none,none⟩,
 ⟨some 50,.appendF 47 4 64 (.t 42) (.t 49),none⟩,
 ⟨some 51,.buildSlice 30 1 (.list 47 4 []) 1 [(0,(.t 50))],none⟩,
 ⟨some 52,.append 30 1 24 (.t 41) (.t 51),none⟩,
 ⟨some 5,.mov (.t 52),none⟩]
def c49_35:CC:=.ops [] (l49_34)
def c49_36:CC:=.seq c49_33 c49_35
def c49_37:CC:=.block 3 c49_36
def l49_38:List COp:=[
 ⟨some 32,.mov (.t 6),none⟩,
 ⟨some 33,.bin false .add (.t 32) (.k (.p (.int .i64 1))),none⟩,
 ⟨some 6,.mov (.t 33),none⟩]
def c49_39:CC:=.ops [] (l49_38)
def c49_40:CC:=.seq c49_37 c49_39
def c49_41:CC:=.seq c49_31 c49_40
def c49_42:CC:=.loop c49_41
def c49_43:CC:=.block 2 c49_42
def c49_44:CC:=.seq c49_27 c49_43
def l49_45:List COp:=[
 ⟨some 53,.mov (.t 0),none⟩,
 ⟨some 54,.indexAddr 1 (.t 53) (.k (.p (.int .i64 0))),none⟩,
 ⟨some 55,.load false 1 (.t 54),none⟩,
 ⟨some 56,.mov (.t 4),none⟩,
 ⟨some 57,.indexAddr 4 (.t 55) (.t 56),none⟩,
 ⟨some 58,.load true 4 (.t 57),none⟩,
 ⟨some 59,.mov (.t 5),none⟩,
 ⟨some 60,.call 49 [(.t 59)],none⟩]
def l49_46:List COp:=[
 ⟨some 61,.call 53 [(.t 58),(.t 60)],none⟩]
def l49_47:List COp:=[
 ⟨some 8,.alloc 47 4 (.p (.agg [(.bool false),(.list 3 1 []),(.bool false),(.list 3 1 [])])),none⟩,
 ⟨none,.store 4 (.t 8) (.t 61),none⟩]
def c49_48:CC:=.ops [] (l49_45++(l49_46++(l49_47)))
def l49_49:List COp:=[
 ⟨some 62,.mov (.t 4),none⟩,
 ⟨some 63,.bin false .rem (.t 62) (.k (.p (.int .i64 2))),none⟩,
 ⟨some 64,.bin false .eql (.t 63) (.k (.p (.int .i64 1))),none⟩]
def c49_50:CC:=.ops [] (l49_49)
def l49_51:List COp:=[
 ⟨some 65,.load true 4 (.t 8),none⟩,
 ⟨some 66,.call 19 [(.t 65)],none⟩]
def l49_52:List COp:=[
 ⟨none,.store 4 (.t 8) (.t 66),none⟩]
def c49_53:CC:=.ops [] (l49_51++(l49_52))
def c49_54:CC:=.cond (.t 64) c49_53 .skip
def c49_55:CC:=.seq c49_50 c49_54
def l49_56:List COp:=[
 ⟨some 67,.load true 4 (.t 3),none⟩,
 ⟨some 68,.load true 4 (.t 8),none⟩,
 ⟨some 69,.call 84 [(.t 67),(.t 68)],none⟩]
def l49_57:List COp:=[
 ⟨none,.store 4 (.t 3) (.t 69),none⟩]
def c49_58:CC:=.ops [] (l49_56++(l49_57))
def c49_59:CC:=.seq c49_55 c49_58
def c49_60:CC:=.seq c49_48 c49_59
def c49_61:CC:=.seq c49_44 c49_60
def c49_62:CC:=.seq c49_25 c49_61
def c49_63:CC:=.seq c49_23 c49_62
def c49_64:CC:=.block 1 c49_63
def l49_65:List COp:=[
 ⟨some 18,.mov (.t 4),none⟩,
 ⟨some 19,.bin false .add (.t 18) (.k (.p (.int .i64 1))),none⟩,
 ⟨some 4,.mov (.t 19),none⟩]
def c49_66:CC:=.ops [] (l49_65)
def c49_67:CC:=.seq c49_64 c49_66
def c49_68:CC:=.seq c49_18 c49_67
def c49_69:CC:=.loop c49_68
def c49_70:CC:=.block 0 c49_69
def c49_71:CC:=.seq c49_14 c49_70
def l49_72:List COp:=[
 ⟨some 70,.load true 4 (.t 3),none⟩,
 ⟨none,.store 4 (.t 2) (.t 70),none⟩]
def c49_73:CC:=.ops [] (l49_72)
def c49_74:CC:=.seq c49_73 .ret
def c49_75:CC:=.seq c49_71 c49_74
def c49_76:CC:=.seq c49_12 c49_75
def c49_77:CC:=.seq c49_9 c49_76
def c49_78:CC:=.seq c49_1 c49_77
def c49:CC:=c49_78
theorem fn49:FnOk Try.prog 49 [47,30,2000050] c49 [(2,some (true,4))] 71:=
 ⟨Try.f49,[⟨14,[0,1,2,3,4,5,6,7,8,9,10],[0,1,3,0,15,31,0,64,255,0,1023],[]⟩],Try.func49,by kernel_rfl,by kernel_rfl,by kernel_rfl,by kernel_rfl,by kernel_rfl⟩
def l12_0:List COp:=[
 ⟨some 4,.alloc 47 4 (.p (.agg [(.bool false),(.list 3 1 []),(.bool false),(.list 3 1 [])])),none⟩]
def c12_1:CC:=.ops [] (l12_0)
def l12_2:List COp:=[
 ⟨some 13,.mov (.t 0),none⟩,
 ⟨some 14,.len (.t 13),none⟩,
 ⟨some 15,.bin false .eql (.t 14) (.k (.p (.int .i64 0))),none⟩,
 ⟨some 16,.mov (.t 15),none⟩,
 ⟨some 17,.mov (.t 1),some (16,false)⟩,
 ⟨some 18,.len (.t 17),some (16,false)⟩,
 ⟨some 19,.bin false .eql (.t 18) (.k (.p (.int .i64 0))),some (16,false)⟩,
 ⟨some 20,.pick (.t 16) (.k (.p (.bool true))) (.t 19),none⟩]
def c12_3:CC:=.ops [] (l12_2)
def l12_4:List COp:=[
 ⟨some 21,.call 47 [(.k (.p (.int .i64 0)))],none⟩]
def l12_5:List COp:=[
 ⟨none,.store 4 (.t 4) (.t 21),none⟩]
def c12_6:CC:=.ops [] (l12_4++(l12_5))
def c12_7:CC:=.seq c12_6 .ret
def c12_8:CC:=.cond (.t 20) c12_7 .skip
def c12_9:CC:=.seq c12_3 c12_8
def l12_10:List COp:=[
 ⟨some 22,.mov (.t 0),none⟩,
 ⟨some 23,.len (.t 22),none⟩,
 ⟨some 24,.bin false .sub (.t 23) (.k (.p (.int .i64 1))),none⟩,
 ⟨some 5,.mov (.t 24),none⟩]
def c12_11:CC:=.ops [] (l12_10)
def l12_12:List COp:=[
 ⟨some 25,.mov (.t 1),none⟩,
 ⟨some 26,.len (.t 25),none⟩,
 ⟨some 27,.bin false .sub (.t 26) (.k (.p (.int .i64 1))),none⟩,
 ⟨some 6,.mov (.t 27),none⟩]
def c12_13:CC:=.ops [] (l12_12)
def l12_14:List COp:=[
 ⟨some 7,.mov (.k (.nils 30 1)),none⟩]
def c12_15:CC:=.ops [] (l12_14)
def l12_16:List COp:=[
 ⟨some 8,.mov (.k (.p (.int .i64 0))),none⟩]
def c12_17:CC:=.ops [] (l12_16)
def l12_18:List COp:=[
 ⟨some 28,.mov (.t 8),none⟩,
 ⟨some 29,.mov (.t 5),none⟩,
 ⟨some 30,.mov (.t 6),none⟩,
 ⟨some 31,.bin false .add (.t 29) (.t 30),none⟩,
 ⟨some 32,.bin false .lss (.t 28) (.t 31),none⟩]
def c12_19:CC:=.ops [] (l12_18)
def c12_20:CC:=.cond (.t 32) .skip (.exit 0)
def c12_21:CC:=.seq c12_19 c12_20
def l12_22:List COp:=[
 ⟨some 35,.mov (.t 0),none⟩,
 ⟨some 9,.mov (.t 35),none⟩]
def c12_23:CC:=.ops [] (l12_22)
def l12_24:List COp:=[
 ⟨some 36,.mov (.t 8),none⟩,
 ⟨some 10,.mov (.t 36),none⟩]
def c12_25:CC:=.ops [] (l12_24)
def l12_26:List COp:=[
 ⟨some 37,.mov (.t 8),none⟩,
 ⟨some 38,.mov (.t 6),none⟩,
 ⟨some 39,.bin false .geq (.t 37) (.t 38),none⟩]
def c12_27:CC:=.ops [] (l12_26)
def l12_28:List COp:=[
 ⟨some 40,.mov (.t 1),none⟩,
 ⟨some 9,.mov (.t 40),none⟩]
def c12_29:CC:=.ops [] (l12_28)
def l12_30:List COp:=[
 ⟨some 41,.mov (.t 8),none⟩,
 ⟨some 42,.mov (.t 6),none⟩,
 ⟨some 43,.bin false .sub (.t 41) (.t 42),none⟩,
 ⟨some 10,.mov (.t 43),none⟩]
def c12_31:CC:=.ops [] (l12_30)
def c12_32:CC:=.seq c12_29 c12_31
def c12_33:CC:=.cond (.t 39) c12_32 .skip
def c12_34:CC:=.seq c12_27 c12_33
def l12_35:List COp:=[
 ⟨some 11,.mov (.k (.nils 47 4)),none⟩]
def c12_36:CC:=.ops [] (l12_35)
def l12_37:List COp:=[
 ⟨some 12,.mov (.k (.p (.int .i64 0))),none⟩]
def c12_38:CC:=.ops [] (l12_37)
def l12_39:List COp:=[
 ⟨some 44,.mov (.t 12),none⟩,
 ⟨some 45,.mov (.t 5),none⟩,
 ⟨some 46,.mov (.t 6),none⟩,
 ⟨some 47,.bin false .add (.t 45) (.t 46),none⟩,
 ⟨some 48,.bin false .lss (.t 44) (.t 47),none⟩]
def c12_40:CC:=.ops [] (l12_39)
def c12_41:CC:=.cond (.t 48) .skip (.exit 2)
def c12_42:CC:=.seq c12_40 c12_41
def l12_43:List COp:=[
 ⟨some 51,.mov (.t 11),none⟩,
 ⟨some 52,.mov (.t 9),none⟩,
 ⟨some 53,.mov (.t 9),none⟩,
 ⟨some 54,.len (.t 53),none⟩,
 ⟨some 55,.bin false .sub (.t 54) (.k (.p (.int .i64 1))),none⟩,
 ⟨some 56,.mov (.t 12),none⟩,
 ⟨some 57,.mov (.t 10),none⟩,
 ⟨some 58,.bin false .sub (.t 56) (.t 57),none⟩,
 ⟨some 59,.bin false .sub (.t 55) (.t 58),none⟩,
 ⟨some 60,.call 48 [(.t 52),(.t 59)],none⟩]
def l12_44:List COp:=[
 ⟨some 61,.buildSlice 47 4 (.agg [(.bool false),(.list 3 1 []),(.bool false),(.list 3 1 [])]) 1 [(0,(.t 60))],none⟩,
 ⟨some 62,.append 47 4 64 (.t 51) (.t 61),none⟩,
 ⟨some 11,.mov (.t 62),none⟩]
def c12_45:CC:=.ops [] (l12_43++(l12_44))
def c12_46:CC:=.block 3 c12_45
def l12_47:List COp:=[
 ⟨some 49,.mov (.t 12),none⟩,
 ⟨some 50,.bin false .add (.t 49) (.k (.p (.int .i64 1))),none⟩,
 ⟨some 12,.mov (.t 50),none⟩]
def c12_48:CC:=.ops [] (l12_47)
def c12_49:CC:=.seq c12_46 c12_48
def c12_50:CC:=.seq c12_42 c12_49
def c12_51:CC:=.loop c12_50
def c12_52:CC:=.block 2 c12_51
def c12_53:CC:=.seq c12_38 c12_52
def l12_54:List COp:=[
 ⟨some 63,.mov (.t 7),none⟩,
 ⟨some 64,.mov (.t 11),none⟩,
 ⟨some 65,.buildSlice 30 1 (.list 47 4 []) 1 [(0,(.t 64))],none⟩,
 ⟨some 66,.append 30 1 24 (.t 63) (.t 65),none⟩,
 ⟨some 7,.mov (.t 66),none⟩]
def c12_55:CC:=.ops [] (l12_54)
def c12_56:CC:=.seq c12_53 c12_55
def c12_57:CC:=.seq c12_36 c12_56
def c12_58:CC:=.seq c12_34 c12_57
def c12_59:CC:=.seq c12_25 c12_58
def c12_60:CC:=.seq c12_23 c12_59
def c12_61:CC:=.block 1 c12_60
def l12_62:List COp:=[
 ⟨some 33,.mov (.t 8),none⟩,
 ⟨some 34,.bin false .add (.t 33) (.k (.p (.int .i64 1))),none⟩,
 ⟨some 8,.mov (.t 34),none⟩]
def c12_63:CC:=.ops [] (l12_62)
def c12_64:CC:=.seq c12_61 c12_63
def c12_65:CC:=.seq c12_21 c12_64
def c12_66:CC:=.loop c12_65
def c12_67:CC:=.block 0 c12_66
def c12_68:CC:=.seq c12_17 c12_67
def l12_69:List COp:=[
 ⟨some 67,.mov (.t 7),none⟩,
 ⟨some 68,.call 49 [(.t 67)],none⟩]
def l12_70:List COp:=[
 ⟨none,.store 4 (.t 4) (.t 68),none⟩]
def c12_71:CC:=.ops [] (l12_69++(l12_70))
def c12_72:CC:=.seq c12_71 .ret
def c12_73:CC:=.seq c12_68 c12_72
def c12_74:CC:=.seq c12_15 c12_73
def c12_75:CC:=.seq c12_13 c12_74
def c12_76:CC:=.seq c12_11 c12_75
def c12_77:CC:=.seq c12_9 c12_76
def c12_78:CC:=.seq c12_1 c12_77
def c12:CC:=c12_78
theorem fn12:FnOk Try.prog 12 [47,30] c12 [(4,some (true,4))] 69:=
 ⟨Try.f12,[],Try.func12,by kernel_rfl,by kernel_rfl,by kernel_rfl,by kernel_rfl,by kernel_rfl⟩
def l13_0:List COp:=[
 ⟨some 1,.box 25 1 (.t 0),none⟩,
 ⟨some 2,.alloc 39 4 (.p (.agg [(.bool false),(.list 116 1 []),(.bool false),(.list 116 1 [])])),none⟩,
 ⟨some 3,.alloc 27 2 (.p (.agg [(.int .i64 0),(.int .i64 0)])),none⟩]
def c13_1:CC:=.ops [] (l13_0)
def l13_2:List COp:=[
 ⟨some 7,.load true 1 (.t 1),none⟩,
 ⟨some 8,.call 22 [(.t 7)],none⟩]
def l13_3:List COp:=[
 ⟨some 4,.mov (.t 8),none⟩]
def c13_4:CC:=.ops [] (l13_2++(l13_3))
def l13_5:List COp:=[
 ⟨some 9,.mov (.t 4),none⟩,
 ⟨some 10,.bin false .lss (.t 9) (.k (.p (.int .i64 1))),none⟩]
def c13_6:CC:=.ops [] (l13_5)
def l13_7:List COp:=[
 ⟨some 11,.build [(.p (.bool false)),(.p (.list 116 1 [])),(.p (.bool false)),(.p (.list 116 1 []))] [],none⟩,
 ⟨some 12,.call 32 [(.k (.p (.int .i64 5))),(.k (.p (.int .i64 0)))],none⟩]
def l13_8:List COp:=[
 ⟨none,.store 4 (.t 2) (.t 11),none⟩,
 ⟨none,.store 2 (.t 3) (.t 12),none⟩]
def c13_9:CC:=.ops [] (l13_7++(l13_8))
def c13_10:CC:=.seq c13_9 .ret
def c13_11:CC:=.cond (.t 10) c13_10 .skip
def c13_12:CC:=.seq c13_6 c13_11
def l13_13:List COp:=[
 ⟨some 14,.load true 1 (.t 1),none⟩,
 ⟨some 15,.load true 1 (.t 1),none⟩,
 ⟨some 16,.call 29 [(.t 15)],none⟩]
def l13_14:List COp:=[
 ⟨some 17,.call 9 [(.t 14),(.t 16)],none⟩]
def l13_15:List COp:=[
 ⟨some 18,.load true 1 (.t 1),none⟩,
 ⟨some 19,.call 42 [(.t 18)],none⟩]
def l13_16:List COp:=[
 ⟨some 20,.call 50 [(.t 17),(.t 19)],none⟩]
def l13_17:List COp:=[
 ⟨some 13,.mov (.t 20),none⟩,
 ⟨some 21,.extract (.t 13) 0,none⟩,
 ⟨some 22,.extract (.t 13) 1,none⟩,
 ⟨some 5,.alloc 39 4 (.p (.agg [(.bool false),(.list 116 1 []),(.bool false),(.list 116 1 [])])),none⟩,
 ⟨some 6,.alloc 27 2 (.p (.agg [(.int .i64 0),(.int .i64 0)])),none⟩,
 ⟨none,.store 4 (.t 5) (.t 21),none⟩,
 ⟨none,.store 2 (.t 6) (.t 22),none⟩]
def c13_18:CC:=.ops [] (l13_13++(l13_14++(l13_15++(l13_16++(l13_17)))))
def l13_19:List COp:=[
 ⟨some 23,.mov (.t 4),none⟩,
 ⟨some 24,.mov (.t 4),none⟩,
 ⟨some 25,.bin false .sub (.t 24) (.k (.p (.int .i64 1))),none⟩,
 ⟨some 26,.bin false .mul (.t 23) (.t 25),none⟩,
 ⟨some 27,.bin false .quo (.t 26) (.k (.p (.int .i64 2))),none⟩,
 ⟨some 28,.bin false .rem (.t 27) (.k (.p (.int .i64 2))),none⟩,
 ⟨some 29,.bin false .eql (.t 28) (.k (.p (.int .i64 1))),none⟩]
def c13_20:CC:=.ops [] (l13_19)
def l13_21:List COp:=[
 ⟨some 30,.load true 4 (.t 5),none⟩,
 ⟨some 31,.call 40 [(.t 30)],none⟩]
def l13_22:List COp:=[
 ⟨none,.store 4 (.t 5) (.t 31),none⟩]
def c13_23:CC:=.ops [] (l13_21++(l13_22))
def c13_24:CC:=.cond (.t 29) c13_23 .skip
def c13_25:CC:=.seq c13_20 c13_24
def l13_26:List COp:=[
 ⟨some 32,.load true 4 (.t 5),none⟩,
 ⟨some 33,.build [(.p (.int .i64 0)),(.p (.int .i64 0))] [],none⟩,
 ⟨none,.store 4 (.t 2) (.t 32),none⟩,
 ⟨none,.store 2 (.t 3) (.t 33),none⟩]
def c13_27:CC:=.ops [] (l13_26)
def c13_28:CC:=.seq c13_27 .ret
def c13_29:CC:=.seq c13_25 c13_28
def c13_30:CC:=.seq c13_18 c13_29
def c13_31:CC:=.seq c13_12 c13_30
def c13_32:CC:=.seq c13_4 c13_31
def c13_33:CC:=.seq c13_1 c13_32
def c13:CC:=c13_33
theorem fn13:FnOk Try.prog 13 [25,39,27] c13 [(2,some (true,4)),(3,some (true,2))] 34:=
 ⟨Try.f13,[⟨4,[0,1,2,3,4,5,6,7,8,9,10,11,12,13],[0,0,2,7,0,31,63,127,255,255,0,0,3583,8191],[]⟩],Try.func13,by kernel_rfl,by kernel_rfl,by kernel_rfl,by kernel_rfl,by kernel_rfl⟩
def l3_0:List COp:=[
 ⟨some 4,.mov (.k (.p (.bool false))),none⟩]
def c3_1:CC:=.ops [] (l3_0)
def l3_2:List COp:=[
 ⟨some 18,.mov (.t 0),none⟩,
 ⟨some 19,.call 6 [(.t 18)],none⟩]
def l3_3:List COp:=[
 ⟨some 17,.mov (.t 19),none⟩,
 ⟨some 20,.extract (.t 17) 0,none⟩,
 ⟨some 21,.extract (.t 17) 1,none⟩,
 ⟨some 5,.alloc 25 1 (.p (.agg [(.list 39 4 [])])),none⟩,
 ⟨some 6,.alloc 27 2 (.p (.agg [(.int .i64 0),(.int .i64 0)])),none⟩,
 ⟨none,.store 1 (.t 5) (.t 20),none⟩,
 ⟨none,.store 2 (.t 6) (.t 21),none⟩]
def c3_4:CC:=.ops [] (l3_2++(l3_3))
def l3_5:List COp:=[
 ⟨some 23,.mov (.t 1),none⟩,
 ⟨some 24,.call 6 [(.t 23)],none⟩]
def l3_6:List COp:=[
 ⟨some 22,.mov (.t 24),none⟩,
 ⟨some 25,.extract (.t 22) 0,none⟩,
 ⟨some 26,.extract (.t 22) 1,none⟩,
 ⟨some 7,.alloc 25 1 (.p (.agg [(.list 39 4 [])])),none⟩,
 ⟨some 8,.alloc 27 2 (.p (.agg [(.int .i64 0),(.int .i64 0)])),none⟩,
 ⟨none,.store 1 (.t 7) (.t 25),none⟩,
 ⟨none,.store 2 (.t 8) (.t 26),none⟩]
def c3_7:CC:=.ops [] (l3_5++(l3_6))
def l3_8:List COp:=[
 ⟨some 28,.mov (.t 0),none⟩,
 ⟨some 29,.call 7 [(.t 28)],none⟩]
def l3_9:List COp:=[
 ⟨some 27,.mov (.t 29),none⟩,
 ⟨some 30,.extract (.t 27) 0,none⟩,
 ⟨some 31,.extract (.t 27) 1,none⟩,
 ⟨some 10,.alloc 27 2 (.p (.agg [(.int .i64 0),(.int .i64 0)])),none⟩,
 ⟨some 9,.mov (.t 30),none⟩,
 ⟨none,.store 2 (.t 10) (.t 31),none⟩]
def c3_10:CC:=.ops [] (l3_8++(l3_9))
def l3_11:List COp:=[
 ⟨some 33,.mov (.t 1),none⟩,
 ⟨some 34,.call 7 [(.t 33)],none⟩]
def l3_12:List COp:=[
 ⟨some 32,.mov (.t 34),none⟩,
 ⟨some 35,.extract (.t 32) 0,none⟩,
 ⟨some 36,.extract (.t 32) 1,none⟩,
 ⟨some 12,.alloc 27 2 (.p (.agg [(.int .i64 0),(.int .i64 0)])),none⟩,
 ⟨some 11,.mov (.t 35),none⟩,
 ⟨none,.store 2 (.t 12) (.t 36),none⟩]
def c3_13:CC:=.ops [] (l3_11++(l3_12))
def l3_14:List COp:=[
 ⟨some 37,.call 8 [],none⟩]
def l3_15:List COp:=[
 ⟨some 38,.un .not (.t 37),none⟩]
def c3_16:CC:=.ops [] (l3_14++(l3_15))
def l3_17:List COp:=[
 ⟨some 4,.mov (.k (.p (.bool false))),none⟩]
def c3_18:CC:=.ops [] (l3_17)
def c3_19:CC:=.seq c3_18 .ret
def c3_20:CC:=.cond (.t 38) c3_19 .skip
def c3_21:CC:=.seq c3_16 c3_20
def l3_22:List COp:=[
 ⟨some 39,.mov (.t 9),none⟩,
 ⟨some 40,.len (.t 39),none⟩,
 ⟨some 41,.mov (.t 11),none⟩,
 ⟨some 42,.len (.t 41),none⟩,
 ⟨some 43,.bin false .add (.t 40) (.t 42),none⟩,
 ⟨some 44,.bin false .leq (.t 43) (.k (.p (.int .i64 8))),none⟩,
 ⟨some 45,.mov (.t 44),none⟩,
 ⟨some 46,.load true 1 (.t 5),some (45,true)⟩,
 ⟨some 47,.load true 1 (.t 7),some (45,true)⟩,
 ⟨some 48,.call 9 [(.t 46),(.t 47)],some (45,true)⟩]
def l3_23:List COp:=[
 ⟨some 49,.call 10 [(.t 48)],some (45,true)⟩]
def l3_24:List COp:=[
 ⟨some 50,.mov (.t 9),some (45,true)⟩,
 ⟨some 51,.mov (.t 11),some (45,true)⟩,
 ⟨some 52,.call 12 [(.t 50),(.t 51)],some (45,true)⟩]
def l3_25:List COp:=[
 ⟨some 53,.call 11 [(.t 52)],some (45,true)⟩]
def l3_26:List COp:=[
 ⟨some 54,.bin false .neq (.t 49) (.t 53),some (45,true)⟩,
 ⟨some 55,.pick (.t 45) (.t 54) (.k (.p (.bool false))),none⟩]
def c3_27:CC:=.ops [] (l3_22++(l3_23++(l3_24++(l3_25++(l3_26)))))
def l3_28:List COp:=[
 ⟨some 4,.mov (.k (.p (.bool false))),none⟩]
def c3_29:CC:=.ops [] (l3_28)
def c3_30:CC:=.seq c3_29 .ret
def c3_31:CC:=.cond (.t 55) c3_30 .skip
def c3_32:CC:=.seq c3_27 c3_31
def l3_33:List COp:=[
 ⟨some 57,.load true 1 (.t 5),none⟩,
 ⟨some 58,.call 13 [(.t 57)],none⟩]
def l3_34:List COp:=[
 ⟨some 56,.mov (.t 58),none⟩,
 ⟨some 59,.extract (.t 56) 0,none⟩,
 ⟨some 60,.extract (.t 56) 1,none⟩,
 ⟨some 13,.alloc 39 4 (.p (.agg [(.bool false),(.list 116 1 []),(.bool false),(.list 116 1 [])])),none⟩,
 ⟨some 14,.alloc 27 2 (.p (.agg [(.int .i64 0),(.int .i64 0)])),none⟩,
 ⟨none,.store 4 (.t 13) (.t 59),none⟩,
 ⟨none,.store 2 (.t 14) (.t 60),none⟩]
def c3_35:CC:=.ops [] (l3_33++(l3_34))
def l3_36:List COp:=[
 ⟨some 61,.mov (.t 9),none⟩,
 ⟨some 62,.len (.t 61),none⟩,
 ⟨some 63,.bin false .lss (.t 62) (.k (.p (.int .i64 2))),none⟩]
def c3_37:CC:=.ops [] (l3_36)
def l3_38:List COp:=[
 ⟨some 64,.load true 2 (.t 14),none⟩,
 ⟨some 65,.call 14 [(.k (.p (.int .i64 5))),(.k (.p (.int .i64 0)))],none⟩]
def l3_39:List COp:=[
 ⟨some 66,.eqs 2 false (.t 64) (.t 65),none⟩,
 ⟨some 67,.mov (.t 66),none⟩,
 ⟨some 68,.load true 4 (.t 13),some (67,true)⟩,
 ⟨some 69,.call 15 [(.t 68)],some (67,true)⟩]
def l3_40:List COp:=[
 ⟨some 70,.bin false .eql (.t 69) (.k (.p (.int .i64 0))),some (67,true)⟩,
 ⟨some 71,.pick (.t 67) (.t 70) (.k (.p (.bool false))),none⟩,
 ⟨some 4,.mov (.t 71),none⟩]
def c3_41:CC:=.ops [] (l3_38++(l3_39++(l3_40)))
def c3_42:CC:=.seq c3_41 .ret
def c3_43:CC:=.cond (.t 63) c3_42 .skip
def c3_44:CC:=.seq c3_37 c3_43
def l3_45:List COp:=[
 ⟨some 72,.mov (.t 9),none⟩,
 ⟨some 73,.len (.t 72),none⟩,
 ⟨some 74,.bin false .gtr (.t 73) (.k (.p (.int .i64 4))),none⟩]
def c3_46:CC:=.ops [] (l3_45)
def l3_47:List COp:=[
 ⟨some 75,.fieldAddr 0 1 false (.t 14),none⟩,
 ⟨some 76,.load false 1 (.t 75),none⟩,
 ⟨some 77,.bin false .eql (.t 76) (.k (.p (.int .i64 0))),none⟩,
 ⟨some 4,.mov (.t 77),none⟩]
def c3_48:CC:=.ops [] (l3_47)
def c3_49:CC:=.seq c3_48 .ret
def c3_50:CC:=.cond (.t 74) c3_49 .skip
def c3_51:CC:=.seq c3_46 c3_50
def l3_52:List COp:=[
 ⟨some 79,.mov (.t 9),none⟩,
 ⟨some 80,.mov (.t 9),none⟩,
 ⟨some 81,.call 17 [(.t 80)],none⟩]
def l3_53:List COp:=[
 ⟨some 82,.call 12 [(.t 79),(.t 81)],none⟩]
def l3_54:List COp:=[
 ⟨some 83,.mov (.t 9),none⟩,
 ⟨some 84,.call 18 [(.t 83)],none⟩]
def l3_55:List COp:=[
 ⟨some 85,.call 16 [(.t 82),(.t 84)],none⟩]
def l3_56:List COp:=[
 ⟨some 78,.mov (.t 85),none⟩,
 ⟨some 86,.extract (.t 78) 0,none⟩,
 ⟨some 87,.extract (.t 78) 1,none⟩,
 ⟨some 15,.alloc 47 4 (.p (.agg [(.bool false),(.list 3 1 []),(.bool false),(.list 3 1 [])])),none⟩,
 ⟨some 16,.alloc 27 2 (.p (.agg [(.int .i64 0),(.int .i64 0)])),none⟩,
 ⟨none,.store 4 (.t 15) (.t 86),none⟩,
 ⟨none,.store 2 (.t 16) (.t 87),none⟩]
def c3_57:CC:=.ops [] (l3_52++(l3_53++(l3_54++(l3_55++(l3_56)))))
def l3_58:List COp:=[
 ⟨some 88,.mov (.t 9),none⟩,
 ⟨some 89,.len (.t 88),none⟩,
 ⟨some 90,.bin false .sub (.t 89) (.k (.p (.int .i64 1))),none⟩,
 ⟨some 91,.mov (.t 9),none⟩,
 ⟨some 92,.len (.t 91),none⟩,
 ⟨some 93,.bin false .sub (.t 92) (.k (.p (.int .i64 2))),none⟩,
 ⟨some 94,.bin false .mul (.t 90) (.t 93),none⟩,
 ⟨some 95,.bin false .quo (.t 94) (.k (.p (.int .i64 2))),none⟩,
 ⟨some 96,.bin false .rem (.t 95) (.k (.p (.int .i64 2))),none⟩,
 ⟨some 97,.bin false .eql (.t 96) (.k (.p (.int .i64 1))),none⟩]
def c3_59:CC:=.ops [] (l3_58)
def l3_60:List COp:=[
 ⟨some 98,.load true 4 (.t 15),none⟩,
 ⟨some 99,.call 19 [(.t 98)],none⟩]
def l3_61:List COp:=[
 ⟨none,.store 4 (.t 15) (.t 99),none⟩]
def c3_62:CC:=.ops [] (l3_60++(l3_61))
def c3_63:CC:=.cond (.t 97) c3_62 .skip
def c3_64:CC:=.seq c3_59 c3_63
def l3_65:List COp:=[
 ⟨some 100,.fieldAddr 0 1 false (.t 14),none⟩,
 ⟨some 101,.load false 1 (.t 100),none⟩,
 ⟨some 102,.bin false .eql (.t 101) (.k (.p (.int .i64 0))),none⟩,
 ⟨some 103,.mov (.t 102),none⟩,
 ⟨some 104,.load true 4 (.t 13),some (103,true)⟩,
 ⟨some 105,.call 10 [(.t 104)],some (103,true)⟩]
def l3_66:List COp:=[
 ⟨some 106,.load true 4 (.t 15),some (103,true)⟩,
 ⟨some 107,.call 11 [(.t 106)],some (103,true)⟩]
def l3_67:List COp:=[
 ⟨some 108,.bin false .eql (.t 105) (.t 107),some (103,true)⟩,
 ⟨some 109,.pick (.t 103) (.t 108) (.k (.p (.bool false))),none⟩,
 ⟨some 4,.mov (.t 109),none⟩]
def c3_68:CC:=.ops [] (l3_65++(l3_66++(l3_67)))
def c3_69:CC:=.seq c3_68 .ret
def c3_70:CC:=.seq c3_64 c3_69
def c3_71:CC:=.seq c3_57 c3_70
def c3_72:CC:=.seq c3_51 c3_71
def c3_73:CC:=.seq c3_44 c3_72
def c3_74:CC:=.seq c3_35 c3_73
def c3_75:CC:=.seq c3_32 c3_74
def c3_76:CC:=.seq c3_21 c3_75
def c3_77:CC:=.seq c3_13 c3_76
def c3_78:CC:=.seq c3_10 c3_77
def c3_79:CC:=.seq c3_7 c3_78
def c3_80:CC:=.seq c3_4 c3_79
def c3_81:CC:=.seq c3_1 c3_80
def c3:CC:=c3_81
theorem fn3:FnOk Try.prog 3 [25,27,39,47] c3 [(4,none)] 110:=
 ⟨Try.f3,[⟨11,[0,1,2,3,4,5,6,7,8],[0,0,3,7,15,31,63,127,255],[]⟩,⟨17,[0,1,2,3,4,5,6,7,8,9,10],[0,1,3,7,15,31,15,127,255,511,1023],[]⟩],Try.func3,by kernel_rfl,by kernel_rfl,by kernel_rfl,by kernel_rfl,by kernel_rfl⟩
end Go.Proofs.Ytdjbfgfbpimakaa.M
end

section
namespace Go.Proofs.Ytdjbfgfbpimakaa.M
open Go.RowKit
end Go.Proofs.Ytdjbfgfbpimakaa.M
end

section
namespace Go.Proofs.Ytdjbfgfbpimakaa.M
open Go.RowKit
end Go.Proofs.Ytdjbfgfbpimakaa.M
end
