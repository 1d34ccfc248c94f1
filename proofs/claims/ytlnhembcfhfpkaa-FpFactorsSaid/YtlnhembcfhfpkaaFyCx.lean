/- Polynomials modulo a prime: the rows of the kernel, in plain Lean. -/
import Derived.Test.YtlnhembcfhfpkaaFyBx
namespace Go.Proofs.Ytlnhembcfhfpkaa.M
open Go.RowKit Go.Proofs.Ytlnhembcfhfpkaa.Fx
set_option linter.unusedSimpArgs false
set_option linter.unusedVariables false
variable {P:Pr}
noncomputable def hK (f:Po P) (a:Nat):Po P:=rm (pw X (pn P*a)) f
theorem hK_0 {f:Po P} (h:2≤dg f):hK f 0=1:=by
 unfold hK
 rw[Nat.mul_zero,pw_0]
 exact rm_self (ne_0 (by omega)) (by rw[dg_1];omega)
theorem hK_s {f:Po P} (h:f≠0) (a:Nat):rm (hK f a*hK f 1) f=hK f (a+1):=by
 unfold hK
 refine rm_cong h ?_
 rw[Nat.mul_one,Nat.mul_succ,pw_add]
 have h1:=dvd_rm (f:=pw (X:Po P) (pn P*a)) h
 have h2:=dvd_rm (f:=pw (X:Po P) (pn P)) h
 have h3:=dvd_neg (dvd_add (dvd_mul_of h1 (pw X (pn P))) (dvd_mul_of' h2 (rm (pw X (pn P*a)) f)))
 rwa[show -((pw X (pn P*a)-rm (pw X (pn P*a)) f)*pw X (pn P)+rm (pw X (pn P*a)) f*(pw X (pn P)-rm (pw X (pn P)) f))=rm (pw X (pn P*a)) f*rm (pw X (pn P)) f-pw X (pn P*a)*pw X (pn P) from
  rg_ [pw X (pn P*a),rm (pw X (pn P*a)) f,pw X (pn P),rm (pw X (pn P)) f] (-((x0-x1)*x2+x1*(x2-x3))) (x1*x3-x0*x2)] at h3
theorem hK_dg {f:Po P} (h:f≠0) (a:Nat):dg (hK f a)<dg f:=rm_dg _ h
theorem co_Xp (m i:Nat):co (pw (X:Po P) m) i=if i=m then 1 else 0:=by
 have h:=co_Xp_mul (1:Po P) m i
 rw[mul_one] at h
 rw[h,show (1:Po P)=cn 1 from rfl,co_cn,em_self (by have:=P.p2;omega)]
 by_cases h1:i<m
 ·rw[if_pos h1,if_neg (by omega)]
 ·rw[if_neg h1]
  by_cases h2:i=m
  ·rw[if_pos (by omega),if_pos h2]
  ·rw[if_neg (by omega),if_neg h2]
theorem dg_Xp (m:Nat):dg (pw (X:Po P) m)=m+1:=dg_eq (fun i hi=>by rw[co_Xp,if_neg (by omega)]) (by rw[co_Xp,if_pos rfl];omega)
noncomputable def kRow (f:Po P) (n a:Nat):List Int:=tabI (2*n) fun c=>if c<n then co (hK f a-pw X a) c else if c=n+a then 1 else 0
noncomputable def kM (f:Po P) (n i:Nat):List (List Int):=(List.range i).map fun a=>kRow f n a
def fkG (M:List (List Int)) (j n:Nat):Nat→Nat→Nat
 | 0,k=>k
 | m+1,k=>if k<n∧(M.getD k []).getD j 0=0 then fkG M j n m (k+1) else k
theorem fkG_ok (M:List (List Int)) (j n:Nat):∀ (m k:Nat),k+m=n→k≤fkG M j n m k∧fkG M j n m k≤n∧(∀ i,k≤i→i<fkG M j n m k→(M.getD i []).getD j 0=0)∧(fkG M j n m k<n→(M.getD (fkG M j n m k) []).getD j 0≠0)
 | 0,k,h=>⟨Nat.le_refl _,by rw[fkG];omega,fun i h1 h2=>by rw[fkG] at h2;omega,fun h1=>by rw[fkG] at h1;omega⟩
 | m+1,k,h=>by
  rw[fkG]
  split
  ·rename_i hc
   obtain⟨a1,a2,a3,a4⟩:=fkG_ok M j n m (k+1) (by omega)
   refine⟨by omega,a2,fun i h1 h2 => ?_,a4⟩
   by_cases e:i=k
   ·rw[e];exact hc.2
   ·exact a3 i (by omega) h2
  ·rename_i hc
   exact⟨Nat.le_refl _,by omega,fun i h1 h2=>by omega,fun h1 h2=>hc ⟨h1,h2⟩⟩
def swM (M:List (List Int)) (a b:Nat):List (List Int):=(M.set a (M.getD b [])).set b (M.getD a [])
def rowC (r t:List Int) (k p:Int) (c:Nat):List Int:=(List.range r.length).map fun x=>if x<c then (r.getD x 0+(p-k)*t.getD x 0) % p else r.getD x 0
def kk (M:List (List Int)) (j:Nat) (u p:Int) (t:Nat):Int:=((M.getD t []).getD j 0*u) % p
def elM (M:List (List Int)) (top j:Nat) (u p:Int) (i:Nat):List (List Int):=(List.range M.length).map fun t=>if t<i∧top<t∧kk M j u p t≠0 then rowC (M.getD t []) (M.getD top []) (kk M j u p t) p (M.getD t []).length else M.getD t []
noncomputable def kC (p:Int) (n j:Nat) (s:List (List Int) × Nat):List (List Int) × Nat:=
 if fkG s.1 j n (n-s.2) s.2=n then s else
  (elM (swM s.1 (fkG s.1 j n (n-s.2) s.2) s.2) s.2 j (invP (((swM s.1 (fkG s.1 j n (n-s.2) s.2) s.2).getD s.2 []).getD j 0) p) p n,s.2+1)
noncomputable def kS (f:Po P) (n:Nat):Nat→List (List Int) × Nat
 | 0=>(kM f n n,0)
 | j+1=>kC P.p n j (kS f n j)
structure MI (P:Pr) (n:Nat) (M:List (List Int)):Prop where
 len:M.length=n
 row:∀ i,i<n→(M.getD i []).length=2*n
 rg:∀ i,Rg P.p (M.getD i [])
def rR (P:Pr) (M:List (List Int)) (n i:Nat):Po P:=mk ((M.getD i []).drop n)
structure KI (f:Po P) (n:Nat) (M:List (List Int)) (top j:Nat):Prop where
 mi:MI P n M
 lf:∀ i,i<n→∀ c,c<n→(M.getD i []).getD c 0=co (phi f (rR P M n i)) c
 kn:Kn f n (rR P M n) top j
theorem getD_drop (l:List Int) (n i:Nat):(l.drop n).getD i 0=l.getD (n+i) 0:=by simp[List.getD_eq_getElem?_getD]
theorem co_rR {M:List (List Int)} {n i:Nat} (h:Rg P.p (M.getD i [])) (c:Nat):co (rR P M n i) c=(M.getD i []).getD (n+c) 0:=by
 unfold rR
 rw[co_mk,getD_drop,em_self (h _)]
theorem kM_getD {f:Po P} {n i a:Nat} (h:a<i):(kM f n i).getD a []=kRow f n a:=by unfold kM;simp[h]
theorem kRow_len (f:Po P) (n a:Nat):(kRow f n a).length=2*n:=tabI_len _ _
theorem kRow_getD {f:Po P} {n a c:Nat}:(kRow f n a).getD c 0=if c<2*n then (if c<n then co (hK f a-pw X a) c else if c=n+a then 1 else 0) else 0:=tabI_getD _ _ _
theorem kRow_rg (f:Po P) (n a:Nat):Rg P.p (kRow f n a):=fun c=>by
 rw[kRow_getD]
 have:=P.p2
 split
 ·split
  ·exact co_rg _ _
  ·split<;>omega
 ·omega
theorem kM_mi (f:Po P) (n:Nat):MI P n (kM f n n):=⟨by simp[kM],fun i hi=>by rw[kM_getD hi];exact kRow_len f n i,fun i=>by
 by_cases hi:i<n
 ·rw[kM_getD hi];exact kRow_rg f n i
 ·have:(kM f n n).getD i []=[]:=by rw[List.getD_eq_getElem?_getD,List.getElem?_eq_none (by unfold kM;simp;omega)];rfl
  rw[this];exact rg_nil P.pos⟩
theorem kM_rR (f:Po P) {n i:Nat} (h:i<n):rR P (kM f n n) n i=pw X i:=Po.co_ext fun c=>by
 rw[co_rR ((kM_mi f n).rg i),kM_getD h,kRow_getD,co_Xp,if_neg (show ¬ n+c<n by omega)]
 by_cases hc:c=i
 ·rw[if_pos hc,if_pos (by omega),if_pos (by omega)]
 ·rw[if_neg hc,if_neg (show ¬ n+c=n+i by omega)];simp
theorem li_X (a:Nat→Int):∀ (n c:Nat),co (li a (fun i=>pw (X:Po P) i) n) c=if c<n then a c % P.p else 0
 | 0,c=>co_0 c
 | n+1,c=>by
  show co (li a (fun i=>pw (X:Po P) i) n+cn (a n)*pw X n) c=_
  rw[co_add,li_X a n c,co_cn_mul,co_Xp]
  by_cases h1:c<n
  ·rw[if_pos h1,if_neg (show ¬ c=n by omega),if_pos (show c<n+1 by omega)];simp
  ·rw[if_neg h1]
   by_cases h2:c=n
   ·rw[if_pos h2,if_pos (by omega),h2];simp
   ·rw[if_neg h2,if_neg (by omega)];simp
theorem li_congr {a:Nat→Int} {R R':Nat→Po P} {n:Nat} (h:∀ i,i<n→R i=R' i):li a R n=li a R' n:=sm_congr fun i hi=>by rw[h i hi]
theorem kM_ki {f:Po P} {n:Nat} (h:dg f=n+1) (h2:1≤n):KI f n (kM f n n) 0 0:=by
 have hf:f≠0:=ne_0 (by omega)
 refine⟨kM_mi f n,fun i hi c hc => ?_,⟨⟨fun v hv=>⟨fun i=>co v i,?_⟩,fun a h0 i hi => ?_⟩,fun i hi => ?_,⟨fun _=>0,fun i hi=>by omega⟩,fun i _ _ c hc=>by omega,Nat.le_refl _⟩⟩
 ·rw[kM_rR f hi,kM_getD hi,kRow_getD,if_pos (by omega),if_pos hc]
  congr 1
  unfold hK phi
  symm
  refine rm_unique hf ?_ ?_
  ·rw[←pw_pw,Nat.mul_comm i]
   have:=dvd_rm (f:=pw (X:Po P) (pn P*i)) hf
   rwa[show pw X (pn P*i)-rm (pw X (pn P*i)) f=pw X (pn P*i)-pw X i-(rm (pw X (pn P*i)) f-pw X i) from
    rg_ [pw X (pn P*i),rm (pw X (pn P*i)) f,pw X i] (x0-x1) (x0-x2-(x1-x2))] at this
  ·have h1:=dg_sub_le (rm (pw (X:Po P) (pn P*i)) f) (pw X i)
   have h3:=rm_dg (pw (X:Po P) (pn P*i)) hf
   rw[dg_Xp] at h1
   omega
 ·rw[li_congr (R':=fun i=>pw X i) fun i hi=>kM_rR f hi]
  refine Po.co_ext fun c => ?_
  rw[li_X]
  split
  ·exact (co_mod v c).symm
  ·exact co_big (by omega)
 ·rw[li_congr (R':=fun i=>pw X i) fun i hi=>kM_rR f hi] at h0
  have:=congrArg (fun f=>co f i) h0
  simp only[li_X,if_pos hi,co_0] at this
  exact this
 ·rw[kM_rR f hi,dg_Xp];omega
theorem swM_getD {M:List (List Int)} {a b i:Nat} (ha:a<M.length) (hb:b<M.length):(swM M a b).getD i []=M.getD (if i=a then b else if i=b then a else i) []:=by
 unfold swM
 simp only[List.getD_eq_getElem?_getD,List.getElem?_set,List.length_set]
 by_cases h1:b=i
 ·subst h1
  rw[if_pos rfl,if_pos (by simpa using hb)]
  by_cases h2:b=a
  ·subst h2;simp[hb]
  ·rw[if_neg h2,if_pos rfl];simp[ha]
 ·rw[if_neg h1]
  by_cases h2:a=i
  ·subst h2
   rw[if_pos rfl,if_pos ha,if_pos rfl]
   simp[hb]
  ·rw[if_neg h2,if_neg (fun e=>h2 e.symm),if_neg (fun e=>h1 e.symm)]
theorem swM_len (M:List (List Int)) (a b:Nat):(swM M a b).length=M.length:=by simp[swM]
theorem MI.swap {n:Nat} {M:List (List Int)} (h:MI P n M) {a b:Nat} (ha:a<n) (hb:b<n):MI P n (swM M a b):=by
 have hl:=h.len
 refine⟨by rw[swM_len];exact hl,fun i hi => ?_,fun i => ?_⟩
 ·rw[swM_getD (by omega) (by omega)]
  exact h.row _ (by split<;>(try split)<;>omega)
 ·rw[swM_getD (by omega) (by omega)]
  exact h.rg _
theorem KI.swap {f:Po P} {n:Nat} {M:List (List Int)} {top j k:Nat} (h:KI f n M top j) (hk:k<n) (ht:top≤k):KI f n (swM M k top) top j:=by
 have hl:=h.mi.len
 have e:rR P (swM M k top) n=fun i=>rR P M n (if i=k then top else if i=top then k else i):=by
  funext i
  unfold rR
  rw[swM_getD (by omega) (by omega)]
 refine⟨h.mi.swap hk (by omega),fun i hi c hc => ?_,?_⟩
 ·rw[swM_getD (by omega) (by omega),e]
  exact h.lf _ (by split<;>(try split)<;>omega) c hc
 ·rw[e];exact h.kn.swap hk ht
theorem rowC_len (r t:List Int) (k p:Int) (c:Nat):(rowC r t k p c).length=r.length:=by simp[rowC]
theorem rowC_getD {r t:List Int} {k p:Int} {c x:Nat}:(rowC r t k p c).getD x 0=if x<r.length then (if x<c then (r.getD x 0+(p-k)*t.getD x 0) % p else r.getD x 0) else 0:=getD_range_map _ _ _
theorem rowC_0 (r t:List Int) (k p:Int):rowC r t k p 0=r:=by
 apply List.ext_getElem
 ·simp[rowC]
 ·intro x h1 h2;simp[rowC,h2]
theorem rowC_set {r t:List Int} {k p:Int} {c:Nat} (h:c<r.length):(rowC r t k p c).set c ((r.getD c 0+(p-k)*t.getD c 0) % p)=rowC r t k p (c+1):=by
 apply List.ext_getElem
 ·simp[rowC]
 ·intro x h1 h2
  rw[List.getElem_set]
  simp only[rowC,List.getElem_map,List.getElem_range]
  by_cases e:c=x
  ·subst e;rw[if_pos rfl,if_pos (by omega)]
  ·rw[if_neg e]
   by_cases h3:x<c
   ·rw[if_pos h3,if_pos (by omega)]
   ·rw[if_neg h3,if_neg (by omega)]
theorem rowC_rg {r t:List Int} {k p:Int} (hp:0<p) (h:Rg p r) (c:Nat):Rg p (rowC r t k p c):=fun x=>by
 rw[rowC_getD]
 split
 ·split
  ·exact md hp
  ·exact h x
 ·omega
theorem elM_len (M:List (List Int)) (top j:Nat) (u p:Int) (i:Nat):(elM M top j u p i).length=M.length:=by simp[elM]
theorem elM_getD {M:List (List Int)} {top j:Nat} {u p:Int} {i t:Nat} (h:t<M.length):(elM M top j u p i).getD t []=if t<i∧top<t∧kk M j u p t≠0 then rowC (M.getD t []) (M.getD top []) (kk M j u p t) p (M.getD t []).length else M.getD t []:=by
 unfold elM
 simp[h]
theorem elM_0 (M:List (List Int)) (top j:Nat) (u p:Int):elM M top j u p 0=M:=by
 apply List.ext_getElem
 ·simp[elM]
 ·intro t h1 h2;simp[elM,h2]
theorem elM_skip {M:List (List Int)} {top j:Nat} {u p:Int} {i:Nat} (h:¬ (top<i∧kk M j u p i≠0)):elM M top j u p i=elM M top j u p (i+1):=by
 unfold elM
 refine List.map_congr_left fun t _ => ?_
 by_cases h1:t<i
 ·by_cases h2:top<t∧kk M j u p t≠0
  ·rw[if_pos ⟨h1,h2⟩,if_pos ⟨by omega,h2⟩]
  ·rw[if_neg (fun h=>h2 h.2),if_neg (fun h=>h2 h.2)]
 ·rw[if_neg (fun h=>h1 h.1)]
  by_cases h3:t=i
  ·subst h3;rw[if_neg (fun hh=>h hh.2)]
  ·rw[if_neg (fun h=>by omega)]
theorem elM_set {M:List (List Int)} {top j:Nat} {u p:Int} {i:Nat} (hi:i<M.length) (h:top<i∧kk M j u p i≠0):(elM M top j u p i).set i (rowC (M.getD i []) (M.getD top []) (kk M j u p i) p (M.getD i []).length)=elM M top j u p (i+1):=by
 apply List.ext_getElem
 ·simp[elM]
 ·intro t h1 h2
  rw[List.getElem_set]
  simp only[elM,List.getElem_map,List.getElem_range]
  by_cases e:i=t
  ·subst e;rw[if_pos rfl,if_pos ⟨by omega,h⟩]
  ·rw[if_neg e]
   by_cases h3:t<i
   ·by_cases h4:top<t∧kk M j u p t≠0
    ·rw[if_pos ⟨h3,h4⟩,if_pos ⟨by omega,h4⟩]
    ·rw[if_neg (fun h=>h4 h.2),if_neg (fun h=>h4 h.2)]
   ·rw[if_neg (fun h=>h3 h.1),if_neg (fun h=>by omega)]
theorem MI.el {n:Nat} {M:List (List Int)} (h:MI P n M) (top j:Nat) (u:Int) (i:Nat):MI P n (elM M top j u P.p i):=by
 have hl:=h.len
 refine⟨by rw[elM_len];exact hl,fun t ht => ?_,fun t => ?_⟩
 ·rw[elM_getD (by omega)]
  split
  ·rw[rowC_len];exact h.row t ht
  ·exact h.row t ht
 ·by_cases ht:t<M.length
  ·rw[elM_getD ht]
   split
   ·exact rowC_rg P.pos (h.rg t) _
   ·exact h.rg t
  ·have:(elM M top j u P.p i).getD t []=[]:=by
    rw[List.getD_eq_getElem?_getD,List.getElem?_eq_none (by rw[elM_len];omega)];rfl
   rw[this];exact rg_nil P.pos
theorem KI.el {f:Po P} {n:Nat} {M:List (List Int)} {top j:Nat} {u:Int} (hf:f≠0) (h:KI f n M top j) (ht:top<n) (hj:j<n) (hp:(M.getD top []).getD j 0≠0) (hu:((M.getD top []).getD j 0*u) % P.p=1):KI f n (elM M top j u P.p n) (top+1) (j+1):=by
 have hl:=h.mi.len
 let c:Nat→Int:=fun i=>if top<i then -kk M j u P.p i else 0
 have hrow:∀ i,i<n→∀ x,((elM M top j u P.p n).getD i []).getD x 0=((M.getD i []).getD x 0+c i*(M.getD top []).getD x 0) % P.p:=fun i hi x=>by
  have hsame:(M.getD i []).getD x 0=((M.getD i []).getD x 0) % P.p:=(em_self (h.mi.rg i x)).symm
  rw[elM_getD (by omega)]
  by_cases h1:top<i
  ·have hci:c i = -kk M j u P.p i:=if_pos h1
   by_cases h2:kk M j u P.p i=0
   ·rw[if_neg (fun hh=>hh.2.2 h2),hci,h2]
    simp only[Int.neg_zero,Int.zero_mul,Int.add_zero]
    exact hsame
   ·rw[if_pos ⟨hi,h1,h2⟩,rowC_getD,hci]
    by_cases h3:x<(M.getD i []).length
    ·rw[if_pos h3,if_pos h3]
     rw[show (M.getD i []).getD x 0+(P.p-kk M j u P.p i)*(M.getD top []).getD x 0=(M.getD i []).getD x 0 + -kk M j u P.p i*(M.getD top []).getD x 0+(M.getD top []).getD x 0*P.p by grind,Int.add_mul_emod_self_right]
    ·have h4:=h.mi.row i hi
     have h5:=h.mi.row top ht
     rw[if_neg h3,getD_big (by omega),getD_big (l:=M.getD top []) (by omega)];simp
  ·have hci:c i=0:=if_neg h1
   rw[if_neg (fun hh=>h1 hh.2.1),hci]
   simp only[Int.zero_mul,Int.add_zero]
   exact hsame
 have hmi:=h.mi.el top j u n
 have hR:∀ i,i<n→rR P (elM M top j u P.p n) n i=rR P M n i+cn (c i)*rR P M n top:=fun i hi=>Po.co_ext fun x=>by
  rw[co_rR (hmi.rg i),hrow i hi,co_add,co_cn_mul,co_rR (h.mi.rg i),co_rR (h.mi.rg top),Int.add_emod_emod,Int.mul_comm (c i)]
 have hlf:∀ i,i<n→∀ x,x<n→((elM M top j u P.p n).getD i []).getD x 0=co (phi f (rR P (elM M top j u P.p n) n i)) x:=fun i hi x hx=>by
  rw[hR i hi,phi_add hf,phi_scale hf,co_add,co_cn_mul,←h.lf i hi x hx,←h.lf top ht x hx,hrow i hi,Int.add_emod_emod,Int.mul_comm (c i)]
 refine⟨hmi,hlf,?_⟩
 refine h.kn.step (c:=c) hf ht ?_ (fun i hi=>if_neg (by omega)) hR fun i hi hti => ?_
 ·rw[←h.lf top ht j hj];exact hp
 ·rw[←h.lf top ht j hj,←h.lf i hi j hj]
  have hci:c i = -kk M j u P.p i:=if_pos hti
  rw[hci]
  unfold kk
  generalize (M.getD top []).getD j 0=b at *
  generalize (M.getD i []).getD j 0=a at *
  have h1:=Int.emod_add_mul_ediv (a*u) P.p
  have h2:=Int.emod_add_mul_ediv (b*u) P.p
  rw[hu] at h2
  have h3:a + -(a*u % P.p)*b=P.p*(b*(a*u / P.p)-a*(b*u / P.p)):=by
   generalize a*u % P.p=r at *
   generalize a*u / P.p=q1 at *
   generalize b*u / P.p=q2 at *
   grind
  rw[h3,Int.mul_emod_right]
theorem KI.col {f:Po P} {n:Nat} {s:List (List Int) × Nat} {j:Nat} (hf:f≠0) (h:KI f n s.1 s.2 j) (hj:j<n):KI f n (kC P.p n j s).1 (kC P.p n j s).2 (j+1):=by
 have htj:=h.kn.tj
 obtain⟨a1,a2,a3,a4⟩:=fkG_ok s.1 j n (n-s.2) s.2 (by omega)
 unfold kC
 split
 ·rename_i hk
  refine⟨h.mi,h.lf,h.kn.skip fun i h1 h2 => ?_⟩
  rw[←h.lf i h2 j hj]
  exact a3 i h1 (by omega)
 ·rename_i hk
  have hk':fkG s.1 j n (n-s.2) s.2<n:=by omega
  generalize fkG s.1 j n (n-s.2) s.2=k at *
  have hs:=h.swap hk' a1
  have hl:=h.mi.len
  have hpv:((swM s.1 k s.2).getD s.2 []).getD j 0=(s.1.getD k []).getD j 0:=by
   rw[swM_getD (by omega) (by omega)]
   by_cases e:s.2=k
   ·rw[if_pos e,e]
   ·rw[if_neg e,if_pos rfl]
  have hne:((swM s.1 k s.2).getD s.2 []).getD j 0≠0:=by rw[hpv];exact a4 hk'
  have hr:=hs.mi.rg s.2 j
  exact hs.el hf (by omega) hj hne (invP_ok P.h.1 (by omega) hr.2).2.2
theorem kS_ki {f:Po P} {n:Nat} (h:dg f=n+1) (h2:1≤n):∀ j,j≤n→KI f n (kS f n j).1 (kS f n j).2 j
 | 0,_=>kM_ki h h2
 | j+1,hj=>(kS_ki h h2 j (by omega)).col (ne_0 (by omega)) (by omega)
noncomputable def kerB (f:Po P):List (Po P):=(List.range (dg f-1-(kS f (dg f-1) (dg f-1)).2)).map fun i=>rR P (kS f (dg f-1) (dg f-1)).1 (dg f-1) ((kS f (dg f-1) (dg f-1)).2+i)
theorem kerB_ok {f:Po P} (h:2≤dg f):KerOk f (kerB f):=by
 obtain⟨n,hn⟩:∃ n,dg f=n+1:=⟨dg f-1,by omega⟩
 have hk:=kS_ki hn (by omega) n (Nat.le_refl _)
 unfold kerB
 rw[hn,Nat.add_sub_cancel]
 exact hk.kn.done hn hk.kn.tj
end Go.Proofs.Ytlnhembcfhfpkaa.M
