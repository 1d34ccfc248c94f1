/- Polynomials modulo a prime: the order of two polynomials walked with the model's own tools: the world is turned by draws and new blocks alone. -/
import Derived.Test.YtlnhembcfhfpkaaFyBx
import Derived.WalkLawsBesides
import Derived.BigQuiet
import Derived.Deep.QuietTactic
import Derived.Deep.Draws
namespace Go.Proofs.Ytlnhembcfhfpkaa.M
open Go.RowKit
set_option linter.unusedSimpArgs false
set_option linter.unusedVariables false
def Hx (p:Prop):Prop:=Unit→p
theorem hx_ {p:Prop} (h:p):Hx p:=fun _=>h
theorem Hx.out {p:Prop} (h:Hx p):p:=h ()
def intO:Value→Int
 | .int _ n=>n
 | _=>0
theorem cmpI_lt {a b:Int} (h:a<b):cmpI a b = -1:=by unfold cmpI;rw[if_pos h]
theorem cmpI_gt {a b:Int} (h:b<a):cmpI a b=1:=by unfold cmpI;rw[if_neg (by omega),if_pos h]
theorem cmpI_eq (a:Int):cmpI a a=0:=by unfold cmpI;rw[if_neg (by omega),if_neg (by omega)]
set_option maxHeartbeats 400000 in
theorem cmp_same (x y:Int) (w:World):Calls Try.prog 60 #[.int .i64 x,.int .i64 y] w (fun e w'=>e = .returned (.int .i64 (cmpI x y))∧w=w'):=by
 rcases Int.lt_trichotomy x y with h | h | h
 ·have H:=hx_ (cmpI_lt h)
  go_enter Try.func60,Try.ntmps60
  go_wp2
  go_ret
  exact⟨by rw[H.out];rfl,rfl⟩
 ·subst h
  have H:=hx_ (cmpI_eq x)
  go_enter Try.func60,Try.ntmps60
  go_wp2
  go_ret
  exact⟨by rw[H.out];rfl,rfl⟩
 ·have H:=hx_ (cmpI_gt h)
  go_enter Try.func60,Try.ntmps60
  go_wp2
  go_ret
  exact⟨by rw[H.out];rfl,rfl⟩
def IsI (w:World) (v:Value) (l:List Int):Prop:=∃ a cap,v = .slice a l.length cap∧l.length≤1000000∧(0<l.length→∃ b o,a=some ⟨b,o,none⟩∧∀ k,k<l.length→w.cell? ⟨b,o+k,none⟩=some (.int .i64 (l.getD k 0)))
set_option maxHeartbeats 400000 in
theorem order_drew (f g:List Int) (u v:Value) (w:World) (hf:IsI w u f) (hg:IsI w v g):Calls Try.prog 41 #[u,v] w (fun e w'=>e = .returned (.int .i64 (ordL f g))∧∃ n,w'=w.drewN n):=by
 obtain⟨ao,ca,rfl,hfl,hopa⟩:=hf
 obtain⟨bo,cb,rfl,hgl,hopb⟩:=hg
 rcases Nat.lt_trichotomy f.length g.length with hl | hl | hl
 ·have H2:cmpI (f.length:Int) g.length = -1:=cmpI_lt (by omega)
  have H:Hx (ordL f g = -1):=hx_ (by unfold ordL;rw[if_neg (by omega),H2])
  go_enter Try.func41,Try.ntmps41
  go_wp2_with (go_at_call 60;refine (cmp_same _ _ _).mono ?_;rintro e w' ⟨rfl,rfl⟩)
  go_ret
  exact⟨by rw[H.out];rfl,0,rfl⟩
 ·have H2:cmpI (f.length:Int) g.length=0:=by rw[hl];exact cmpI_eq _
  have HO:Hx (ordL f g=ordA f g f.length):=hx_ (by unfold ordL;rw[if_pos H2])
  go_enter Try.func41,Try.ntmps41
  have Hl:=hx_ hl
  clear hl
  go_wp2_with (go_at_call 60;refine (cmp_same _ _ _).mono ?_;rintro e w' ⟨rfl,rfl⟩)
  go_loopw [6] (fun i wr=>((i = .int .i64 (-1)∧ordL f g=0)∨∃ k:Nat,i = .int .i64 k∧k<f.length∧ordL f g=ordA f g (k+1))∧∃ n,wr=w.drewN n) (fun i _=>(intO i+1).toNat)
  case atStart =>
   refine⟨?_,0,rfl⟩
   rcases Nat.eq_zero_or_pos f.length with h0 | h0
   ·exact .inl ⟨by rw[h0];rfl,by rw[HO.out,h0];rfl⟩
   ·refine .inr ⟨f.length-1,?_,by omega,by rw[HO.out];congr 1;omega⟩
    congr 1;omega
  case round =>
   obtain⟨hrel,hwr⟩:=hrel
   have hdr:∀ q,∃ m,wr.drewN q=w.drewN m:=fun q=>by obtain⟨n,rfl⟩:=hwr;exact⟨n+q,by simp[World.drewN,Nat.add_assoc]⟩
   rcases hrel with⟨rfl,heq⟩ | ⟨k,rfl,hk,heq⟩
   ·replace heq:=hx_ heq
    go_wp2
    go_ret
    exact⟨by rw[heq.out];rfl,hwr⟩
   ·replace heq:=hx_ heq
    have hkb:k<g.length:=by have:=Hl.out;omega
    obtain⟨ba,oa,rfl,ga⟩:=hopa (by omega)
    obtain⟨bb,ob,rfl,gb⟩:=hopb (by omega)
    replace ga:wr.cell? ⟨ba,oa+k,none⟩=some (.int .i64 (f.getD k 0)):=by obtain⟨n,rfl⟩:=hwr;exact ga k hk
    replace gb:wr.cell? ⟨bb,ob+k,none⟩=some (.int .i64 (g.getD k 0)):=by obtain⟨n,rfl⟩:=hwr;exact gb k hkb
    clear hopa hopb
    generalize hx:f.getD k 0=x at ga
    generalize hy:g.getD k 0=y at gb
    have Hx1:=hx_ hx
    have Hy1:=hx_ hy
    clear hx hy
    rcases Int.lt_trichotomy x y with h | h | h
    ·have H:Hx (ordL f g = -1):=hx_ (by rw[heq.out,ordA,Hx1.out,Hy1.out,if_neg (by rw[cmpI_lt h];decide),cmpI_lt h])
     have H2:=cmpI_lt h
     clear h
     go_wp2
     go_quiet ((go_at_call 60;exact Calls.quiet_of_same ((cmp_same _ _ _).mono fun _ _ h=>⟨h.1,h.2.symm⟩)))
     go_wp2
     go_ret
     exact⟨by rw[H.out,←H2];rfl,hdr _⟩
    ·have H:Hx (ordL f g=ordA f g k):=hx_ (by rw[heq.out,ordA,Hx1.out,Hy1.out,h,if_pos (cmpI_eq y)])
     subst h
     have H2:=cmpI_eq x
     go_wp2
     go_quiet ((go_at_call 60;exact Calls.quiet_of_same ((cmp_same _ _ _).mono fun _ _ h=>⟨h.1,h.2.symm⟩)))
     go_wp2
     go_roundw
     case rel =>
      refine⟨?_,hdr _⟩
      rcases Nat.eq_zero_or_pos k with h0 | h0
      ·exact .inl ⟨by rw[h0];rfl,by rw[H.out,h0];rfl⟩
      ·exact .inr ⟨k-1,by congr 1;omega,by omega,by rw[H.out,show k-1+1=k by omega]⟩
     case measure=>first | (simp[intO];done) | (simp[intO];omega)
    ·have H:Hx (ordL f g=1):=hx_ (by rw[heq.out,ordA,Hx1.out,Hy1.out,if_neg (by rw[cmpI_gt h];decide),cmpI_gt h])
     have H2:=cmpI_gt h
     clear h
     go_wp2
     go_quiet ((go_at_call 60;exact Calls.quiet_of_same ((cmp_same _ _ _).mono fun _ _ h=>⟨h.1,h.2.symm⟩)))
     go_wp2
     go_ret
     exact⟨by rw[H.out,←H2];rfl,hdr _⟩
 ·have H2:cmpI (f.length:Int) g.length=1:=cmpI_gt (by omega)
  have H:Hx (ordL f g=1):=hx_ (by unfold ordL;rw[if_neg (by omega),H2])
  go_enter Try.func41,Try.ntmps41
  go_wp2_with (go_at_call 60;refine (cmp_same _ _ _).mono ?_;rintro e w' ⟨rfl,rfl⟩)
  go_ret
  exact⟨by rw[H.out];rfl,0,rfl⟩
end Go.Proofs.Ytlnhembcfhfpkaa.M
