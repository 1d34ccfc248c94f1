/- Polynomials: how large things get. Polynomials: division of what is handed in; the law's last part. -/
import Derived.Test.YtdjbfgfbpimakaaPoJx
section
namespace Go.Proofs.Ytdjbfgfbpimakaa.M
open Go.RowKit
set_option linter.unusedSimpArgs false
set_option linter.unusedVariables false
theorem p2 {a s n:Nat} (h:a≤2^s) (hs:s<n):a<2^n:=Nat.lt_of_le_of_lt h (Nat.pow_lt_pow_right (by omega) hs)
theorem pm {a b s t:Nat} (h:a≤2^s) (k:b≤2^t):a*b≤2^(s+t):=by rw[Nat.pow_add];exact Nat.mul_le_mul h k
theorem pa {a b s:Nat} (h:a≤2^s) (k:b≤2^s):a+b≤2^(s+1):=by rw[Nat.pow_succ];omega
theorem pp {a s:Nat} (h:a≤2^s) (k:Nat):a^k≤2^(s*k):=by rw[Nat.pow_mul];exact Nat.pow_le_pow_left h k
theorem pu {a s t:Nat} (h:a≤2^s) (hs:s≤t):a≤2^t:=Nat.le_trans h (Nat.pow_le_pow_right (by omega) hs)
structure In (e:Nat) (l:List Rat) (K:Nat):Prop where
 lb:Lb K (2^e) l
 k:K≤2^e
 nf:Nf l
 bl:Bl 4000 l
 len:l.length≤201
theorem newQ_in (cs:List (List UInt8)) {e:Nat} (he:808000≤e):∃ K,In e (newQ cs).1 K:=by
 have hb:=newQ_bl cs
 have hl:=newQ_len cs
 have hm:∀ x∈(newQ cs).1,Bq 4000 x:=fun x hx=>by
  obtain⟨i,hi,rfl⟩:=List.mem_iff_getElem.1 hx
  have:=hb i
  simpa[cf,hi] using this
 refine⟨dens (newQ cs).1,(Lb.of_bq hm).mono (Nat.pow_le_pow_right (by omega) (by omega)),?_,newQ_nf cs,hb,hl⟩
 exact pu (dens_le fun x hx=>Nat.le_of_lt (hm x hx).2) (by omega)
section
variable {l m:List Rat} {K K' e n:Nat} (hl:In e l K) (hm:In e m K')
include hl
include hm
end
end Go.Proofs.Ytdjbfgfbpimakaa.M
end

section
namespace Go.Proofs.Ytdjbfgfbpimakaa.M
open Go.RowKit
set_option linter.unusedSimpArgs false
set_option linter.unusedVariables false
set_option linter.defProp false
end Go.Proofs.Ytdjbfgfbpimakaa.M
end
