/- Lemmas. -/
import Derived.Test.YtbnhgnhgbhjkcaaGreatL50
import Derived.Test.YtbnhgnhgbhjkcaaGreatL32
set_option linter.defProp false
set_option linter.unusedSectionVars false
set_option linter.unusedSimpArgs false
set_option linter.unusedVariables false
namespace Go.Proofs.YtbnhgnhgbhjkcaaGreat.M
open Go.RowKit
section
variable (T U V:Nat) (a:List At) (n v ord:Int) (ts:List (List UInt8)) (hA:Ar a) (s t:List UInt8) (xs:List Rat)
abbrev sA0:List (Nat×AV):=[(0,.p (LTa T U a)),(1,.p (J n)),(2,.p (J v)),(3,.p (J ord)),(4,.p (LSt V ts))]
section
variable (c d:List At) (w g:Int×Int) (x:Rat) (k:Bool)
abbrev zgN:List (Nat×AV):=[(0,.p (LTa T U a)),(1,.p (J n)),(2,.p (J v)),(3,.p (J ord)),(4,.p (LSt V ts)),(11,.p (.str s)),(14,.p (TT2 c)),(16,.p (TT2 d)),(18,.ptr 18 0 0),(19,.slice 219 0 xs.length),(23,.p (.bool k)),(24,.ptr 24 0 0),(26,.ptr 26 0 0)]
include hA
end
section
variable (w0:Int×Int) (hT:t.length≤9223372036854775807)
abbrev zgO (c d:List At):List (Nat×AV):=[(0,.p (LTa T U a)),(1,.p (J n)),(2,.p (J v)),(3,.p (J ord)),(4,.p (LSt V ts)),(11,.p (.str s)),(13,.p (.str t)),(14,.p (TT2 c)),(15,.ptr 15 0 0),(16,.p (TT2 d)),(17,.ptr 17 0 0),(18,.ptr 18 0 0),(19,.slice 219 0 xs.length)]
abbrev zgP (f2 f3:Int×Int):List (Nat×AObj):=[(15,fB f2),(17,fB f3),(18,fB w0),(219,xR xs)]
include hA hT
abbrev zgQ (c d:List At):List (Nat×AV):=[(0,.p (LTa T U a)),(1,.p (J n)),(2,.p (J v)),(3,.p (J ord)),(4,.p (LSt V ts)),(11,.p (.str s)),(12,.ptr 12 0 0),(13,.p (.str t)),(14,.p (TT2 c)),(15,.ptr 15 0 0),(16,.p (TT2 d)),(17,.ptr 17 0 0),(18,.ptr 18 0 0),(19,.slice 219 0 xs.length)]
abbrev zgR (f2 f3:Int×Int):List (Nat×AObj):=[(12,fB w0),(15,fB f2),(17,fB f3),(18,fB w0),(219,⟨50,4,.row (xs.map qZ),false⟩)]
end
end
end Go.Proofs.YtbnhgnhgbhjkcaaGreat.M
