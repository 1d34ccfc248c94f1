/- Polynomials modulo a prime: the closed call that each law begins with. -/
import Derived.Test.YtlnhembcfhfpkaaFqCCx
namespace Go.Proofs.Ytlnhembcfhfpkaa.M
open Go.RowKit
set_option maxRecDepth 100000
def fi10:FnI:=⟨10,[3,24,2000005,2000034],c10,[(0,none)],37,[]⟩
theorem fi10_ok:fi10.Ok Try.prog:=⟨by decide,fn10⟩
def fi11:FnI:=⟨11,[],c11,[(4,none)],26,[(11,[(.keep [0,1,5]),.gc,.ren])]⟩
theorem fi11_ok:fi11.Ok Try.prog:=⟨by decide,fn11⟩
def fi13:FnI:=⟨13,[4000312,24,56,36],c13,[(4,none),(5,none),(6,some (true,2))],63,[(13,[(.frzv [0,1])]),(24,[(.frzv [0,1])]),(34,[(.frzv [1])]),(43,[(.frzv [12])]),(31,[(.keep [0,1,6,8,28,29,30]),.gc,.ren]),(40,[(.keep [0,1,6,8,10,28,29,30,37,38,39]),.gc,.ren])]⟩
theorem fi13_ok:fi13.Ok Try.prog:=⟨by decide,fn13⟩
def fi18:FnI:=⟨18,[24],c18,[(4,some (true,2))],49,[(8,[(.frzv [1])]),(30,[(.frzv [5])]),(19,[(.keep [0,1,4,16,17,18]),.gc,.ren])]⟩
theorem fi18_ok:fi18.Ok Try.prog:=⟨by decide,fn18⟩
def fi34:FnI:=⟨34,[24],c34,[(4,some (true,2))],8,[]⟩
theorem fi34_ok:fi34.Ok Try.prog:=⟨by decide,fn34⟩
def fi35:FnI:=⟨35,[56],c35,[(6,none)],93,[(19,[(.frzv [0,1])]),(25,[(.frzv [0,1])]),(33,[(.frzv [0,1,8])]),(38,[(.frzv [0,1,9])]),(49,[(.frzv [1,9,10])]),(54,[(.frzv [1,10,13])]),(73,[(.frzv [1,9,13])]),(82,[(.frzv [1,9])]),(44,[(.keep [1,2,7,9,10,12]),.gc,.ren])]⟩
theorem fi35_ok:fi35.Ok Try.prog:=⟨by decide,fn35⟩
def fi36:FnI:=⟨36,[3],c36,[(4,none)],40,[(12,[(.frzv [1])]),(26,[(.keep [1,5,6,23,24,25]),.gc,.ren])]⟩
theorem fi36_ok:fi36.Ok Try.prog:=⟨by decide,fn36⟩
def fi37:FnI:=⟨37,[22,3,2000064],c37,[(4,none)],105,[(14,[(.frzv [0,1])]),(17,[(.frzv [0])]),(58,[(.frzv [1,8,10])]),(86,[(.frzv [1,11])]),(99,[(.frzv [11])]),(22,[(.keep [1,5,6,19,20,21]),.gc,.ren]),(25,[(.keep [1,5,6,8,9,19,20,21]),.gc,.ren]),(38,[(.keep [1,5,6,8,9,10,19,20,21]),.gc,.ren])]⟩
theorem fi37_ok:fi37.Ok Try.prog:=⟨by decide,fn37⟩
def fi38:FnI:=⟨38,[3],c38,[(2,none)],8,[]⟩
theorem fi38_ok:fi38.Ok Try.prog:=⟨by decide,fn38⟩
def fi39:FnI:=⟨39,[4000464,36],c39,[],14,[(7,[(.frzv [1,4])])]⟩
theorem fi39_ok:fi39.Ok Try.prog:=⟨by decide,fn39⟩
def fi42:FnI:=⟨42,[3],c42,[(6,none)],62,[(60,[(.frzv [7])]),(30,[(.keep [1,2,7,27,28,29]),.gc,.ren]),(37,[(.keep [1,2,7,8,9,27,28,29,34,35,36]),.gc,.ren])]⟩
theorem fi42_ok:fi42.Ok Try.prog:=⟨by decide,fn42⟩
def fi29:FnI:=⟨29,[],c29,[(6,none)],24,[(13,[(.frzv [0,1,2])]),(21,[(.frzv [0,2])]),(9,[(.keep [0,1,2]),.gc,.ren])]⟩
theorem fi29_ok:fi29.Ok Try.prog:=⟨by decide,fn29⟩
def fi44:FnI:=⟨44,[3,2000012],c44,[(8,none)],53,[(12,[(.frzv [2,3])]),(19,[(.frzv [0,2,3])]),(33,[(.frzv [0,2,3,10])]),(43,[(.frzv [0,2,3])]),(25,[(.keep [0,1,2,3,10]),.gc,.ren])]⟩
theorem fi44_ok:fi44.Ok Try.prog:=⟨by decide,fn44⟩
def fi45:FnI:=⟨45,[6155651,3],c45,[(6,none),(7,none)],92,[(15,[(.frzv [0])]),(30,[(.frzv [2])]),(88,[(.frzv [8,9])]),(41,[(.keep [1,2,8,9,10,11]),.gc,.ren]),(64,[(.keep [1,2,8,9,10,11,12,61,62,63]),.gc,.ren])]⟩
theorem fi45_ok:fi45.Ok Try.prog:=⟨by decide,fn45⟩
def fi46:FnI:=⟨46,[],c46,[(2,none)],21,[(10,[(.keep [0,3]),.gc,.ren])]⟩
theorem fi46_ok:fi46.Ok Try.prog:=⟨by decide,fn46⟩
def fi53:FnI:=⟨53,[3],c53,[(4,none)],26,[(24,[(.frzv [5])]),(7,[(.keep [0,1,5,6]),.gc,.ren])]⟩
theorem fi53_ok:fi53.Ok Try.prog:=⟨by decide,fn53⟩
def fi54:FnI:=⟨54,[3],c54,[(4,none)],22,[(7,[(.keep [0,1,5,6]),.gc,.ren])]⟩
theorem fi54_ok:fi54.Ok Try.prog:=⟨by decide,fn54⟩
def fi55:FnI:=⟨55,[],c55,[(4,none)],36,[(12,[(.keep [1,5,6,7,8]),.gc,.ren])]⟩
theorem fi55_ok:fi55.Ok Try.prog:=⟨by decide,fn55⟩
def fi56:FnI:=⟨56,[22,3,2000026],c56,[(4,none)],221,[(26,[(.box 25),(.frzv [0,1])]),(47,[(.frzv [8,10])]),(84,[(.frzv [0,1,7,8])]),(131,[(.frzv [1])]),(35,[(.keep [0,1,5,6,7,8,33,34]),.gc,.ren]),(45,[(.keep [0,1,5,6,7,8,9,33,34,43,44]),.gc,.ren]),(96,[(.keep [1,5,6,11,94,95]),.gc,.ren]),(99,[(.keep [1,5,6,11,12,13,94,95]),.gc,.ren]),(143,[(.keep [1,5,6,11,12,14,94,95,141,142]),.gc,.ren]),(169,[(.keep [1,5,6,11,12,14,15,16,94,95,141,142,167,168]),.gc,.ren]),(208,[(.keep [5,18,205,206,207]),.gc,.ren]),(203,[(.frz 3)])]⟩
theorem fi56_ok:fi56.Ok Try.prog:=⟨by decide,fn56⟩
def fi57:FnI:=⟨57,[3],c57,[(6,none)],37,[(20,[(.frzv [0,1,8])]),(35,[(.frzv [7])]),(18,[(.keep [0,1,2,7,16,17]),.gc,.ren])]⟩
theorem fi57_ok:fi57.Ok Try.prog:=⟨by decide,fn57⟩
def fi58:FnI:=⟨58,[4000512,4000464,36],c58,[],148,[(26,[(.frzv [1,2,4])]),(33,[(.frzv [0,1,2,4])]),(40,[(.frzv [0,1,2,4])]),(48,[(.frzv [0,1,2,4])]),(57,[(.frzv [0,1,2,4])]),(76,[(.frzv [0,1,2,4])]),(98,[(.frzv [0,1,2,4,13])]),(106,[(.frzv [0,1,2,4,13])]),(129,[(.frzv [1,3,4,16])]),(140,[(.frzv [2,3,4])]),(21,[(.keep [0,1,2,3,4,10,11]),.gc,.ren])]⟩
theorem fi58_ok:fi58.Ok Try.prog:=⟨by decide,fn58⟩
def fi59:FnI:=⟨59,[],c59,[(2,none)],8,[(6,[(.frzv [0])])]⟩
theorem fi59_ok:fi59.Ok Try.prog:=⟨by decide,fn59⟩
def fi73:FnI:=⟨73,[],c73,[(2,none)],25,[]⟩
theorem fi73_ok:fi73.Ok Try.prog:=⟨by decide,fn73⟩
def fi61:FnI:=⟨61,[],c61,[(2,none)],22,[(6,[(.keep [0,3]),.gc,.ren])]⟩
theorem fi61_ok:fi61.Ok Try.prog:=⟨by decide,fn61⟩
def fi63:FnI:=⟨63,[],c63,[(4,none)],13,[]⟩
theorem fi63_ok:fi63.Ok Try.prog:=⟨by decide,fn63⟩
def fi64:FnI:=⟨64,[36],c64,[],53,[(12,[(.keep [0,1,2,3,8]),.gc,.ren]),(18,[(.keep [0,1,2,3,8,9]),.gc,.ren])]⟩
theorem fi64_ok:fi64.Ok Try.prog:=⟨by decide,fn64⟩
def fis:List FnI:=[fi10,fi11,fi13,fi18,fi34,fi35,fi36,fi37,fi38,fi39,fi42,fi29,fi44,fi45,fi46,fi53,fi54,fi55,fi56,fi57,fi58,fi59,fi73,fi61,fi63,fi64]
theorem fis_ok:∀ F∈fis,F.Ok Try.prog:=by
 intro F hF
 simp only[fis,List.mem_cons,List.not_mem_nil,or_false] at hF
 rcases hF with rfl | rfl | rfl | rfl | rfl | rfl | rfl | rfl | rfl | rfl | rfl | rfl | rfl | rfl | rfl | rfl | rfl | rfl | rfl | rfl | rfl | rfl | rfl | rfl | rfl | rfl
 ·exact fi10_ok
 ·exact fi11_ok
 ·exact fi13_ok
 ·exact fi18_ok
 ·exact fi34_ok
 ·exact fi35_ok
 ·exact fi36_ok
 ·exact fi37_ok
 ·exact fi38_ok
 ·exact fi39_ok
 ·exact fi42_ok
 ·exact fi29_ok
 ·exact fi44_ok
 ·exact fi45_ok
 ·exact fi46_ok
 ·exact fi53_ok
 ·exact fi54_ok
 ·exact fi55_ok
 ·exact fi56_ok
 ·exact fi57_ok
 ·exact fi58_ok
 ·exact fi59_ok
 ·exact fi73_ok
 ·exact fi61_ok
 ·exact fi63_ok
 ·exact fi64_ok
def noOrc:FuncId→List D→Option D:=fun _ _=>none
set_option maxHeartbeats 0 in
theorem fpBegun_con:Con Try.prog [] 10 [] (.bool true):=
 callF_con (Fs:=fis) (orc:=noOrc) fis_ok (fun c ds d h=>by cases h) (n:=60) (by kernel_rfl)
end Go.Proofs.Ytlnhembcfhfpkaa.M
