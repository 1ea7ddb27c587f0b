/- Plain laws about what the program computes. -/
import Derived.Test.YtpbbmlmilagnkaaGreatPN
set_option linter.unusedVariables false
set_option linter.unusedSimpArgs false
set_option linter.unusedSectionVars false
namespace Lv.P
open Go (IntKind BinOp UnOp)
structure ALX(w:NI):Prop where
 AD3:DU w.CT
 done:w.AJs.length<=1048576
 AMn:w.UK.length<=1048576
 ids:∀r∈w.UK,r.Ids.length<=1048576
end Lv.P
namespace Lv.P
open Lv Go
def cR(a:B2):B2:=if Ix a=true then ⟨a.Data,a.Data.length⟩ else a
theorem ACx(a:B2):y9 a=some (cR a):=by
 grind[y9,XL,cR,JC,AE,GM,AS]
theorem AA5(a:B2):yO a=some (cR a):=by
 unfold yO cR;rw[I6,AE,BB,GM];split<;>rfl
theorem vk(a:B2):(cR a).Data=a.Data:=by unfold cR;split<;>rfl
end Lv.P
