/- Plain laws about what the program computes. -/
import Derived.Test.YtdmpkjjlnjchkaaGreatPN
set_option linter.unusedVariables false
set_option linter.unusedSimpArgs false
set_option linter.unusedSectionVars false
namespace Lv.P
open Go (IntKind BinOp UnOp)
structure dv(w:GK):Prop where
 kg:CW w.Cr
 done:w.AGd.length<=1048576
 AhJ:w.O4.length<=1048576
 ids:∀r∈w.O4,r.Ids.length<=1048576
end Lv.P
namespace Lv.P
open Lv Go
def oA(a:Bu):Bu:=if Gn a=true then ⟨a.Data,a.Data.length⟩ else a
theorem aw(a:Bu):ARO a=some (oA a):=by
 grind[ARO,Ata,oA,IT,AB,BZ,AR]
theorem lj(a:Bu):AQf a=some (oA a):=by
 unfold AQf oA;rw[GY,AB,BI,BZ];split<;>rfl
theorem Q7(a:Bu):(oA a).Data=a.Data:=by unfold oA;split<;>rfl
end Lv.P
