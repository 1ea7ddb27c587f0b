/- Plain laws about what the program computes. -/
import Derived.Test.YtcmjfplpdjflnaaGreatPG
import Derived.Test.YtcmjfplpdjflnaaGreatPK
set_option linter.unusedVariables false
set_option linter.unusedSimpArgs false
set_option linter.unusedSectionVars false
namespace Lv.P
open Lv Go
def Nk(h:AF):Prop:=-9223372036854775808<=h.Now/\h.Now<9223372036854775808
def AaC(r:Ae)(n:Nat)(h:AF):Prop:=h.AH.length<=h.AQ.AZ.length/\h.AH.length<=r.AZ.length/\h.AQ.AZ.length<=1048576/\h.AG.length<=n/\h.BE.length<=n/\h.BC.length<=3/\(∀c∈h.AH,EC c)/\1<=h.AH.length/\Nk h
theorem AaC.fit{r:Ae}(c:EO r=true){h:AF}(e:AaC r 0 h):By h:=by
 obtain⟨g,j,a3,a4,q,y,a,B,E⟩:=e;have G:=CR c;exact⟨a3,by omega,by omega,a,by omega,by omega⟩
end Lv.P
