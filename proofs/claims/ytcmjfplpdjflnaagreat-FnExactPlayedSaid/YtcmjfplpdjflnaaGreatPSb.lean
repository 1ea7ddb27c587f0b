/- Plain laws about what the program computes. -/
import Derived.Test.YtcmjfplpdjflnaaGreatPGb
import Derived.Test.YtcmjfplpdjflnaaGreatPKb
set_option linter.unusedVariables false
set_option linter.unusedSimpArgs false
set_option linter.unusedSectionVars false
namespace Lv.P
open Lv Go
def Nk(h:AE):Prop:=-9223372036854775808<=h.Now/\h.Now<9223372036854775808
def AZC(r:Aa)(n:Nat)(h:AE):Prop:=h.AH.length<=h.AQ.AW.length/\h.AH.length<=r.AW.length/\h.AQ.AW.length<=1048576/\h.AG.length<=n/\h.BF.length<=n/\h.BC.length<=3/\(∀c∈h.AH,FJ c)/\1<=h.AH.length/\Nk h
theorem AZC.fit{r:Aa}(c:D4 r=true){h:AE}(e:AZC r 0 h):B0 h:=by
 obtain⟨g,j,a3,a4,q,y,a,B,E⟩:=e;have G:=CM c;exact⟨a3,by omega,by omega,a,by omega,by omega⟩
end Lv.P
