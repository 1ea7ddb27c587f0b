/- Plain laws about what the program computes. -/
import Derived.Test.YtpbbmlmilagnkaaGreatPK
import Derived.Test.YtpbbmlmilagnkaaGreatKG
set_option linter.unusedVariables false
set_option linter.unusedSimpArgs false
set_option linter.unusedSectionVars false
namespace Lv.P
open Lv Go
theorem AHa{t:List Int}{n:Int}:IQ t n=true↔(∀k∈t,0<=k/\k<=w64 (n-1))/\t.Pairwise fun a b=>a≠b:=by
 grind[OK,B3,Du,List.mem_iff_getElem,IQ,KL,List.pairwise_iff_getElem]
theorem AHc{t:List Int}{n:Nat}(hn:n<=1048576)(h:IQ t n=true){k:Int}(h0:0<=k)(h1:k<n):IQ (ADC t k) n=true:=by
 grind[ADC,AHa,Ao]
theorem RH.len{h:AH}(hR:RH h):h.Ap.length<=4/\h.Ap.length=h.AR.Ae.length:=by
 have:=Ce hR.rules;have:=hR.H3;omega
theorem RH.MF{h:AH}(hR:RH h){l:List Int}(hl:IQ l h.Ap.length=true):RH (MF h l):=⟨hR.rules,hR.now,hR.turn,hR.H3,hR.Zi,hR.cab,hl,hR.K5,hR.AFO⟩
theorem RH.put{h:AH}(hR:RH h){k:Int}(h0:0<=k)(h1:k<h.Ap.length):RH (Lv.P.MF h (ADC h.BO k)):=hR.MF (AHc (by have:=hR.len;omega) hR.todo h0 h1)
structure Tk(h g:AH):Prop where
 rules:g.AR=h.AR
 now:g.Now=h.Now
 turn:g.A4=h.A4
 H3:g.Ap.length=h.Ap.length
 Zi:g.AK=h.AK
 K5:g.BP=h.BP
end Lv.P
