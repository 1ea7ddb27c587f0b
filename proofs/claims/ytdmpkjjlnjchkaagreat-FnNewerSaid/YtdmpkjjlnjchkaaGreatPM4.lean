/- Plain laws about what the program computes. -/
import Derived.Test.YtdmpkjjlnjchkaaGreatPK4
import Derived.Test.YtdmpkjjlnjchkaaGreatKG4
set_option linter.unusedVariables false
set_option linter.unusedSimpArgs false
set_option linter.unusedSectionVars false
namespace Lv.P
open Lv Go
theorem Acu{t:List Int}{n:Int}:Jw t n=true↔(∀k∈t,0<=k/\k<=w64 (n-1))/\t.Pairwise fun a b=>a≠b:=by
 grind[WH,Cc,CY,List.mem_iff_getElem,Jw,KD,List.pairwise_iff_getElem]
theorem Acw{t:List Int}{n:Nat}(e:n<=1048576)(h:Jw t n=true){k:Int}(a:0<=k)(c:k<n):Jw (Wo t k) n=true:=by
 grind[Wo,Acu,Ai]
theorem RH.len{h:AD}(hR:RH h):h.AI.length<=4/\h.AI.length=h.AO.AV.length:=by
 have:=CT hR.rules;have:=hR.EG;omega
theorem RH.FJ{h:AD}(hR:RH h){l:List Int}(a:Jw l h.AI.length=true):RH (FJ h l):=⟨hR.rules,hR.now,hR.turn,hR.EG,hR.Ly,hR.cab,a,hR.F4,hR.Wm⟩
theorem RH.put{h:AD}(hR:RH h){k:Int}(a:0<=k)(c:k<h.AI.length):RH (Lv.P.FJ h (Wo h.BC k)):=hR.FJ (Acw (by have:=hR.len;omega) hR.todo a c)
structure Tk(h g:AD):Prop where
 rules:g.AO=h.AO
 now:g.Now=h.Now
 turn:g.Ap=h.Ap
 EG:g.AI.length=h.AI.length
 Ly:g.AG=h.AG
 F4:g.A8=h.A8
end Lv.P
