/-
  Plain laws: the program's reader of houses reads right houses, and no other; it reads what the reference's reads.
-/
import Derived.Test.YthnbolemafdhfaaGreatPF
set_option linter.unusedVariables false
set_option linter.unusedSimpArgs false
set_option linter.unusedSectionVars false
namespace Lv.P
open Lv Go
section impl
variable{l:List Int}(hl:l.length<=1048576){R:AN×Bool}{now Dt:Int}
include hl
end impl
end Lv.P
namespace Lv.P
open Lv Go
theorem VW:Ar VV:=by constructor <;> simp [VV,vS]
theorem Red.fit{l:List Int}{r:AA×Bool}(h:Red l r):Ar r.1:=by
 cases e:r.2 with
 |true=>exact(h.1 e).1.2.1
 |false=>rw [(h.2 e).1];exact VW
structure zo(s:List UInt8)(r:AA×Int×Bool):Prop where
 yes:r.2.2=true->C7 r.1=true/\Ar r.1/\yX r.1 r.2.1=s
 no:r.2.2=false->r=(VV,0,false)
 all:∀h q,C7 h=true->Ar h->rdL (s.length+1) (s.drop 4)=some (q::lk h)->yX h q=s->5<=s.length->r=(h,q,true)
theorem zo.fit{s:List UInt8}{r:AA×Int×Bool}(h:zo s r):Ar r.1:=by
 cases e:r.2.2 with
 |true=>exact(h.yes e).2.1
 |false=>rw [h.no e];exact VW
end Lv.P
