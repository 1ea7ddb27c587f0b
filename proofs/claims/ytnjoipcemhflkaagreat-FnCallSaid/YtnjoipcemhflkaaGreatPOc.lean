/- Plain laws about what the program computes. -/
import Derived.Test.YtnjoipcemhflkaaGreatPNc
set_option linter.unusedVariables false
set_option linter.unusedSimpArgs false
set_option linter.unusedSectionVars false
open Bool renaming not_eq_false->JN
namespace Lv.P
open Go (IntKind BinOp UnOp)
structure ATw(w:Rk):Prop where
 AAz:CR w.Cs
 done:w.ASf.length<=1048576
 AV3:w.Z6.length<=1048576
 ids:∀r∈w.Z6,r.Ids.length<=1048576
end Lv.P
namespace Lv.P
open Lv Go
def XT(a:CH):CH:=if KI a=true then ⟨a.Data,a.Data.length⟩ else a
theorem Yx(a:CH):xc a=some (XT a):=by
 grind[xc,fF,XT,MN,AB,Bb,AT]
theorem mO(a:CH):ve a=some (XT a):=by
 unfold ve XT;rw[MD,AB,BN,Bb];split<;>rfl
noncomputable def IL(e:Ap):Ap×List Ca:=
 if GV e=false then (e,[]) else (⟨(HM e.Laid e.BU).1,⟨XT e.Bi.Log,e.Bi.GG,e.Bi.Odd⟩,e.Seq,[]⟩,(HM e.Laid e.BU).2)
theorem nG{e:Ap}(a:CR e):xd e=some (IL e):=by
 unfold xd IL;rw[LG a,AB,Lf a,AB,BN,Bb];by_cases c:GV e=true
 .rw[if_pos c,if_neg (by simp[c]),jL a.EN a.laid,AB,Yx,AB]
 grind
theorem AHJ{e:Ap}(a:CR e):AFN e=some (IL e):=by
 unfold AFN IL;rw[QV a,AB,Lb a,AB,BN,Bb];by_cases c:GV e=true
 .rw[if_pos c,if_neg (by simp[c]),mO,AB,ACB a.EN a.laid,AB]
 grind
theorem RJ(a:CH):(XT a).Data=a.Data:=by unfold XT;split<;>rfl
theorem nC{e:Ap}(a:CR e):CR (IL e).1/\(IL e).2.length<=1048576/\∀r∈(IL e).2,r.Ids.length<=1048576:=by
 unfold IL;split
 .grind
 .obtain⟨c,j,g⟩:=TV e.Laid a.EN;have q:=a.laid;exact⟨⟨c,by dsimp only;rw[RJ];exact a.log,a.even,a.odd,by simp⟩,by dsimp only;omega,fun r h=>by have:=g r h;omega⟩
theorem mT{e:Ap}{q:B9}(h:(H7 e q).2=0):GV (H7 e q).1=true/\GV e=true/\KC q=true/\(H7 e q).1.BU=e.BU/\(H7 e q).1.Laid=e.Laid++[q]/\(H7 e q).1.Seq=e.Seq+1:=by
 unfold H7 at h ⊢;by_cases a:GV e=false
 .rw[if_pos a]at h;cases h
 rw[if_neg a]at h ⊢;rw[JN]at a;by_cases c:KC q=false
 .rw[if_pos c]at h;cases h
 rw[if_neg c]at h ⊢;rw[JN]at c;by_cases j:e.Seq=1000000
 .rw[if_pos j]at h;cases h
 rw[if_neg j]at h ⊢;by_cases g:e.Laid.length=8\/(GP e.Bi.Log (frB (w64 (e.Seq+1)) (U8 q))).2=false
 .rw[if_pos g]at h;cases h
 rw[if_neg g];have B:=Jp a;have ew:w64 (e.Seq+1)=e.Seq+1:=A4 (by omega) (by omega);rw[ew]at g ⊢;have y:KI (GP e.Bi.Log (frB (e.Seq+1) (U8 q))).1=true:=by
  grind[GP,kU]
 grind[GV,B8,S8]
noncomputable def Lo(e:Ap)(q:B9):Ap×Ca:=
 if (H7 e q).2≠0 then (e,⟨(H7 e q).2,[]⟩) else ((IL (H7 e q).1).1,(IL (H7 e q).1).2.getD (e.Laid.length) ⟨0,[]⟩)
theorem Uw{e:Ap}(a:CR e){q:B9}(h:(H7 e q).2=0):at? (IL (H7 e q).1).2 (w64 (((IL (H7 e q).1).2.length:Int)-1))=some ((IL (H7 e q).1).2.getD (e.Laid.length) ⟨0,[]⟩)/\(IL (H7 e q).1).2.length=e.Laid.length+1:=by
 obtain⟨c,E,G,H,g,I⟩:=mT h;have j:=Pv a q;have y:(IL (H7 e q).1).2.length=e.Laid.length+1:=by
  unfold IL;rw[if_neg (by simp[c])];dsimp only;rw[(TV _ j.EN).2.1,g];simp
 refine⟨?_,y⟩;have B:=a.laid
 grind[A4,A9]
theorem nF{e:Ap}(a:CR e)(q:B9):xw e q=some (Lo e q):=by
 grind[xw,Lo,XL,AB,Bb,H7,Uw,nG,Pv]
theorem AHF{e:Ap}(a:CR e)(q:B9):AFO e q=some (Lo e q):=by
 grind[AFO,Lo,ANg,AB,Bb,Uw,AHJ,Pv,QV]
theorem AGt{e:Ap}(a:CR e)(q:B9):CR (Lo e q).1/\(Lo e q).2.Ids.length<=1048576:=by
 grind[Lo,nC,Pv]
def ARk(a b:Ca):Bool:=a.Code==b.Code&&HQ (·==·) a.Ids b.Ids
theorem S5{a b:Ca}(c:a.Ids.length<=1048576):yG a b=some (ARk a b):=by
 grind[yG,fw,ARk,MO,AB,AT,Cf]
end Lv.P
