/- Plain laws about what the program computes. -/
import Derived.Test.YtdmpkjjlnjchkaaGreatPN4
set_option linter.unusedVariables false
set_option linter.unusedSimpArgs false
set_option linter.unusedSectionVars false
open Bool renaming not_eq_false->KR
namespace Lv.P
open Go (IntKind BinOp UnOp)
structure dv(w:GK):Prop where
 kg:CW w.Cr
 done:w.AGd.length<=1048576
 AhJ:w.O4.length<=1048576
 ids:∀r∈w.O4,r.Ids.length<=1048576
end Lv.P
namespace Lv.P
open Lv Go
def oA(a:Bu):Bu:=if Gn a=true then ⟨a.Data,a.Data.length⟩ else a
theorem aw(a:Bu):AJX a=some (oA a):=by
 grind[AJX,Nh,oA,IT,AB,BZ,AR]
theorem lj(a:Bu):A8u a=some (oA a):=by
 unfold A8u oA;rw[GY,AB,BI,BZ];split<;>rfl
noncomputable def Mc(e:Ae):Ae×List CE:=
 if Ef e=false then (e,[]) else (⟨(JZ e.Laid e.BD).1,⟨oA e.BO.Log,e.BO.Dl,e.BO.Odd⟩,e.Seq,[]⟩,(JZ e.Laid e.BD).2)
theorem AC7{e:Ae}(a:CW e):AJY e=some (Mc e):=by
 unfold AJY Mc;rw[Mi a,AB,Ga a,AB,BI,BZ];by_cases c:Ef e=true
 .rw[if_pos c,if_neg (by simp[c]),db a.EL a.laid,AB,aw,AB]
 grind
theorem Q7(a:Bu):(oA a).Data=a.Data:=by unfold oA;split<;>rfl
theorem AC2{e:Ae}(a:CW e):CW (Mc e).1/\(Mc e).2.length<=1048576/\∀r∈(Mc e).2,r.Ids.length<=1048576:=by
 unfold Mc;split
 .grind
 .obtain⟨c,j,g⟩:=Tz e.Laid a.EL;have q:=a.laid;exact⟨⟨c,by dsimp only;rw[Q7];exact a.log,a.even,a.odd,by simp⟩,by dsimp only;omega,fun r h=>by have:=g r h;omega⟩
theorem AaE{e:Ae}{q:BX}(h:(JB e q).2≠0):(JB e q).1=e:=by
 unfold JB at h ⊢
 grind
theorem mC{e:Ae}{q:BX}(h:(JB e q).2=0):Ef (JB e q).1=true/\Ef e=true/\LR q=true/\(JB e q).1.BD=e.BD/\(JB e q).1.Laid=e.Laid++[q]/\(JB e q).1.Seq=e.Seq+1:=by
 unfold JB at h ⊢;by_cases a:Ef e=false
 .rw[if_pos a]at h;cases h
 rw[if_neg a]at h ⊢;rw[KR]at a;by_cases c:LR q=false
 .rw[if_pos c]at h;cases h
 rw[if_neg c]at h ⊢;rw[KR]at c;by_cases j:e.Seq=1000000
 .rw[if_pos j]at h;cases h
 rw[if_neg j]at h ⊢;by_cases g:e.Laid.length=8\/(G0 e.BO.Log (frB (w64 (e.Seq+1)) (F5 q))).2=false
 .rw[if_pos g]at h;cases h
 rw[if_neg g];have B:=Ks a;have ew:w64 (e.Seq+1)=e.Seq+1:=Ai (by omega) (by omega);rw[ew]at g ⊢;have y:Gn (G0 e.BO.Log (frB (e.Seq+1) (F5 q))).1=true:=by
  grind[G0,LH]
 grind[Ef,CY,KP]
noncomputable def TX(e:Ae)(q:BX):Ae×CE:=
 if (JB e q).2≠0 then (e,⟨(JB e q).2,[]⟩) else ((Mc (JB e q).1).1,(Mc (JB e q).1).2.getD (e.Laid.length) ⟨0,[]⟩)
theorem yH{e:Ae}(a:CW e){q:BX}(h:(JB e q).2=0):at? (Mc (JB e q).1).2 (w64 (((Mc (JB e q).1).2.length:Int)-1))=some ((Mc (JB e q).1).2.getD (e.Laid.length) ⟨0,[]⟩)/\(Mc (JB e q).1).2.length=e.Laid.length+1:=by
 obtain⟨c,E,G,H,g,I⟩:=mC h;have j:=UD a q;have y:(Mc (JB e q).1).2.length=e.Laid.length+1:=by
  unfold Mc;rw[if_neg (by simp[c])];dsimp only;rw[(Tz _ j.EL).2.1,g];simp
 refine⟨?_,y⟩;have B:=a.laid
 grind[Ai,A7]
theorem AC5{e:Ae}(a:CW e)(q:BX):AJb e q=some (TX e q):=by
 grind[AJb,TX,Z6,AB,BZ,JB,yH,AC7,UD]
end Lv.P
