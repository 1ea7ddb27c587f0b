/- Plain laws about what the program computes. -/
import Derived.Test.YtdmpkjjlnjchkaaGreatPN3
set_option linter.unusedVariables false
set_option linter.unusedSimpArgs false
set_option linter.unusedSectionVars false
open Bool renaming not_eq_false->KR,not_true->Br
namespace Lv.P
open Go (IntKind BinOp UnOp)
structure dv(w:GK):Prop where
 kg:CW w.Cr
 done:w.AGd.length<=1048576
 AhJ:w.O4.length<=1048576
 ids:∀r∈w.O4,r.Ids.length<=1048576
theorem ACB{r:CE}(a:r.Ids.length<=1048576):AQv r r=some true:=by
 grind[AQv,BN,Xe,AB]
end Lv.P
namespace Lv.P
open Lv Go
def oA(a:Bu):Bu:=if Gn a=true then ⟨a.Data,a.Data.length⟩ else a
theorem aw(a:Bu):tF a=some (oA a):=by
 grind[tF,fv,oA,IT,AB,BZ,AR]
theorem lj(a:Bu):sO a=some (oA a):=by
 unfold sO oA;rw[GY,AB,BI,BZ];split<;>rfl
noncomputable def Mc(e:Ae):Ae×List CE:=
 if Ef e=false then (e,[]) else (⟨(JZ e.Laid e.BD).1,⟨oA e.BO.Log,e.BO.Dl,e.BO.Odd⟩,e.Seq,[]⟩,(JZ e.Laid e.BD).2)
theorem AC7{e:Ae}(a:CW e):Ng e=some (Mc e):=by
 unfold Ng Mc;rw[Mi a,AB,Ga a,AB,BI,BZ];by_cases c:Ef e=true
 .rw[if_pos c,if_neg (by simp[c]),db a.EL a.laid,AB,aw,AB]
 grind
theorem AVF{e:Ae}(a:CW e):ARt e=some (Mc e):=by
 unfold ARt Mc;rw[U1 a,AB,Hb a,AB,BI,BZ];by_cases c:Ef e=true
 .rw[if_pos c,if_neg (by simp[c]),lj,AB,Vh a.EL a.laid,AB]
 grind
theorem Q7(a:Bu):(oA a).Data=a.Data:=by unfold oA;split<;>rfl
theorem AC2{e:Ae}(a:CW e):CW (Mc e).1/\(Mc e).2.length<=1048576/\∀r∈(Mc e).2,r.Ids.length<=1048576:=by
 unfold Mc;split
 .grind
 .obtain⟨c,j,g⟩:=Tz e.Laid a.EL;have q:=a.laid;exact⟨⟨c,by dsimp only;rw[Q7];exact a.log,a.even,a.odd,by simp⟩,by dsimp only;omega,fun r h=>by have:=g r h;omega⟩
theorem mC{e:Ae}{q:BX}(h:(JB e q).2=0):Ef (JB e q).1=true/\Ef e=true/\LR q=true/\(JB e q).1.BD=e.BD/\(JB e q).1.Laid=e.Laid++[q]/\(JB e q).1.Seq=e.Seq+1:=by
 unfold JB at h ⊢;by_cases a:Ef e=false
 .rw[if_pos a]at h;cases h
 rw[if_neg a]at h ⊢;rw[KR]at a;by_cases c:LR q=false
 .rw[if_pos c]at h;cases h
 rw[if_neg c]at h ⊢;rw[KR]at c;by_cases j:e.Seq=1000000
 .rw[if_pos j]at h;cases h
 rw[if_neg j]at h ⊢;by_cases g:e.Laid.length=8\/(G0 e.BO.Log (frB (w64 (e.Seq+1)) (F5 q))).2=false
 .rw[if_pos g]at h;cases h
 rw[if_neg g];have B:=Ks a;have ew:w64 (e.Seq+1)=e.Seq+1:=Ai (by omega) (by omega);rw[ew]at g ⊢;have y:Gn (G0 e.BO.Log (frB (e.Seq+1) (F5 q))).1=true:=by
  grind[G0,LH]
 grind[Ef,CY,KP]
noncomputable def TX(e:Ae)(q:BX):Ae×CE:=
 if (JB e q).2≠0 then (e,⟨(JB e q).2,[]⟩) else ((Mc (JB e q).1).1,(Mc (JB e q).1).2.getD (e.Laid.length) ⟨0,[]⟩)
theorem yH{e:Ae}(a:CW e){q:BX}(h:(JB e q).2=0):at? (Mc (JB e q).1).2 (w64 (((Mc (JB e q).1).2.length:Int)-1))=some ((Mc (JB e q).1).2.getD (e.Laid.length) ⟨0,[]⟩)/\(Mc (JB e q).1).2.length=e.Laid.length+1:=by
 obtain⟨c,E,G,H,g,I⟩:=mC h;have j:=UD a q;have y:(Mc (JB e q).1).2.length=e.Laid.length+1:=by
  unfold Mc;rw[if_neg (by simp[c])];dsimp only;rw[(Tz _ j.EL).2.1,g];simp
 refine⟨?_,y⟩;have B:=a.laid
 grind[Ai,A7]
theorem AC5{e:Ae}(a:CW e)(q:BX):ABo e q=some (TX e q):=by
 grind[ABo,TX,Z6,AB,BZ,JB,yH,AC7,UD]
theorem ACV{e:Ae}(a:CW e)(q:BX):ue e q=some (TX e q):=by
 grind[ue,TX,ALk,AB,BZ,yH,AVF,UD,U1]
theorem AUk{e:Ae}(a:CW e)(q:BX):CW (TX e q).1/\(TX e q).2.Ids.length<=1048576:=by
 grind[TX,AC2,UD]
theorem oF{e:Ae}{q:BX}(I:M9 e)(_:Vx q):Ia e q=some true:=by
 unfold Ia;obtain⟨x,ex,Q⟩:=dm I;rw[ex,AB,BA];split
 .rfl
 have a:=(Q.resolve_left (by omega)).2.2;obtain⟨y,B⟩:=AUk a q;obtain⟨g,s,ps,cs,td,js,ld,em,⟨m1,m2⟩,mh⟩:=Zb y (k:=1) (by omega) (by omega);obtain⟨X,s2,Z,G,td2,S,Y,h,⟨n1,n2⟩,_⟩:=Zb a (k:=1) (by omega) (by omega);obtain⟨b,eb,E,b2,b3,b4⟩:=i6 (l:=(TX e q).2.Ids) B (k:=g) (by omega) (by omega);have J:=ic (by omega) E;have L:decide (g<0)=false:=by rw[decide_eq_false_iff_not];omega
 have j:decide (X<0)=false:=by rw[decide_eq_false_iff_not];omega
 have c:decide (b.1<0)=false:=by rw[decide_eq_false_iff_not];omega
 have hE:=P3 y;have hR:=ACB B;have O:uf (TX e q).2 g=some (b.1,⟨(TX e q).2.Code,b.2⟩):=by unfold uf;rw[eb,AB]
 have H:ARu ⟨(TX e q).2.Code,b.2⟩ g=some b.1:=by unfold ARu;dsimp only;rw[J,AB,c,BN]
 simp only[RA a,AUR,AC5 a,ACV a,AB,I1,WJ,hE,hR,BI,BH,AR,Br];unfold I7;rw[BN,RA a,AB,P3 a,AB,BI,BH,h,AB];dsimp only;rw[j,BN,hE,AB,BI,BH,hR,AB,AR];unfold G1;rw[Br,BN,em,AB];dsimp only;rw[O,AB,mh _ rfl rfl rfl rfl rfl rfl,AB,L,BN,H,AB,c,BN,ne_self,BN];simp only[RA a,AUR,ACV a,AB,I1,WJ,hE,hR,BI,BH,AR,Br]
 grind[I8,BN,AB]
end Lv.P
