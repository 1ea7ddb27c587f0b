/- Plain laws about what the program computes. -/
import Derived.Test.YtcmjfplpdjflnaaGreatPNb
set_option linter.unusedVariables false
set_option linter.unusedSimpArgs false
set_option linter.unusedSectionVars false
namespace Lv.P
open Go (IntKind BinOp UnOp)
structure HJ(w:Bu):Prop where
 Nz:Cf w.Ac
 done:w.GL.length<=1048576
 AFb:w.Cy.length<=1048576
 ids:∀r∈w.Cy,r.Ids.length<=1048576
theorem AKg{r:Bz}(a:r.Ids.length<=1048576):AHL r r=some true:=by
 grind[AHL,BL,Ok,AB]
theorem ADD{l:List Bz}(a:l.length<=1048576)(c:∀x∈l,x.Ids.length<=1048576):AHM l l=some true:=by
 unfold AHM;refine Vv (by omega) ?_ ?_
 .grind[cw,BK,BJ,AB,AKg,BB]
 grind[cw,yt,BL,AV]
theorem AKi{w:Bu}(a:HJ w):mZ w w=some true:=by
 have c:=a.done;unfold mZ;rw[ADC a.Nz,AB,BB,BK,AA0 (by omega),AB,BB,BK,ADD a.AFb a.ids,AB,BB,BK,ne_self,BL]
def AFW(k:Int)(r:Bz)(k1:Int):Prop:=r.Code=k/\(0<=k/\k<=2 ^ 60)/\r.Ids.length<=1048576/\0<=k1/\F5 AWk (k+1) r.Ids k1
theorem ABY{l:List Bz}(q:l.length<=1048576)(e:∀r∈l,r.Ids.length<=1048576){k:Int}(j:0<=k)(I:k<=2 ^ 58) :
 ∃r,AHN l k=some r/\(F5 AFW k r.2 r.1/\r.2.length=l.length/\k<=r.1/\r.1<=k+2 ^ 50):=by
 have J:=Yn (l:=l) (cst:=fun r=>1+r.Ids.length) (m:=1048577) fun r c=>by have:=e r c;omega
 unfold AHN;have key:=KB (l:=l) (Q:=AFW) (F:=VD) (fun r=>1+r.Ids.length) (2 ^ 59) q j (by omega) ?_ ?_
 .grind
 .intro L v k i h O y B kb;have hi:i<v.length:=by omega
  have H:at? v (i:Int)=some l[i]:=by rw[Es];exact y
  have c:=e _ (List.getElem_mem h);have G:w64 (k+1)=k+1:=Ah (by omega) (by omega);obtain⟨a,ea,g,E,a3,a4⟩:=NC (l:=l[i].Ids) c (k:=k+1) (by omega) (by omega);refine⟨a.1,⟨k,a.2⟩,?_,⟨rfl,⟨B,by omega⟩,by dsimp only;omega,by omega,g⟩,by omega,by push_cast;omega⟩;unfold VD yu;dsimp only
  grind[BK,AB,AV,Pb,List.set_set,B8]
 grind[VD,yv,BL,AV]
theorem ABD{l:List Bz}(j:l.length<=1048576){k a:Int}(e:F5 AFW k l a):AG3 l k=some a:=by
 unfold AG3;refine LP e j ?_ ?_
 .rintro L i h k B ⟨y,⟨G,kb⟩,q,E,ca⟩;have c:w64 (k+1)=k+1:=Ah (by omega) (by omega);have g:decide (B<0)=false:=by rw[decide_eq_false_iff_not];omega
  unfold cV;dsimp only;rw[B4 h,BK];simp only[BJ h,AB,y,ne_self,BL,c,RY q ca,g]
 grind[cV,yO,BL,AV]
theorem AEs{w:Bu}(e:HJ w){k:Int}(q:0<=k)(O:k<=2 ^ 50) :
 ∃g s ps cs td js ld dn rp,AG2 w k=some (g,⟨⟨⟨⟨s,w.Ac.A2.AQ.Cb,w.Ac.A2.AQ.Room,w.Ac.A2.AQ.BA,w.Ac.A2.AQ.CG,w.Ac.A2.AQ.B1,w.Ac.A2.AQ.Rest,w.Ac.A2.AQ.Ca,w.Ac.A2.AQ.Cx⟩,w.Ac.A2.Now,w.Ac.A2.Az,ps,cs,td,js⟩,w.Ac.Bg,w.Ac.Seq,ld⟩,dn,rp,w.G0⟩)/\(k<=g/\g<=2 ^ 59) /\
  ∀r:Bu,r.Ac.A2.AQ.AW=s->r.Ac.A2.AG=ps->r.Ac.A2.AH=cs->r.Ac.A2.BF=td->r.Ac.A2.BC=js->r.Ac.Laid=ld->r.GL=dn->r.Cy=rp->yP r k=some g:=by
 have Q:=e.done;have S:=e.AFb;obtain⟨a,s,ps,cs,td,js,ld,ea,⟨a1,a2⟩,ah⟩:=ABX e.Nz q O;obtain⟨b,eb,h,b2,b3,b4⟩:=ABZ (l:=w.GL) Q (k:=a) (by omega) (by omega);obtain⟨c,ec,j,c2,c3,c4⟩:=ABY (l:=w.Cy) S e.ids (k:=b.1) (by omega) (by omega);refine⟨c.1,s,ps,cs,td,js,ld,b.2,c.2,?_,⟨by omega,by omega⟩,?_⟩
 .grind[AG2,AB]
 .rintro r y B E G H I J L;have X:decide (a<0)=false:=by rw[decide_eq_false_iff_not];omega
  have Y:decide (b.1<0)=false:=by rw[decide_eq_false_iff_not];omega
  have Z:decide (c.1<0)=false:=by rw[decide_eq_false_iff_not];omega
  unfold yP;rw[ah r.Ac y B E G H I,AB,X,BL,J,ABE (l:=b.2) (by omega) h,AB,Y,BL,L,ABD (l:=c.2) (by omega) j,AB,Z,BL]
noncomputable def Ih(r:Aa):Bu×Bool:=if (Hu r).2=true then (⟨(Hu r).1,[],[],0⟩,true) else (⟨JP,[],[],0⟩,false)
theorem AEy{r:Aa}(a:r.AW.length<=1048576):AHJ r=some (Ih r):=by
 unfold AHJ Ih;rw[ABe a,AB,BB,B7];split<;>rfl
theorem AEx{r:Aa}(a:r.AW.length<=1048576):AHK r=some (Ih r):=by
 unfold AHK Ih;rw[ABd a,AB,BB,B7];split<;>rfl
theorem uz{r:Aa}(e:r.AW.length<=1048576):HJ (Ih r).1:=by
 have a:=ka e;unfold Ih;split
 .exact⟨a,by simp,by simp,by simp⟩
 .rename_i c;unfold Hu at a c;split at a
  .grind
  .exact⟨a,by simp,by simp,by simp⟩
end Lv.P
namespace Lv.P
open Lv Go
def Zl(a:Bl):Bl:=if H9 a=true then ⟨a.Data,a.Data.length⟩ else a
theorem Sr(a:Bl):mi a=some (Zl a):=by
 grind[mi,eS,Zl,HZ,AB,B7,AV]
theorem YE(a:Bl):Y5 a=some (Zl a):=by
 unfold Y5 Zl;rw[HX,AB,BB,B7];split<;>rfl
noncomputable def PL(e:A7):A7×List Bz:=
 if FF e=false then (e,[]) else (⟨(I0 e.Laid e.A2).1,⟨Zl e.Bg.Log,e.Bg.EZ,e.Bg.Odd⟩,e.Seq,[]⟩,(I0 e.Laid e.A2).2)
theorem AM1{e:A7}(a:Cf e):AHn e=some (PL e):=by
 unfold AHn PL;rw[IU a,AB,Hw a,AB,BB,B7];by_cases c:FF e=true
 .rw[AX c,AU (by simp[c]),UH a.FN a.laid,AB,Sr,AB]
 grind
theorem AKx{e:A7}(a:Cf e):AIX e=some (PL e):=by
 unfold AIX PL;rw[Mw a,AB,JH a,AB,BB,B7];by_cases c:FF e=true
 .rw[AX c,AU (by simp[c]),YE,AB,T3 a.FN a.laid,AB]
 grind
theorem QT(a:Bl):(Zl a).Data=a.Data:=by unfold Zl;split<;>rfl
theorem AMn{e:A7}(a:Cf e):Cf (PL e).1/\(PL e).2.length<=1048576/\∀r∈(PL e).2,r.Ids.length<=1048576:=by
 unfold PL;split
 .grind
 .obtain⟨c,j,g⟩:=Kh e.Laid a.FN;have q:=a.laid;exact⟨⟨c,by dsimp only;rw[QT];exact a.log,a.even,a.odd,by simp⟩,by dsimp only;omega,fun r h=>by have:=g r h;omega⟩
end Lv.P
