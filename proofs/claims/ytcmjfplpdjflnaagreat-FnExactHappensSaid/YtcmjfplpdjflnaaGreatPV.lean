/- Plain laws about what the program computes. -/
import Derived.Test.YtcmjfplpdjflnaaGreatKJ
import Derived.Test.YtcmjfplpdjflnaaGreatPT
set_option linter.unusedVariables false
set_option linter.unusedSimpArgs false
set_option linter.unusedSectionVars false
open List renaming getElem_mem->Ao,length_append->AP,mem_append->CM
namespace Lv.P
open Lv Go
theorem AWL{l:List Bf}(a:l.length<=1048576)(c:∀x∈l,x.Ids.length<=1048576):AAm l=some l:=by
 have hlim:lim=268435456:=rfl;unfold AAm;refine(Jp (fun r=>[r]) some a 1 (by simp) (v0:=[]) ?_ ?_).trans (by simp)
 .intro L i h v e;have g:=c _ (Ao h);unfold hH;dsimp only;rw[B6 h,BL,BG h,AB,AB,B4 (by omega),B4 (by simp at e ⊢;omega)];rfl
 grind[hH,AAn,BO,AU]
theorem AWK{l:List Bf}(a:l.length<=1048576)(c:∀x∈l,x.Ids.length<=1048576):AJR l=some l:=by
 have hlim:lim=268435456:=rfl;unfold AJR;refine(Jp (fun r=>[r]) some a 1 (by simp) (v0:=[]) ?_ ?_).trans (by simp)
 .intro L i h v g;have e:=c _ (Ao h);unfold iR;dsimp only;rw[B6 h,BL,BG h,AB,R9 e,AB,B4 (by simp at g ⊢;omega)]
 grind[iR,AA5,BO,AU]
theorem AKw{w:CB}(a:Jj w):AAo w=some w:=by
 have hlim:lim=268435456:=rfl;have c:=a.done;unfold AAo;simp only[KW a.Nq,AB,AWL a.ACU a.ids,B4 (show 0+w.GG.length<=lim by omega),JA,Ch,List.nil_append]
theorem AKv{w:CB}(a:Jj w):AJS w=some w:=by
 have hlim:lim=268435456:=rfl;have c:=a.done;unfold AJS;simp only[Mo a.Nq,AB,AWK a.ACU a.ids,B4 (show 0+w.GG.length<=lim by omega)]
noncomputable def svF(w:CB)(b:BD×Bool):Int:=if FO w.Ac=true/\b.2=true then w64 (w64 (b.1.Seq-w.Ac.Seq)+w.Ac.Laid.length) else -1
theorem vU{w:CB}(g:Jj w){l:List Int}{n:Int}{q:AF×Int×Bool}(h:ai (I1 w.Ac.Bl l) n q) :
 AJD w l=some (svF w (Mm (I1 w.Ac.Bl l) n q))/\AAl w l=some (svF w (Mm (I1 w.Ac.Bl l) n q)):=by
 have a:=g.Nq;obtain⟨j,y,B⟩:=oE a l;obtain⟨c,e,_⟩:=AaG j y B h;unfold AJD AAl svF;simp only[I8 a,I4 a,AB,Zo,ZT,c,e];cases FO w.Ac
 .exact⟨rfl,rfl⟩
 .cases (Mm (I1 w.Ac.Bl l) n q).2<;>exact⟨rfl,rfl⟩
noncomputable def APE(w:CB)(b:BD×Bool):CB×Int:=
 if inB (svF w b) 0 w.Ac.Laid.length=false then (w,21) else
 (⟨b.1,w.GG++w.Ac.Laid.take (svF w b).toNat,w.Cx++(Ij (w.Ac.Laid.take (svF w b).toNat) w.Ac.Az).2,w64 (w.GH+1)⟩,0)
structure Hap(w:CB)(a:Iu)(r:CB×Int):Prop where
 hpK:inB a.Kind 1 4=false->r=(w,26)
 hpB:inB a.Kind 1 4=true->FO w.Ac=false->r=(w,21)
 hpL:FO w.Ac=true->a.Kind=1->r=(⟨(ABk w.Ac a.Req).1,w.GG,w.Cx,w.GH⟩,(ABk w.Ac a.Req).2)
 hpS:FO w.Ac=true->a.Kind=2->r=(⟨(QR w.Ac).1,w.GG++w.Ac.Laid,w.Cx++(QR w.Ac).2,w.GH⟩,0)
 hpM:FO w.Ac=true->a.Kind=3->∃m,AAq w.Ac a.N_=some m/\r=(⟨m.1,w.GG,w.Cx,w.GH⟩,if m.2=true then 0 else 25)
 hpF:FO w.Ac=true->a.Kind=4->∃n q,ai (I1 w.Ac.Bl a.Ji) n q/\r=APE w (Mm (I1 w.Ac.Bl a.Ji) n q)
structure AKk(w:CB):Prop where
 wrF:Jj w
 wrD:w.GG.length+w.Ac.Laid.length<=1048576
 wrP:w.Cx.length+w.Ac.Laid.length<=1048576
theorem pq{w:CB}(O:AKk w)(a:Iu):∃r,iQ w a=some r/\ZL w a=some r/\Jj r.1/\Hap w a r:=by
 have hlim:lim=268435456:=rfl;have c:=O.wrF;have e:=c.Nq;have hd:=O.wrD;have hp:=O.wrP;obtain⟨n,q,R⟩:=AZw (I1 w.Ac.Bl a.Ji);obtain⟨s1,s2⟩:=vU c R;obtain⟨Y,Z,l3⟩:=oE e a.Ji;obtain⟨S,X,bf⟩:=AaG Y Z l3 R;obtain⟨m,m1,m2,mf⟩:=AKh e a.N_;obtain⟨z1,z2,z3⟩:=ANG e;have hz:(QR w.Ac).2.length<=w.Ac.Laid.length:=by
  unfold QR;split
  .simp
  .have:=(Ob w.Ac.Laid e.FY).2.1;dsimp only;omega
 obtain⟨y1,y2,y3⟩:=Ob (w.Ac.Laid.take (svF w (Mm (I1 w.Ac.Bl a.Ji) n q)).toNat) e.FY;have yl:(w.Ac.Laid.take (svF w (Mm (I1 w.Ac.Bl a.Ji) n q)).toNat).length<=w.Ac.Laid.length:=by rw[List.length_take];omega
 unfold iQ ZL Q8 Vz V1 AO1;simp only[AKw c,AKv c,AB,GL,E9,BK,I8 e,I4 e,AVO e,AS5 e,ANV e,ALK e,m1,m2,s1,s2,AU,Zo,ZT,S,X,List.drop_zero,Nat.sub_zero];by_cases B:inB a.Kind 1 4=true
 case neg=>
  rw[Bool.not_eq_true]at B;have H:=B;unfold inB at H;rw[decide_eq_false_iff_not]at H;rw[B,BO,BO];exact⟨_,rfl,rfl,c,fun _=>rfl,by simp[B],fun _ h=>absurd h (by omega),fun _ h=>absurd h (by omega),fun _ h=>absurd h (by omega),fun _ h=>absurd h (by omega)⟩
 rw[B,BL,BL];cases g:FO w.Ac with
 |false=>
  rw[BO,BO,BL];exact⟨_,rfl,rfl,c,by simp[B],fun _ _=>rfl,by simp[g],by simp[g],by simp[g],by simp[g]⟩
 |true=>
  rw[CQ]at B;rw[BL,BL];by_cases E:a.Kind=1
  .rw[E];refine⟨_,rfl,rfl,⟨ATH e _,c.done,c.ACU,c.ids⟩,by simp[inB,E],by simp[g],fun _ _=>rfl,by simp[E],by simp[E],by simp[E]⟩
  by_cases G:a.Kind=2
  .rw[G,B4 (by omega),B4 (by omega)];refine⟨_,rfl,?_,⟨z1,?_,?_,?_⟩,by simp[inB,G],by simp[g],by simp[G],fun _ _=>rfl,by simp[G],by simp[G]⟩
   .rw[show ((2:Int)==4)=false from rfl,BO,BO,show ((2:Int)==1)=false from rfl,BO,show ((2:Int)==2)=true from rfl,BL]
   .rw[AP];omega
   .rw[AP];omega
   .intro r I;rcases CM.1 I with h|h
    .exact c.ids r h
    .exact z3 r h
  by_cases j:a.Kind=3
  .rw[j];cases Q:m.2 with|false=>exact⟨_,rfl,rfl,⟨mf,c.done,c.ACU,c.ids⟩,by simp[inB,j],by simp[g],by simp[j],by simp[j],fun _ _=>⟨m,m1,by rw[Q];rfl⟩,by simp[j]⟩|true=>exact⟨_,rfl,rfl,⟨mf,c.done,c.ACU,c.ids⟩,by simp[inB,j],by simp[g],by simp[j],by simp[j],fun _ _=>⟨m,m1,by rw[Q];rfl⟩,by simp[j]⟩
  have y:a.Kind=4:=by omega
  rw[y,show ((4:Int)==1)=false from rfl,BO,show ((4:Int)==2)=false from rfl,BO,show ((4:Int)==3)=false from rfl,BO,show ((4:Int)==4)=true from rfl,BL];cases J:inB (svF w (Mm (I1 w.Ac.Bl a.Ji) n q)) 0 w.Ac.Laid.length with
  |false=>
   rw[BO,AB,BO];exact⟨_,rfl,rfl,c,by simp[inB,y],by simp[g],by simp[y],by simp[y],by simp[y],fun _ _=>⟨n,q,R,by unfold APE;rw[AW J]⟩⟩
  |true=>
   have L:=CQ.1 J;have yd:=UD e.FY (l:=w.Ac.Laid.take (svF w (Mm (I1 w.Ac.Bl a.Ji) n q)).toNat) (by have:=e.laid;omega);have yi:=Tz e.FY (l:=w.Ac.Laid.take (svF w (Mm (I1 w.Ac.Bl a.Ji) n q)).toNat) (by have:=e.laid;omega);have E:w.GG.length+(w.Ac.Laid.take (svF w (Mm (I1 w.Ac.Bl a.Ji) n q)).toNat).length<=lim:=by omega
   have G:w.Cx.length+(Ij (w.Ac.Laid.take (svF w (Mm (I1 w.Ac.Bl a.Ji) n q)).toNat) w.Ac.Az).2.length<=lim:=by omega
   simp only[BL,BO,B4 L,B4 E,B4 G,yd,yi,AB,Ch,Hf,Bool.not_true];refine⟨_,rfl,rfl,⟨bf,?_,?_,?_⟩,by simp[inB,y],by simp[g],by simp[y],by simp[y],by simp[y],fun _ _=>⟨n,q,R,by unfold APE;rw[J,AT (by simp)]⟩⟩
   .rw[AP];omega
   .rw[AP];omega
   .intro r I;rcases CM.1 I with h|h
    .exact c.ids r h
    .have:=y3 r h;omega
theorem AXh{a:Iu}(c:a.Ji.length<=1048576):Q4 a=some a:=by
 unfold Q4;rw[AXi,AB,Rz c,AB]
theorem AWn{a:Iu}(c:a.Ji.length<=1048576):AJT a a=some true:=by
 grind[AJT,BO,AJi,AB,BK,BL,RA]
theorem AXf{a:Iu}(g:a.Ji.length<9223372036854775808){d:Int}(c:0<=d)(e:d<=1048576):∃r,AJE a d=some r/\(r<0\/0<=r/\r+a.Ji.length=d):=by
 grind[Rv,AJE,AB,BH]
theorem ATR{a:Iu}(g:a.Ji.length<=1048576){k:Int}(c:0<=k)(h:k<=2 ^ 59):∃r,AJU a k=some r/\decide (r.1<0)=false:=by
 obtain⟨r,e,j,q,y,B⟩:=RX g c h;unfold AJU;rw[e,AB]
 grind[decide_eq_false_iff_not]
theorem TS{w:CB}{a:Iu}(I:j5 w)(E:ATe a):GB w a=some true:=by
 unfold GB;obtain⟨x,ex,J⟩:=AGW I;rw[ex,AB,BH];split
 .rfl
 obtain⟨x0,x1,c,G,H⟩:=J.resolve_left (by omega);obtain⟨y,ey,L⟩:=AXf (a:=a) E.2.2.2.1.1 (d:=x) (by omega) (by omega);rw[ey,AB,BH];split
 .rfl
 have g:a.Ji.length<=1048576:=by have:=L.resolve_left (by omega);omega
 obtain⟨r,r1,r2,j,_⟩:=pq ⟨c,G,H⟩ a;obtain⟨S,s,ps,cs,td,js,ld,dn,rp,em,⟨m1,m2⟩,mh⟩:=ji j (k:=1) (by omega) (by omega);obtain⟨X,s2,Z,q,td2,Q,Y,B,rp2,e,⟨n1,n2⟩,_⟩:=ji c (k:=1) (by omega) (by omega);obtain⟨z,ez,O⟩:=ATR g (k:=X) (by omega) (by omega);have h:decide (S<0)=false:=by rw[decide_eq_false_iff_not];omega
 have hE:=oD j;unfold Gm FD Gn;simp only[ANo c,AXh g,AB,r1,r2,Ch,vK,hE,BK,BL,BO,AU,ne_self,oD c,AWn g,e,ez,O,em,h]
 grind[AB,BO]
end Lv.P
