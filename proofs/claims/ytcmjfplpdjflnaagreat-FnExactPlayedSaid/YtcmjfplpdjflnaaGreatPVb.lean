/- Plain laws about what the program computes. -/
import Derived.Test.YtcmjfplpdjflnaaGreatKJb
import Derived.Test.YtcmjfplpdjflnaaGreatPTb
set_option linter.unusedVariables false
set_option linter.unusedSimpArgs false
set_option linter.unusedSectionVars false
open Int renaming toNat_natCast->Ad
open List renaming getElem_mem->Au,length_append->AP,length_cons->AI,length_nil->AR,length_take->BS,mem_append->CO
open Nat renaming lt_or_ge->AZ
namespace Lv.P
open Lv Go
theorem AVl{l:List Bz}(a:l.length<=1048576)(c:∀x∈l,x.Ids.length<=1048576):AAV l=some l:=by
 have hlim:lim=268435456:=rfl;unfold AAV;refine(Jx (fun r=>[r]) some a 1 (by simp) (v0:=[]) ?_ ?_).trans (by simp)
 .intro L i h v e;have g:=c _ (Au h);unfold gX;dsimp only;rw[B4 h,BK,BJ h,AB,AB,B8 (by omega),B8 (by simp at e ⊢;omega)];rfl
 grind[gX,AAW,BL,AV]
theorem AVk{l:List Bz}(a:l.length<=1048576)(c:∀x∈l,x.Ids.length<=1048576):AIi l=some l:=by
 have hlim:lim=268435456:=rfl;unfold AIi;refine(Jx (fun r=>[r]) some a 1 (by simp) (v0:=[]) ?_ ?_).trans (by simp)
 .intro L i h v g;have e:=c _ (Au h);unfold gY;dsimp only;rw[B4 h,BK,BJ h,AB,SL e,AB,B8 (by simp at g ⊢;omega)]
 grind[gY,AAZ,BL,AV]
theorem AKS{w:Bu}(a:HJ w):AAX w=some w:=by
 have hlim:lim=268435456:=rfl;have c:=a.done;unfold AAX;simp only[IU a.Nz,AB,AVl a.AFb a.ids,B8 (show 0+w.GL.length<=lim by omega),JM,Ce,List.nil_append]
theorem AKR{w:Bu}(a:HJ w):AIj w=some w:=by
 have hlim:lim=268435456:=rfl;have c:=a.done;unfold AIj;simp only[Mw a.Nz,AB,AVk a.AFb a.ids,B8 (show 0+w.GL.length<=lim by omega)]
noncomputable def svF(w:Bu)(b:A7×Bool):Int:=if FF w.Ac=true/\b.2=true then w64 (w64 (b.1.Seq-w.Ac.Seq)+w.Ac.Laid.length) else -1
theorem vF{w:Bu}(g:HJ w){l:List Int}{n:Int}{q:AE×Int×Bool}(h:af (IW w.Ac.Bg l) n q) :
 AIf w l=some (svF w (KQ (IW w.Ac.Bg l) n q))/\AAU w l=some (svF w (KQ (IW w.Ac.Bg l) n q)):=by
 have a:=g.Nz;obtain⟨j,y,B⟩:=nD a l;obtain⟨c,e,_⟩:=AZG j y B h;unfold AIf AAU svF;simp only[Hw a,JH a,AB,Zd,ZJ,c,e];cases FF w.Ac
 .exact⟨rfl,rfl⟩
 .cases (KQ (IW w.Ac.Bg l) n q).2<;>exact⟨rfl,rfl⟩
noncomputable def AI8(w:Bu)(b:A7×Bool):Bu×Int:=
 if inB (svF w b) 0 w.Ac.Laid.length=false then (w,21) else
 (⟨b.1,w.GL++w.Ac.Laid.take (svF w b).toNat,w.Cy++(I0 (w.Ac.Laid.take (svF w b).toNat) w.Ac.A2).2,w64 (w.G0+1)⟩,0)
structure Hap(w:Bu)(a:Cw)(r:Bu×Int):Prop where
 hpK:inB a.Kind 1 4=false->r=(w,26)
 hpB:inB a.Kind 1 4=true->FF w.Ac=false->r=(w,21)
 hpL:FF w.Ac=true->a.Kind=1->r=(⟨(sj w.Ac a.Req).1,w.GL,w.Cy,w.G0⟩,(sj w.Ac a.Req).2)
 hpS:FF w.Ac=true->a.Kind=2->r=(⟨(PL w.Ac).1,w.GL++w.Ac.Laid,w.Cy++(PL w.Ac).2,w.G0⟩,0)
 hpM:FF w.Ac=true->a.Kind=3->∃m,gQ w.Ac a.N_=some m/\r=(⟨m.1,w.GL,w.Cy,w.G0⟩,if m.2=true then 0 else 25)
 hpF:FF w.Ac=true->a.Kind=4->∃n q,af (IW w.Ac.Bg a.GS) n q/\r=AI8 w (KQ (IW w.Ac.Bg a.GS) n q)
structure AKG(w:Bu):Prop where
 wrF:HJ w
 wrD:w.GL.length+w.Ac.Laid.length<=1048576
 wrP:w.Cy.length+w.Ac.Laid.length<=1048576
theorem og{w:Bu}(O:AKG w)(a:Cw):∃r,AAY w a=some r/\AIk w a=some r/\HJ r.1/\Hap w a r:=by
 have hlim:lim=268435456:=rfl;have c:=O.wrF;have e:=c.Nz;have hd:=O.wrD;have hp:=O.wrP;obtain⟨n,q,R⟩:=AYv (IW w.Ac.Bg a.GS);obtain⟨s1,s2⟩:=vF c R;obtain⟨Y,Z,l3⟩:=nD e a.GS;obtain⟨S,X,bf⟩:=AZG Y Z l3 R;obtain⟨m,m1,m2,mf⟩:=AKD e a.N_;obtain⟨z1,z2,z3⟩:=AMn e;have hz:(PL w.Ac).2.length<=w.Ac.Laid.length:=by
  unfold PL;split
  .simp
  .have:=(Kh w.Ac.Laid e.FN).2.1;dsimp only;omega
 obtain⟨y1,y2,y3⟩:=Kh (w.Ac.Laid.take (svF w (KQ (IW w.Ac.Bg a.GS) n q)).toNat) e.FN;have yl:(w.Ac.Laid.take (svF w (KQ (IW w.Ac.Bg a.GS) n q)).toNat).length<=w.Ac.Laid.length:=by rw[BS];omega
 unfold AAY AIk RM Vo Vp AOK;simp only[AKS c,AKR c,AB,GB,FD,BB,Hw e,JH e,AUo e,ASW e,AM1 e,AKx e,m1,m2,s1,s2,AV,Zd,ZJ,S,X,List.drop_zero,Nat.sub_zero];by_cases B:inB a.Kind 1 4=true
 case neg=>
  rw[Bool.not_eq_true]at B;have H:=B;unfold inB at H;rw[decide_eq_false_iff_not]at H;rw[B,BL,BL];exact⟨_,rfl,rfl,c,fun _=>rfl,by simp[B],fun _ h=>absurd h (by omega),fun _ h=>absurd h (by omega),fun _ h=>absurd h (by omega),fun _ h=>absurd h (by omega)⟩
 rw[B,BK,BK];cases g:FF w.Ac with
 |false=>
  rw[BL,BL,BK];exact⟨_,rfl,rfl,c,by simp[B],fun _ _=>rfl,by simp[g],by simp[g],by simp[g],by simp[g]⟩
 |true=>
  rw[CQ]at B;rw[BK,BK];by_cases E:a.Kind=1
  .rw[E];refine⟨_,rfl,rfl,⟨ASi e _,c.done,c.AFb,c.ids⟩,by simp[inB,E],by simp[g],fun _ _=>rfl,by simp[E],by simp[E],by simp[E]⟩
  by_cases G:a.Kind=2
  .rw[G,B8 (by omega),B8 (by omega)];refine⟨_,rfl,?_,⟨z1,?_,?_,?_⟩,by simp[inB,G],by simp[g],by simp[G],fun _ _=>rfl,by simp[G],by simp[G]⟩
   .rw[show ((2:Int)==4)=false from rfl,BL,BL,show ((2:Int)==1)=false from rfl,BL,show ((2:Int)==2)=true from rfl,BK]
   .rw[AP];omega
   .rw[AP];omega
   .intro r I;rcases CO.1 I with h|h
    .exact c.ids r h
    .exact z3 r h
  by_cases j:a.Kind=3
  .rw[j];cases Q:m.2 with|false=>exact⟨_,rfl,rfl,⟨mf,c.done,c.AFb,c.ids⟩,by simp[inB,j],by simp[g],by simp[j],by simp[j],fun _ _=>⟨m,m1,by rw[Q];rfl⟩,by simp[j]⟩|true=>exact⟨_,rfl,rfl,⟨mf,c.done,c.AFb,c.ids⟩,by simp[inB,j],by simp[g],by simp[j],by simp[j],fun _ _=>⟨m,m1,by rw[Q];rfl⟩,by simp[j]⟩
  have y:a.Kind=4:=by omega
  rw[y,show ((4:Int)==1)=false from rfl,BL,show ((4:Int)==2)=false from rfl,BL,show ((4:Int)==3)=false from rfl,BL,show ((4:Int)==4)=true from rfl,BK];cases J:inB (svF w (KQ (IW w.Ac.Bg a.GS) n q)) 0 w.Ac.Laid.length with
  |false=>
   rw[BL,AB,BL];exact⟨_,rfl,rfl,c,by simp[inB,y],by simp[g],by simp[y],by simp[y],by simp[y],fun _ _=>⟨n,q,R,by unfold AI8;rw[AX J]⟩⟩
  |true=>
   have L:=CQ.1 J;have yd:=UH e.FN (l:=w.Ac.Laid.take (svF w (KQ (IW w.Ac.Bg a.GS) n q)).toNat) (by have:=e.laid;omega);have yi:=T3 e.FN (l:=w.Ac.Laid.take (svF w (KQ (IW w.Ac.Bg a.GS) n q)).toNat) (by have:=e.laid;omega);have E:w.GL.length+(w.Ac.Laid.take (svF w (KQ (IW w.Ac.Bg a.GS) n q)).toNat).length<=lim:=by omega
   have G:w.Cy.length+(I0 (w.Ac.Laid.take (svF w (KQ (IW w.Ac.Bg a.GS) n q)).toNat) w.Ac.A2).2.length<=lim:=by omega
   simp only[BK,BL,B8 L,B8 E,B8 G,yd,yi,AB,Ce,Hm,Bool.not_true];refine⟨_,rfl,rfl,⟨bf,?_,?_,?_⟩,by simp[inB,y],by simp[g],by simp[y],by simp[y],by simp[y],fun _ _=>⟨n,q,R,by unfold AI8;rw[J,AU (by simp)]⟩⟩
   .rw[AP];omega
   .rw[AP];omega
   .intro r I;rcases CO.1 I with h|h
    .exact c.ids r h
    .have:=y3 r h;omega
theorem AW5{a:Cw}(c:a.GS.length<=1048576):AIh a=some a:=by
 unfold AIh;rw[AW6,AB,ACh c,AB]
theorem AWB{a:Cw}(c:a.GS.length<=1048576):AIl a a=some true:=by
 grind[AIl,BL,AI5,AB,BB,BK,Ok]
theorem AW3{a:Cw}(g:a.GS.length<9223372036854775808){d:Int}(c:0<=d)(e:d<=1048576):∃r,AIg a d=some r/\(r<0\/0<=r/\r+a.GS.length=d):=by
 grind[ACa,AIg,AB,BQ]
theorem AND{w:Bu}{a:Cw}{r:Bu×Int}(B:HJ w)(h:Hap w a r)(j:w.Ac.Laid.length<=8):r.1.Ac.Laid.length<=8/\r.1.GL.length<=w.GL.length+8/\r.1.Cy.length<=w.Cy.length+8:=by
 have e:=B.Nz;by_cases g:inB a.Kind 1 4=true
 case neg=>rw[h.hpK (by simpa using g)];exact⟨j,by dsimp only;omega,by dsimp only;omega⟩
 by_cases c:FF w.Ac=true
 case neg=>rw[h.hpB g (by simpa using c)];exact⟨j,by dsimp only;omega,by dsimp only;omega⟩
 rw[CQ]at g;by_cases G:a.Kind=1
 .rw[h.hpL c G];refine⟨?_,by dsimp only;omega,by dsimp only;omega⟩;dsimp only;unfold sj
  grind
 by_cases H:a.Kind=2
 .rw[h.hpS c H];have:=(Kh w.Ac.Laid e.FN).2.1
  grind[PL,List.length_append]
 by_cases I:a.Kind=3
 .obtain⟨m,m1,m2⟩:=h.hpM c I;obtain⟨O,J,_,L,_⟩:=AKC e a.N_
  grind[Option.some.inj]
 obtain⟨n,q,R,y⟩:=h.hpF c (by omega);rw[y];unfold AI8;split
 .exact⟨j,by dsimp only;omega,by dsimp only;omega⟩
 .have:=(Kh (w.Ac.Laid.take (svF w (KQ (IW w.Ac.Bg a.GS) n q)).toNat) e.FN).2.1;have E:(KQ (IW w.Ac.Bg a.GS) n q).1.Laid=[]:=by unfold KQ;split<;>rfl
  refine⟨by dsimp only;rw[E];simp,?_,?_⟩<;>(dsimp only;rw[AP,BS]at *;omega)
theorem Yu{l:List Cw}(E:l.length<=60):∀(m n:Nat) (i:Nat) (v:List Int) (w:Bu),i+m=l.length->m<n->v.length=i->HJ w->w.Ac.Laid.length<=8->w.GL.length<=8*i->w.Cy.length<=8*i ->
 ∃x,A3 (Vq l) n (v,(i:Int),w)=some x/\A3 (Vr l) n (v,(i:Int),w)=some x/\HJ x.1/\x.2.1.length<=60
 |m,0,i,v,w,_,h,_,_,_,_,_=>absurd h (by omega)|m,n+1,i,v,w,hi,Z,G,j,y,Y,hp=>by
  have hlim:lim=268435456:=rfl;have I:=fun Q w' a b c d e f=>Yu E (m-1) n (i+1) Q w' a (by omega) b c d e f
  rw[Dh,Dh];generalize A3 (Vq l) n=L at *;generalize A3 (Vr l) n=M at *;unfold Vq Vr AAd AAf;dsimp only;rcases AZ i l.length with h|h
  .obtain⟨r,J,O,B,H⟩:=og (w:=w) ⟨j,by omega,by omega⟩ l[i];obtain⟨q,S,X⟩:=AND j H y;rw[B4 h,BK,BK,BJ h,AB,AB,J,O,AB,AB,AB,Ce,uq,B8 (by simp only[AI,AR];omega),B8 (by simp only[AI,AR];omega),Bt h (by omega)];exact I _ _ (by omega) (by simp[G]) B q (by omega) (by omega)
  .have g:decide ((i:Int)<(l.length:Int))=false:=by rw[decide_eq_false_iff_not];omega
   rw[g,BL,BL,AV]
   grind
theorem vD{r:Aa}(c:r.AW.length<=1048576){l:List Cw}(j:l.length<=1048576):∃x,AIn r l=some x/\AAe r l=some x/\HJ x.1/\x.2.1.length<=60:=by
 have g:=uz c;have a:(Ih r).1.Ac.Laid=[]/\(Ih r).1.GL=[]/\(Ih r).1.Cy=[]:=by
  unfold Ih Hu;split<;>(try split)<;>exact⟨rfl,rfl,rfl⟩
 unfold AIn AAe;simp only[AEy c,AEx c,AB,BB,AV];unfold gh gi;have e:∀b:Bool,∃x:Bu×List Int×Bool,(some ((Bu.mk (A7.mk (AE.mk (Aa.mk [] 0 0 0 0 0 0 0 0) 0 0 [] [] [] []) (Bk.mk (Bl.mk [] 0) (Bl.mk [] 0) (Bl.mk [] 0)) 0 []) [] [] 0,[],false)):AA (Bu×List Int×Bool))=some x/\some ((Bu.mk (A7.mk (AE.mk (Aa.mk [] 0 0 0 0 0 0 0 0) 0 0 [] [] [] []) (Bk.mk (Bl.mk [] 0) (Bl.mk [] 0) (Bl.mk [] 0)) 0 []) [] [] 0,[],false))=some x/\HJ x.1/\x.2.1.length<=60:=
  fun _=>⟨_,rfl,rfl,⟨SG,by simp,by simp,by simp⟩,by simp⟩
 cases (Ih r).2 with
 |false=>simp only[BL,BK];exact e true|true=>
  rw[BK,BK];by_cases h:(l.length:Int)>60
  .rw[decide_eq_true h,BK,BK];exact e true
  .rw[decide_eq_false h,BL,BL];exact Yu (by omega) l.length big 0 [] _ (by omega) (by have:=Nw;omega) rfl g (by simp[a.1]) (by simp[a.2.1]) (by simp[a.2.2])
theorem AVC{l:List Cw}(a:l.length<=1048576)(c:∀x∈l,x.GS.length<=1048576):ga l=some l:=by
 unfold ga;rw[B8 (by unfold lim;omega),Ad];refine vg (by omega) ?_ ?_
 .grind[gb,B4,BK,BJ,AB,AW5,List.getElem_mem,Bt,Int.toNat_natCast]
 grind[gb,AAc,BL,AV]
theorem AOX{l:List Cw}(a:l.length<=1048576)(c:∀x∈l,x.GS.length<=1048576):AIo l l=some true:=by
 unfold AIo;refine Vv (by omega) ?_ ?_
 .grind[gj,BK,BJ,AB,AWB,BB]
 grind[gj,AAg,BL,AV]
theorem AUu{l:List Cw}(j:okL tO l){d:Int}(q:0<=d)(y:d<=1048576):Sz (AIm l d) d ((l.length:Int)<=d/\∀c∈l,c.GS.length<=1048576):=by
 have G:=j.1;unfold AIm Sz;rw[Ah (n:=d-(l.length:Int)) (by omega) (by omega),BQ];split
 .grind
 rename_i B;refine gx (n:=l.length) (fun i (v:Int)=>(v,(i:Int))) (fun i v=>0<=v/\v<=d-l.length/\∀c∈l.take i,c.GS.length<=1048576) _ (by omega) ?_ (v:=d-l.length) ⟨by omega,by omega,by simp⟩;rintro L i v ⟨g,I,E⟩ hi J;unfold AAb AAa;dsimp only;rcases AZ i l.length with h|h
 .obtain⟨r,e,H⟩:=AW3 (a:=l[i]) (j.2 _ (Au h)).2.2.2.1.1 g (by omega)
  grind[BJ,AB,BQ,Bt,List.take_add_one]
 grind[BL,AV]
theorem AK9{l:List Cw}(B:l.length<=1048576)(e:∀r∈l,r.GS.length<=1048576){k:Int}(j:0<=k)(hb:k<=2 ^ 58):∃r,AIp l k=some r/\decide (r.1<0)=false:=by
 have hs:=Yn (l:=l) (cst:=fun r=>8+r.GS.length) (m:=1048584) fun r c=>by have:=e r c;omega
 unfold AIp;have key:=KB (l:=l) (Q:=fun k (_:Cw) k1=>True) (F:=Vt) (fun r=>8+r.GS.length) (2 ^ 59) B j (by omega) ?_ ?_
 .obtain⟨r,g,g2,g3,g4,g5⟩:=key;exact⟨r,g,by rw[decide_eq_false_iff_not];omega⟩
 .intro L v k i h hv E k0 kb;have hi:i<v.length:=by omega
  have q:at? v (i:Int)=some l[i]:=by rw[Es];exact E
  have c:=e _ (Au h);obtain⟨a,ea,Y,Z,a3,a4⟩:=NC (l:=l[i].GS) c (k:=k+1+1+1+1+1+1+1+1) (by omega) (by omega);have w1:w64 (k+1)=k+1:=Ah (by omega) (by omega);have G:w64 (k+1+1)=k+1+1:=Ah (by omega) (by omega);have H:w64 (k+1+1+1)=k+1+1+1:=Ah (by omega) (by omega);have I:w64 (k+1+1+1+1)=k+1+1+1+1:=Ah (by omega) (by omega);have J:w64 (k+1+1+1+1+1)=k+1+1+1+1+1:=Ah (by omega) (by omega);have O:w64 (k+1+1+1+1+1+1)=k+1+1+1+1+1+1:=Ah (by omega) (by omega);have S:w64 (k+1+1+1+1+1+1+1)=k+1+1+1+1+1+1+1:=Ah (by omega) (by omega);have X:w64 (k+1+1+1+1+1+1+1+1)=k+1+1+1+1+1+1+1+1:=Ah (by omega) (by omega);refine⟨a.1,⟨k,⟨k+1,k+1+1,k+1+1+1,k+1+1+1+1,k+1+1+1+1+1,k+1+1+1+1+1+1⟩,k+1+1+1+1+1+1+1,a.2⟩,?_,trivial,by omega,by push_cast;omega⟩;unfold Vt AAh AAi AAj AAk AAl AAm AAn AAo;dsimp only;have y:decide ((i:Int)<(v.length:Int))=true:=by rw[decide_eq_true_eq];omega
  simp only[y,BK,q,AB,AV,Ad,Pb,List.length_set,hi,List.set_set,w1,G,H,I,J,O,S,X,ea,B8,List.getElem?_set_self,AB]
 grind[Vt,nA,BL,AV]
theorem US{r:Aa}{l:List Cw}(Q:ABm r)(L:okL tO l):Ge r l=some true:=by
 unfold Ge;obtain⟨x,ex,S⟩:=ACa Q.1.1 (d:=1048576) (by omega) (by omega);have ez:AVr r 1048576=some (if x<0 then -1 else x):=by unfold AVr;rw[ex,AB,BQ];split<;>rfl
 rw[ez,AB,BQ];by_cases B:x<0
 .grind
 rw[AU B,AU B];have X:=S.resolve_left B;have q:r.AW.length<=1048576:=by omega
 obtain⟨y,ey,Y⟩:=AUu L (d:=x) (by omega) (by omega);rw[ey,AB,BQ];split
 .rfl
 obtain⟨_,_,O,g⟩:=Y.resolve_left (by omega);have e:l.length<=1048576:=by omega
 obtain⟨p,p1,p2,E,hp⟩:=vD q e;obtain⟨G,s,ps,cs,td,js,ld,dn,rp,em,⟨m1,m2⟩,mh⟩:=AEs E (k:=1) (by omega) (by omega);obtain⟨a,ea,a1,a2,a3,a4⟩:=NC (l:=r.AW) q (k:=1) (by omega) (by omega);obtain⟨c,ec,H,c2,c3,c4⟩:=NC (l:=p.2.1) (by omega) (k:=G) (by omega) (by omega);obtain⟨z,ezz,Z⟩:=AK9 e g (k:=a.1) (by omega) (by omega);have J:=RY (l:=c.2) (by omega) H;have j:decide (G<0)=false:=by rw[decide_eq_false_iff_not];omega
 have h:decide (c.1<0)=false:=by rw[decide_eq_false_iff_not];omega
 have hE:=AKi E;have hI:Qd p.2.1 p.2.1=some true:=Ok (by omega);have I:∀b:Bool,(!b==b)=false:=by decide
 unfold FT ET FU yB;simp only[AM9 q,AVC e g,AB,p1,p2,hE,hI,BB,BK,BL,AV,ne_self,I,nC q,AOX e g,ea,ezz,Z,em,ec,j,h];rw[mh _ rfl rfl rfl rfl rfl rfl rfl rfl];simp only[AB,j,h,J,BL,ne_self];cases p.2.2<;>rfl
end Lv.P
