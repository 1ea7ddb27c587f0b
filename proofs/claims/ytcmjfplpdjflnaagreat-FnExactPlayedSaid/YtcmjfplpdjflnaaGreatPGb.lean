/- Plain laws about what the program computes. -/
import Derived.Test.YtcmjfplpdjflnaaGreatPFb
set_option linter.unusedVariables false
set_option linter.unusedSimpArgs false
set_option linter.unusedSectionVars false
open Int renaming eq_ofNat_of_zero_le->As
open List.cons renaming injEq->CY
open List renaming length_append->AP,length_cons->AI,length_drop->BY,length_filterMap_le->CI,length_map->Aj,take_of_length_le->BI
open Nat renaming lt_or_ge->AZ
namespace Lv.P
open Lv Go
theorem iV{r:Aa}(a:r.AW.length<2 ^ 62){l:List AN}(hl:l.length<=40)(c now:Int):∃q,Y0 r l c now=some q/\q.length<=40/\(DF l c<=19->q=Dq r l c now):=by
 by_cases e:DF l c<=19
 .refine⟨_,P4 a (by omega) e now,?_,fun _=>rfl⟩;unfold Dq;rw[Im];have:=CI (K0 r c now) l;omega
 .have hlim:lim=268435456:=rfl;unfold Y0;rw[collect (l:=l) (K0 r c now) Qy (by omega) ?_ ?_]
  .unfold Qy;have:=CI (K0 r c now) l;obtain⟨x,E,g⟩:=kD (l:=l.filterMap (K0 r c now)) (by omega)
   grind[AB]
  .intro L i h v B;unfold Qz Uh Ui K0;dsimp only;rw[B4 h,BK,BJ h,AB,MO a,AB,AV,AV,B8 (by rw[Li];omega),AV,AV];cases j:(EX r l[i] now).2<;>cases y:l[i].AY==c<;>simp
  .intro L v;unfold Qz;dsimp only;rw[C0,BL,AV]
theorem km{l:List AN}(hl:l.length<=40)(c:Int):∃q,bY l c=some q/\q.length<=40/\(DF l c<=19->q=Fu l c):=by
 by_cases a:DF l c<=19
 .refine⟨_,ZL (by omega) a,?_,fun _=>rfl⟩;unfold Fu;rw[Im];have:=CI (Lm c) l;omega
 .have hlim:lim=268435456:=rfl;unfold bY;rw[collect (l:=l) (Lm c) Q3 (by omega) ?_ ?_]
  .unfold Q3;have:=CI (Lm c) l;obtain⟨x,B,e⟩:=ud (l:=l.filterMap (Lm c)) (by omega)
   grind[AB]
  .intro L i h v y;unfold Q4 Uq Ur Lm;dsimp only;rw[B4 h,BK,BJ h,AB,AV,AV,B8 (by rw[Li];omega),AV,AV];cases g:l[i].State==2<;>cases j:l[i].AY==c<;>simp
  .intro L v;unfold Q4;dsimp only;rw[C0,BL,AV]
theorem SB{n:Nat}{r:List Int}(c:r.length<=1048576):∃xs r',KR (n:Int) r=some (xs,r')/\r'.length<=1048576/\(n<=10->xs.length=n)/\(n<=r.length->xs.length=n)/\xs.length<=n /\
 ∀ys a,r=ys++a->ys.length=n->xs=ys/\r'=a:=by
 grind[KR,dH,BQ,AV,lim,B8,Int.toNat_natCast]
theorem AFO{α:Type}{l:List α}(h:l.length=1):∃a,l=[a]:=by
 match l,h with
 | [a],_=>exact⟨a,rfl⟩
theorem three{α:Type}{l:List α}(h:l.length=3):∃a b c,l=[a,b,c]:=by
 match l,h with
 | [a,b,c],_=>exact⟨a,b,c,rfl⟩
section impl
variable{l:List Int}(hl:l.length<=1048576){R:Aa×Bool}{now turn:Int}
include hl
theorem AZU{h:AE}(hR:h.AQ=R.1)(c:B0 h)(e:∀g,Good g l->g=h) :
 ∃r,Q9 l R ((),R.1.Cb,R.1.Room,R.1.BA,R.1.CG,R.1.B1,R.1.Rest,R.1.Ca,R.1.Cx,h.Now,h.Az,h.AG,h.AH,h.BF,h.BC)=some r/\Red l r:=by
 unfold Q9 dy;dsimp only;rw[nR hR,Gi c,AB,BB];cases hB:D8 h with
 |false=>
  rw[BL,AV,BK];exact⟨_,rfl,Red.bad fun g a=>by rw[e g a]at a;rw[a.1]at hB;cases hB⟩
 |true=>
  have y:=Sf c hB;rw[BK,AK2 c hB,AB,ABK (by omega),AB,AV,BB];cases j:Ic (·==·) (HY h) l with
  |true=>
   rw[BK];exact⟨_,rfl,fun _=>⟨⟨hB,c,Wg.1 j⟩,fun g a=>e g a⟩,fun q=>by cases q⟩
  |false=>
   rw[BL];refine⟨_,rfl,Red.bad fun g a=>?_⟩;rw[e g a]at a;rw[Wg.2 a.2.2]at j;cases j
theorem AZX{x:List Int×List Int}{ps:List AN}{cs:List Ab}{td:List Int}(c:x.1.length<=1048576) :
 A3 (eB l R x) big (0,(),R.1.Cb,R.1.Room,R.1.BA,R.1.CG,R.1.B1,R.1.Rest,R.1.Ca,R.1.Cx,now,turn,ps,cs,td,[]) =
  Q9 l R ((),R.1.Cb,R.1.Room,R.1.BA,R.1.CG,R.1.B1,R.1.Rest,R.1.Ca,R.1.Cx,now,turn,ps,cs,td,x.1.map (fun j=>w64 (j-1))):=by
 refine C1 (n:=x.1.length) (fun i (v:List Int)=>((i:Int),(),R.1.Cb,R.1.Room,R.1.BA,R.1.CG,R.1.B1,R.1.Rest,R.1.Ca,R.1.Cx,now,turn,ps,cs,td,v)) (fun i v=>v=(x.1.take i).map (fun j=>w64 (j-1)))
  (fun _ _=>Q9 l R ((),R.1.Cb,R.1.Room,R.1.BA,R.1.CG,R.1.B1,R.1.Rest,R.1.Ca,R.1.Cx,now,turn,ps,cs,td,x.1.map (fun j=>w64 (j-1)))) (by omega) ?_ (v:=[]) (by simp)
 intro L i v a hi e;unfold eB;dsimp only;rcases AZ i x.1.length with h|h
 .grind[lim,BK,BJ,AB,Bt,B8,List.take_add_one]
 grind[BL,AV]
theorem AZT(hr:D4 R.1=true){ps:List AN}{cs:List Ab}{rest:List Int}(hk:rest.length<=1048576)(L:ps.length<=1048576)(J:cs.length<=1048576)(I:∀c∈cs,FJ c)
 (X:∀g,Good g l->Hd g R.1 now turn/\g.AG=ps/\g.AH=cs/\rest=tl4 g) :
 ∃r,dx l R (rest,(),R.1.Cb,R.1.Room,R.1.BA,R.1.CG,R.1.B1,R.1.Rest,R.1.Ca,R.1.Cx,now,turn,ps,cs,[],[])=some r/\Red l r:=by
 have O:=CM hr;have hcrew:=O.2.2.2.2.2.2.2.2.2;unfold dx;dsimp only;obtain⟨a,r1,e1,e2,e3,_,_,e4⟩:=SB (n:=1) hk;obtain⟨nt,rfl⟩:=AFO (e3 (by omega));have G:KR 1 rest=some ([nt],r1):=e1;rw[G,AB,show at? [nt] 0=some nt from rfl,AB,FD,AB,BB];have B:∀g,Good g l->nt=(g.BF.length:Int)/\r1=g.BF++g.BC.map up:=by
  intro g e;obtain⟨q1,Z,q3,Q⟩:=X g e;obtain⟨u1,u2⟩:=e4 [(g.BF.length:Int)] (g.BF++g.BC.map up) (by rw[Q];rfl) rfl;cases u1;exact⟨rfl,u2⟩
 cases q:inB nt 0 4 with
 |false=>
  rw[BL];refine⟨_,rfl,Red.bad fun g e=>?_⟩;have:=(PI e.1).todo;have:=(PI e.1).Dw;have:inB nt 0 4=true:=by rw[CQ,(B g e).1];omega
  rw[q]at this;cases this
 |true=>
  rw[BK];rw[CQ]at q;obtain⟨n,rfl⟩:=As q.1;obtain⟨td,r2,f1,f2,S,_,_,f4⟩:=SB (n:=n) e2;rw[f1,AB,SL (by have:=S (by omega);dsimp only;omega),AB];obtain⟨c,Y⟩:=As (show 0<=R.1.Cx by omega);obtain⟨js,r3,g1,g2,g3,_,_,g4⟩:=SB (n:=c) f2;have H:KR R.1.Cx r2=some (js,r3):=by rw[Y];exact g1
  have hjl:=g3 (by omega);have htl:=S (by omega);rw[H,AB];rw[AZX hl (by dsimp only;omega)];refine AZU hl (h:=⟨R.1,now,turn,ps,cs,td,js.map (fun j=>w64 (j-1))⟩) rfl ⟨by dsimp only;omega,L,J,I,by dsimp only;omega,by dsimp only;rw[Aj];omega⟩ ?_;intro g e;obtain⟨⟨q1,Z,q3⟩,Q,q5,q6⟩:=X g e;obtain⟨p1,p2⟩:=B g e;have E:=PI e.1;obtain⟨v1,v2⟩:=f4 _ _ p2 (by omega);obtain⟨w1,w2⟩:=g4 (g.BC.map up) [] (by rw[v2,List.append_nil]) (by rw[Aj];have:=E.Rq;rw[q1,Y]at this;omega);have hj:js.map (fun j=>w64 (j-1))=g.BC:=by
   rw[w1,List.map_map]
   conv=>rhs;rw[<-List.map_id g.BC]
   apply List.map_congr_left;intro y hy;have:=E.job y hy;show w64 (w64 (y+1)-1)=y;rw[Ah (n:=y+1) (by omega) (by omega),Ah (by omega) (by omega)];omega
  rw[hj,v1];cases g;dsimp only at *;rw[q1,Z,q3,Q,q5]
theorem AZW(Q:D4 R.1=true){ps:List AN}{rest:List Int}(hk:rest.length<=1048576)(B:ps.length<=40)
 (ha:∀g,Good g l->Hd g R.1 now turn/\g.AG=ps/\rest=tl3 g 0) :
 ∃r,dw l R (rest,(),R.1.Cb,R.1.Room,R.1.BA,R.1.CG,R.1.B1,R.1.Rest,R.1.Ca,R.1.Cx,now,turn,ps,[],[],[])=some r/\Red l r:=by
 have hrl:=CM Q;unfold dw;dsimp only;refine gx (n:=R.1.AW.length) (fun i (v:List Ab×List Int)=>((i:Int),v.2,(),R.1.Cb,R.1.Room,R.1.BA,R.1.CG,R.1.B1,R.1.Rest,R.1.Ca,R.1.Cx,now,turn,ps,v.1,[],[]))
  (fun i v=>v.1.length=i/\(∀c∈v.1,FJ c)/\v.2.length<=1048576/\∀g,Good g l->Hd g R.1 now turn/\g.AG=ps/\v.1=g.AH.take i/\v.2=tl3 g i)
  (Red l) (by omega) ?_ (v:=([],rest)) ⟨rfl,by simp,hk,fun g j=>by obtain⟨h1,h2,h3⟩:=ha g j;exact⟨h1,h2,by simp,h3⟩⟩
 rintro L i ⟨cs,q⟩ ⟨O,gf,I,J⟩ hi S;dsimp only at O gf I J S ⊢;unfold zV;dsimp only;rcases AZ i R.1.AW.length with h|h
 .have hD:R.1.AW.getD i 0=R.1.AW[i]:=by simp[List.getD,h]
  obtain⟨a,q',X,Y,Z,_,_,e4⟩:=SB (n:=1) I;obtain⟨f,rfl⟩:=AFO (Z (by omega));have H:KR 1 q=some ([f],q'):=X;obtain⟨qu,u1,u2,u3⟩:=iV (r:=R.1) (show R.1.AW.length<2 ^ 62 by omega) B (i:Int) now;obtain⟨pi,v1,v2,v3⟩:=km B (i:Int);have hlim:lim=268435456:=rfl;rw[B4 h,BK,BJ h];simp only[AB,H,show at? [f] 0=some f from rfl,u1,v1,sb (show pi.length<=1048576 by omega),ZK (show ps.length<2 ^ 58 by omega),ZO (show ps.length<2 ^ 58 by omega),Ce,Ki,Kj,Kk,Kl,J4,Km,Kn];rw[B8 (by rw[Li];omega),Bt h (by omega)];refine S (cs++[Ab.mk (BE.mk R.1.AW[i] f (IY ps i) (w64 (w64 (R.1.AW[i]-f)-IY ps i)) (I1 ps i)) qu (LB pi).1],q') ⟨by simp[O],?_,Y,fun g j=>?_⟩ h
  .intro x E;rcases List.mem_append.1 E with E|E
   .exact gf x E
   .rw[List.mem_singleton.1 E];exact⟨by dsimp only;omega,Zn _⟩
  .obtain⟨⟨p1,p2,p3⟩,p4,p5,G⟩:=J g j;have e:=PI j.1;have y:i<g.AH.length:=by rw[e.EU,p1];exact h
   obtain⟨w1,w2,w3,w4⟩:=e.cab i y;unfold tl3 at G;rw[DR y,List.map_cons]at G;obtain⟨x1,x2⟩:=e4 [fr g.AH[i]] (((g.AH.drop (i+1)).map fr)++tl4 g) (by rw[G];rfl) rfl;cases x1;refine⟨⟨p1,p2,p3⟩,p4,?_,x2⟩
   grind[List.take_add_one,i7]
 .obtain rfl:i=R.1.AW.length:=by omega
  rw[C0,BL,AV];refine AZT hl Q I (by omega) (by omega) gf fun g j=>?_
  obtain⟨p1,p4,p5,G⟩:=J g j;have e:=PI j.1;have hn:g.AH.length=R.1.AW.length:=by rw[e.EU,p1.1]
  refine⟨p1,p4,?_,?_⟩
  .rw[p5,BI (by omega)]
  .rw[G];unfold tl3;rw[List.drop_eq_nil_of_le (by omega)];rfl
theorem AZV(Z:D4 R.1=true){n:Int}{x:List Int×List Int}(hx:at? x.1 2=some n)(Q:0<=n)(hn:n<=40){rest:List Int}(hk:rest.length<=1048576)
 (ha:∀g,Good g l->Hd g R.1 now turn/\(g.AG.length:Int)=n/\rest=tl2 g 0) :
 ∃r,A3 (eA l R x) big (0,rest,(),R.1.Cb,R.1.Room,R.1.BA,R.1.CG,R.1.B1,R.1.Rest,R.1.Ca,R.1.Cx,now,turn,[],[],[],[])=some r/\Red l r:=by
 have hrl:=CM Z;obtain⟨m,rfl⟩:=As Q;refine gx (n:=m) (fun i (v:List AN×List Int)=>((i:Int),v.2,(),R.1.Cb,R.1.Room,R.1.BA,R.1.CG,R.1.B1,R.1.Rest,R.1.Ca,R.1.Cx,now,turn,v.1,[],[],[]))
  (fun i v=>v.1.length=i/\v.2.length<=1048576/\∀g,Good g l->Hd g R.1 now turn/\g.AG.length=m/\v.1=g.AG.take i/\v.2=tl2 g i)
  (Red l) (by omega) ?_ (v:=([],rest)) ⟨rfl,hk,fun g H=>by obtain⟨h1,h2,h3⟩:=ha g H;exact⟨h1,by omega,by simp,h3⟩⟩
 rintro L i ⟨ps,q⟩ ⟨X,O,Y⟩ hi ih;dsimp only at X O Y ih ⊢;unfold eA;dsimp only;rw[hx,AB];rcases AZ i m with h|h
 .obtain⟨xs,q',e1,e2,e3,_,_,e4⟩:=SB (n:=10) O;obtain⟨a0,c,a,a3,a4,e,j,y,B,E,rfl⟩:=ten (e3 (by omega));have J:KR 10 q=some ([a0,c,a,a3,a4,e,j,y,B,E],q'):=e1;have f0:at? [a0,c,a,a3,a4,e,j,y,B,E] 0=some a0:=rfl;have f1:at? [a0,c,a,a3,a4,e,j,y,B,E] 1=some c:=rfl;have f2:at? [a0,c,a,a3,a4,e,j,y,B,E] 2=some a:=rfl;have f3:at? [a0,c,a,a3,a4,e,j,y,B,E] 3=some a3:=rfl;have f4:at? [a0,c,a,a3,a4,e,j,y,B,E] 4=some a4:=rfl;have f5:at? [a0,c,a,a3,a4,e,j,y,B,E] 5=some e:=rfl;have f6:at? [a0,c,a,a3,a4,e,j,y,B,E] 6=some j:=rfl;have f7:at? [a0,c,a,a3,a4,e,j,y,B,E] 7=some y:=rfl;have f8:at? [a0,c,a,a3,a4,e,j,y,B,E] 8=some B:=rfl;have f9:at? [a0,c,a,a3,a4,e,j,y,B,E] 9=some E:=rfl;rw[B4 h,BK,J];simp only[f0,f1,f2,f3,f4,f5,f6,f7,f8,f9,AB];have hlim:lim=268435456:=rfl;rw[B8 (by rw[Li];omega),Bt h (by omega)];refine ih (ps++[⟨a0,c,w64 (a-1),a3,a4,e,j,y,B,E⟩],q') ⟨by simp[X],e2,fun g H=>?_⟩ h;obtain⟨p1,p2,p3,p4⟩:=Y g H;have G:i<g.AG.length:=by omega
  have I:=E6 ((PI H.1).par i G);have hs:=(CM I.1).1;have hf:=I.2.2.2.2.1;unfold tl2 at p4;rw[DR G,List.flatMap_cons,List.append_assoc]at p4;obtain⟨S,u2⟩:=e4 (MG g.AG[i]) _ p4 rfl;refine⟨p1,p2,?_,u2⟩;rw[List.take_add_one,List.getElem?_eq_getElem G,p3];dsimp only;congr 1;show [_]=[g.AG[i]];congr 1;unfold MG at S;simp only[CY,and_true]at S;obtain⟨q0,q1,q2,q3,q4,q5,q6,q7,q8,q9⟩:=S;have hfrom:w64 (a-1)=g.AG[i].Bi:=by
   rw[q2,Ah (n:=g.AG[i].Bi+1) (by omega) (by omega),Ah (by omega) (by omega)];omega
  rw[hfrom,q0,q1,q3,q4,q5,q6,q7,q8,q9]
 .obtain rfl:i=m:=by omega
  rw[C0,BL,AV];refine AZW hl Z O (by omega) fun g H=>?_
  grind[tl2]
end impl
theorem sS{l:List Int}(hl:l.length<=1048576):∃r,zU l=some r/\Red l r:=by
 unfold zU;obtain⟨a,I,a1,a2,a3,_,_,a4⟩:=SB (n:=1) hl;obtain⟨sz,rfl⟩:=AFO (a3 (by omega));have Q:KR 1 l=some ([sz],I):=a1;rw[Q,AB,show at? [sz] 0=some sz from rfl,AB,FD,AB,BB];have y:∀g,Good g l->sz=((KG g.AQ).length:Int)/\I=KG g.AQ++(g.Now::g.Az::(g.AG.length:Int)::tl2 g 0):=by
  intro g c;obtain⟨L,H⟩:=a4 [((KG g.AQ).length:Int)] _ (nP c) rfl;cases L;exact⟨rfl,H⟩
 have hbadE:∀(_:∀g,¬Good g l),∃r,Q8 l ([sz],I) sz true=some r/\Red l r:=by
  intro X;unfold Q8;rw[BK];exact⟨_,rfl,Red.bad X⟩
 cases J:inB sz 9 12 with
 |false=>
  rw[BL,AV];refine hbadE fun g c=>?_
  have h1:=PG g.AQ;have h2:=(PI c.1).Dw;have:inB sz 9 12=true:=by rw[CQ,(y g c).1];omega
  rw[J]at this;cases this
 |true=>
  rw[CQ]at J;rw[BK,AV];obtain⟨s,rfl⟩:=As (show 0<=sz by omega);dsimp only;by_cases B:(s:Int)>(I.length:Int)
  .rw[show decide ((s:Int)>(I.length:Int))=true from decide_eq_true B];refine hbadE fun g c=>?_
   obtain⟨L,H⟩:=y g c;rw[H,AP]at B;omega
  .rw[show decide ((s:Int)>(I.length:Int))=false from decide_eq_false B];unfold Q8;rw[BL];obtain⟨xs,r2,c1,c2,_,c3,_,c4⟩:=SB (n:=s) a2;have hxl:=c3 (by omega);rw[c1,AB];dsimp only;rw[sa (by omega),AB,BB];have e:∀g,Good g l->xs=KG g.AQ/\r2=g.Now::g.Az::(g.AG.length:Int)::tl2 g 0:=by
    intro g c;obtain⟨L,H⟩:=y g c;exact c4 _ _ H (by omega)
   cases hR:(KI xs).2 with
   |false=>
    rw[BL];refine⟨_,rfl,Red.bad fun g c=>?_⟩;rw[(e g c).1,MU (PI c.1).rules]at hR;cases hR
   |true=>
    rw[BK];have Y:=(jj hR).1;obtain⟨ys,Z,d1,d2,d3,_,_,d4⟩:=SB (n:=3) c2;obtain⟨E,G,j,rfl⟩:=three (d3 (by omega));have S:KR 3 r2=some ([E,G,j],Z):=d1;have q:∀g,Good g l->E=g.Now/\G=g.Az/\j=(g.AG.length:Int)/\Z=tl2 g 0:=by
     intro g c;obtain⟨L,H⟩:=e g c;obtain⟨O,v2⟩:=d4 [g.Now,g.Az,(g.AG.length:Int)] (tl2 g 0) (by rw[H];rfl) rfl;simp only[CY,and_true]at O;exact⟨O.1,O.2.1,O.2.2,v2⟩
    rw[S,AB];dsimp only;rw[show at? [E,G,j] 0=some E from rfl,AB,show at? [E,G,j] 1=some G from rfl,AB,show at? [E,G,j] 2=some j from rfl,AB,FD,AB,BB];cases h:inB j 0 40 with
    |false=>
     rw[BL];refine⟨_,rfl,Red.bad fun g c=>?_⟩;have h2:=(PI c.1).few;have:inB j 0 40=true:=by rw[CQ,(q g c).2.2.1];omega
     rw[h]at this;cases this
    |true=>
     rw[BK];rw[CQ]at h;refine AZV hl Y (x:=([E,G,j],Z)) rfl h.1 h.2 d2 fun g c=>?_
     obtain⟨q1,q2,q3,q4⟩:=q g c;refine⟨⟨?_,q1.symm,q2.symm⟩,q3.symm,q4⟩;rw[(e g c).1,MU (PI c.1).rules]
theorem oh{l:List Int}(hl:l.length<=1048576):∃r,za l=some r/\zU l=some r/\Red l r:=by
 obtain⟨r,c,a⟩:=uP hl;obtain⟨r',e,g⟩:=sS hl;exact⟨r,c,by rw[e,g.one a],a⟩
end Lv.P
namespace Lv.P
open Lv Go
theorem K7:B0 Lr:=by constructor<;>simp[Lr,vA]
theorem Red.fit{l:List Int}{r:AE×Bool}(h:Red l r):B0 r.1:=by
 cases e:r.2 with
 |true=>exact(h.1 e).1.2.1|false=>rw[(h.2 e).1];exact K7
theorem AXh:∀{l:List Int},(∀n∈l,okN n)->l.length<=(pL l).length
 | [],_=>by simp|n::l,h=>by
  have c:=AXh fun m a=>h m (List.mem_cons_of_mem _ a)
  have e:=tj (h n (List.mem_cons_self ..));have:pL (n::l)=pN n++pL l:=rfl;rw[this,AP,AI];omega
structure AVK(s:List UInt8)(r:AE×Int×Bool):Prop where
 yes:r.2.2=true->D8 r.1=true/\B0 r.1/\MH r.1 r.2.1=s
 no:r.2.2=false->r=(Lr,0,false)
 all:∀h q,D8 h=true->B0 h->rdL (s.length+1) (s.drop 4)=some (q::HY h)->MH h q=s->5<=s.length->r=(h,q,true)
theorem AVK.fit{s:List UInt8}{r:AE×Int×Bool}(h:AVK s r):B0 r.1:=by
 cases e:r.2.2 with
 |true=>exact(h.yes e).2.1|false=>rw[h.no e];exact K7
theorem AWs{f:Nat}{s:List UInt8}{l:List Int}(h:rdL f s=some l):l.length<=s.length/\(s≠[]->l≠[]):=by
 obtain⟨a,c⟩:=Wa f s l h;refine⟨by rw[a];exact AXh c,fun e hl=>?_⟩;rw[hl]at a;exact e a
theorem AB8{f g:Nat}{s:List UInt8}{l:List Int}(h:rdL f s=some l)(e:s.length<g):rdL g s=some l:=by
 obtain⟨a,c⟩:=Wa f s l h
 grind[AFZ]
theorem S9{s:List UInt8}(hs:s.length<=1048576):∃r,zd s=some r/\AHj s=some r/\AVK s r:=by
 unfold zd AHj VU eL;by_cases h5:s.length<5
 .rw[BQ,BQ,AX (by omega),AX (by omega),AV,BK];exact⟨_,rfl,rfl,⟨fun h=>(by cases h),fun _=>rfl,fun _ _ _ _ _ _ h=>absurd h (by omega)⟩⟩
 have Q:(0:Int)<=4/\(4:Int)<=(s.length:Int):=by omega
 have hd:List.drop (Int.toNat 4) s=s.drop 4:=rfl;have y:(s.drop 4).length<=1048576:=by rw[BY];omega
 rw[BQ,BQ,AU (by omega),AU (by omega),AV,B8 Q,B8 Q,hd,WA y,Ws y,AB,AB];have zz:AVK s (Lr,0,false)\/True:=.inr trivial;cases e:rdL ((s.drop 4).length+1) (s.drop 4) with
 |none=>
  refine⟨(Lr,0,false),?_,rfl,⟨fun h=>(by cases h),fun _=>rfl,fun h q _ _ c _ _=>?_⟩⟩
  .rw[BQ];split<;>rfl
  .rw[AB8 c (by omega)]at e;cases e
 |some l=>
  obtain⟨l1,l2⟩:=AWs e;have E:=l2 (by rw[<-List.length_pos_iff,BY];omega);obtain⟨q,t,rfl⟩:∃q t,l=q::t:=by
   cases l with
   |nil=>exact(E rfl).elim|cons q t=>exact⟨q,t,rfl⟩
  have H:t.length<=1048576:=by simp only[AI]at l1;omega
  have g1:(0:Int)<=1/\(1:Int)<=((q::t).length:Int):=by simp only[AI];omega
  have G:List.take ((q::t).length-Int.toNat 1) (List.drop (Int.toNat 1) (q::t))=t:=by
   show List.take ((q::t).length-1) t=t;exact BI (by simp only[AI];omega)
  have a0:at? (q::t) 0=some q:=rfl;obtain⟨r,i1,i2,I⟩:=oh H;have X:=I.fit;have a:∀h p,rdL (s.length+1) (s.drop 4)=some (p::HY h)->p=q/\HY h=t:=by
   intro h p c;rw[AB8 c (by omega)]at e;cases e;exact⟨rfl,rfl⟩
  unfold eJ;simp only[AFY,BB,BK,B8 g1,G,i1,i2,AB,a0,LA X q,N8 X q];cases Y:r.2 with
  |false=>
   simp only[BL,AV,BK];refine⟨(Lr,0,false),?_,rfl,⟨fun h=>(by cases h),fun _=>rfl,fun h p g j c _ _=>?_⟩⟩
   .rw[BQ];split<;>rfl
   .exact((I.2 Y).2 h ⟨g,j,(a h p c).2⟩).elim
  |true=>
   simp only[BK,AV];obtain⟨⟨Z,c2,c3⟩,O⟩:=I.1 Y;by_cases hT:MH r.1 q=s
   .have B:=Mi r.1 q;rw[hT]at B;rw[show (MH r.1 q != s)=false from by simp[hT],BL,BQ,AU (by omega)];refine⟨_,rfl,rfl,⟨fun _=>⟨Z,c2,hT⟩,fun h=>(by cases h),fun h p g j c _ _=>?_⟩⟩;obtain⟨J,L⟩:=a h p c;rw[J,O h ⟨g,j,L⟩]
   .rw[show (MH r.1 q != s)=true from by simp[hT],BK];refine⟨(Lr,0,false),?_,rfl,⟨fun h=>(by cases h),fun _=>rfl,fun h p g j c S _=>?_⟩⟩
    .rw[BQ];split<;>rfl
    .obtain⟨J,L⟩:=a h p c;rw[J,O h ⟨g,j,L⟩]at S;exact(hT S).elim
def Gx(s:Bk)(k:Int):Bl:=if (k.tmod 2==0)=true then s.EZ else s.Odd
theorem Nr(s:Bk)(k:Int):zc s k=some (Gx s k):=by unfold zc Gx br;split<;>rfl
theorem ZN(s:Bk)(k:Int):ze s k=some (Gx s k):=by unfold ze Gx br;split<;>rfl
theorem I9(s:Bk)(k:Int):∃r,RB s k=some r/\RC s k=some r/\B0 r.1:=by
 unfold RB RC;rw[Nr,ZN,AB,AB,HZ,HX,AB,AB,BB,BB];cases h:H9 (Gx s k) with
 |false=>exact⟨_,rfl,rfl,K7⟩|true=>
  unfold H9 at h;rw[Bool.and_eq_true,decide_eq_true_iff,CQ]at h;obtain⟨r,a,c,e⟩:=S9 (s:=List.take (Gx s k).Safe.toNat (Gx s k).Data) (by rw[List.length_take];omega);rw[BK,BK,B8 h.2,B8 h.2,a,c,AB];exact⟨r,rfl,rfl,e.fit⟩
end Lv.P
