/- Plain laws about what the program computes. -/
import Derived.Test.YtnjoipcemhflkaaGreatPFc
set_option linter.unusedVariables false
set_option linter.unusedSimpArgs false
set_option linter.unusedSectionVars false
open Int renaming eq_ofNat_of_zero_le->AZ
open List.cons renaming injEq->CL
open List renaming length_append->AN,length_cons->AI,length_drop->BD,length_filterMap_le->Bh,length_map->Ah,take_of_length_le->BE
open Nat renaming lt_or_ge->AV
namespace Lv.P
open Lv Go
theorem gn{r:Aa}(a:r.AW.length<2 ^ 62){l:List AQ}(hl:l.length<=40)(c now:Int):∃q,ZC r l c now=some q/\q.length<=40/\(C2 l c<=19->q=DM r l c now):=by
 by_cases e:C2 l c<=19
 .refine⟨_,Qs a (by omega) e now,?_,fun _=>rfl⟩;unfold DM;rw[HF];have:=Bh (Kx r c now) l;omega
 .have hlim:lim=268435456:=rfl;unfold ZC;rw[collect (l:=l) (Kx r c now) Rv (by omega) ?_ ?_]
  .unfold Rv;have:=Bh (Kx r c now) l;obtain⟨x,E,g⟩:=jV (l:=l.filterMap (Kx r c now)) (by omega)
   grind[AB]
  .intro L i h v B;unfold Rx Vb Vc Kx;dsimp only;rw[Bw h,BP,A9 h,AB,M7 a,AB,AT,AT,Bt (by rw[KD];omega),AT,AT];cases j:(EL r l[i] now).2<;>cases y:l[i].AX==c<;>simp
  .intro L v;unfold Rx;dsimp only;rw[Cc,BS,AT]
theorem j6{l:List AQ}(hl:l.length<=40)(c:Int):∃q,bz l c=some q/\q.length<=40/\(C2 l c<=19->q=FO l c):=by
 by_cases a:C2 l c<=19
 .refine⟨_,ZY (by omega) a,?_,fun _=>rfl⟩;unfold FO;rw[HF];have:=Bh (MH c) l;omega
 .have hlim:lim=268435456:=rfl;unfold bz;rw[collect (l:=l) (MH c) R3 (by omega) ?_ ?_]
  .unfold R3;have:=Bh (MH c) l;obtain⟨x,B,e⟩:=tM (l:=l.filterMap (MH c)) (by omega)
   grind[AB]
  .intro L i h v y;unfold R4 Vi Vj MH;dsimp only;rw[Bw h,BP,A9 h,AB,AT,AT,Bt (by rw[KD];omega),AT,AT];cases g:l[i].State==2<;>cases j:l[i].AX==c<;>simp
  .intro L v;unfold R4;dsimp only;rw[Cc,BS,AT]
theorem S9{n:Nat}{r:List Int}(e:r.length<=1048576):∃xs a,CO (n:Int) r=some (xs,a)/\a.length<=1048576/\(n<=10->xs.length=n)/\(n<=r.length->xs.length=n)/\xs.length<=n /\
 ∀ys c,r=ys++c->ys.length=n->xs=ys/\a=c:=by
 grind[CO,JE,BJ,AT,lim,Bt,Int.toNat_natCast]
theorem ACk{α:Type}{l:List α}(h:l.length=1):∃a,l=[a]:=by
 match l,h with
 | [a],_=>exact⟨a,rfl⟩
theorem three{α:Type}{l:List α}(h:l.length=3):∃a b c,l=[a,b,c]:=by
 match l,h with
 | [a,b,c],_=>exact⟨a,b,c,rfl⟩
section impl
variable{l:List Int}(hl:l.length<=1048576){R:Aa×Bool}{now turn:Int}
include hl
theorem AUF{h:AE}(hR:h.AR=R.1)(c:Bf h)(e:∀g,Good g l->g=h) :
 ∃r,GR l R ((),R.1.CK,R.1.Room,R.1.A5,R.1.CD,R.1.Bq,R.1.Rest,R.1.CP,R.1.Cr,h.Now,h.As,h.AG,h.AH,h.Az,h.Ay)=some r/\Red l r:=by
 unfold GR KR;dsimp only;rw[mN hR,GW c,AB,BN];cases hB:Dr h with
 |false=>
  rw[BS,AT,BP];exact⟨_,rfl,Red.bad fun g a=>by rw[e g a]at a;rw[a.1]at hB;cases hB⟩
 |true=>
  have y:=Td c hB;rw[BP,AHM c hB,AB,yo (by omega),AB,AT,BN];cases j:HQ (·==·) (HO h) l with
  |true=>
   rw[BP];exact⟨_,rfl,fun _=>⟨⟨hB,c,QD.1 j⟩,fun g a=>e g a⟩,fun q=>by cases q⟩
  |false=>
   rw[BS];refine⟨_,rfl,Red.bad fun g a=>?_⟩;rw[e g a]at a;rw[QD.2 a.2.2]at j;cases j
theorem AUI{x:List Int×List Int}{ps:List AQ}{cs:List Ad}{td:List Int}(c:x.1.length<=1048576) :
 A7 (KT l R x) big (0,(),R.1.CK,R.1.Room,R.1.A5,R.1.CD,R.1.Bq,R.1.Rest,R.1.CP,R.1.Cr,now,turn,ps,cs,td,[]) =
  GR l R ((),R.1.CK,R.1.Room,R.1.A5,R.1.CD,R.1.Bq,R.1.Rest,R.1.CP,R.1.Cr,now,turn,ps,cs,td,x.1.map (fun j=>w64 (j-1))):=by
 refine DE (n:=x.1.length) (fun i (v:List Int)=>((i:Int),(),R.1.CK,R.1.Room,R.1.A5,R.1.CD,R.1.Bq,R.1.Rest,R.1.CP,R.1.Cr,now,turn,ps,cs,td,v)) (fun i v=>v=(x.1.take i).map (fun j=>w64 (j-1)))
  (fun _ _=>GR l R ((),R.1.CK,R.1.Room,R.1.A5,R.1.CD,R.1.Bq,R.1.Rest,R.1.CP,R.1.Cr,now,turn,ps,cs,td,x.1.map (fun j=>w64 (j-1)))) (by omega) ?_ (v:=[]) (by simp)
 intro L i v a hi e;unfold KT;dsimp only;rcases AV i x.1.length with h|h
 .grind[lim,BP,A9,AB,BX,Bt,List.take_add_one]
 grind[BS,AT]
theorem AUE(hr:Dd R.1=true){ps:List AQ}{cs:List Ad}{rest:List Int}(hk:rest.length<=1048576)(L:ps.length<=1048576)(J:cs.length<=1048576)(I:∀c∈cs,EU c)
 (X:∀g,Good g l->Hd g R.1 now turn/\g.AG=ps/\g.AH=cs/\rest=tl4 g) :
 ∃r,KQ l R (rest,(),R.1.CK,R.1.Room,R.1.A5,R.1.CD,R.1.Bq,R.1.Rest,R.1.CP,R.1.Cr,now,turn,ps,cs,[],[])=some r/\Red l r:=by
 have O:=B2 hr;have hcrew:=O.2.2.2.2.2.2.2.2.2;unfold KQ;dsimp only;obtain⟨a,r1,e1,e2,e3,_,_,e4⟩:=S9 (n:=1) hk;obtain⟨nt,rfl⟩:=ACk (e3 (by omega));have G:CO 1 rest=some ([nt],r1):=e1;rw[G,AB,show at? [nt] 0=some nt from rfl,AB,FE,AB,BN];have B:∀g,Good g l->nt=(g.Az.length:Int)/\r1=g.Az++g.Ay.map up:=by
  intro g e;obtain⟨q1,Z,q3,Q⟩:=X g e;obtain⟨u1,u2⟩:=e4 [(g.Az.length:Int)] (g.Az++g.Ay.map up) (by rw[Q];rfl) rfl;cases u1;exact⟨rfl,u2⟩
 cases q:inB nt 0 4 with
 |false=>
  rw[BS];refine⟨_,rfl,Red.bad fun g e=>?_⟩;have:=(QC e.1).todo;have:=(QC e.1).Df;have:inB nt 0 4=true:=by rw[B8,(B g e).1];omega
  rw[q]at this;cases this
 |true=>
  rw[BP];rw[B8]at q;obtain⟨n,rfl⟩:=AZ q.1;obtain⟨td,r2,f1,f2,S,_,_,f4⟩:=S9 (n:=n) e2;rw[f1,AB,VX (by have:=S (by omega);dsimp only;omega),AB];obtain⟨c,Y⟩:=AZ (show 0<=R.1.Cr by omega);obtain⟨js,r3,g1,g2,g3,_,_,g4⟩:=S9 (n:=c) f2;have H:CO R.1.Cr r2=some (js,r3):=by rw[Y];exact g1
  have hjl:=g3 (by omega);have htl:=S (by omega);rw[H,AB];rw[AUI hl (by dsimp only;omega)];refine AUF hl (h:=⟨R.1,now,turn,ps,cs,td,js.map (fun j=>w64 (j-1))⟩) rfl ⟨by dsimp only;omega,L,J,I,by dsimp only;omega,by dsimp only;rw[Ah];omega⟩ ?_;intro g e;obtain⟨⟨q1,Z,q3⟩,Q,q5,q6⟩:=X g e;obtain⟨p1,p2⟩:=B g e;have E:=QC e.1;obtain⟨v1,v2⟩:=f4 _ _ p2 (by omega);obtain⟨w1,w2⟩:=g4 (g.Ay.map up) [] (by rw[v2,List.append_nil]) (by rw[Ah];have:=E.P1;rw[q1,Y]at this;omega);have hj:js.map (fun j=>w64 (j-1))=g.Ay:=by
   rw[w1,List.map_map]
   conv=>rhs;rw[<-List.map_id g.Ay]
   apply List.map_congr_left;intro y hy;have:=E.job y hy;show w64 (w64 (y+1)-1)=y;rw[A4 (n:=y+1) (by omega) (by omega),A4 (by omega) (by omega)];omega
  rw[hj,v1];cases g;dsimp only at *;rw[q1,Z,q3,Q,q5]
theorem AUH(Q:Dd R.1=true){ps:List AQ}{rest:List Int}(hk:rest.length<=1048576)(B:ps.length<=40)
 (ha:∀g,Good g l->Hd g R.1 now turn/\g.AG=ps/\rest=tl3 g 0) :
 ∃r,KP l R (rest,(),R.1.CK,R.1.Room,R.1.A5,R.1.CD,R.1.Bq,R.1.Rest,R.1.CP,R.1.Cr,now,turn,ps,[],[],[])=some r/\Red l r:=by
 have hrl:=B2 Q;unfold KP;dsimp only;refine JB (n:=R.1.AW.length) (fun i (v:List Ad×List Int)=>((i:Int),v.2,(),R.1.CK,R.1.Room,R.1.A5,R.1.CD,R.1.Bq,R.1.Rest,R.1.CP,R.1.Cr,now,turn,ps,v.1,[],[]))
  (fun i v=>v.1.length=i/\(∀c∈v.1,EU c)/\v.2.length<=1048576/\∀g,Good g l->Hd g R.1 now turn/\g.AG=ps/\v.1=g.AH.take i/\v.2=tl3 g i)
  (Red l) (by omega) ?_ (v:=([],rest)) ⟨rfl,by simp,hk,fun g j=>by obtain⟨h1,h2,h3⟩:=ha g j;exact⟨h1,h2,by simp,h3⟩⟩
 rintro L i ⟨cs,q⟩ ⟨O,gf,I,J⟩ hi S;dsimp only at O gf I J S ⊢;unfold OS;dsimp only;rcases AV i R.1.AW.length with h|h
 .have hD:R.1.AW.getD i 0=R.1.AW[i]:=by simp[List.getD,h]
  obtain⟨a,q',X,Y,Z,_,_,e4⟩:=S9 (n:=1) I;obtain⟨f,rfl⟩:=ACk (Z (by omega));have H:CO 1 q=some ([f],q'):=X;obtain⟨qu,u1,u2,u3⟩:=gn (r:=R.1) (show R.1.AW.length<2 ^ 62 by omega) B (i:Int) now;obtain⟨pi,v1,v2,v3⟩:=j6 B (i:Int);have hlim:lim=268435456:=rfl;rw[Bw h,BP,A9 h];simp only[AB,H,show at? [f] 0=some f from rfl,u1,v1,rR (show pi.length<=1048576 by omega),ZX (show ps.length<2 ^ 58 by omega),Zb (show ps.length<2 ^ 58 by omega),CQ,Ic,Ie,Ig,Ih,H5,Ii,Ij];rw[Bt (by rw[KD];omega),BX h (by omega)];refine S (cs++[Ad.mk (A3.mk R.1.AW[i] f (Im ps i) (w64 (w64 (R.1.AW[i]-f)-Im ps i)) (JC ps i)) qu (Lj pi).1],q') ⟨by simp[O],?_,Y,fun g j=>?_⟩ h
  .intro x E;rcases List.mem_append.1 E with E|E
   .exact gf x E
   .rw[List.mem_singleton.1 E];exact⟨by dsimp only;omega,Zw _⟩
  .obtain⟨⟨p1,p2,p3⟩,p4,p5,G⟩:=J g j;have e:=QC j.1;have y:i<g.AH.length:=by rw[e.De,p1];exact h
   obtain⟨w1,w2,w3,w4⟩:=e.cab i y;unfold tl3 at G;rw[Dw y,List.map_cons]at G;obtain⟨x1,x2⟩:=e4 [fr g.AH[i]] (((g.AH.drop (i+1)).map fr)++tl4 g) (by rw[G];rfl) rfl;cases x1;refine⟨⟨p1,p2,p3⟩,p4,?_,x2⟩
   grind[List.take_add_one,iK]
 .obtain rfl:i=R.1.AW.length:=by omega
  rw[Cc,BS,AT];refine AUE hl Q I (by omega) (by omega) gf fun g j=>?_
  obtain⟨p1,p4,p5,G⟩:=J g j;have e:=QC j.1;have hn:g.AH.length=R.1.AW.length:=by rw[e.De,p1.1]
  refine⟨p1,p4,?_,?_⟩
  .rw[p5,BE (by omega)]
  .rw[G];unfold tl3;rw[List.drop_eq_nil_of_le (by omega)];rfl
theorem AUG(Z:Dd R.1=true){n:Int}{x:List Int×List Int}(hx:at? x.1 2=some n)(Q:0<=n)(hn:n<=40){rest:List Int}(hk:rest.length<=1048576)
 (ha:∀g,Good g l->Hd g R.1 now turn/\(g.AG.length:Int)=n/\rest=tl2 g 0) :
 ∃r,A7 (KS l R x) big (0,rest,(),R.1.CK,R.1.Room,R.1.A5,R.1.CD,R.1.Bq,R.1.Rest,R.1.CP,R.1.Cr,now,turn,[],[],[],[])=some r/\Red l r:=by
 have hrl:=B2 Z;obtain⟨m,rfl⟩:=AZ Q;refine JB (n:=m) (fun i (v:List AQ×List Int)=>((i:Int),v.2,(),R.1.CK,R.1.Room,R.1.A5,R.1.CD,R.1.Bq,R.1.Rest,R.1.CP,R.1.Cr,now,turn,v.1,[],[],[]))
  (fun i v=>v.1.length=i/\v.2.length<=1048576/\∀g,Good g l->Hd g R.1 now turn/\g.AG.length=m/\v.1=g.AG.take i/\v.2=tl2 g i)
  (Red l) (by omega) ?_ (v:=([],rest)) ⟨rfl,hk,fun g H=>by obtain⟨h1,h2,h3⟩:=ha g H;exact⟨h1,by omega,by simp,h3⟩⟩
 rintro L i ⟨ps,q⟩ ⟨X,O,Y⟩ hi ih;dsimp only at X O Y ih ⊢;unfold KS;dsimp only;rw[hx,AB];rcases AV i m with h|h
 .obtain⟨xs,q',e1,e2,e3,_,_,e4⟩:=S9 (n:=10) O;obtain⟨a0,c,a,a3,a4,e,j,y,B,E,rfl⟩:=ten (e3 (by omega));have J:CO 10 q=some ([a0,c,a,a3,a4,e,j,y,B,E],q'):=e1;have f0:at? [a0,c,a,a3,a4,e,j,y,B,E] 0=some a0:=rfl;have f1:at? [a0,c,a,a3,a4,e,j,y,B,E] 1=some c:=rfl;have f2:at? [a0,c,a,a3,a4,e,j,y,B,E] 2=some a:=rfl;have f3:at? [a0,c,a,a3,a4,e,j,y,B,E] 3=some a3:=rfl;have f4:at? [a0,c,a,a3,a4,e,j,y,B,E] 4=some a4:=rfl;have f5:at? [a0,c,a,a3,a4,e,j,y,B,E] 5=some e:=rfl;have f6:at? [a0,c,a,a3,a4,e,j,y,B,E] 6=some j:=rfl;have f7:at? [a0,c,a,a3,a4,e,j,y,B,E] 7=some y:=rfl;have f8:at? [a0,c,a,a3,a4,e,j,y,B,E] 8=some B:=rfl;have f9:at? [a0,c,a,a3,a4,e,j,y,B,E] 9=some E:=rfl;rw[Bw h,BP,J];simp only[f0,f1,f2,f3,f4,f5,f6,f7,f8,f9,AB];have hlim:lim=268435456:=rfl;rw[Bt (by rw[KD];omega),BX h (by omega)];refine ih (ps++[⟨a0,c,w64 (a-1),a3,a4,e,j,y,B,E⟩],q') ⟨by simp[X],e2,fun g H=>?_⟩ h;obtain⟨p1,p2,p3,p4⟩:=Y g H;have G:i<g.AG.length:=by omega
  have I:=Ed ((QC H.1).par i G);have hs:=(B2 I.1).1;have hf:=I.2.2.2.2.1;unfold tl2 at p4;rw[Dw G,List.flatMap_cons,List.append_assoc]at p4;obtain⟨S,u2⟩:=e4 (My g.AG[i]) _ p4 rfl;refine⟨p1,p2,?_,u2⟩;rw[List.take_add_one,List.getElem?_eq_getElem G,p3];dsimp only;congr 1;show [_]=[g.AG[i]];congr 1;unfold My at S;simp only[CL,and_true]at S;obtain⟨q0,q1,q2,q3,q4,q5,q6,q7,q8,q9⟩:=S;have hfrom:w64 (a-1)=g.AG[i].BY:=by
   rw[q2,A4 (n:=g.AG[i].BY+1) (by omega) (by omega),A4 (by omega) (by omega)];omega
  rw[hfrom,q0,q1,q3,q4,q5,q6,q7,q8,q9]
 .obtain rfl:i=m:=by omega
  rw[Cc,BS,AT];refine AUH hl Z O (by omega) fun g H=>?_
  grind[tl2]
end impl
theorem rJ{l:List Int}(hl:l.length<=1048576):∃r,KO l=some r/\Red l r:=by
 unfold KO;obtain⟨a,I,a1,a2,a3,_,_,a4⟩:=S9 (n:=1) hl;obtain⟨sz,rfl⟩:=ACk (a3 (by omega));have Q:CO 1 l=some ([sz],I):=a1;rw[Q,AB,show at? [sz] 0=some sz from rfl,AB,FE,AB,BN];have y:∀g,Good g l->sz=((Kn g.AR).length:Int)/\I=Kn g.AR++(g.Now::g.As::(g.AG.length:Int)::tl2 g 0):=by
  intro g c;obtain⟨L,H⟩:=a4 [((Kn g.AR).length:Int)] _ (mL c) rfl;cases L;exact⟨rfl,H⟩
 have hbadE:∀(_:∀g,¬Good g l),∃r,GQ l ([sz],I) sz true=some r/\Red l r:=by
  intro X;unfold GQ;rw[BP];exact⟨_,rfl,Red.bad X⟩
 cases J:inB sz 9 12 with
 |false=>
  rw[BS,AT];refine hbadE fun g c=>?_
  have h1:=QB g.AR;have h2:=(QC c.1).Df;have:inB sz 9 12=true:=by rw[B8,(y g c).1];omega
  rw[J]at this;cases this
 |true=>
  rw[B8]at J;rw[BP,AT];obtain⟨s,rfl⟩:=AZ (show 0<=sz by omega);dsimp only;by_cases B:(s:Int)>(I.length:Int)
  .rw[show decide ((s:Int)>(I.length:Int))=true from decide_eq_true B];refine hbadE fun g c=>?_
   obtain⟨L,H⟩:=y g c;rw[H,AN]at B;omega
  .rw[show decide ((s:Int)>(I.length:Int))=false from decide_eq_false B];unfold GQ;rw[BS];obtain⟨xs,r2,c1,c2,_,c3,_,c4⟩:=S9 (n:=s) a2;have hxl:=c3 (by omega);rw[c1,AB];dsimp only;rw[rP (by omega),AB,BN];have e:∀g,Good g l->xs=Kn g.AR/\r2=g.Now::g.As::(g.AG.length:Int)::tl2 g 0:=by
    intro g c;obtain⟨L,H⟩:=y g c;exact c4 _ _ H (by omega)
   cases hR:(Kq xs).2 with
   |false=>
    rw[BS];refine⟨_,rfl,Red.bad fun g c=>?_⟩;rw[(e g c).1,NC (QC c.1).rules]at hR;cases hR
   |true=>
    rw[BP];have Y:=(jC hR).1;obtain⟨ys,Z,d1,d2,d3,_,_,d4⟩:=S9 (n:=3) c2;obtain⟨E,G,j,rfl⟩:=three (d3 (by omega));have S:CO 3 r2=some ([E,G,j],Z):=d1;have q:∀g,Good g l->E=g.Now/\G=g.As/\j=(g.AG.length:Int)/\Z=tl2 g 0:=by
     intro g c;obtain⟨L,H⟩:=e g c;obtain⟨O,v2⟩:=d4 [g.Now,g.As,(g.AG.length:Int)] (tl2 g 0) (by rw[H];rfl) rfl;simp only[CL,and_true]at O;exact⟨O.1,O.2.1,O.2.2,v2⟩
    rw[S,AB];dsimp only;rw[show at? [E,G,j] 0=some E from rfl,AB,show at? [E,G,j] 1=some G from rfl,AB,show at? [E,G,j] 2=some j from rfl,AB,FE,AB,BN];cases h:inB j 0 40 with
    |false=>
     rw[BS];refine⟨_,rfl,Red.bad fun g c=>?_⟩;have h2:=(QC c.1).few;have:inB j 0 40=true:=by rw[B8,(q g c).2.2.1];omega
     rw[h]at this;cases this
    |true=>
     rw[BP];rw[B8]at h;refine AUG hl Y (x:=([E,G,j],Z)) rfl h.1 h.2 d2 fun g c=>?_
     obtain⟨q1,q2,q3,q4⟩:=q g c;refine⟨⟨?_,q1.symm,q2.symm⟩,q3.symm,q4⟩;rw[(e g c).1,NC (QC c.1).rules]
theorem na{l:List Int}(hl:l.length<=1048576):∃r,xE l=some r/\KO l=some r/\Red l r:=by
 obtain⟨r,c,a⟩:=s7 hl;obtain⟨h,e,g⟩:=rJ hl;exact⟨r,c,by rw[e,g.one a],a⟩
end Lv.P
namespace Lv.P
open Lv Go
theorem VK:Bf RR:=by constructor<;>simp[RR,th]
theorem Red.fit{l:List Int}{r:AE×Bool}(h:Red l r):Bf r.1:=by
 cases e:r.2 with
 |true=>exact(h.1 e).1.2.1|false=>rw[(h.2 e).1];exact VK
theorem ASW:∀{l:List Int},(∀n∈l,okN n)->l.length<=(pL l).length
 | [],_=>by simp|n::l,h=>by
  have c:=ASW fun m a=>h m (List.mem_cons_of_mem _ a)
  have e:=AOO (h n (List.mem_cons_self ..));have:pL (n::l)=pN n++pL l:=rfl;rw[this,AN,AI];omega
structure AQO(s:List UInt8)(r:AE×Int×Bool):Prop where
 yes:r.2.2=true->Dr r.1=true/\Bf r.1/\On r.1 r.2.1=s
 no:r.2.2=false->r=(RR,0,false)
 all:∀h q,Dr h=true->Bf h->rdL (s.length+1) (s.drop 4)=some (q::HO h)->On h q=s->5<=s.length->r=(h,q,true)
theorem AQO.fit{s:List UInt8}{r:AE×Int×Bool}(h:AQO s r):Bf r.1:=by
 cases e:r.2.2 with
 |true=>exact(h.yes e).2.1|false=>rw[h.no e];exact VK
theorem ARj{f:Nat}{s:List UInt8}{l:List Int}(h:rdL f s=some l):l.length<=s.length/\(s≠[]->l≠[]):=by
 obtain⟨a,c⟩:=sX f s l h;refine⟨by rw[a];exact ASW c,fun e hl=>?_⟩;rw[hl]at a;exact e a
theorem zc{f g:Nat}{s:List UInt8}{l:List Int}(h:rdL f s=some l)(e:s.length<g):rdL g s=some l:=by
 obtain⟨a,c⟩:=sX f s l h
 grind[APb]
theorem jq{s:List UInt8}(hs:s.length<=1048576):∃r,AES s=some r/\MT s=some r/\AQO s r:=by
 unfold AES MT du Jo;by_cases h5:s.length<5
 .rw[BJ,BJ,if_pos (by omega),if_pos (by omega),AT,BP];exact⟨_,rfl,rfl,⟨fun h=>(by cases h),fun _=>rfl,fun _ _ _ _ _ _ h=>absurd h (by omega)⟩⟩
 have Q:(0:Int)<=4/\(4:Int)<=(s.length:Int):=by omega
 have hd:List.drop (Int.toNat 4) s=s.drop 4:=rfl;have y:(s.drop 4).length<=1048576:=by rw[BD];omega
 rw[BJ,BJ,if_neg (by omega),if_neg (by omega),AT,Bt Q,Bt Q,hd,rS y,tK y,AB,AB];have zz:AQO s (RR,0,false)\/True:=.inr trivial;cases e:rdL ((s.drop 4).length+1) (s.drop 4) with
 |none=>
  refine⟨(RR,0,false),?_,rfl,⟨fun h=>(by cases h),fun _=>rfl,fun h q _ _ c _ _=>?_⟩⟩
  .rw[BJ];split<;>rfl
  .rw[zc c (by omega)]at e;cases e
 |some l=>
  obtain⟨l1,l2⟩:=ARj e;have E:=l2 (by rw[<-List.length_pos_iff,BD];omega);obtain⟨q,t,rfl⟩:∃q t,l=q::t:=by
   cases l with
   |nil=>exact(E rfl).elim|cons q t=>exact⟨q,t,rfl⟩
  have H:t.length<=1048576:=by simp only[AI]at l1;omega
  have g1:(0:Int)<=1/\(1:Int)<=((q::t).length:Int):=by simp only[AI];omega
  have G:List.take ((q::t).length-Int.toNat 1) (List.drop (Int.toNat 1) (q::t))=t:=by
   show List.take ((q::t).length-1) t=t;exact BE (by simp only[AI];omega)
  have a0:at? (q::t) 0=some q:=rfl;obtain⟨r,i1,i2,I⟩:=na H;have X:=I.fit;have a:∀h p,rdL (s.length+1) (s.drop 4)=some (p::HO h)->p=q/\HO h=t:=by
   intro h p c;rw[zc c (by omega)]at e;cases e;exact⟨rfl,rfl⟩
  unfold dv;simp only[ATe,BN,BP,Bt g1,G,i1,i2,AB,a0,Lg X q,UB X q];cases Y:r.2 with
  |false=>
   simp only[BS,AT,BP];refine⟨(RR,0,false),?_,rfl,⟨fun h=>(by cases h),fun _=>rfl,fun h p g j c _ _=>?_⟩⟩
   .rw[BJ];split<;>rfl
   .exact((I.2 Y).2 h ⟨g,j,(a h p c).2⟩).elim
  |true=>
   simp only[BP,AT];obtain⟨⟨Z,c2,c3⟩,O⟩:=I.1 Y;by_cases hT:On r.1 q=s
   .have B:=NU r.1 q;rw[hT]at B;rw[show (On r.1 q != s)=false from by simp[hT],BS,BJ,if_neg (by omega)];refine⟨_,rfl,rfl,⟨fun _=>⟨Z,c2,hT⟩,fun h=>(by cases h),fun h p g j c _ _=>?_⟩⟩;obtain⟨J,L⟩:=a h p c;rw[J,O h ⟨g,j,L⟩]
   .rw[show (On r.1 q != s)=true from by simp[hT],BP];refine⟨(RR,0,false),?_,rfl,⟨fun h=>(by cases h),fun _=>rfl,fun h p g j c S _=>?_⟩⟩
    .rw[BJ];split<;>rfl
    .obtain⟨J,L⟩:=a h p c;rw[J,O h ⟨g,j,L⟩]at S;exact(hT S).elim
def H9(s:CN)(k:Int):CH:=if (k.tmod 2==0)=true then s.GG else s.Odd
theorem S6(s:CN)(k:Int):xG s k=some (H9 s k):=by unfold xG H9 br;split<;>rfl
theorem Za(s:CN)(k:Int):LZ s k=some (H9 s k):=by unfold LZ H9 br;split<;>rfl
theorem LY(s:CN)(k:Int):∃r,dw s k=some r/\GK s k=some r/\Bf r.1:=by
 unfold dw GK;rw[S6,Za,AB,AB,MN,MD,AB,AB,BN,BN];cases h:KI (H9 s k) with
 |false=>exact⟨_,rfl,rfl,VK⟩|true=>
  unfold KI at h;rw[Bool.and_eq_true,decide_eq_true_iff,B8]at h;obtain⟨r,a,c,e⟩:=jq (s:=List.take (H9 s k).Safe.toNat (H9 s k).Data) (by rw[List.length_take];omega);rw[BP,BP,Bt h.2,Bt h.2,a,c,AB];exact⟨r,rfl,rfl,e.fit⟩
end Lv.P
