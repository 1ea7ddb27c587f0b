/- Plain laws about what the program computes. -/
import Derived.Test.YtcmjfplpdjflnaaGreatPF
set_option linter.unusedVariables false
set_option linter.unusedSimpArgs false
set_option linter.unusedSectionVars false
open Int renaming eq_ofNat_of_zero_le->A6
open List.cons renaming injEq->Cb
open List renaming length_append->AP,length_cons->AJ,length_drop->BX,length_filterMap_le->CG,length_map->Aj,take_of_length_le->BI
open Nat renaming lt_or_ge->Ab
namespace Lv.P
open Lv Go
theorem jN{r:Ae}(a:r.AZ.length<2 ^ 62){l:List AM}(hl:l.length<=40)(c now:Int):∃q,Y8 r l c now=some q/\q.length<=40/\(DG l c<=19->q=Dp r l c now):=by
 by_cases e:DG l c<=19
 .refine⟨_,Pp a (by omega) e now,?_,fun _=>rfl⟩;unfold Dp;rw[IV];have:=CG (Ks r c now) l;omega
 .have hlim:lim=268435456:=rfl;unfold Y8;rw[collect (l:=l) (Ks r c now) Qp (by omega) ?_ ?_]
  .unfold Qp;have:=CG (Ks r c now) l;obtain⟨x,E,g⟩:=lC (l:=l.filterMap (Ks r c now)) (by omega)
   grind[AB]
  .intro L i h v B;unfold Qq Uz U0 Ks;dsimp only;rw[B6 h,BL,BG h,AB,MH a,AB,AU,AU,B4 (by rw[NM];omega),AU,AU];cases j:(EX r l[i] now).2<;>cases y:l[i].AY==c<;>simp
  .intro L v;unfold Qq;dsimp only;rw[C5,BO,AU]
theorem lk{l:List AM}(hl:l.length<=40)(c:Int):∃q,cW l c=some q/\q.length<=40/\(DG l c<=19->q=Fo l c):=by
 by_cases a:DG l c<=19
 .refine⟨_,ZV (by omega) a,?_,fun _=>rfl⟩;unfold Fo;rw[IV];have:=CG (Lg c) l;omega
 .have hlim:lim=268435456:=rfl;unfold cW;rw[collect (l:=l) (Lg c) Qr (by omega) ?_ ?_]
  .unfold Qr;have:=CG (Lg c) l;obtain⟨x,B,e⟩:=vB (l:=l.filterMap (Lg c)) (by omega)
   grind[AB]
  .intro L i h v y;unfold Qs U3 U4 Lg;dsimp only;rw[B6 h,BL,BG h,AB,AU,AU,B4 (by rw[NM];omega),AU,AU];cases g:l[i].State==2<;>cases j:l[i].AY==c<;>simp
  .intro L v;unfold Qs;dsimp only;rw[C5,BO,AU]
theorem Rx{n:Nat}{r:List Int}(c:r.length<=1048576):∃xs r',KH (n:Int) r=some (xs,r')/\r'.length<=1048576/\(n<=10->xs.length=n)/\(n<=r.length->xs.length=n)/\xs.length<=n /\
 ∀ys a,r=ys++a->ys.length=n->xs=ys/\r'=a:=by
 grind[KH,fG,BH,AU,lim,B4,Int.toNat_natCast]
theorem AFs{α:Type}{l:List α}(h:l.length=1):∃a,l=[a]:=by
 match l,h with
 | [a],_=>exact⟨a,rfl⟩
theorem three{α:Type}{l:List α}(h:l.length=3):∃a b c,l=[a,b,c]:=by
 match l,h with
 | [a,b,c],_=>exact⟨a,b,c,rfl⟩
section impl
variable{l:List Int}(hl:l.length<=1048576){R:Ae×Bool}{now turn:Int}
include hl
theorem AaU{h:AF}(hR:h.AQ=R.1)(c:By h)(e:∀g,Good g l->g=h) :
 ∃r,Q0 l R ((),R.1.Ce,R.1.Room,R.1.BB,R.1.CE,R.1.B0,R.1.Rest,R.1.Cd,R.1.C3,h.Now,h.Ay,h.AG,h.AH,h.BE,h.BC)=some r/\Red l r:=by
 unfold Q0 fL;dsimp only;rw[oT hR,GZ c,AB,BK];cases hB:D6 h with
 |false=>
  rw[BO,AU,BL];exact⟨_,rfl,Red.bad fun g a=>by rw[e g a]at a;rw[a.1]at hB;cases hB⟩
 |true=>
  have y:=SQ c hB;rw[BL,ALP c hB,AB,ABc (by omega),AB,AU,BK];cases j:IN (·==·) (HQ h) l with
  |true=>
   rw[BL];exact⟨_,rfl,fun _=>⟨⟨hB,c,Wo.1 j⟩,fun g a=>e g a⟩,fun q=>by cases q⟩
  |false=>
   rw[BO];refine⟨_,rfl,Red.bad fun g a=>?_⟩;rw[e g a]at a;rw[Wo.2 a.2.2]at j;cases j
theorem AaX{x:List Int×List Int}{ps:List AM}{cs:List AX}{td:List Int}(c:x.1.length<=1048576) :
 A3 (fN l R x) big (0,(),R.1.Ce,R.1.Room,R.1.BB,R.1.CE,R.1.B0,R.1.Rest,R.1.Cd,R.1.C3,now,turn,ps,cs,td,[]) =
  Q0 l R ((),R.1.Ce,R.1.Room,R.1.BB,R.1.CE,R.1.B0,R.1.Rest,R.1.Cd,R.1.C3,now,turn,ps,cs,td,x.1.map (fun j=>w64 (j-1))):=by
 refine DA (n:=x.1.length) (fun i (v:List Int)=>((i:Int),(),R.1.Ce,R.1.Room,R.1.BB,R.1.CE,R.1.B0,R.1.Rest,R.1.Cd,R.1.C3,now,turn,ps,cs,td,v)) (fun i v=>v=(x.1.take i).map (fun j=>w64 (j-1)))
  (fun _ _=>Q0 l R ((),R.1.Ce,R.1.Room,R.1.BB,R.1.CE,R.1.B0,R.1.Rest,R.1.Cd,R.1.C3,now,turn,ps,cs,td,x.1.map (fun j=>w64 (j-1)))) (by omega) ?_ (v:=[]) (by simp)
 intro L i v a hi e;unfold fN;dsimp only;rcases Ab i x.1.length with h|h
 .grind[lim,BL,BG,AB,Bp,B4,List.take_add_one]
 grind[BO,AU]
theorem AaT(hr:EO R.1=true){ps:List AM}{cs:List AX}{rest:List Int}(hk:rest.length<=1048576)(L:ps.length<=1048576)(J:cs.length<=1048576)(I:∀c∈cs,EC c)
 (X:∀g,Good g l->Hd g R.1 now turn/\g.AG=ps/\g.AH=cs/\rest=tl4 g) :
 ∃r,fK l R (rest,(),R.1.Ce,R.1.Room,R.1.BB,R.1.CE,R.1.B0,R.1.Rest,R.1.Cd,R.1.C3,now,turn,ps,cs,[],[])=some r/\Red l r:=by
 have O:=CR hr;have hcrew:=O.2.2.2.2.2.2.2.2.2;unfold fK;dsimp only;obtain⟨a,r1,e1,e2,e3,_,_,e4⟩:=Rx (n:=1) hk;obtain⟨nt,rfl⟩:=AFs (e3 (by omega));have G:KH 1 rest=some ([nt],r1):=e1;rw[G,AB,show at? [nt] 0=some nt from rfl,AB,E9,AB,BK];have B:∀g,Good g l->nt=(g.BE.length:Int)/\r1=g.BE++g.BC.map up:=by
  intro g e;obtain⟨q1,Z,q3,Q⟩:=X g e;obtain⟨u1,u2⟩:=e4 [(g.BE.length:Int)] (g.BE++g.BC.map up) (by rw[Q];rfl) rfl;cases u1;exact⟨rfl,u2⟩
 cases q:inB nt 0 4 with
 |false=>
  rw[BO];refine⟨_,rfl,Red.bad fun g e=>?_⟩;have:=(O7 e.1).todo;have:=(O7 e.1).Dr;have:inB nt 0 4=true:=by rw[CQ,(B g e).1];omega
  rw[q]at this;cases this
 |true=>
  rw[BL];rw[CQ]at q;obtain⟨n,rfl⟩:=A6 q.1;obtain⟨td,r2,f1,f2,S,_,_,f4⟩:=Rx (n:=n) e2;rw[f1,AB,R9 (by have:=S (by omega);dsimp only;omega),AB];obtain⟨c,Y⟩:=A6 (show 0<=R.1.C3 by omega);obtain⟨js,r3,g1,g2,g3,_,_,g4⟩:=Rx (n:=c) f2;have H:KH R.1.C3 r2=some (js,r3):=by rw[Y];exact g1
  have hjl:=g3 (by omega);have htl:=S (by omega);rw[H,AB];rw[AaX hl (by dsimp only;omega)];refine AaU hl (h:=⟨R.1,now,turn,ps,cs,td,js.map (fun j=>w64 (j-1))⟩) rfl ⟨by dsimp only;omega,L,J,I,by dsimp only;omega,by dsimp only;rw[Aj];omega⟩ ?_;intro g e;obtain⟨⟨q1,Z,q3⟩,Q,q5,q6⟩:=X g e;obtain⟨p1,p2⟩:=B g e;have E:=O7 e.1;obtain⟨v1,v2⟩:=f4 _ _ p2 (by omega);obtain⟨w1,w2⟩:=g4 (g.BC.map up) [] (by rw[v2,List.append_nil]) (by rw[Aj];have:=E.Rb;rw[q1,Y]at this;omega);have hj:js.map (fun j=>w64 (j-1))=g.BC:=by
   rw[w1,List.map_map]
   conv=>rhs;rw[<-List.map_id g.BC]
   apply List.map_congr_left;intro y hy;have:=E.job y hy;show w64 (w64 (y+1)-1)=y;rw[Aq (n:=y+1) (by omega) (by omega),Aq (by omega) (by omega)];omega
  rw[hj,v1];cases g;dsimp only at *;rw[q1,Z,q3,Q,q5]
theorem AaW(Q:EO R.1=true){ps:List AM}{rest:List Int}(hk:rest.length<=1048576)(B:ps.length<=40)
 (ha:∀g,Good g l->Hd g R.1 now turn/\g.AG=ps/\rest=tl3 g 0) :
 ∃r,fJ l R (rest,(),R.1.Ce,R.1.Room,R.1.BB,R.1.CE,R.1.B0,R.1.Rest,R.1.Cd,R.1.C3,now,turn,ps,[],[],[])=some r/\Red l r:=by
 have hrl:=CR Q;unfold fJ;dsimp only;refine V7 (n:=R.1.AZ.length) (fun i (v:List AX×List Int)=>((i:Int),v.2,(),R.1.Ce,R.1.Room,R.1.BB,R.1.CE,R.1.B0,R.1.Rest,R.1.Cd,R.1.C3,now,turn,ps,v.1,[],[]))
  (fun i v=>v.1.length=i/\(∀c∈v.1,EC c)/\v.2.length<=1048576/\∀g,Good g l->Hd g R.1 now turn/\g.AG=ps/\v.1=g.AH.take i/\v.2=tl3 g i)
  (Red l) (by omega) ?_ (v:=([],rest)) ⟨rfl,by simp,hk,fun g j=>by obtain⟨h1,h2,h3⟩:=ha g j;exact⟨h1,h2,by simp,h3⟩⟩
 rintro L i ⟨cs,q⟩ ⟨O,gf,I,J⟩ hi S;dsimp only at O gf I J S ⊢;unfold AAE;dsimp only;rcases Ab i R.1.AZ.length with h|h
 .have hD:R.1.AZ.getD i 0=R.1.AZ[i]:=by simp[List.getD,h]
  obtain⟨a,q',X,Y,Z,_,_,e4⟩:=Rx (n:=1) I;obtain⟨f,rfl⟩:=AFs (Z (by omega));have H:KH 1 q=some ([f],q'):=X;obtain⟨qu,u1,u2,u3⟩:=jN (r:=R.1) (show R.1.AZ.length<2 ^ 62 by omega) B (i:Int) now;obtain⟨pi,v1,v2,v3⟩:=lk B (i:Int);have hlim:lim=268435456:=rfl;rw[B6 h,BL,BG h];simp only[AB,H,show at? [f] 0=some f from rfl,u1,v1,tC (show pi.length<=1048576 by omega),ZU (show ps.length<2 ^ 58 by omega),ZY (show ps.length<2 ^ 58 by omega),Ch,KX,KY,KZ,Ka,Jw,Kb,Kc];rw[B4 (by rw[NM];omega),Bp h (by omega)];refine S (cs++[AX.mk (BJ.mk R.1.AZ[i] f (II ps i) (w64 (w64 (R.1.AZ[i]-f)-II ps i)) (Ik ps i)) qu (K3 pi).1],q') ⟨by simp[O],?_,Y,fun g j=>?_⟩ h
  .intro x E;rcases List.mem_append.1 E with E|E
   .exact gf x E
   .rw[List.mem_singleton.1 E];exact⟨by dsimp only;omega,Zz _⟩
  .obtain⟨⟨p1,p2,p3⟩,p4,p5,G⟩:=J g j;have e:=O7 j.1;have y:i<g.AH.length:=by rw[e.EN,p1];exact h
   obtain⟨w1,w2,w3,w4⟩:=e.cab i y;unfold tl3 at G;rw[DR y,List.map_cons]at G;obtain⟨x1,x2⟩:=e4 [fr g.AH[i]] (((g.AH.drop (i+1)).map fr)++tl4 g) (by rw[G];rfl) rfl;cases x1;refine⟨⟨p1,p2,p3⟩,p4,?_,x2⟩
   grind[List.take_add_one,jj]
 .obtain rfl:i=R.1.AZ.length:=by omega
  rw[C5,BO,AU];refine AaT hl Q I (by omega) (by omega) gf fun g j=>?_
  obtain⟨p1,p4,p5,G⟩:=J g j;have e:=O7 j.1;have hn:g.AH.length=R.1.AZ.length:=by rw[e.EN,p1.1]
  refine⟨p1,p4,?_,?_⟩
  .rw[p5,BI (by omega)]
  .rw[G];unfold tl3;rw[List.drop_eq_nil_of_le (by omega)];rfl
theorem AaV(Z:EO R.1=true){n:Int}{x:List Int×List Int}(hx:at? x.1 2=some n)(Q:0<=n)(hn:n<=40){rest:List Int}(hk:rest.length<=1048576)
 (ha:∀g,Good g l->Hd g R.1 now turn/\(g.AG.length:Int)=n/\rest=tl2 g 0) :
 ∃r,A3 (fM l R x) big (0,rest,(),R.1.Ce,R.1.Room,R.1.BB,R.1.CE,R.1.B0,R.1.Rest,R.1.Cd,R.1.C3,now,turn,[],[],[],[])=some r/\Red l r:=by
 have hrl:=CR Z;obtain⟨m,rfl⟩:=A6 Q;refine V7 (n:=m) (fun i (v:List AM×List Int)=>((i:Int),v.2,(),R.1.Ce,R.1.Room,R.1.BB,R.1.CE,R.1.B0,R.1.Rest,R.1.Cd,R.1.C3,now,turn,v.1,[],[],[]))
  (fun i v=>v.1.length=i/\v.2.length<=1048576/\∀g,Good g l->Hd g R.1 now turn/\g.AG.length=m/\v.1=g.AG.take i/\v.2=tl2 g i)
  (Red l) (by omega) ?_ (v:=([],rest)) ⟨rfl,hk,fun g H=>by obtain⟨h1,h2,h3⟩:=ha g H;exact⟨h1,by omega,by simp,h3⟩⟩
 rintro L i ⟨ps,q⟩ ⟨X,O,Y⟩ hi ih;dsimp only at X O Y ih ⊢;unfold fM;dsimp only;rw[hx,AB];rcases Ab i m with h|h
 .obtain⟨xs,q',e1,e2,e3,_,_,e4⟩:=Rx (n:=10) O;obtain⟨a0,c,a,a3,a4,e,j,y,B,E,rfl⟩:=ten (e3 (by omega));have J:KH 10 q=some ([a0,c,a,a3,a4,e,j,y,B,E],q'):=e1;have f0:at? [a0,c,a,a3,a4,e,j,y,B,E] 0=some a0:=rfl;have f1:at? [a0,c,a,a3,a4,e,j,y,B,E] 1=some c:=rfl;have f2:at? [a0,c,a,a3,a4,e,j,y,B,E] 2=some a:=rfl;have f3:at? [a0,c,a,a3,a4,e,j,y,B,E] 3=some a3:=rfl;have f4:at? [a0,c,a,a3,a4,e,j,y,B,E] 4=some a4:=rfl;have f5:at? [a0,c,a,a3,a4,e,j,y,B,E] 5=some e:=rfl;have f6:at? [a0,c,a,a3,a4,e,j,y,B,E] 6=some j:=rfl;have f7:at? [a0,c,a,a3,a4,e,j,y,B,E] 7=some y:=rfl;have f8:at? [a0,c,a,a3,a4,e,j,y,B,E] 8=some B:=rfl;have f9:at? [a0,c,a,a3,a4,e,j,y,B,E] 9=some E:=rfl;rw[B6 h,BL,J];simp only[f0,f1,f2,f3,f4,f5,f6,f7,f8,f9,AB];have hlim:lim=268435456:=rfl;rw[B4 (by rw[NM];omega),Bp h (by omega)];refine ih (ps++[⟨a0,c,w64 (a-1),a3,a4,e,j,y,B,E⟩],q') ⟨by simp[X],e2,fun g H=>?_⟩ h;obtain⟨p1,p2,p3,p4⟩:=Y g H;have G:i<g.AG.length:=by omega
  have I:=E3 ((O7 H.1).par i G);have hs:=(CR I.1).1;have hf:=I.2.2.2.2.1;unfold tl2 at p4;rw[DR G,List.flatMap_cons,List.append_assoc]at p4;obtain⟨S,u2⟩:=e4 (MA g.AG[i]) _ p4 rfl;refine⟨p1,p2,?_,u2⟩;rw[List.take_add_one,List.getElem?_eq_getElem G,p3];dsimp only;congr 1;show [_]=[g.AG[i]];congr 1;unfold MA at S;simp only[Cb,and_true]at S;obtain⟨q0,q1,q2,q3,q4,q5,q6,q7,q8,q9⟩:=S;have hfrom:w64 (a-1)=g.AG[i].Bk:=by
   rw[q2,Aq (n:=g.AG[i].Bk+1) (by omega) (by omega),Aq (by omega) (by omega)];omega
  rw[hfrom,q0,q1,q3,q4,q5,q6,q7,q8,q9]
 .obtain rfl:i=m:=by omega
  rw[C5,BO,AU];refine AaW hl Z O (by omega) fun g H=>?_
  grind[tl2]
end impl
theorem sv{l:List Int}(hl:l.length<=1048576):∃r,AAD l=some r/\Red l r:=by
 unfold AAD;obtain⟨a,I,a1,a2,a3,_,_,a4⟩:=Rx (n:=1) hl;obtain⟨sz,rfl⟩:=AFs (a3 (by omega));have Q:KH 1 l=some ([sz],I):=a1;rw[Q,AB,show at? [sz] 0=some sz from rfl,AB,E9,AB,BK];have y:∀g,Good g l->sz=((J6 g.AQ).length:Int)/\I=J6 g.AQ++(g.Now::g.Ay::(g.AG.length:Int)::tl2 g 0):=by
  intro g c;obtain⟨L,H⟩:=a4 [((J6 g.AQ).length:Int)] _ (oR c) rfl;cases L;exact⟨rfl,H⟩
 have hbadE:∀(_:∀g,¬Good g l),∃r,Qz l ([sz],I) sz true=some r/\Red l r:=by
  intro X;unfold Qz;rw[BL];exact⟨_,rfl,Red.bad X⟩
 cases J:inB sz 9 12 with
 |false=>
  rw[BO,AU];refine hbadE fun g c=>?_
  have h1:=O4 g.AQ;have h2:=(O7 c.1).Dr;have:inB sz 9 12=true:=by rw[CQ,(y g c).1];omega
  rw[J]at this;cases this
 |true=>
  rw[CQ]at J;rw[BL,AU];obtain⟨s,rfl⟩:=A6 (show 0<=sz by omega);dsimp only;by_cases B:(s:Int)>(I.length:Int)
  .rw[show decide ((s:Int)>(I.length:Int))=true from decide_eq_true B];refine hbadE fun g c=>?_
   obtain⟨L,H⟩:=y g c;rw[H,AP]at B;omega
  .rw[show decide ((s:Int)>(I.length:Int))=false from decide_eq_false B];unfold Qz;rw[BO];obtain⟨xs,r2,c1,c2,_,c3,_,c4⟩:=Rx (n:=s) a2;have hxl:=c3 (by omega);rw[c1,AB];dsimp only;rw[s9 (by omega),AB,BK];have e:∀g,Good g l->xs=J6 g.AQ/\r2=g.Now::g.Ay::(g.AG.length:Int)::tl2 g 0:=by
    intro g c;obtain⟨L,H⟩:=y g c;exact c4 _ _ H (by omega)
   cases hR:(J8 xs).2 with
   |false=>
    rw[BO];refine⟨_,rfl,Red.bad fun g c=>?_⟩;rw[(e g c).1,MO (O7 c.1).rules]at hR;cases hR
   |true=>
    rw[BL];have Y:=(kX hR).1;obtain⟨ys,Z,d1,d2,d3,_,_,d4⟩:=Rx (n:=3) c2;obtain⟨E,G,j,rfl⟩:=three (d3 (by omega));have S:KH 3 r2=some ([E,G,j],Z):=d1;have q:∀g,Good g l->E=g.Now/\G=g.Ay/\j=(g.AG.length:Int)/\Z=tl2 g 0:=by
     intro g c;obtain⟨L,H⟩:=e g c;obtain⟨O,v2⟩:=d4 [g.Now,g.Ay,(g.AG.length:Int)] (tl2 g 0) (by rw[H];rfl) rfl;simp only[Cb,and_true]at O;exact⟨O.1,O.2.1,O.2.2,v2⟩
    rw[S,AB];dsimp only;rw[show at? [E,G,j] 0=some E from rfl,AB,show at? [E,G,j] 1=some G from rfl,AB,show at? [E,G,j] 2=some j from rfl,AB,E9,AB,BK];cases h:inB j 0 40 with
    |false=>
     rw[BO];refine⟨_,rfl,Red.bad fun g c=>?_⟩;have h2:=(O7 c.1).few;have:inB j 0 40=true:=by rw[CQ,(q g c).2.2.1];omega
     rw[h]at this;cases this
    |true=>
     rw[BL];rw[CQ]at h;refine AaV hl Y (x:=([E,G,j],Z)) rfl h.1 h.2 d2 fun g c=>?_
     obtain⟨q1,q2,q3,q4⟩:=q g c;refine⟨⟨?_,q1.symm,q2.symm⟩,q3.symm,q4⟩;rw[(e g c).1,MO (O7 c.1).rules]
theorem pt{l:List Int}(hl:l.length<=1048576):∃r,zj l=some r/\AAD l=some r/\Red l r:=by
 obtain⟨r,c,a⟩:=ug hl;obtain⟨r',e,g⟩:=sv hl;exact⟨r,c,by rw[e,g.one a],a⟩
end Lv.P
namespace Lv.P
open Lv Go
theorem Kz:By Lk:=by constructor<;>simp[Lk,vQ]
theorem Red.fit{l:List Int}{r:AF×Bool}(h:Red l r):By r.1:=by
 cases e:r.2 with
 |true=>exact(h.1 e).1.2.1|false=>rw[(h.2 e).1];exact Kz
theorem AYa:∀{l:List Int},(∀n∈l,okN n)->l.length<=(pL l).length
 | [],_=>by simp|n::l,h=>by
  have c:=AYa fun m a=>h m (List.mem_cons_of_mem _ a)
  have e:=uE (h n (List.mem_cons_self ..));have:pL (n::l)=pN n++pL l:=rfl;rw[this,AP,AJ];omega
structure AVu(s:List UInt8)(r:AF×Int×Bool):Prop where
 yes:r.2.2=true->D6 r.1=true/\By r.1/\PC r.1 r.2.1=s
 no:r.2.2=false->r=(Lk,0,false)
 all:∀h q,D6 h=true->By h->rdL (s.length+1) (s.drop 4)=some (q::HQ h)->PC h q=s->5<=s.length->r=(h,q,true)
theorem AVu.fit{s:List UInt8}{r:AF×Int×Bool}(h:AVu s r):By r.1:=by
 cases e:r.2.2 with
 |true=>exact(h.yes e).2.1|false=>rw[h.no e];exact Kz
theorem AXU{f:Nat}{s:List UInt8}{l:List Int}(h:rdL f s=some l):l.length<=s.length/\(s≠[]->l≠[]):=by
 obtain⟨a,c⟩:=Wi f s l h;refine⟨by rw[a];exact AYa c,fun e hl=>?_⟩;rw[hl]at a;exact e a
theorem ACR{f g:Nat}{s:List UInt8}{l:List Int}(h:rdL f s=some l)(e:s.length<g):rdL g s=some l:=by
 obtain⟨a,c⟩:=Wi f s l h
 grind[AF3]
theorem So{s:List UInt8}(hs:s.length<=1048576):∃r,zm s=some r/\AIC s=some r/\AVu s r:=by
 unfold zm AIC VT eQ;by_cases h5:s.length<5
 .rw[BH,BH,AW (by omega),AW (by omega),AU,BL];exact⟨_,rfl,rfl,⟨fun h=>(by cases h),fun _=>rfl,fun _ _ _ _ _ _ h=>absurd h (by omega)⟩⟩
 have Q:(0:Int)<=4/\(4:Int)<=(s.length:Int):=by omega
 have hd:List.drop (Int.toNat 4) s=s.drop 4:=rfl;have y:(s.drop 4).length<=1048576:=by rw[BX];omega
 rw[BH,BH,AT (by omega),AT (by omega),AU,B4 Q,B4 Q,hd,WI y,Wy y,AB,AB];have zz:AVu s (Lk,0,false)\/True:=.inr trivial;cases e:rdL ((s.drop 4).length+1) (s.drop 4) with
 |none=>
  refine⟨(Lk,0,false),?_,rfl,⟨fun h=>(by cases h),fun _=>rfl,fun h q _ _ c _ _=>?_⟩⟩
  .rw[BH];split<;>rfl
  .rw[ACR c (by omega)]at e;cases e
 |some l=>
  obtain⟨l1,l2⟩:=AXU e;have E:=l2 (by rw[<-List.length_pos_iff,BX];omega);obtain⟨q,t,rfl⟩:∃q t,l=q::t:=by
   cases l with
   |nil=>exact(E rfl).elim|cons q t=>exact⟨q,t,rfl⟩
  have H:t.length<=1048576:=by simp only[AJ]at l1;omega
  have g1:(0:Int)<=1/\(1:Int)<=((q::t).length:Int):=by simp only[AJ];omega
  have G:List.take ((q::t).length-Int.toNat 1) (List.drop (Int.toNat 1) (q::t))=t:=by
   show List.take ((q::t).length-1) t=t;exact BI (by simp only[AJ];omega)
  have a0:at? (q::t) 0=some q:=rfl;obtain⟨r,i1,i2,I⟩:=pt H;have X:=I.fit;have a:∀h p,rdL (s.length+1) (s.drop 4)=some (p::HQ h)->p=q/\HQ h=t:=by
   intro h p c;rw[ACR c (by omega)]at e;cases e;exact⟨rfl,rfl⟩
  unfold eO;simp only[AF2,BK,BL,B4 g1,G,i1,i2,AB,a0,TK X q,S6 X q];cases Y:r.2 with
  |false=>
   simp only[BO,AU,BL];refine⟨(Lk,0,false),?_,rfl,⟨fun h=>(by cases h),fun _=>rfl,fun h p g j c _ _=>?_⟩⟩
   .rw[BH];split<;>rfl
   .exact((I.2 Y).2 h ⟨g,j,(a h p c).2⟩).elim
  |true=>
   simp only[BL,AU];obtain⟨⟨Z,c2,c3⟩,O⟩:=I.1 Y;by_cases hT:PC r.1 q=s
   .have B:=Yp r.1 q;rw[hT]at B;rw[show (PC r.1 q != s)=false from by simp[hT],BO,BH,AT (by omega)];refine⟨_,rfl,rfl,⟨fun _=>⟨Z,c2,hT⟩,fun h=>(by cases h),fun h p g j c _ _=>?_⟩⟩;obtain⟨J,L⟩:=a h p c;rw[J,O h ⟨g,j,L⟩]
   .rw[show (PC r.1 q != s)=true from by simp[hT],BL];refine⟨(Lk,0,false),?_,rfl,⟨fun h=>(by cases h),fun _=>rfl,fun h p g j c S _=>?_⟩⟩
    .rw[BH];split<;>rfl
    .obtain⟨J,L⟩:=a h p c;rw[J,O h ⟨g,j,L⟩]at S;exact(hT S).elim
def Ir(s:Br)(k:Int):B3:=if (k.tmod 2==0)=true then s.EJ else s.Odd
theorem Rs(s:Br)(k:Int):zl s k=some (Ir s k):=by unfold zl Ir br;split<;>rfl
theorem ZX(s:Br)(k:Int):zn s k=some (Ir s k):=by unfold zn Ir br;split<;>rfl
theorem K0(s:Br)(k:Int):∃r,Qx s k=some r/\Qy s k=some r/\By r.1:=by
 unfold Qx Qy;rw[Rs,ZX,AB,AB,HR,IJ,AB,AB,BK,BK];cases h:Ii (Ir s k) with
 |false=>exact⟨_,rfl,rfl,Kz⟩|true=>
  unfold Ii at h;rw[Bool.and_eq_true,decide_eq_true_iff,CQ]at h;obtain⟨r,a,c,e⟩:=So (s:=List.take (Ir s k).Safe.toNat (Ir s k).Data) (by rw[List.length_take];omega);rw[BL,BL,B4 h.2,B4 h.2,a,c,AB];exact⟨r,rfl,rfl,e.fit⟩
end Lv.P
