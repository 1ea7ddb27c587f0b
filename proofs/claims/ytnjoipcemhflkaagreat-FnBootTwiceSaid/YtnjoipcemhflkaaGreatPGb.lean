/- Plain laws about what the program computes. -/
import Derived.Test.YtnjoipcemhflkaaGreatPFb
set_option linter.unusedVariables false
set_option linter.unusedSimpArgs false
set_option linter.unusedSectionVars false
open Int renaming eq_ofNat_of_zero_le->AX
open List.cons renaming injEq->Cb
open List renaming length_append->AK,length_cons->AI,length_drop->Bd,length_filterMap_le->CK,length_map->Af,take_of_length_le->BT
open Nat renaming lt_or_ge->AZ
namespace Lv.P
open Lv Go
theorem mO{r:Aa}(a:r.AY.length<2 ^ 62){l:List AU}(hl:l.length<=40)(c now:Int):∃q,aw r l c now=some q/\q.length<=40/\(DS l c<=19->q=Dy r l c now):=by
 by_cases e:DS l c<=19
 .refine⟨_,Q1 a (by omega) e now,?_,fun _=>rfl⟩;unfold Dy;rw[JN];have:=CK (Lf r c now) l;omega
 .have hlim:lim=268435456:=rfl;unfold aw;rw[collect (l:=l) (Lf r c now) SF (by omega) ?_ ?_]
  .unfold SF;have:=CK (Lf r c now) l;obtain⟨x,E,g⟩:=oO (l:=l.filterMap (Lf r c now)) (by omega)
   grind[AB]
  .intro L i h v B;unfold SG WI WJ Lf;dsimp only;rw[B9 h,BP,BG h,AB,M8 a,AB,AV,AV,B8 (by rw[NB];omega),AV,AV];cases j:(E4 r l[i] now).2<;>cases y:l[i].Ab==c<;>simp
  .intro L v;unfold SG;dsimp only;rw[Cr,Bb,AV]
theorem pG{l:List AU}(hl:l.length<=40)(c:Int):∃q,fM l c=some q/\q.length<=40/\(DS l c<=19->q=GP l c):=by
 by_cases a:DS l c<=19
 .refine⟨_,bc (by omega) a,?_,fun _=>rfl⟩;unfold GP;rw[JN];have:=CK (Mj c) l;omega
 .have hlim:lim=268435456:=rfl;unfold fM;rw[collect (l:=l) (Mj c) SK (by omega) ?_ ?_]
  .unfold SK;have:=CK (Mj c) l;obtain⟨x,B,e⟩:=zS (l:=l.filterMap (Mj c)) (by omega)
   grind[AB]
  .intro L i h v y;unfold SL WU WV Mj;dsimp only;rw[B9 h,BP,BG h,AB,AV,AV,B8 (by rw[NB];omega),AV,AV];cases g:l[i].State==2<;>cases j:l[i].Ab==c<;>simp
  .intro L v;unfold SL;dsimp only;rw[Cr,Bb,AV]
theorem Tc{n:Nat}{r:List Int}(c:r.length<=1048576):∃xs r',iK (n:Int) r=some (xs,r')/\r'.length<=1048576/\(n<=10->xs.length=n)/\(n<=r.length->xs.length=n)/\xs.length<=n /\
 ∀ys a,r=ys++a->ys.length=n->xs=ys/\r'=a:=by
 grind[iK,Adg,BQ,AV,lim,B8,Int.toNat_natCast]
theorem AIV{α:Type}{l:List α}(h:l.length=1):∃a,l=[a]:=by
 match l,h with
 | [a],_=>exact⟨a,rfl⟩
theorem three{α:Type}{l:List α}(h:l.length=3):∃a b c,l=[a,b,c]:=by
 match l,h with
 | [a,b,c],_=>exact⟨a,b,c,rfl⟩
section impl
variable{l:List Int}(hl:l.length<=1048576){R:Aa×Bool}{now turn:Int}
include hl
theorem AZh{h:AE}(hR:h.AQ=R.1)(c:Bt h)(e:∀g,Good g l->g=h) :
 ∃r,Abr l R ((),R.1.CS,R.1.Room,R.1.BE,R.1.CE,R.1.Bz,R.1.Rest,R.1.CY,R.1.Cu,h.Now,h.A0,h.AG,h.AH,h.BB,h.A9)=some r/\Red l r:=by
 unfold Abr Adj;dsimp only;rw[sM hR,Fe c,AB,BK];cases hB:DD h with
 |false=>
  rw[Bb,AV,BP];exact⟨_,rfl,Red.bad fun g a=>by rw[e g a]at a;rw[a.1]at hB;cases hB⟩
 |true=>
  have y:=T9 c hB;rw[BP,ANh c hB,AB,ML (by omega),AB,AV,BK];cases j:ES (·==·) (F6 h) l with
  |true=>
   rw[BP];exact⟨_,rfl,fun _=>⟨⟨hB,c,QK.1 j⟩,fun g a=>e g a⟩,fun q=>by cases q⟩
  |false=>
   rw[Bb];refine⟨_,rfl,Red.bad fun g a=>?_⟩;rw[e g a]at a;rw[QK.2 a.2.2]at j;cases j
theorem AZk{x:List Int×List Int}{ps:List AU}{cs:List Ae}{td:List Int}(c:x.1.length<=1048576) :
 BD (Adl l R x) big (0,(),R.1.CS,R.1.Room,R.1.BE,R.1.CE,R.1.Bz,R.1.Rest,R.1.CY,R.1.Cu,now,turn,ps,cs,td,[]) =
  Abr l R ((),R.1.CS,R.1.Room,R.1.BE,R.1.CE,R.1.Bz,R.1.Rest,R.1.CY,R.1.Cu,now,turn,ps,cs,td,x.1.map (fun j=>w64 (j-1))):=by
 refine C3 (n:=x.1.length) (fun i (v:List Int)=>((i:Int),(),R.1.CS,R.1.Room,R.1.BE,R.1.CE,R.1.Bz,R.1.Rest,R.1.CY,R.1.Cu,now,turn,ps,cs,td,v)) (fun i v=>v=(x.1.take i).map (fun j=>w64 (j-1)))
  (fun _ _=>Abr l R ((),R.1.CS,R.1.Room,R.1.BE,R.1.CE,R.1.Bz,R.1.Rest,R.1.CY,R.1.Cu,now,turn,ps,cs,td,x.1.map (fun j=>w64 (j-1)))) (by omega) ?_ (v:=[]) (by simp)
 intro L i v a hi e;unfold Adl;dsimp only;rcases AZ i x.1.length with h|h
 .grind[lim,BP,BG,AB,Bn,B8,List.take_add_one]
 grind[Bb,AV]
theorem AZg(hr:Dz R.1=true){ps:List AU}{cs:List Ae}{rest:List Int}(hk:rest.length<=1048576)(L:ps.length<=1048576)(J:cs.length<=1048576)(I:∀c∈cs,FD c)
 (X:∀g,Good g l->Hd g R.1 now turn/\g.AG=ps/\g.AH=cs/\rest=tl4 g) :
 ∃r,Adi l R (rest,(),R.1.CS,R.1.Room,R.1.BE,R.1.CE,R.1.Bz,R.1.Rest,R.1.CY,R.1.Cu,now,turn,ps,cs,[],[])=some r/\Red l r:=by
 have O:=CI hr;have hcrew:=O.2.2.2.2.2.2.2.2.2;unfold Adi;dsimp only;obtain⟨a,r1,e1,e2,e3,_,_,e4⟩:=Tc (n:=1) hk;obtain⟨nt,rfl⟩:=AIV (e3 (by omega));have G:iK 1 rest=some ([nt],r1):=e1;rw[G,AB,show at? [nt] 0=some nt from rfl,AB,Fb,AB,BK];have B:∀g,Good g l->nt=(g.BB.length:Int)/\r1=g.BB++g.A9.map up:=by
  intro g e;obtain⟨q1,Z,q3,Q⟩:=X g e;obtain⟨u1,u2⟩:=e4 [(g.BB.length:Int)] (g.BB++g.A9.map up) (by rw[Q];rfl) rfl;cases u1;exact⟨rfl,u2⟩
 cases q:inB nt 0 4 with
 |false=>
  rw[Bb];refine⟨_,rfl,Red.bad fun g e=>?_⟩;have:=(ON e.1).todo;have:=(ON e.1).De;have:inB nt 0 4=true:=by rw[CA,(B g e).1];omega
  rw[q]at this;cases this
 |true=>
  rw[BP];rw[CA]at q;obtain⟨n,rfl⟩:=AX q.1;obtain⟨td,r2,f1,f2,S,_,_,f4⟩:=Tc (n:=n) e2;rw[f1,AB,Tn (by have:=S (by omega);dsimp only;omega),AB];obtain⟨c,Y⟩:=AX (show 0<=R.1.Cu by omega);obtain⟨js,r3,g1,g2,g3,_,_,g4⟩:=Tc (n:=c) f2;have H:iK R.1.Cu r2=some (js,r3):=by rw[Y];exact g1
  have hjl:=g3 (by omega);have htl:=S (by omega);rw[H,AB];rw[AZk hl (by dsimp only;omega)];refine AZh hl (h:=⟨R.1,now,turn,ps,cs,td,js.map (fun j=>w64 (j-1))⟩) rfl ⟨by dsimp only;omega,L,J,I,by dsimp only;omega,by dsimp only;rw[Af];omega⟩ ?_;intro g e;obtain⟨⟨q1,Z,q3⟩,Q,q5,q6⟩:=X g e;obtain⟨p1,p2⟩:=B g e;have E:=ON e.1;obtain⟨v1,v2⟩:=f4 _ _ p2 (by omega);obtain⟨w1,w2⟩:=g4 (g.A9.map up) [] (by rw[v2,List.append_nil]) (by rw[Af];have:=E.PE;rw[q1,Y]at this;omega);have hj:js.map (fun j=>w64 (j-1))=g.A9:=by
   rw[w1,List.map_map]
   conv=>rhs;rw[<-List.map_id g.A9]
   apply List.map_congr_left;intro y hy;have:=E.job y hy;show w64 (w64 (y+1)-1)=y;rw[A2 (n:=y+1) (by omega) (by omega),A2 (by omega) (by omega)];omega
  rw[hj,v1];cases g;dsimp only at *;rw[q1,Z,q3,Q,q5]
theorem AZj(Q:Dz R.1=true){ps:List AU}{rest:List Int}(hk:rest.length<=1048576)(B:ps.length<=40)
 (ha:∀g,Good g l->Hd g R.1 now turn/\g.AG=ps/\rest=tl3 g 0) :
 ∃r,Adh l R (rest,(),R.1.CS,R.1.Room,R.1.BE,R.1.CE,R.1.Bz,R.1.Rest,R.1.CY,R.1.Cu,now,turn,ps,[],[],[])=some r/\Red l r:=by
 have hrl:=CI Q;unfold Adh;dsimp only;refine Pz (n:=R.1.AY.length) (fun i (v:List Ae×List Int)=>((i:Int),v.2,(),R.1.CS,R.1.Room,R.1.BE,R.1.CE,R.1.Bz,R.1.Rest,R.1.CY,R.1.Cu,now,turn,ps,v.1,[],[]))
  (fun i v=>v.1.length=i/\(∀c∈v.1,FD c)/\v.2.length<=1048576/\∀g,Good g l->Hd g R.1 now turn/\g.AG=ps/\v.1=g.AH.take i/\v.2=tl3 g i)
  (Red l) (by omega) ?_ (v:=([],rest)) ⟨rfl,by simp,hk,fun g j=>by obtain⟨h1,h2,h3⟩:=ha g j;exact⟨h1,h2,by simp,h3⟩⟩
 rintro L i ⟨cs,q⟩ ⟨O,gf,I,J⟩ hi S;dsimp only at O gf I J S ⊢;unfold Af7;dsimp only;rcases AZ i R.1.AY.length with h|h
 .have hD:R.1.AY.getD i 0=R.1.AY[i]:=by simp[List.getD,h]
  obtain⟨a,q',X,Y,Z,_,_,e4⟩:=Tc (n:=1) I;obtain⟨f,rfl⟩:=AIV (Z (by omega));have H:iK 1 q=some ([f],q'):=X;obtain⟨qu,u1,u2,u3⟩:=mO (r:=R.1) (show R.1.AY.length<2 ^ 62 by omega) B (i:Int) now;obtain⟨pi,v1,v2,v3⟩:=pG B (i:Int);have hlim:lim=268435456:=rfl;rw[B9 h,BP,BG h];simp only[AB,H,show at? [f] 0=some f from rfl,u1,v1,xx (show pi.length<=1048576 by omega),ba (show ps.length<2 ^ 58 by omega),bg (show ps.length<2 ^ 58 by omega),Ce,Kg,Kh,Ki,Kj,J4,Kk,Kl];rw[B8 (by rw[NB];omega),Bn h (by omega)];refine S (cs++[Ae.mk (BI.mk R.1.AY[i] f (JA ps i) (w64 (w64 (R.1.AY[i]-f)-JA ps i)) (Ja ps i)) qu (Lw pi).1],q') ⟨by simp[O],?_,Y,fun g j=>?_⟩ h
  .intro x E;rcases List.mem_append.1 E with E|E
   .exact gf x E
   .rw[List.mem_singleton.1 E];exact⟨by dsimp only;omega,cL _⟩
  .obtain⟨⟨p1,p2,p3⟩,p4,p5,G⟩:=J g j;have e:=ON j.1;have y:i<g.AH.length:=by rw[e.Ds,p1];exact h
   obtain⟨w1,w2,w3,w4⟩:=e.cab i y;unfold tl3 at G;rw[Dg y,List.map_cons]at G;obtain⟨x1,x2⟩:=e4 [fr g.AH[i]] (((g.AH.drop (i+1)).map fr)++tl4 g) (by rw[G];rfl) rfl;cases x1;refine⟨⟨p1,p2,p3⟩,p4,?_,x2⟩
   grind[List.take_add_one,mq]
 .obtain rfl:i=R.1.AY.length:=by omega
  rw[Cr,Bb,AV];refine AZg hl Q I (by omega) (by omega) gf fun g j=>?_
  obtain⟨p1,p4,p5,G⟩:=J g j;have e:=ON j.1;have hn:g.AH.length=R.1.AY.length:=by rw[e.Ds,p1.1]
  refine⟨p1,p4,?_,?_⟩
  .rw[p5,BT (by omega)]
  .rw[G];unfold tl3;rw[List.drop_eq_nil_of_le (by omega)];rfl
theorem AZi(Z:Dz R.1=true){n:Int}{x:List Int×List Int}(hx:at? x.1 2=some n)(Q:0<=n)(hn:n<=40){rest:List Int}(hk:rest.length<=1048576)
 (ha:∀g,Good g l->Hd g R.1 now turn/\(g.AG.length:Int)=n/\rest=tl2 g 0) :
 ∃r,BD (Adk l R x) big (0,rest,(),R.1.CS,R.1.Room,R.1.BE,R.1.CE,R.1.Bz,R.1.Rest,R.1.CY,R.1.Cu,now,turn,[],[],[],[])=some r/\Red l r:=by
 have hrl:=CI Z;obtain⟨m,rfl⟩:=AX Q;refine Pz (n:=m) (fun i (v:List AU×List Int)=>((i:Int),v.2,(),R.1.CS,R.1.Room,R.1.BE,R.1.CE,R.1.Bz,R.1.Rest,R.1.CY,R.1.Cu,now,turn,v.1,[],[],[]))
  (fun i v=>v.1.length=i/\v.2.length<=1048576/\∀g,Good g l->Hd g R.1 now turn/\g.AG.length=m/\v.1=g.AG.take i/\v.2=tl2 g i)
  (Red l) (by omega) ?_ (v:=([],rest)) ⟨rfl,hk,fun g H=>by obtain⟨h1,h2,h3⟩:=ha g H;exact⟨h1,by omega,by simp,h3⟩⟩
 rintro L i ⟨ps,q⟩ ⟨X,O,Y⟩ hi ih;dsimp only at X O Y ih ⊢;unfold Adk;dsimp only;rw[hx,AB];rcases AZ i m with h|h
 .obtain⟨xs,q',e1,e2,e3,_,_,e4⟩:=Tc (n:=10) O;obtain⟨a0,c,a,a3,a4,e,j,y,B,E,rfl⟩:=ten (e3 (by omega));have J:iK 10 q=some ([a0,c,a,a3,a4,e,j,y,B,E],q'):=e1;have f0:at? [a0,c,a,a3,a4,e,j,y,B,E] 0=some a0:=rfl;have f1:at? [a0,c,a,a3,a4,e,j,y,B,E] 1=some c:=rfl;have f2:at? [a0,c,a,a3,a4,e,j,y,B,E] 2=some a:=rfl;have f3:at? [a0,c,a,a3,a4,e,j,y,B,E] 3=some a3:=rfl;have f4:at? [a0,c,a,a3,a4,e,j,y,B,E] 4=some a4:=rfl;have f5:at? [a0,c,a,a3,a4,e,j,y,B,E] 5=some e:=rfl;have f6:at? [a0,c,a,a3,a4,e,j,y,B,E] 6=some j:=rfl;have f7:at? [a0,c,a,a3,a4,e,j,y,B,E] 7=some y:=rfl;have f8:at? [a0,c,a,a3,a4,e,j,y,B,E] 8=some B:=rfl;have f9:at? [a0,c,a,a3,a4,e,j,y,B,E] 9=some E:=rfl;rw[B9 h,BP,J];simp only[f0,f1,f2,f3,f4,f5,f6,f7,f8,f9,AB];have hlim:lim=268435456:=rfl;rw[B8 (by rw[NB];omega),Bn h (by omega)];refine ih (ps++[⟨a0,c,w64 (a-1),a3,a4,e,j,y,B,E⟩],q') ⟨by simp[X],e2,fun g H=>?_⟩ h;obtain⟨p1,p2,p3,p4⟩:=Y g H;have G:i<g.AG.length:=by omega
  have I:=E2 ((ON H.1).par i G);have hs:=(CI I.1).1;have hf:=I.2.2.2.2.1;unfold tl2 at p4;rw[Dg G,List.flatMap_cons,List.append_assoc]at p4;obtain⟨S,u2⟩:=e4 (LN g.AG[i]) _ p4 rfl;refine⟨p1,p2,?_,u2⟩;rw[List.take_add_one,List.getElem?_eq_getElem G,p3];dsimp only;congr 1;show [_]=[g.AG[i]];congr 1;unfold LN at S;simp only[Cb,and_true]at S;obtain⟨q0,q1,q2,q3,q4,q5,q6,q7,q8,q9⟩:=S;have hfrom:w64 (a-1)=g.AG[i].Bu:=by
   rw[q2,A2 (n:=g.AG[i].Bu+1) (by omega) (by omega),A2 (by omega) (by omega)];omega
  rw[hfrom,q0,q1,q3,q4,q5,q6,q7,q8,q9]
 .obtain rfl:i=m:=by omega
  rw[Cr,Bb,AV];refine AZj hl Z O (by omega) fun g H=>?_
  grind[tl2]
end impl
theorem xl{l:List Int}(hl:l.length<=1048576):∃r,AKA l=some r/\Red l r:=by
 unfold AKA;obtain⟨a,I,a1,a2,a3,_,_,a4⟩:=Tc (n:=1) hl;obtain⟨sz,rfl⟩:=AIV (a3 (by omega));have Q:iK 1 l=some ([sz],I):=a1;rw[Q,AB,show at? [sz] 0=some sz from rfl,AB,Fb,AB,BK];have y:∀g,Good g l->sz=((KQ g.AQ).length:Int)/\I=KQ g.AQ++(g.Now::g.A0::(g.AG.length:Int)::tl2 g 0):=by
  intro g c;obtain⟨L,H⟩:=a4 [((KQ g.AQ).length:Int)] _ (sJ c) rfl;cases L;exact⟨rfl,H⟩
 have hbadE:∀(_:∀g,¬Good g l),∃r,Abq l ([sz],I) sz true=some r/\Red l r:=by
  intro X;unfold Abq;rw[BP];exact⟨_,rfl,Red.bad X⟩
 cases J:inB sz 9 12 with
 |false=>
  rw[Bb,AV];refine hbadE fun g c=>?_
  have h1:=Lg g.AQ;have h2:=(ON c.1).De;have:inB sz 9 12=true:=by rw[CA,(y g c).1];omega
  rw[J]at this;cases this
 |true=>
  rw[CA]at J;rw[BP,AV];obtain⟨s,rfl⟩:=AX (show 0<=sz by omega);dsimp only;by_cases B:(s:Int)>(I.length:Int)
  .rw[show decide ((s:Int)>(I.length:Int))=true from decide_eq_true B];refine hbadE fun g c=>?_
   obtain⟨L,H⟩:=y g c;rw[H,AK]at B;omega
  .rw[show decide ((s:Int)>(I.length:Int))=false from decide_eq_false B];unfold Abq;rw[Bb];obtain⟨xs,r2,c1,c2,_,c3,_,c4⟩:=Tc (n:=s) a2;have hxl:=c3 (by omega);rw[c1,AB];dsimp only;rw[xw (by omega),AB,BK];have e:∀g,Good g l->xs=KQ g.AQ/\r2=g.Now::g.A0::(g.AG.length:Int)::tl2 g 0:=by
    intro g c;obtain⟨L,H⟩:=y g c;exact c4 _ _ H (by omega)
   cases hR:(Ky xs).2 with
   |false=>
    rw[Bb];refine⟨_,rfl,Red.bad fun g c=>?_⟩;rw[(e g c).1,NG (ON c.1).rules]at hR;cases hR
   |true=>
    rw[BP];have Y:=(nh hR).1;obtain⟨ys,Z,d1,d2,d3,_,_,d4⟩:=Tc (n:=3) c2;obtain⟨E,G,j,rfl⟩:=three (d3 (by omega));have S:iK 3 r2=some ([E,G,j],Z):=d1;have q:∀g,Good g l->E=g.Now/\G=g.A0/\j=(g.AG.length:Int)/\Z=tl2 g 0:=by
     intro g c;obtain⟨L,H⟩:=e g c;obtain⟨O,v2⟩:=d4 [g.Now,g.A0,(g.AG.length:Int)] (tl2 g 0) (by rw[H];rfl) rfl;simp only[Cb,and_true]at O;exact⟨O.1,O.2.1,O.2.2,v2⟩
    rw[S,AB];dsimp only;rw[show at? [E,G,j] 0=some E from rfl,AB,show at? [E,G,j] 1=some G from rfl,AB,show at? [E,G,j] 2=some j from rfl,AB,Fb,AB,BK];cases h:inB j 0 40 with
    |false=>
     rw[Bb];refine⟨_,rfl,Red.bad fun g c=>?_⟩;have h2:=(ON c.1).few;have:inB j 0 40=true:=by rw[CA,(q g c).2.2.1];omega
     rw[h]at this;cases this
    |true=>
     rw[BP];rw[CA]at h;refine AZi hl Y (x:=([E,G,j],Z)) rfl h.1 h.2 d2 fun g c=>?_
     obtain⟨q1,q2,q3,q4⟩:=q g c;refine⟨⟨?_,q1.symm,q2.symm⟩,q3.symm,q4⟩;rw[(e g c).1,NG (ON c.1).rules]
theorem tw{l:List Int}(hl:l.length<=1048576):∃r,ABi l=some r/\AKA l=some r/\Red l r:=by
 obtain⟨r,c,a⟩:=zF hl;obtain⟨r',e,g⟩:=xl hl;exact⟨r,c,by rw[e,g.one a],a⟩
end Lv.P
namespace Lv.P
open Lv Go
theorem Lp:Bt K5:=by constructor<;>simp[K5,zl]
theorem Red.fit{l:List Int}{r:AE×Bool}(h:Red l r):Bt r.1:=by
 cases e:r.2 with
 |true=>exact(h.1 e).1.2.1|false=>rw[(h.2 e).1];exact Lp
theorem ATY:∀{l:List Int},(∀n∈l,okN n)->l.length<=(pL l).length
 | [],_=>by simp|n::l,h=>by
  have c:=ATY fun m a=>h m (List.mem_cons_of_mem _ a)
  have e:=yk (h n (List.mem_cons_self ..));have:pL (n::l)=pN n++pL l:=rfl;rw[this,AK,AI];omega
structure AVl(s:List UInt8)(r:AE×Int×Bool):Prop where
 yes:r.2.2=true->DD r.1=true/\Bt r.1/\HU r.1 r.2.1=s
 no:r.2.2=false->r=(K5,0,false)
 all:∀h q,DD h=true->Bt h->rdL (s.length+1) (s.drop 4)=some (q::F6 h)->HU h q=s->5<=s.length->r=(h,q,true)
theorem AVl.fit{s:List UInt8}{r:AE×Int×Bool}(h:AVl s r):Bt r.1:=by
 cases e:r.2.2 with
 |true=>exact(h.yes e).2.1|false=>rw[h.no e];exact Lp
theorem AXC{f:Nat}{s:List UInt8}{l:List Int}(h:rdL f s=some l):l.length<=s.length/\(s≠[]->l≠[]):=by
 obtain⟨a,c⟩:=YN f s l h;refine⟨by rw[a];exact ATY c,fun e hl=>?_⟩;rw[hl]at a;exact e a
theorem AEU{f g:Nat}{s:List UInt8}{l:List Int}(h:rdL f s=some l)(e:s.length<g):rdL g s=some l:=by
 obtain⟨a,c⟩:=YN f s l h
 grind[yt]
theorem Lq{s:List UInt8}(hs:s.length<=1048576):∃r,bE s=some r/\bI s=some r/\AVl s r:=by
 unfold bE bI AcC Adm;by_cases h5:s.length<5
 .rw[BQ,BQ,AW (by omega),AW (by omega),AV,BP];exact⟨_,rfl,rfl,⟨fun h=>(by cases h),fun _=>rfl,fun _ _ _ _ _ _ h=>absurd h (by omega)⟩⟩
 have Q:(0:Int)<=4/\(4:Int)<=(s.length:Int):=by omega
 have hd:List.drop (Int.toNat 4) s=s.drop 4:=rfl;have y:(s.drop 4).length<=1048576:=by rw[Bd];omega
 rw[BQ,BQ,AR (by omega),AR (by omega),AV,B8 Q,B8 Q,hd,Xp y,Ye y,AB,AB];have zz:AVl s (K5,0,false)\/True:=.inr trivial;cases e:rdL ((s.drop 4).length+1) (s.drop 4) with
 |none=>
  refine⟨(K5,0,false),?_,rfl,⟨fun h=>(by cases h),fun _=>rfl,fun h q _ _ c _ _=>?_⟩⟩
  .rw[BQ];split<;>rfl
  .rw[AEU c (by omega)]at e;cases e
 |some l=>
  obtain⟨l1,l2⟩:=AXC e;have E:=l2 (by rw[<-List.length_pos_iff,Bd];omega);obtain⟨q,t,rfl⟩:∃q t,l=q::t:=by
   cases l with
   |nil=>exact(E rfl).elim|cons q t=>exact⟨q,t,rfl⟩
  have H:t.length<=1048576:=by simp only[AI]at l1;omega
  have g1:(0:Int)<=1/\(1:Int)<=((q::t).length:Int):=by simp only[AI];omega
  have G:List.take ((q::t).length-Int.toNat 1) (List.drop (Int.toNat 1) (q::t))=t:=by
   show List.take ((q::t).length-1) t=t;exact BT (by simp only[AI];omega)
  have a0:at? (q::t) 0=some q:=rfl;obtain⟨r,i1,i2,I⟩:=tw H;have X:=I.fit;have a:∀h p,rdL (s.length+1) (s.drop 4)=some (p::F6 h)->p=q/\F6 h=t:=by
   intro h p c;rw[AEU c (by omega)]at e;cases e;exact⟨rfl,rfl⟩
  unfold ABl;simp only[AIc,BK,BP,B8 g1,G,i1,i2,AB,a0,Lu X q,O9 X q];cases Y:r.2 with
  |false=>
   simp only[Bb,AV,BP];refine⟨(K5,0,false),?_,rfl,⟨fun h=>(by cases h),fun _=>rfl,fun h p g j c _ _=>?_⟩⟩
   .rw[BQ];split<;>rfl
   .exact((I.2 Y).2 h ⟨g,j,(a h p c).2⟩).elim
  |true=>
   simp only[BP,AV];obtain⟨⟨Z,c2,c3⟩,O⟩:=I.1 Y;by_cases hT:HU r.1 q=s
   .have B:=JP r.1 q;rw[hT]at B;rw[show (HU r.1 q != s)=false from by simp[hT],Bb,BQ,AR (by omega)];refine⟨_,rfl,rfl,⟨fun _=>⟨Z,c2,hT⟩,fun h=>(by cases h),fun h p g j c _ _=>?_⟩⟩;obtain⟨J,L⟩:=a h p c;rw[J,O h ⟨g,j,L⟩]
   .rw[show (HU r.1 q != s)=true from by simp[hT],BP];refine⟨(K5,0,false),?_,rfl,⟨fun h=>(by cases h),fun _=>rfl,fun h p g j c S _=>?_⟩⟩
    .rw[BQ];split<;>rfl
    .obtain⟨J,L⟩:=a h p c;rw[J,O h ⟨g,j,L⟩]at S;exact(hT S).elim
def E7(s:BZ)(k:Int):Bp:=if (k.tmod 2==0)=true then s.DW else s.Odd
theorem JF(s:BZ)(k:Int):AJ2 s k=some (E7 s k):=by unfold AJ2 E7 br;split<;>rfl
theorem Og(s:BZ)(k:Int):bH s k=some (E7 s k):=by unfold bH E7 br;split<;>rfl
theorem GL(s:BZ)(k:Int):∃r,ABn s k=some r/\AKH s k=some r/\Bt r.1:=by
 unfold ABn AKH;rw[JF,Og,AB,AB,HH,GN,AB,AB,BK,BK];cases h:Fz (E7 s k) with
 |false=>exact⟨_,rfl,rfl,Lp⟩|true=>
  unfold Fz at h;rw[Bool.and_eq_true,decide_eq_true_iff,CA]at h;obtain⟨r,a,c,e⟩:=Lq (s:=List.take (E7 s k).Safe.toNat (E7 s k).Data) (by rw[List.length_take];omega);rw[BP,BP,B8 h.2,B8 h.2,a,c,AB];exact⟨r,rfl,rfl,e.fit⟩
end Lv.P
