/- Plain laws about what the program computes. -/
import Derived.Test.YtdmpkjjlnjchkaaGreatPF4
set_option linter.unusedVariables false
set_option linter.unusedSimpArgs false
set_option linter.unusedSectionVars false
open Int renaming eq_ofNat_of_zero_le->Ab
open List.cons renaming injEq->Co
open List renaming length_append->AM,length_cons->AH,length_drop->BT,length_filterMap_le->B5,length_map->Aj,take_of_length_le->BQ
open Nat renaming lt_or_ge->AT
namespace Lv.P
open Lv Go
theorem xq{r:AZ}(a:r.AV.length<2 ^ 62){l:List AK}(hl:l.length<=40)(c now:Int):∃q,Wz r l c now=some q/\q.length<=40/\(DQ l c<=19->q=D3 r l c now):=by
 by_cases e:DQ l c<=19
 .refine⟨_,Vj a (by omega) e now,?_,fun _=>rfl⟩;unfold D3;rw[IG];have:=B5 (ML r c now) l;omega
 .have hlim:lim=268435456:=rfl;unfold Wz;rw[collect (l:=l) (ML r c now) W0 (by omega) ?_ ?_]
  .unfold W0;have:=B5 (ML r c now) l;obtain⟨x,E,g⟩:=zZ (l:=l.filterMap (ML r c now)) (by omega)
   grind[AB]
  .intro L i h v B;unfold A8v eQ A9I ML;dsimp only;rw[CC h,BH,A7 h,AB,PC a,AB,AR,AR,B9 (by rw[Kc];omega),AR,AR];cases j:(Ez r l[i] now).2<;>cases y:l[i].Aa==c<;>simp
  .intro L v;unfold A8v;dsimp only;rw[Cp,BN,AR]
theorem AAF{l:List AK}(hl:l.length<=40)(c:Int):∃q,rK l c=some q/\q.length<=40/\(DQ l c<=19->q=GJ l c):=by
 by_cases a:DQ l c<=19
 .refine⟨_,nZ (by omega) a,?_,fun _=>rfl⟩;unfold GJ;rw[IG];have:=B5 (Nu c) l;omega
 .have hlim:lim=268435456:=rfl;unfold rK;rw[collect (l:=l) (Nu c) A8x (by omega) ?_ ?_]
  .unfold A8x;have:=B5 (Nu c) l;obtain⟨x,B,e⟩:=AGP (l:=l.filterMap (Nu c)) (by omega)
   grind[AB]
  .intro L i h v y;unfold A8y A9P A9Q Nu;dsimp only;rw[CC h,BH,A7 h,AB,AR,AR,B9 (by rw[Kc];omega),AR,AR];cases g:l[i].State==2<;>cases j:l[i].Aa==c<;>simp
  .intro L v;unfold A8y;dsimp only;rw[Cp,BN,AR]
theorem aA{n:Nat}{r:List Int}(e:r.length<=1048576):∃xs a,AQ3 (n:Int) r=some (xs,a)/\a.length<=1048576/\(n<=10->xs.length=n)/\(n<=r.length->xs.length=n)/\xs.length<=n /\
 ∀ys c,r=ys++c->ys.length=n->xs=ys/\a=c:=by
 grind[AQ3,AtG,BA,AR,lim,B9,Int.toNat_natCast]
theorem APE{α:Type}{l:List α}(h:l.length=1):∃a,l=[a]:=by
 match l,h with
 | [a],_=>exact⟨a,rfl⟩
theorem three{α:Type}{l:List α}(h:l.length=3):∃a b c,l=[a,b,c]:=by
 match l,h with
 | [a,b,c],_=>exact⟨a,b,c,rfl⟩
section impl
variable{l:List Int}(hl:l.length<=1048576){R:AZ×Bool}{now turn:Int}
include hl
theorem Ag7{h:AD}(hR:h.AO=R.1)(c:Bp h)(e:∀g,Good g l->g=h) :
 ∃r,A85 l R ((),R.1.CJ,R.1.Room,R.1.A2,R.1.CB,R.1.Bq,R.1.Rest,R.1.CL,R.1.Cs,h.Now,h.Ap,h.AG,h.AI,h.BC,h.A8)=some r/\Red l r:=by
 unfold A85 BA9;dsimp only;rw[ACU hR,Fe c,AB,BI];cases hB:DR h with
 |false=>
  rw[BN,AR,BH];exact⟨_,rfl,Red.bad fun g a=>by rw[e g a]at a;rw[a.1]at hB;cases hB⟩
 |true=>
  have y:=aa c hB;rw[BH,AVJ c hB,AB,RX (by omega),AB,AR,BI];cases j:Eb (·==·) (GH h) l with
  |true=>
   rw[BH];exact⟨_,rfl,fun _=>⟨⟨hB,c,Uf.1 j⟩,fun g a=>e g a⟩,fun q=>by cases q⟩
  |false=>
   rw[BN];refine⟨_,rfl,Red.bad fun g a=>?_⟩;rw[e g a]at a;rw[Uf.2 a.2.2]at j;cases j
theorem AhA{x:List Int×List Int}{ps:List AK}{cs:List AY}{td:List Int}(c:x.1.length<=1048576) :
 A4 (BBB l R x) big (0,(),R.1.CJ,R.1.Room,R.1.A2,R.1.CB,R.1.Bq,R.1.Rest,R.1.CL,R.1.Cs,now,turn,ps,cs,td,[]) =
  A85 l R ((),R.1.CJ,R.1.Room,R.1.A2,R.1.CB,R.1.Bq,R.1.Rest,R.1.CL,R.1.Cs,now,turn,ps,cs,td,x.1.map (fun j=>w64 (j-1))):=by
 refine C6 (n:=x.1.length) (fun i (v:List Int)=>((i:Int),(),R.1.CJ,R.1.Room,R.1.A2,R.1.CB,R.1.Bq,R.1.Rest,R.1.CL,R.1.Cs,now,turn,ps,cs,td,v)) (fun i v=>v=(x.1.take i).map (fun j=>w64 (j-1)))
  (fun _ _=>A85 l R ((),R.1.CJ,R.1.Room,R.1.A2,R.1.CB,R.1.Bq,R.1.Rest,R.1.CL,R.1.Cs,now,turn,ps,cs,td,x.1.map (fun j=>w64 (j-1)))) (by omega) ?_ (v:=[]) (by simp)
 intro L i v a hi e;unfold BBB;dsimp only;rcases AT i x.1.length with h|h
 .grind[lim,BH,A7,AB,BU,B9,List.take_add_one]
 grind[BN,AR]
theorem Ag6(hr:Dp R.1=true){ps:List AK}{cs:List AY}{rest:List Int}(hk:rest.length<=1048576)(L:ps.length<=1048576)(J:cs.length<=1048576)(I:∀c∈cs,DI c)
 (X:∀g,Good g l->Hd g R.1 now turn/\g.AG=ps/\g.AI=cs/\rest=tl4 g) :
 ∃r,BA8 l R (rest,(),R.1.CJ,R.1.Room,R.1.A2,R.1.CB,R.1.Bq,R.1.Rest,R.1.CL,R.1.Cs,now,turn,ps,cs,[],[])=some r/\Red l r:=by
 have O:=CT hr;have hcrew:=O.2.2.2.2.2.2.2.2.2;unfold BA8;dsimp only;obtain⟨a,r1,e1,e2,e3,_,_,e4⟩:=aA (n:=1) hk;obtain⟨nt,rfl⟩:=APE (e3 (by omega));have G:AQ3 1 rest=some ([nt],r1):=e1;rw[G,AB,show at? [nt] 0=some nt from rfl,AB,Fs,AB,BI];have B:∀g,Good g l->nt=(g.BC.length:Int)/\r1=g.BC++g.A8.map up:=by
  intro g e;obtain⟨q1,Z,q3,Q⟩:=X g e;obtain⟨u1,u2⟩:=e4 [(g.BC.length:Int)] (g.BC++g.A8.map up) (by rw[Q];rfl) rfl;cases u1;exact⟨rfl,u2⟩
 cases q:inB nt 0 4 with
 |false=>
  rw[BN];refine⟨_,rfl,Red.bad fun g e=>?_⟩;have:=(RG e.1).todo;have:=(RG e.1).Dd;have:inB nt 0 4=true:=by rw[CY,(B g e).1];omega
  rw[q]at this;cases this
 |true=>
  rw[BH];rw[CY]at q;obtain⟨n,rfl⟩:=Ab q.1;obtain⟨td,r2,f1,f2,S,_,_,f4⟩:=aA (n:=n) e2;rw[f1,AB,eM (by have:=S (by omega);dsimp only;omega),AB];obtain⟨c,Y⟩:=Ab (show 0<=R.1.Cs by omega);obtain⟨js,r3,g1,g2,g3,_,_,g4⟩:=aA (n:=c) f2;have H:AQ3 R.1.Cs r2=some (js,r3):=by rw[Y];exact g1
  have hjl:=g3 (by omega);have htl:=S (by omega);rw[H,AB];rw[AhA hl (by dsimp only;omega)];refine Ag7 hl (h:=⟨R.1,now,turn,ps,cs,td,js.map (fun j=>w64 (j-1))⟩) rfl ⟨by dsimp only;omega,L,J,I,by dsimp only;omega,by dsimp only;rw[Aj];omega⟩ ?_;intro g e;obtain⟨⟨q1,Z,q3⟩,Q,q5,q6⟩:=X g e;obtain⟨p1,p2⟩:=B g e;have E:=RG e.1;obtain⟨v1,v2⟩:=f4 _ _ p2 (by omega);obtain⟨w1,w2⟩:=g4 (g.A8.map up) [] (by rw[v2,List.append_nil]) (by rw[Aj];have:=E.Wm;rw[q1,Y]at this;omega);have hj:js.map (fun j=>w64 (j-1))=g.A8:=by
   rw[w1,List.map_map]
   conv=>rhs;rw[<-List.map_id g.A8]
   apply List.map_congr_left;intro y hy;have:=E.job y hy;show w64 (w64 (y+1)-1)=y;rw[Ai (n:=y+1) (by omega) (by omega),Ai (by omega) (by omega)];omega
  rw[hj,v1];cases g;dsimp only at *;rw[q1,Z,q3,Q,q5]
theorem Ag9(Q:Dp R.1=true){ps:List AK}{rest:List Int}(hk:rest.length<=1048576)(B:ps.length<=40)
 (ha:∀g,Good g l->Hd g R.1 now turn/\g.AG=ps/\rest=tl3 g 0) :
 ∃r,AtI l R (rest,(),R.1.CJ,R.1.Room,R.1.A2,R.1.CB,R.1.Bq,R.1.Rest,R.1.CL,R.1.Cs,now,turn,ps,[],[],[])=some r/\Red l r:=by
 have hrl:=CT Q;unfold AtI;dsimp only;refine Hl (n:=R.1.AV.length) (fun i (v:List AY×List Int)=>((i:Int),v.2,(),R.1.CJ,R.1.Room,R.1.A2,R.1.CB,R.1.Bq,R.1.Rest,R.1.CL,R.1.Cs,now,turn,ps,v.1,[],[]))
  (fun i v=>v.1.length=i/\(∀c∈v.1,DI c)/\v.2.length<=1048576/\∀g,Good g l->Hd g R.1 now turn/\g.AG=ps/\v.1=g.AI.take i/\v.2=tl3 g i)
  (Red l) (by omega) ?_ (v:=([],rest)) ⟨rfl,by simp,hk,fun g j=>by obtain⟨h1,h2,h3⟩:=ha g j;exact⟨h1,h2,by simp,h3⟩⟩
 rintro L i ⟨cs,q⟩ ⟨O,gf,I,J⟩ hi S;dsimp only at O gf I J S ⊢;unfold BCl;dsimp only;rcases AT i R.1.AV.length with h|h
 .have hD:R.1.AV.getD i 0=R.1.AV[i]:=by simp[List.getD,h]
  obtain⟨a,q',X,Y,Z,_,_,e4⟩:=aA (n:=1) I;obtain⟨f,rfl⟩:=APE (Z (by omega));have H:AQ3 1 q=some ([f],q'):=X;obtain⟨qu,u1,u2,u3⟩:=xq (r:=R.1) (show R.1.AV.length<2 ^ 62 by omega) B (i:Int) now;obtain⟨pi,v1,v2,v3⟩:=AAF B (i:Int);have hlim:lim=268435456:=rfl;rw[CC h,BH,A7 h];simp only[AB,H,show at? [f] 0=some f from rfl,u1,v1,AE2 (show pi.length<=1048576 by omega),nY (show ps.length<2 ^ 58 by omega),na (show ps.length<2 ^ 58 by omega),Cw,Ja,Jb,Jc,Jd,I9,Je,Jf];rw[B9 (by rw[Kc];omega),BU h (by omega)];refine S (cs++[AY.mk (A9.mk R.1.AV[i] f (Jk ps i) (w64 (w64 (R.1.AV[i]-f)-Jk ps i)) (KE ps i)) qu (NT pi).1],q') ⟨by simp[O],?_,Y,fun g j=>?_⟩ h
  .intro x E;rcases List.mem_append.1 E with E|E
   .exact gf x E
   .rw[List.mem_singleton.1 E];exact⟨by dsimp only;omega,oC _⟩
  .obtain⟨⟨p1,p2,p3⟩,p4,p5,G⟩:=J g j;have e:=RG j.1;have y:i<g.AI.length:=by rw[e.EG,p1];exact h
   obtain⟨w1,w2,w3,w4⟩:=e.cab i y;unfold tl3 at G;rw[DW y,List.map_cons]at G;obtain⟨x1,x2⟩:=e4 [fr g.AI[i]] (((g.AI.drop (i+1)).map fr)++tl4 g) (by rw[G];rfl) rfl;cases x1;refine⟨⟨p1,p2,p3⟩,p4,?_,x2⟩
   grind[List.take_add_one,yU]
 .obtain rfl:i=R.1.AV.length:=by omega
  rw[Cp,BN,AR];refine Ag6 hl Q I (by omega) (by omega) gf fun g j=>?_
  obtain⟨p1,p4,p5,G⟩:=J g j;have e:=RG j.1;have hn:g.AI.length=R.1.AV.length:=by rw[e.EG,p1.1]
  refine⟨p1,p4,?_,?_⟩
  .rw[p5,BQ (by omega)]
  .rw[G];unfold tl3;rw[List.drop_eq_nil_of_le (by omega)];rfl
theorem Ag8(Z:Dp R.1=true){n:Int}{x:List Int×List Int}(hx:at? x.1 2=some n)(Q:0<=n)(hn:n<=40){rest:List Int}(hk:rest.length<=1048576)
 (ha:∀g,Good g l->Hd g R.1 now turn/\(g.AG.length:Int)=n/\rest=tl2 g 0) :
 ∃r,A4 (BBA l R x) big (0,rest,(),R.1.CJ,R.1.Room,R.1.A2,R.1.CB,R.1.Bq,R.1.Rest,R.1.CL,R.1.Cs,now,turn,[],[],[],[])=some r/\Red l r:=by
 have hrl:=CT Z;obtain⟨m,rfl⟩:=Ab Q;refine Hl (n:=m) (fun i (v:List AK×List Int)=>((i:Int),v.2,(),R.1.CJ,R.1.Room,R.1.A2,R.1.CB,R.1.Bq,R.1.Rest,R.1.CL,R.1.Cs,now,turn,v.1,[],[],[]))
  (fun i v=>v.1.length=i/\v.2.length<=1048576/\∀g,Good g l->Hd g R.1 now turn/\g.AG.length=m/\v.1=g.AG.take i/\v.2=tl2 g i)
  (Red l) (by omega) ?_ (v:=([],rest)) ⟨rfl,hk,fun g H=>by obtain⟨h1,h2,h3⟩:=ha g H;exact⟨h1,by omega,by simp,h3⟩⟩
 rintro L i ⟨ps,q⟩ ⟨X,O,Y⟩ hi ih;dsimp only at X O Y ih ⊢;unfold BBA;dsimp only;rw[hx,AB];rcases AT i m with h|h
 .obtain⟨xs,q',e1,e2,e3,_,_,e4⟩:=aA (n:=10) O;obtain⟨a0,c,a,a3,a4,e,j,y,B,E,rfl⟩:=ten (e3 (by omega));have J:AQ3 10 q=some ([a0,c,a,a3,a4,e,j,y,B,E],q'):=e1;have f0:at? [a0,c,a,a3,a4,e,j,y,B,E] 0=some a0:=rfl;have f1:at? [a0,c,a,a3,a4,e,j,y,B,E] 1=some c:=rfl;have f2:at? [a0,c,a,a3,a4,e,j,y,B,E] 2=some a:=rfl;have f3:at? [a0,c,a,a3,a4,e,j,y,B,E] 3=some a3:=rfl;have f4:at? [a0,c,a,a3,a4,e,j,y,B,E] 4=some a4:=rfl;have f5:at? [a0,c,a,a3,a4,e,j,y,B,E] 5=some e:=rfl;have f6:at? [a0,c,a,a3,a4,e,j,y,B,E] 6=some j:=rfl;have f7:at? [a0,c,a,a3,a4,e,j,y,B,E] 7=some y:=rfl;have f8:at? [a0,c,a,a3,a4,e,j,y,B,E] 8=some B:=rfl;have f9:at? [a0,c,a,a3,a4,e,j,y,B,E] 9=some E:=rfl;rw[CC h,BH,J];simp only[f0,f1,f2,f3,f4,f5,f6,f7,f8,f9,AB];have hlim:lim=268435456:=rfl;rw[B9 (by rw[Kc];omega),BU h (by omega)];refine ih (ps++[⟨a0,c,w64 (a-1),a3,a4,e,j,y,B,E⟩],q') ⟨by simp[X],e2,fun g H=>?_⟩ h;obtain⟨p1,p2,p3,p4⟩:=Y g H;have G:i<g.AG.length:=by omega
  have I:=FM ((RG H.1).par i G);have hs:=(CT I.1).1;have hf:=I.2.2.2.2.1;unfold tl2 at p4;rw[DW G,List.flatMap_cons,List.append_assoc]at p4;obtain⟨S,u2⟩:=e4 (Ma g.AG[i]) _ p4 rfl;refine⟨p1,p2,?_,u2⟩;rw[List.take_add_one,List.getElem?_eq_getElem G,p3];dsimp only;congr 1;show [_]=[g.AG[i]];congr 1;unfold Ma at S;simp only[Co,and_true]at S;obtain⟨q0,q1,q2,q3,q4,q5,q6,q7,q8,q9⟩:=S;have hfrom:w64 (a-1)=g.AG[i].Bl:=by
   rw[q2,Ai (n:=g.AG[i].Bl+1) (by omega) (by omega),Ai (by omega) (by omega)];omega
  rw[hfrom,q0,q1,q3,q4,q5,q6,q7,q8,q9]
 .obtain rfl:i=m:=by omega
  rw[Cp,BN,AR];refine Ag9 hl Z O (by omega) fun g H=>?_
  grind[tl2]
end impl
theorem AEt{l:List Int}(hl:l.length<=1048576):∃r,HB l=some r/\Red l r:=by
 unfold HB;obtain⟨a,I,a1,a2,a3,_,_,a4⟩:=aA (n:=1) hl;obtain⟨sz,rfl⟩:=APE (a3 (by omega));have Q:AQ3 1 l=some ([sz],I):=a1;rw[Q,AB,show at? [sz] 0=some sz from rfl,AB,Fs,AB,BI];have y:∀g,Good g l->sz=((LO g.AO).length:Int)/\I=LO g.AO++(g.Now::g.Ap::(g.AG.length:Int)::tl2 g 0):=by
  intro g c;obtain⟨L,H⟩:=a4 [((LO g.AO).length:Int)] _ (ACQ c) rfl;cases L;exact⟨rfl,H⟩
 have hbadE:∀(_:∀g,¬Good g l),∃r,Arb l ([sz],I) sz true=some r/\Red l r:=by
  intro X;unfold Arb;rw[BH];exact⟨_,rfl,Red.bad X⟩
 cases J:inB sz 9 12 with
 |false=>
  rw[BN,AR];refine hbadE fun g c=>?_
  have h1:=NF g.AO;have h2:=(RG c.1).Dd;have:inB sz 9 12=true:=by rw[CY,(y g c).1];omega
  rw[J]at this;cases this
 |true=>
  rw[CY]at J;rw[BH,AR];obtain⟨s,rfl⟩:=Ab (show 0<=sz by omega);dsimp only;by_cases B:(s:Int)>(I.length:Int)
  .rw[show decide ((s:Int)>(I.length:Int))=true from decide_eq_true B];refine hbadE fun g c=>?_
   obtain⟨L,H⟩:=y g c;rw[H,AM]at B;omega
  .rw[show decide ((s:Int)>(I.length:Int))=false from decide_eq_false B];unfold Arb;rw[BN];obtain⟨xs,r2,c1,c2,_,c3,_,c4⟩:=aA (n:=s) a2;have hxl:=c3 (by omega);rw[c1,AB];dsimp only;rw[AE1 (by omega),AB,BI];have e:∀g,Good g l->xs=LO g.AO/\r2=g.Now::g.Ap::(g.AG.length:Int)::tl2 g 0:=by
    intro g c;obtain⟨L,H⟩:=y g c;exact c4 _ _ H (by omega)
   cases hR:(ME xs).2 with
   |false=>
    rw[BN];refine⟨_,rfl,Red.bad fun g c=>?_⟩;rw[(e g c).1,PJ (RG c.1).rules]at hR;cases hR
   |true=>
    rw[BH];have Y:=(zA hR).1;obtain⟨ys,Z,d1,d2,d3,_,_,d4⟩:=aA (n:=3) c2;obtain⟨E,G,j,rfl⟩:=three (d3 (by omega));have S:AQ3 3 r2=some ([E,G,j],Z):=d1;have q:∀g,Good g l->E=g.Now/\G=g.Ap/\j=(g.AG.length:Int)/\Z=tl2 g 0:=by
     intro g c;obtain⟨L,H⟩:=e g c;obtain⟨O,v2⟩:=d4 [g.Now,g.Ap,(g.AG.length:Int)] (tl2 g 0) (by rw[H];rfl) rfl;simp only[Co,and_true]at O;exact⟨O.1,O.2.1,O.2.2,v2⟩
    rw[S,AB];dsimp only;rw[show at? [E,G,j] 0=some E from rfl,AB,show at? [E,G,j] 1=some G from rfl,AB,show at? [E,G,j] 2=some j from rfl,AB,Fs,AB,BI];cases h:inB j 0 40 with
    |false=>
     rw[BN];refine⟨_,rfl,Red.bad fun g c=>?_⟩;have h2:=(RG c.1).few;have:inB j 0 40=true:=by rw[CY,(q g c).2.2.1];omega
     rw[h]at this;cases this
    |true=>
     rw[BH];rw[CY]at h;refine Ag8 hl Y (x:=([E,G,j],Z)) rfl h.1 h.2 d2 fun g c=>?_
     obtain⟨q1,q2,q3,q4⟩:=q g c;refine⟨⟨?_,q1.symm,q2.symm⟩,q3.symm,q4⟩;rw[(e g c).1,PJ (RG c.1).rules]
theorem ADQ{l:List Int}(hl:l.length<=1048576):∃r,AQx l=some r/\HB l=some r/\Red l r:=by
 obtain⟨r,c,a⟩:=AGE hl;obtain⟨h,e,g⟩:=AEt hl;exact⟨r,c,by rw[e,g.one a],a⟩
end Lv.P
namespace Lv.P
open Lv Go
theorem NK:Bp MI:=by constructor<;>simp[MI,AGb]
theorem Red.fit{l:List Int}{r:AD×Bool}(h:Red l r):Bp r.1:=by
 cases e:r.2 with
 |true=>exact(h.1 e).1.2.1|false=>rw[(h.2 e).1];exact NK
theorem Aan:∀{l:List Int},(∀n∈l,okN n)->l.length<=(pL l).length
 | [],_=>by simp|n::l,h=>by
  have c:=Aan fun m a=>h m (List.mem_cons_of_mem _ a)
  have e:=AFn (h n (List.mem_cons_self ..));have:pL (n::l)=pN n++pL l:=rfl;rw[this,AM,AH];omega
structure Ac5(s:List UInt8)(r:AD×Int×Bool):Prop where
 yes:r.2.2=true->DR r.1=true/\Bp r.1/\IS r.1 r.2.1=s
 no:r.2.2=false->r=(MI,0,false)
 all:∀h q,DR h=true->Bp h->rdL (s.length+1) (s.drop 4)=some (q::GH h)->IS h q=s->5<=s.length->r=(h,q,true)
theorem Ac5.fit{s:List UInt8}{r:AD×Int×Bool}(h:Ac5 s r):Bp r.1:=by
 cases e:r.2.2 with
 |true=>exact(h.yes e).2.1|false=>rw[h.no e];exact NK
theorem Aea{f:Nat}{s:List UInt8}{l:List Int}(h:rdL f s=some l):l.length<=s.length/\(s≠[]->l≠[]):=by
 obtain⟨a,c⟩:=jT f s l h;refine⟨by rw[a];exact Aan c,fun e hl=>?_⟩;rw[hl]at a;exact e a
theorem AMT{f g:Nat}{s:List UInt8}{l:List Int}(h:rdL f s=some l)(e:s.length<g):rdL g s=some l:=by
 obtain⟨a,c⟩:=jT f s l h
 grind[AFx]
theorem Rq{s:List UInt8}(hs:s.length<=1048576):∃r,AQz s=some r/\ARC s=some r/\Ac5 s r:=by
 unfold AQz ARC As9 Air;by_cases h5:s.length<5
 .rw[BA,BA,if_pos (by omega),if_pos (by omega),AR,BH];exact⟨_,rfl,rfl,⟨fun h=>(by cases h),fun _=>rfl,fun _ _ _ _ _ _ h=>absurd h (by omega)⟩⟩
 have Q:(0:Int)<=4/\(4:Int)<=(s.length:Int):=by omega
 have hd:List.drop (Int.toNat 4) s=s.drop 4:=rfl;have y:(s.drop 4).length<=1048576:=by rw[BT];omega
 rw[BA,BA,if_neg (by omega),if_neg (by omega),AR,B9 Q,B9 Q,hd,il y,jk y,AB,AB];have zz:Ac5 s (MI,0,false)\/True:=.inr trivial;cases e:rdL ((s.drop 4).length+1) (s.drop 4) with
 |none=>
  refine⟨(MI,0,false),?_,rfl,⟨fun h=>(by cases h),fun _=>rfl,fun h q _ _ c _ _=>?_⟩⟩
  .rw[BA];split<;>rfl
  .rw[AMT c (by omega)]at e;cases e
 |some l=>
  obtain⟨l1,l2⟩:=Aea e;have E:=l2 (by rw[<-List.length_pos_iff,BT];omega);obtain⟨q,t,rfl⟩:∃q t,l=q::t:=by
   cases l with
   |nil=>exact(E rfl).elim|cons q t=>exact⟨q,t,rfl⟩
  have H:t.length<=1048576:=by simp only[AH]at l1;omega
  have g1:(0:Int)<=1/\(1:Int)<=((q::t).length:Int):=by simp only[AH];omega
  have G:List.take ((q::t).length-Int.toNat 1) (List.drop (Int.toNat 1) (q::t))=t:=by
   show List.take ((q::t).length-1) t=t;exact BQ (by simp only[AH];omega)
  have a0:at? (q::t) 0=some q:=rfl;obtain⟨r,i1,i2,I⟩:=ADQ H;have X:=I.fit;have a:∀h p,rdL (s.length+1) (s.drop 4)=some (p::GH h)->p=q/\GH h=t:=by
   intro h p c;rw[AMT c (by omega)]at e;cases e;exact⟨rfl,rfl⟩
  unfold Al3;simp only[APN,BI,BH,B9 g1,G,i1,i2,AB,a0,NQ X q,TB X q];cases Y:r.2 with
  |false=>
   simp only[BN,AR,BH];refine⟨(MI,0,false),?_,rfl,⟨fun h=>(by cases h),fun _=>rfl,fun h p g j c _ _=>?_⟩⟩
   .rw[BA];split<;>rfl
   .exact((I.2 Y).2 h ⟨g,j,(a h p c).2⟩).elim
  |true=>
   simp only[BH,AR];obtain⟨⟨Z,c2,c3⟩,O⟩:=I.1 Y;by_cases hT:IS r.1 q=s
   .have B:=J3 r.1 q;rw[hT]at B;rw[show (IS r.1 q != s)=false from by simp[hT],BN,BA,if_neg (by omega)];refine⟨_,rfl,rfl,⟨fun _=>⟨Z,c2,hT⟩,fun h=>(by cases h),fun h p g j c _ _=>?_⟩⟩;obtain⟨J,L⟩:=a h p c;rw[J,O h ⟨g,j,L⟩]
   .rw[show (IS r.1 q != s)=true from by simp[hT],BH];refine⟨(MI,0,false),?_,rfl,⟨fun h=>(by cases h),fun _=>rfl,fun h p g j c S _=>?_⟩⟩
    .rw[BA];split<;>rfl
    .obtain⟨J,L⟩:=a h p c;rw[J,O h ⟨g,j,L⟩]at S;exact(hT S).elim
def Gz(s:Bb)(k:Int):Bu:=if (k.tmod 2==0)=true then s.Dl else s.Odd
theorem Rk(s:Bb)(k:Int):AQy s k=some (Gz s k):=by unfold AQy Gz br;split<;>rfl
theorem Ra(s:Bb)(k:Int):ARB s k=some (Gz s k):=by unfold ARB Gz br;split<;>rfl
theorem HX(s:Bb)(k:Int):∃r,ARA s k=some r/\ABB s k=some r/\Bp r.1:=by
 unfold ARA ABB;rw[Rk,Ra,AB,AB,IT,GY,AB,AB,BI,BI];cases h:Gn (Gz s k) with
 |false=>exact⟨_,rfl,rfl,NK⟩|true=>
  unfold Gn at h;rw[Bool.and_eq_true,decide_eq_true_iff,CY]at h;obtain⟨r,a,c,e⟩:=Rq (s:=List.take (Gz s k).Safe.toNat (Gz s k).Data) (by rw[List.length_take];omega);rw[BH,BH,B9 h.2,B9 h.2,a,c,AB];exact⟨r,rfl,rfl,e.fit⟩
end Lv.P
