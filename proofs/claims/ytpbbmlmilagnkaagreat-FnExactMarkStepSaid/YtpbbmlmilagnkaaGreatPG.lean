/- Plain laws about what the program computes. -/
import Derived.Test.YtpbbmlmilagnkaaGreatPF
set_option linter.unusedVariables false
set_option linter.unusedSimpArgs false
set_option linter.unusedSectionVars false
open Int renaming eq_ofNat_of_zero_le->A2
open List.cons renaming injEq->B0
open List renaming length_append->AO,length_cons->AM,length_drop->A9,length_filterMap_le->CD,length_map->AZ,take_of_length_le->As
open Nat renaming lt_or_ge->AY
namespace Lv.P
open Lv Go
theorem YC{r:AW}(hr:r.Ae.length<2 ^ 62){l:List AP}(hl:l.length<=40)(c now:Int):∃q,Vn r l c now=some q/\q.length<=40/\(D2 l c<=19->q=Gw r l c now):=by
 by_cases hc:D2 l c<=19
 .refine⟨_,RN hr (by omega) hc now,?_,fun _=>rfl⟩;unfold Gw;rw[Hn];have:=CD (ND r c now) l;omega
 .have hlim:lim=268435456:=rfl;unfold Vn;rw[collect (l:=l) (ND r c now) NV (by omega) ?_ ?_]
  .unfold NV;have:=CD (ND r c now) l;obtain⟨x,hx,hx2⟩:=ZG (l:=l.filterMap (ND r c now)) (by omega)
   grind[AE]
  .intro L i h v hv;unfold NW QZ Qa ND;dsimp only;rw[Bq h,BL,BK h,AE,RL hr,AE,AS,AS,CG (by rw[K6];omega),AS,AS];cases h1:(Fk r l[i] now).2<;>cases h2:l[i].Bf==c<;>simp
  .intro L v;unfold NW;dsimp only;rw[Cr,BN,AS]
theorem Zf{l:List AP}(hl:l.length<=40)(c:Int):∃q,Vv l c=some q/\q.length<=40/\(D2 l c<=19->q=HL l c):=by
 by_cases hc:D2 l c<=19
 .refine⟨_,Tx (by omega) hc,?_,fun _=>rfl⟩;unfold HL;rw[Hn];have:=CD (Mn c) l;omega
 .have hlim:lim=268435456:=rfl;unfold Vv;rw[collect (l:=l) (Mn c) NY (by omega) ?_ ?_]
  .unfold NY;have:=CD (Mn c) l;obtain⟨x,hx,hx2⟩:=iR (l:=l.filterMap (Mn c)) (by omega)
   grind[AE]
  .intro L i h v hv;unfold NZ Qd Qe Mn;dsimp only;rw[Bq h,BL,BK h,AE,AS,AS,CG (by rw[K6];omega),AS,AS];cases h1:l[i].State==2<;>cases h2:l[i].Bf==c<;>simp
  .intro L v;unfold NZ;dsimp only;rw[Cr,BN,AS]
theorem OJ{n:Nat}{r:List Int}(hr:r.length<=1048576):∃xs r',IC (n:Int) r=some (xs,r')/\r'.length<=1048576/\(n<=10->xs.length=n)/\(n<=r.length->xs.length=n)/\xs.length<=n /\
 ∀ys zs,r=ys++zs->ys.length=n->xs=ys/\r'=zs:=by
 grind[IC,We,BD,AS,lim,CG,Int.toNat_natCast]
theorem vN{α:Type}{l:List α}(h:l.length=1):∃a,l=[a]:=by
 match l,h with
 | [a],_=>exact⟨a,rfl⟩
theorem three{α:Type}{l:List α}(h:l.length=3):∃a b c,l=[a,b,c]:=by
 match l,h with
 | [a,b,c],_=>exact⟨a,b,c,rfl⟩
section impl
variable{l:List Int}(hl:l.length<=1048576){R:AW×Bool}{now turn:Int}
include hl
theorem ALk{h:AH}(hR:h.AR=R.1)(hh:CU h)(ha:∀g,Good g l->g=h) :
 ∃r,Nf l R ((),R.1.CJ,R.1.Room,R.1.BW,R.1.Bn,R.1.Bi,R.1.Rest,R.1.CI,R.1.Ch,h.Now,h.A4,h.AK,h.Ap,h.BO,h.BP)=some r/\Red l r:=by
 unfold Nf Wj;dsimp only;rw[bZ hR,G1 hh,AE,BB];cases hB:FN h with
 |false=>
  rw[BN,AS,BL];exact⟨_,rfl,Red.bad fun g hg=>by rw[ha g hg]at hg;rw[hg.1]at hB;cases hB⟩
 |true=>
  have hnl:=Oa hh hB;rw[BL,AA6 hh hB,AE,ng (by omega),AE,AS,BB];cases hs:Gx (·==·) (Fy h) l with
  |true=>
   rw[BL];exact⟨_,rfl,fun _=>⟨⟨hB,hh,Rm.1 hs⟩,fun g hg=>ha g hg⟩,fun hc=>by cases hc⟩
  |false=>
   rw[BN];refine⟨_,rfl,Red.bad fun g hg=>?_⟩;rw[ha g hg]at hg;rw[Rm.2 hg.2.2]at hs;cases hs
theorem ALn{x:List Int×List Int}{ps:List AP}{cs:List Aa}{td:List Int}(hx:x.1.length<=1048576) :
 Aw (Wl l R x) big (0,(),R.1.CJ,R.1.Room,R.1.BW,R.1.Bn,R.1.Bi,R.1.Rest,R.1.CI,R.1.Ch,now,turn,ps,cs,td,[]) =
  Nf l R ((),R.1.CJ,R.1.Room,R.1.BW,R.1.Bn,R.1.Bi,R.1.Rest,R.1.CI,R.1.Ch,now,turn,ps,cs,td,x.1.map (fun j=>w64 (j-1))):=by
 refine Da (n:=x.1.length) (fun i (v:List Int)=>((i:Int),(),R.1.CJ,R.1.Room,R.1.BW,R.1.Bn,R.1.Bi,R.1.Rest,R.1.CI,R.1.Ch,now,turn,ps,cs,td,v)) (fun i v=>v=(x.1.take i).map (fun j=>w64 (j-1)))
  (fun _ _=>Nf l R ((),R.1.CJ,R.1.Room,R.1.BW,R.1.Bn,R.1.Bi,R.1.Rest,R.1.CI,R.1.Ch,now,turn,ps,cs,td,x.1.map (fun j=>w64 (j-1)))) (by omega) ?_ (v:=[]) (by simp)
 intro L i v hv hi ih;unfold Wl;dsimp only;rcases AY i x.1.length with h|h
 .grind[lim,BL,BK,AE,Bc,CG,List.take_add_one]
 grind[BN,AS]
theorem ALj(hr:EF R.1=true){ps:List AP}{cs:List Aa}{rest:List Int}(hk:rest.length<=1048576)(hps:ps.length<=1048576)(hcs:cs.length<=1048576)(hcf:∀c∈cs,Dl c)
 (ha:∀g,Good g l->Hd g R.1 now turn/\g.AK=ps/\g.Ap=cs/\rest=tl4 g) :
 ∃r,Wi l R (rest,(),R.1.CJ,R.1.Room,R.1.BW,R.1.Bn,R.1.Bi,R.1.Rest,R.1.CI,R.1.Ch,now,turn,ps,cs,[],[])=some r/\Red l r:=by
 have hrl:=Ce hr;have hcrew:=hrl.2.2.2.2.2.2.2.2.2;unfold Wi;dsimp only;obtain⟨a,r1,e1,e2,e3,_,_,e4⟩:=OJ (n:=1) hk;obtain⟨nt,rfl⟩:=vN (e3 (by omega));have e1':IC 1 rest=some ([nt],r1):=e1;rw[e1',AE,show at? [nt] 0=some nt from rfl,AE,Gj,AE,BB];have hag:∀g,Good g l->nt=(g.BO.length:Int)/\r1=g.BO++g.BP.map up:=by
  intro g hg;obtain⟨q1,q2,q3,q4⟩:=ha g hg;obtain⟨u1,u2⟩:=e4 [(g.BO.length:Int)] (g.BO++g.BP.map up) (by rw[q4];rfl) rfl;cases u1;exact⟨rfl,u2⟩
 cases hin:inB nt 0 4 with
 |false=>
  rw[BN];refine⟨_,rfl,Red.bad fun g hg=>?_⟩;have:=(NF hg.1).todo;have:=(NF hg.1).FJ;have:inB nt 0 4=true:=by rw[Du,(hag g hg).1];omega
  rw[hin]at this;cases this
 |true=>
  rw[BL];rw[Du]at hin;obtain⟨n,rfl⟩:=A2 hin.1;obtain⟨td,r2,f1,f2,f3,_,_,f4⟩:=OJ (n:=n) e2;rw[f1,AE,UO (by have:=f3 (by omega);dsimp only;omega),AE];obtain⟨c,hc⟩:=A2 (show 0<=R.1.Ch by omega);obtain⟨js,r3,g1,g2,g3,_,_,g4⟩:=OJ (n:=c) f2;have g1':IC R.1.Ch r2=some (js,r3):=by rw[hc];exact g1
  have hjl:=g3 (by omega);have htl:=f3 (by omega);rw[g1',AE];rw[ALn hl (by dsimp only;omega)];refine ALk hl (h:=⟨R.1,now,turn,ps,cs,td,js.map (fun j=>w64 (j-1))⟩) rfl ⟨by dsimp only;omega,hps,hcs,hcf,by dsimp only;omega,by dsimp only;rw[AZ];omega⟩ ?_;intro g hg;obtain⟨⟨q1,q2,q3⟩,q4,q5,q6⟩:=ha g hg;obtain⟨p1,p2⟩:=hag g hg;have hrt:=NF hg.1;obtain⟨v1,v2⟩:=f4 _ _ p2 (by omega);obtain⟨w1,w2⟩:=g4 (g.BP.map up) [] (by rw[v2,List.append_nil]) (by rw[AZ];have:=hrt.AFO;rw[q1,hc]at this;omega);have hj:js.map (fun j=>w64 (j-1))=g.BP:=by
   rw[w1,List.map_map]
   conv=>rhs;rw[<-List.map_id g.BP]
   apply List.map_congr_left;intro y hy;have:=hrt.job y hy;show w64 (w64 (y+1)-1)=y;rw[Ao (n:=y+1) (by omega) (by omega),Ao (by omega) (by omega)];omega
  rw[hj,v1];cases g;dsimp only at *;rw[q1,q2,q3,q4,q5]
theorem ALm(hr:EF R.1=true){ps:List AP}{rest:List Int}(hk:rest.length<=1048576)(hps:ps.length<=40)
 (ha:∀g,Good g l->Hd g R.1 now turn/\g.AK=ps/\rest=tl3 g 0) :
 ∃r,Wh l R (rest,(),R.1.CJ,R.1.Room,R.1.BW,R.1.Bn,R.1.Bi,R.1.Rest,R.1.CI,R.1.Ch,now,turn,ps,[],[],[])=some r/\Red l r:=by
 have hrl:=Ce hr;unfold Wh;dsimp only;refine Ts (n:=R.1.Ae.length) (fun i (v:List Aa×List Int)=>((i:Int),v.2,(),R.1.CJ,R.1.Room,R.1.BW,R.1.Bn,R.1.Bi,R.1.Rest,R.1.CI,R.1.Ch,now,turn,ps,v.1,[],[]))
  (fun i v=>v.1.length=i/\(∀c∈v.1,Dl c)/\v.2.length<=1048576/\∀g,Good g l->Hd g R.1 now turn/\g.AK=ps/\v.1=g.Ap.take i/\v.2=tl3 g i)
  (Red l) (by omega) ?_ (v:=([],rest)) ⟨rfl,by simp,hk,fun g hg=>by obtain⟨h1,h2,h3⟩:=ha g hg;exact⟨h1,h2,by simp,h3⟩⟩
 rintro L i ⟨cs,q⟩ ⟨g1,gf,g2,g3⟩ hi ih;dsimp only at g1 gf g2 g3 ih ⊢;unfold mV;dsimp only;rcases AY i R.1.Ae.length with h|h
 .have hD:R.1.Ae.getD i 0=R.1.Ae[i]:=by simp[List.getD,h]
  obtain⟨a,q',e1,e2,e3,_,_,e4⟩:=OJ (n:=1) g2;obtain⟨f,rfl⟩:=vN (e3 (by omega));have e1':IC 1 q=some ([f],q'):=e1;obtain⟨qu,u1,u2,u3⟩:=YC (r:=R.1) (show R.1.Ae.length<2 ^ 62 by omega) hps (i:Int) now;obtain⟨pi,v1,v2,v3⟩:=Zf hps (i:Int);have hlim:lim=268435456:=rfl;rw[Bq h,BL,BK h];simp only[AE,e1',show at? [f] 0=some f from rfl,u1,v1,fT (show pi.length<=1048576 by omega),Tw (show ps.length<2 ^ 58 by omega),Tz (show ps.length<2 ^ 58 by omega),C7,PL,PM,PN,PO,No,PQ,PR];rw[CG (by rw[K6];omega),Bc h (by omega)];refine ih (cs++[Aa.mk (Cm.mk R.1.Ae[i] f (I5 ps i) (w64 (w64 (R.1.Ae[i]-f)-I5 ps i)) (Kx ps i)) qu (Iu pi).1],q') ⟨by simp[g1],?_,e2,fun g hg=>?_⟩ h
  .intro x hx;rcases List.mem_append.1 hx with hx|hx
   .exact gf x hx
   .rw[List.mem_singleton.1 hx];exact⟨by dsimp only;omega,UE _⟩
  .obtain⟨⟨p1,p2,p3⟩,p4,p5,p6⟩:=g3 g hg;have hrt:=NF hg.1;have hic:i<g.Ap.length:=by rw[hrt.H3,p1];exact h
   obtain⟨w1,w2,w3,w4⟩:=hrt.cab i hic;unfold tl3 at p6;rw[Dt hic,List.map_cons]at p6;obtain⟨x1,x2⟩:=e4 [fr g.Ap[i]] (((g.Ap.drop (i+1)).map fr)++tl4 g) (by rw[p6];rfl) rfl;cases x1;refine⟨⟨p1,p2,p3⟩,p4,?_,x2⟩
   grind[List.take_add_one,YS]
 .obtain rfl:i=R.1.Ae.length:=by omega
  rw[Cr,BN,AS];refine ALj hl hr g2 (by omega) (by omega) gf fun g hg=>?_
  obtain⟨p1,p4,p5,p6⟩:=g3 g hg;have hrt:=NF hg.1;have hn:g.Ap.length=R.1.Ae.length:=by rw[hrt.H3,p1.1]
  refine⟨p1,p4,?_,?_⟩
  .rw[p5,As (by omega)]
  .rw[p6];unfold tl3;rw[List.drop_eq_nil_of_le (by omega)];rfl
theorem ALl(hr:EF R.1=true){n:Int}{x:List Int×List Int}(hx:at? x.1 2=some n)(hn0:0<=n)(hn:n<=40){rest:List Int}(hk:rest.length<=1048576)
 (ha:∀g,Good g l->Hd g R.1 now turn/\(g.AK.length:Int)=n/\rest=tl2 g 0) :
 ∃r,Aw (Wk l R x) big (0,rest,(),R.1.CJ,R.1.Room,R.1.BW,R.1.Bn,R.1.Bi,R.1.Rest,R.1.CI,R.1.Ch,now,turn,[],[],[],[])=some r/\Red l r:=by
 have hrl:=Ce hr;obtain⟨m,rfl⟩:=A2 hn0;refine Ts (n:=m) (fun i (v:List AP×List Int)=>((i:Int),v.2,(),R.1.CJ,R.1.Room,R.1.BW,R.1.Bn,R.1.Bi,R.1.Rest,R.1.CI,R.1.Ch,now,turn,v.1,[],[],[]))
  (fun i v=>v.1.length=i/\v.2.length<=1048576/\∀g,Good g l->Hd g R.1 now turn/\g.AK.length=m/\v.1=g.AK.take i/\v.2=tl2 g i)
  (Red l) (by omega) ?_ (v:=([],rest)) ⟨rfl,hk,fun g hg=>by obtain⟨h1,h2,h3⟩:=ha g hg;exact⟨h1,by omega,by simp,h3⟩⟩
 rintro L i ⟨ps,q⟩ ⟨g1,g2,g3⟩ hi ih;dsimp only at g1 g2 g3 ih ⊢;unfold Wk;dsimp only;rw[hx,AE];rcases AY i m with h|h
 .obtain⟨xs,q',e1,e2,e3,_,_,e4⟩:=OJ (n:=10) g2;obtain⟨a0,a1,a2,a3,a4,a5,a6,a7,a8,a9,rfl⟩:=ten (e3 (by omega));have e1':IC 10 q=some ([a0,a1,a2,a3,a4,a5,a6,a7,a8,a9],q'):=e1;have f0:at? [a0,a1,a2,a3,a4,a5,a6,a7,a8,a9] 0=some a0:=rfl;have f1:at? [a0,a1,a2,a3,a4,a5,a6,a7,a8,a9] 1=some a1:=rfl;have f2:at? [a0,a1,a2,a3,a4,a5,a6,a7,a8,a9] 2=some a2:=rfl;have f3:at? [a0,a1,a2,a3,a4,a5,a6,a7,a8,a9] 3=some a3:=rfl;have f4:at? [a0,a1,a2,a3,a4,a5,a6,a7,a8,a9] 4=some a4:=rfl;have f5:at? [a0,a1,a2,a3,a4,a5,a6,a7,a8,a9] 5=some a5:=rfl;have f6:at? [a0,a1,a2,a3,a4,a5,a6,a7,a8,a9] 6=some a6:=rfl;have f7:at? [a0,a1,a2,a3,a4,a5,a6,a7,a8,a9] 7=some a7:=rfl;have f8:at? [a0,a1,a2,a3,a4,a5,a6,a7,a8,a9] 8=some a8:=rfl;have f9:at? [a0,a1,a2,a3,a4,a5,a6,a7,a8,a9] 9=some a9:=rfl;rw[Bq h,BL,e1'];simp only[f0,f1,f2,f3,f4,f5,f6,f7,f8,f9,AE];have hlim:lim=268435456:=rfl;rw[CG (by rw[K6];omega),Bc h (by omega)];refine ih (ps++[⟨a0,a1,w64 (a2-1),a3,a4,a5,a6,a7,a8,a9⟩],q') ⟨by simp[g1],e2,fun g hg=>?_⟩ h;obtain⟨p1,p2,p3,p4⟩:=g3 g hg;have hip:i<g.AK.length:=by omega
  have hpo:=Jv ((NF hg.1).par i hip);have hs:=(Ce hpo.1).1;have hf:=hpo.2.2.2.2.1;unfold tl2 at p4;rw[Dt hip,List.flatMap_cons,List.append_assoc]at p4;obtain⟨u1,u2⟩:=e4 (JZ g.AK[i]) _ p4 rfl;refine⟨p1,p2,?_,u2⟩;rw[List.take_add_one,List.getElem?_eq_getElem hip,p3];dsimp only;congr 1;show [_]=[g.AK[i]];congr 1;unfold JZ at u1;simp only[B0,and_true]at u1;obtain⟨q0,q1,q2,q3,q4,q5,q6,q7,q8,q9⟩:=u1;have hfrom:w64 (a2-1)=g.AK[i].Ci:=by
   rw[q2,Ao (n:=g.AK[i].Ci+1) (by omega) (by omega),Ao (by omega) (by omega)];omega
  rw[hfrom,q0,q1,q3,q4,q5,q6,q7,q8,q9]
 .obtain rfl:i=m:=by omega
  rw[Cr,BN,AS];refine ALm hl hr g2 (by omega) fun g hg=>?_
  grind[tl2]
end impl
theorem fL{l:List Int}(hl:l.length<=1048576):∃r,mU l=some r/\Red l r:=by
 unfold mU;obtain⟨a,r1,a1,a2,a3,_,_,a4⟩:=OJ (n:=1) hl;obtain⟨sz,rfl⟩:=vN (a3 (by omega));have a1':IC 1 l=some ([sz],r1):=a1;rw[a1',AE,show at? [sz] 0=some sz from rfl,AE,Gj,AE,BB];have hag:∀g,Good g l->sz=((H4 g.AR).length:Int)/\r1=H4 g.AR++(g.Now::g.A4::(g.AK.length:Int)::tl2 g 0):=by
  intro g hg;obtain⟨u1,u2⟩:=a4 [((H4 g.AR).length:Int)] _ (bX hg) rfl;cases u1;exact⟨rfl,u2⟩
 have hbadE:∀(_:∀g,¬Good g l),∃r,Nd l ([sz],r1) sz true=some r/\Red l r:=by
  intro hno;unfold Nd;rw[BL];exact⟨_,rfl,Red.bad hno⟩
 cases hin:inB sz 9 12 with
 |false=>
  rw[BN,AS];refine hbadE fun g hg=>?_
  have h1:=L0 g.AR;have h2:=(NF hg.1).FJ;have:inB sz 9 12=true:=by rw[Du,(hag g hg).1];omega
  rw[hin]at this;cases this
 |true=>
  rw[Du]at hin;rw[BL,AS];obtain⟨s,rfl⟩:=A2 (show 0<=sz by omega);dsimp only;by_cases hsl:(s:Int)>(r1.length:Int)
  .rw[show decide ((s:Int)>(r1.length:Int))=true from decide_eq_true hsl];refine hbadE fun g hg=>?_
   obtain⟨u1,u2⟩:=hag g hg;rw[u2,AO]at hsl;omega
  .rw[show decide ((s:Int)>(r1.length:Int))=false from decide_eq_false hsl];unfold Nd;rw[BN];obtain⟨xs,r2,c1,c2,_,c3,_,c4⟩:=OJ (n:=s) a2;have hxl:=c3 (by omega);rw[c1,AE];dsimp only;rw[fR (by omega),AE,BB];have hag2:∀g,Good g l->xs=H4 g.AR/\r2=g.Now::g.A4::(g.AK.length:Int)::tl2 g 0:=by
    intro g hg;obtain⟨u1,u2⟩:=hag g hg;exact c4 _ _ u2 (by omega)
   cases hR:(H6 xs).2 with
   |false=>
    rw[BN];refine⟨_,rfl,Red.bad fun g hg=>?_⟩;rw[(hag2 g hg).1,Jk (NF hg.1).rules]at hR;cases hR
   |true=>
    rw[BL];have hrb:=(Y6 hR).1;obtain⟨ys,r3,d1,d2,d3,_,_,d4⟩:=OJ (n:=3) c2;obtain⟨n1,n2,n3,rfl⟩:=three (d3 (by omega));have d1':IC 3 r2=some ([n1,n2,n3],r3):=d1;have hag3:∀g,Good g l->n1=g.Now/\n2=g.A4/\n3=(g.AK.length:Int)/\r3=tl2 g 0:=by
     intro g hg;obtain⟨u1,u2⟩:=hag2 g hg;obtain⟨v1,v2⟩:=d4 [g.Now,g.A4,(g.AK.length:Int)] (tl2 g 0) (by rw[u2];rfl) rfl;simp only[B0,and_true]at v1;exact⟨v1.1,v1.2.1,v1.2.2,v2⟩
    rw[d1',AE];dsimp only;rw[show at? [n1,n2,n3] 0=some n1 from rfl,AE,show at? [n1,n2,n3] 1=some n2 from rfl,AE,show at? [n1,n2,n3] 2=some n3 from rfl,AE,Gj,AE,BB];cases hi3:inB n3 0 40 with
    |false=>
     rw[BN];refine⟨_,rfl,Red.bad fun g hg=>?_⟩;have h2:=(NF hg.1).few;have:inB n3 0 40=true:=by rw[Du,(hag3 g hg).2.2.1];omega
     rw[hi3]at this;cases this
    |true=>
     rw[BL];rw[Du]at hi3;refine ALl hl hrb (x:=([n1,n2,n3],r3)) rfl hi3.1 hi3.2 d2 fun g hg=>?_
     obtain⟨q1,q2,q3,q4⟩:=hag3 g hg;refine⟨⟨?_,q1.symm,q2.symm⟩,q3.symm,q4⟩;rw[(hag2 g hg).1,Jk (NF hg.1).rules]
theorem ck{l:List Int}(hl:l.length<=1048576):∃r,m8 l=some r/\mU l=some r/\Red l r:=by
 obtain⟨r,h1,h2⟩:=iE hl;obtain⟨r',h3,h4⟩:=fL hl;exact⟨r,h1,by rw[h3,h4.one h2],h2⟩
end Lv.P
namespace Lv.P
open Lv Go
theorem P5:CU Mw:=by constructor<;>simp[Mw,ig]
theorem Red.fit{l:List Int}{r:AH×Bool}(h:Red l r):CU r.1:=by
 cases e:r.2 with
 |true=>exact(h.1 e).1.2.1|false=>rw[(h.2 e).1];exact P5
theorem AJg:∀{l:List Int},(∀n∈l,okN n)->l.length<=(pL l).length
 | [],_=>by simp|n::l,h=>by
  have h1:=AJg fun m hm=>h m (List.mem_cons_of_mem _ hm)
  have h2:=AFj (h n (List.mem_cons_self ..));have:pL (n::l)=pN n++pL l:=rfl;rw[this,AO,AM];omega
structure AHm(s:List UInt8)(r:AH×Int×Bool):Prop where
 yes:r.2.2=true->FN r.1=true/\CU r.1/\M7 r.1 r.2.1=s
 no:r.2.2=false->r=(Mw,0,false)
 all:∀h q,FN h=true->CU h->rdL (s.length+1) (s.drop 4)=some (q::Fy h)->M7 h q=s->5<=s.length->r=(h,q,true)
theorem AHm.fit{s:List UInt8}{r:AH×Int×Bool}(h:AHm s r):CU r.1:=by
 cases e:r.2.2 with
 |true=>exact(h.yes e).2.1|false=>rw[h.no e];exact P5
theorem AJE{f:Nat}{s:List UInt8}{l:List Int}(h:rdL f s=some l):l.length<=s.length/\(s≠[]->l≠[]):=by
 obtain⟨h1,h2⟩:=gk f s l h;refine⟨by rw[h1];exact AJg h2,fun hs hl=>?_⟩;rw[hl]at h1;exact hs h1
theorem ot{f g:Nat}{s:List UInt8}{l:List Int}(h:rdL f s=some l)(hg:s.length<g):rdL g s=some l:=by
 obtain⟨h1,h2⟩:=gk f s l h
 grind[AG2]
theorem ZY{s:List UInt8}(hs:s.length<=1048576):∃r,y7 s=some r/\y8 s=some r/\AHm s r:=by
 unfold y7 y8 XF XI;by_cases h5:s.length<5
 .rw[BD,BD,if_pos (by omega),if_pos (by omega),AS,BL];exact⟨_,rfl,rfl,⟨fun h=>(by cases h),fun _=>rfl,fun _ _ _ _ _ _ h=>absurd h (by omega)⟩⟩
 have g4:(0:Int)<=4/\(4:Int)<=(s.length:Int):=by omega
 have hd:List.drop (Int.toNat 4) s=s.drop 4:=rfl;have hdl:(s.drop 4).length<=1048576:=by rw[A9];omega
 rw[BD,BD,if_neg (by omega),if_neg (by omega),AS,CG g4,CG g4,hd,fU hdl,iP hdl,AE,AE];have zz:AHm s (Mw,0,false)\/True:=.inr trivial;cases e:rdL ((s.drop 4).length+1) (s.drop 4) with
 |none=>
  refine⟨(Mw,0,false),?_,rfl,⟨fun h=>(by cases h),fun _=>rfl,fun h q _ _ h3 _ _=>?_⟩⟩
  .rw[BD];split<;>rfl
  .rw[ot h3 (by omega)]at e;cases e
 |some l=>
  obtain⟨l1,l2⟩:=AJE e;have hlne:=l2 (by rw[<-List.length_pos_iff,A9];omega);obtain⟨q,t,rfl⟩:∃q t,l=q::t:=by
   cases l with
   |nil=>exact(hlne rfl).elim|cons q t=>exact⟨q,t,rfl⟩
  have htl:t.length<=1048576:=by simp only[AM]at l1;omega
  have g1:(0:Int)<=1/\(1:Int)<=((q::t).length:Int):=by simp only[AM];omega
  have htk:List.take ((q::t).length-Int.toNat 1) (List.drop (Int.toNat 1) (q::t))=t:=by
   show List.take ((q::t).length-1) t=t;exact As (by simp only[AM];omega)
  have a0:at? (q::t) 0=some q:=rfl;obtain⟨r,i1,i2,i3⟩:=ck htl;have hf:=i3.fit;have hall:∀h p,rdL (s.length+1) (s.drop 4)=some (p::Fy h)->p=q/\Fy h=t:=by
   intro h p h3;rw[ot h3 (by omega)]at e;cases e;exact⟨rfl,rfl⟩
  unfold XG;simp only[ALB,BB,BL,CG g1,htk,i1,i2,AE,a0,O6 hf q,O0 hf q];cases hr:r.2 with
  |false=>
   simp only[BN,AS,BL];refine⟨(Mw,0,false),?_,rfl,⟨fun h=>(by cases h),fun _=>rfl,fun h p h1 h2 h3 _ _=>?_⟩⟩
   .rw[BD];split<;>rfl
   .exact((i3.2 hr).2 h ⟨h1,h2,(hall h p h3).2⟩).elim
  |true=>
   simp only[BL,AS];obtain⟨⟨c1,c2,c3⟩,c4⟩:=i3.1 hr;by_cases hT:M7 r.1 q=s
   .have hlen:=TW r.1 q;rw[hT]at hlen;rw[show (M7 r.1 q != s)=false from by simp[hT],BN,BD,if_neg (by omega)];refine⟨_,rfl,rfl,⟨fun _=>⟨c1,c2,hT⟩,fun h=>(by cases h),fun h p h1 h2 h3 _ _=>?_⟩⟩;obtain⟨u1,u2⟩:=hall h p h3;rw[u1,c4 h ⟨h1,h2,u2⟩]
   .rw[show (M7 r.1 q != s)=true from by simp[hT],BL];refine⟨(Mw,0,false),?_,rfl,⟨fun h=>(by cases h),fun _=>rfl,fun h p h1 h2 h3 h4 _=>?_⟩⟩
    .rw[BD];split<;>rfl
    .obtain⟨u1,u2⟩:=hall h p h3;rw[u1,c4 h ⟨h1,h2,u2⟩]at h4;exact(hT h4).elim
def Il(s:B5)(k:Int):B2:=if (k.tmod 2==0)=true then s.Fw else s.Odd
theorem T8(s:B5)(k:Int):nA s k=some (Il s k):=by unfold nA Il br;split<;>rfl
theorem Ty(s:B5)(k:Int):nC s k=some (Il s k):=by unfold nC Il br;split<;>rfl
theorem Kz(s:B5)(k:Int):∃r,XH s k=some r/\XJ s k=some r/\CU r.1:=by
 unfold XH XJ;rw[T8,Ty,AE,AE,JC,I6,AE,AE,BB,BB];cases h:Ix (Il s k) with
 |false=>exact⟨_,rfl,rfl,P5⟩|true=>
  unfold Ix at h;rw[Bool.and_eq_true,decide_eq_true_iff,Du]at h;obtain⟨r,h1,h2,h3⟩:=ZY (s:=List.take (Il s k).Safe.toNat (Il s k).Data) (by rw[List.length_take];omega);rw[BL,BL,CG h.2,CG h.2,h1,h2,AE];exact⟨r,rfl,rfl,h3.fit⟩
end Lv.P
