/-
  Plain laws: the program's reader of houses reads right houses, and no other; it reads what the reference's reads.
-/
import Derived.Test.YtffakkimlookoaaGreatPF
set_option linter.unusedVariables false
set_option linter.unusedSimpArgs false
set_option linter.unusedSectionVars false
namespace Lv.P
open Lv Go
theorem VH{r:AO}(hr:r.AM.length<2 ^ 62){l:List AI}(hl:l.length<=40)(c now:Int):∃q,TQ r l c now=some q/\q.length<=40/\(EG l c<=19->q=HR r l c now):=by
 by_cases hc:EG l c<=19
 .refine⟨_,Po hr (by omega) hc now,?_,fun _=>rfl⟩;unfold HR;rw [EX];have:=List.length_filterMap_le (M7 r c now) l;omega
 .have hlim:lim=268435456:=rfl;unfold TQ;rw [collect (l:=l) (M7 r c now) Ko (by omega) ?_ ?_]
  .unfold Ko;have:=List.length_filterMap_le (M7 r c now) l;obtain⟨x,hx,hx2⟩:=XG (l:=l.filterMap (M7 r c now)) (by omega);rw [hx,AA];exact⟨x,rfl,by omega,fun h=>(hc h).elim⟩
  .intro L i h v hv;unfold Kq O9 PB M7;dsimp only;rw [Ac h,Ab,AX h,AA,Pm hr,AA,AG,AG,A1 (by rw [DC];omega),AG,AG];cases h1:(Da r l[i] now).2 <;> cases h2:l[i].A4==c <;> simp
  .intro L v;unfold Kq;dsimp only;rw [Ae,Ad,AG]
theorem XU{l:List AI}(hl:l.length<=40)(c:Int):∃q,TF l c=some q/\q.length<=40/\(EG l c<=19->q=KR l c):=by
 by_cases hc:EG l c<=19
 .refine⟨_,Rq (by omega) hc,?_,fun _=>rfl⟩;unfold KR;rw [EX];have:=List.length_filterMap_le (OT c) l;omega
 .have hlim:lim=268435456:=rfl;unfold TF;rw [collect (l:=l) (OT c) Ki (by omega) ?_ ?_]
  .unfold Ki;have:=List.length_filterMap_le (OT c) l;obtain⟨x,hx,hx2⟩:=bV (l:=l.filterMap (OT c)) (by omega);rw [hx,AA];exact⟨x,rfl,by omega,fun h=>(hc h).elim⟩
  .intro L i h v hv;unfold Kj Ov Ow OT;dsimp only;rw [Ac h,Ab,AX h,AA,AG,AG,A1 (by rw [DC];omega),AG,AG];cases h1:l[i].State==2 <;> cases h2:l[i].A4==c <;> simp
  .intro L v;unfold Kj;dsimp only;rw [Ae,Ad,AG]
theorem MM{n:Nat}{r:List Int}(hr:r.length<=1048576):∃xs r',E8 (n:Int) r=some (xs,r')/\r'.length<=1048576/\(n<=10->xs.length=n)/\(n<=r.length->xs.length=n)/\xs.length<=n /\
 ∀ys zs,r=ys++zs->ys.length=n->xs=ys/\r'=zs:=by
 unfold E8 UN;rw [AV,if_neg (by omega),AG,AV];rcases Nat.lt_or_ge r.length n with h|h
 .rw [if_pos (by omega)];have e:∀b:Int,b=(n:Int)->(if (false:Bool)=true then (if 10>(if (true:Bool)=true then (if 0>b then 0 else b) else (if 0<b then 0 else b)) then 10 else (if (true:Bool)=true then (if 0>b then 0 else b) else (if 0<b then 0 else b))) else (if 10<(if (true:Bool)=true then (if 0>b then 0 else b) else (if 0<b then 0 else b)) then 10 else (if (true:Bool)=true then (if 0>b then 0 else b) else (if 0<b then 0 else b))))=((min n 10:Nat):Int):=by
   rintro b rfl;simp only [Bool.false_eq_true,if_false,if_true];rw [if_neg (by omega:¬(0>(n:Int)))];split <;> omega
  rw [e _ rfl];have hlim:lim=268435456:=rfl;rw [A1 ⟨by omega,by omega⟩];refine⟨_,[],rfl,by simp,?_,?_,?_,?_⟩
  .intro h1;simp;omega
  .intro h1;omega
  .simp;omega
  .intro ys zs h1 h2;rw [h1,List.length_append] at h;omega
 .rw [if_neg (by omega),A1 (by omega),A1 (by omega)];refine⟨List.take (n:Int).toNat r,List.drop (n:Int).toNat r,rfl,by rw [List.length_drop];omega,?_,?_,?_,?_⟩
  .intro _;rw [List.length_take];omega
  .intro _;rw [List.length_take];omega
  .rw [List.length_take];omega
  .intro ys zs h1 h2;rw [Int.toNat_natCast,h1,<-h2];exact⟨List.take_left,List.drop_left⟩
theorem kP{α:Type}{l:List α}(h:l.length=1):∃a,l=[a]:=by
 match l,h with
 | [a],_=>exact⟨a,rfl⟩
theorem three{α:Type}{l:List α}(h:l.length=3):∃a b c,l=[a,b,c]:=by
 match l,h with
 | [a,b,c],_=>exact⟨a,b,c,rfl⟩
section impl
variable{l:List Int}(hl:l.length<=1048576){R:AO×Bool}{now turn:Int}
include hl
theorem ya{h:AF}(hR:h.AS=R.1)(hh:BO h)(ha:∀g,Good g l->g=h) :
 ∃r,Kz l R ((),R.1.BG,R.1.Room,R.1.As,R.1.A2,R.1.Ax,R.1.Rest,R.1.BA,R.1.Bd,h.Now,h.Ah,h.AE,h.AR,h.A7,h.BC)=some r/\Red l r:=by
 unfold Kz UU;dsimp only;rw [YK hR,Ds hh,AA,Ai];cases hB:Bl h with
 |false=>
  rw [Ad,AG,Ab];exact⟨_,rfl,Red.bad fun g hg=>by rw [ha g hg] at hg;rw [hg.1] at hB;cases hB⟩
 |true=>
  have hnl:=JA hh hB;rw [Ab,Qy hh hB,AA,fj (by omega),AA,AG,Ai];cases hs:DE (·==·) (BX h) l with
  |true=>
   rw [Ab];exact⟨_,rfl,fun _=>⟨⟨hB,hh,HW.1 hs⟩,fun g hg=>ha g hg⟩,fun hc=>by cases hc⟩
  |false=>
   rw [Ad];refine⟨_,rfl,Red.bad fun g hg=>?_⟩;rw [ha g hg] at hg;rw [HW.2 hg.2.2] at hs;cases hs
theorem yd{x:List Int×List Int}{ps:List AI}{cs:List Am}{td:List Int}(hx:x.1.length<=1048576) :
 AT (UX l R x) big (0,(),R.1.BG,R.1.Room,R.1.As,R.1.A2,R.1.Ax,R.1.Rest,R.1.BA,R.1.Bd,now,turn,ps,cs,td,[]) =
  Kz l R ((),R.1.BG,R.1.Room,R.1.As,R.1.A2,R.1.Ax,R.1.Rest,R.1.BA,R.1.Bd,now,turn,ps,cs,td,x.1.map (fun j=>w64 (j-1))):=by
 refine Bz (n:=x.1.length) (fun i (v:List Int)=>((i:Int),(),R.1.BG,R.1.Room,R.1.As,R.1.A2,R.1.Ax,R.1.Rest,R.1.BA,R.1.Bd,now,turn,ps,cs,td,v)) (fun i v=>v=(x.1.take i).map (fun j=>w64 (j-1)))
  (fun _ _=>Kz l R ((),R.1.BG,R.1.Room,R.1.As,R.1.A2,R.1.Ax,R.1.Rest,R.1.BA,R.1.Bd,now,turn,ps,cs,td,x.1.map (fun j=>w64 (j-1)))) (by omega) ?_ (v:=[]) (by simp)
 intro L i v hv hi ih;unfold UX;dsimp only;rcases Nat.lt_or_ge i x.1.length with h|h
 .have hlim:lim=268435456:=rfl;have hvl:v.length<=1048576:=by rw [hv,List.length_map,List.length_take];omega
  simp only [Ac h,Ab,AX h,AA,Ag h (by omega:x.1.length<2 ^ 63)];rw [A1 (by rw [DC];omega)];refine ih _ ?_ h;rw [hv,List.take_add_one,List.getElem?_eq_getElem h,List.map_append];rfl
 .obtain rfl:i=x.1.length:=by omega
  rw [Ae,Ad,AG,hv,List.take_length]
theorem yZ(hr:Bt R.1=true){ps:List AI}{cs:List Am}{rest:List Int}(hk:rest.length<=1048576)(hps:ps.length<=1048576)(hcs:cs.length<=1048576)(hcf:∀c∈cs,CW c)
 (ha:∀g,Good g l->Hd g R.1 now turn/\g.AE=ps/\g.AR=cs/\rest=tl4 g) :
 ∃r,UT l R (rest,(),R.1.BG,R.1.Room,R.1.As,R.1.A2,R.1.Ax,R.1.Rest,R.1.BA,R.1.Bd,now,turn,ps,cs,[],[])=some r/\Red l r:=by
 have hrl:=BT hr;have hcrew:=hrl.2.2.2.2.2.2.2.2.2;unfold UT;dsimp only;obtain⟨a,r1,e1,e2,e3,_,_,e4⟩:=MM (n:=1) hk;obtain⟨nt,rfl⟩:=kP (e3 (by omega));have e1':E8 1 rest=some ([nt],r1):=e1;rw [e1',AA,show at? [nt] 0=some nt from rfl,AA,E5,AA,Ai];have hag:∀g,Good g l->nt=(g.A7.length:Int)/\r1=g.A7++g.BC.map up:=by
  intro g hg;obtain⟨q1,q2,q3,q4⟩:=ha g hg;obtain⟨u1,u2⟩:=e4 [(g.A7.length:Int)] (g.A7++g.BC.map up) (by rw [q4];rfl) rfl;cases u1;exact⟨rfl,u2⟩
 cases hin:inB nt 0 4 with
 |false=>
  rw [Ad];refine⟨_,rfl,Red.bad fun g hg=>?_⟩;have:=(Hh hg.1).todo;have:=(Hh hg.1).E2;have:inB nt 0 4=true:=by rw [Bp,(hag g hg).1];omega
  rw [hin] at this;cases this
 |true=>
  rw [Ab];rw [Bp] at hin;obtain⟨n,rfl⟩:=Int.eq_ofNat_of_zero_le hin.1;obtain⟨td,r2,f1,f2,f3,_,_,f4⟩:=MM (n:=n) e2;rw [f1,AA,lW (by have:=f3 (by omega);dsimp only;omega),AA];obtain⟨c,hc⟩:=Int.eq_ofNat_of_zero_le (show 0<=R.1.Bd by omega);obtain⟨js,r3,g1,g2,g3,_,_,g4⟩:=MM (n:=c) f2;have g1':E8 R.1.Bd r2=some (js,r3):=by rw [hc];exact g1
  have hjl:=g3 (by omega);have htl:=f3 (by omega);rw [g1',AA];rw [yd hl (by dsimp only;omega)];refine ya hl (h:=⟨R.1,now,turn,ps,cs,td,js.map (fun j=>w64 (j-1))⟩) rfl ⟨by dsimp only;omega,hps,hcs,hcf,by dsimp only;omega,by dsimp only;rw [List.length_map];omega⟩ ?_;intro g hg;obtain⟨⟨q1,q2,q3⟩,q4,q5,q6⟩:=ha g hg;obtain⟨p1,p2⟩:=hag g hg;have hrt:=Hh hg.1;obtain⟨v1,v2⟩:=f4 _ _ p2 (by omega);obtain⟨w1,w2⟩:=g4 (g.BC.map up) [] (by rw [v2,List.append_nil]) (by rw [List.length_map];have:=hrt.sN;rw [q1,hc] at this;omega);have hj:js.map (fun j=>w64 (j-1))=g.BC:=by
   rw [w1,List.map_map]
   conv=>rhs;rw [<-List.map_id g.BC]
   apply List.map_congr_left;intro y hy;have:=hrt.job y hy;show w64 (w64 (y+1)-1)=y;rw [AP (n:=y+1) (by omega) (by omega),AP (by omega) (by omega)];omega
  rw [hj,v1];cases g;dsimp only at *;rw [q1,q2,q3,q4,q5]
theorem yc(hr:Bt R.1=true){ps:List AI}{rest:List Int}(hk:rest.length<=1048576)(hps:ps.length<=40)
 (ha:∀g,Good g l->Hd g R.1 now turn/\g.AE=ps/\rest=tl3 g 0) :
 ∃r,US l R (rest,(),R.1.BG,R.1.Room,R.1.As,R.1.A2,R.1.Ax,R.1.Rest,R.1.BA,R.1.Bd,now,turn,ps,[],[],[])=some r/\Red l r:=by
 have hrl:=BT hr;unfold US;dsimp only;refine E9 (n:=R.1.AM.length) (fun i (v:List Am×List Int)=>((i:Int),v.2,(),R.1.BG,R.1.Room,R.1.As,R.1.A2,R.1.Ax,R.1.Rest,R.1.BA,R.1.Bd,now,turn,ps,v.1,[],[]))
  (fun i v=>v.1.length=i/\(∀c∈v.1,CW c)/\v.2.length<=1048576/\∀g,Good g l->Hd g R.1 now turn/\g.AE=ps/\v.1=g.AR.take i/\v.2=tl3 g i)
  (Red l) (by omega) ?_ (v:=([],rest)) ⟨rfl,by simp,hk,fun g hg=>by obtain⟨h1,h2,h3⟩:=ha g hg;exact⟨h1,h2,by simp,h3⟩⟩
 rintro L i ⟨cs,q⟩ ⟨g1,gf,g2,g3⟩ hi ih;dsimp only at g1 gf g2 g3 ih ⊢;unfold fC;dsimp only;rcases Nat.lt_or_ge i R.1.AM.length with h|h
 .have hD:R.1.AM.getD i 0=R.1.AM[i]:=by simp [List.getD,h]
  obtain⟨a,q',e1,e2,e3,_,_,e4⟩:=MM (n:=1) g2;obtain⟨f,rfl⟩:=kP (e3 (by omega));have e1':E8 1 q=some ([f],q'):=e1;obtain⟨qu,u1,u2,u3⟩:=VH (r:=R.1) (show R.1.AM.length<2 ^ 62 by omega) hps (i:Int) now;obtain⟨pi,v1,v2,v3⟩:=XU hps (i:Int);have hlim:lim=268435456:=rfl;rw [Ac h,Ab,AX h];simp only [AA,e1',show at? [f] 0=some f from rfl,u1,v1,Z4 (show pi.length<=1048576 by omega),Rp (show ps.length<2 ^ 58 by omega),Rr (show ps.length<2 ^ 58 by omega),Bj,K2,K3,K4,K5,K6,K7,K8];rw [A1 (by rw [DC];omega),Ag h (by omega)];refine ih (cs++[Am.mk (BH.mk R.1.AM[i] f (Pk ps i) (w64 (w64 (R.1.AM[i]-f)-Pk ps i)) (Yp ps i)) qu (Fj pi).1],q') ⟨by simp [g1],?_,e2,fun g hg=>?_⟩ h
  .intro x hx;rcases List.mem_append.1 hx with hx|hx
   .exact gf x hx
   .rw [List.mem_singleton.1 hx];exact⟨by dsimp only;omega,SE _⟩
  .obtain⟨⟨p1,p2,p3⟩,p4,p5,p6⟩:=g3 g hg;have hrt:=Hh hg.1;have hic:i<g.AR.length:=by rw [hrt.MA,p1];exact h
   obtain⟨w1,w2,w3,w4⟩:=hrt.cab i hic;unfold tl3 at p6;rw [Cr hic,List.map_cons] at p6;obtain⟨x1,x2⟩:=e4 [fr g.AR[i]] (((g.AR.drop (i+1)).map fr)++tl4 g) (by rw [p6];rfl) rfl;cases x1;refine⟨⟨p1,p2,p3⟩,p4,?_,x2⟩;rw [p4] at w4;rw [List.take_add_one,List.getElem?_eq_getElem hic,p5,u3 (by omega),v3 (by omega)];rw [p1,p4,p2] at w1;dsimp only;congr 1;show [_]=[g.AR[i]];congr 1
   conv=>rhs;rw [w1]
   unfold VV;rw [hD]
 .obtain rfl:i=R.1.AM.length:=by omega
  rw [Ae,Ad,AG];refine yZ hl hr g2 (by omega) (by omega) gf fun g hg=>?_
  obtain⟨p1,p4,p5,p6⟩:=g3 g hg;have hrt:=Hh hg.1;have hn:g.AR.length=R.1.AM.length:=by rw [hrt.MA,p1.1]
  refine⟨p1,p4,?_,?_⟩
  .rw [p5,List.take_of_length_le (by omega)]
  .rw [p6];unfold tl3;rw [List.drop_eq_nil_of_le (by omega)];rfl
theorem yb(hr:Bt R.1=true){n:Int}{x:List Int×List Int}(hx:at? x.1 2=some n)(hn0:0<=n)(hn:n<=40){rest:List Int}(hk:rest.length<=1048576)
 (ha:∀g,Good g l->Hd g R.1 now turn/\(g.AE.length:Int)=n/\rest=tl2 g 0) :
 ∃r,AT (UW l R x) big (0,rest,(),R.1.BG,R.1.Room,R.1.As,R.1.A2,R.1.Ax,R.1.Rest,R.1.BA,R.1.Bd,now,turn,[],[],[],[])=some r/\Red l r:=by
 have hrl:=BT hr;obtain⟨m,rfl⟩:=Int.eq_ofNat_of_zero_le hn0;refine E9 (n:=m) (fun i (v:List AI×List Int)=>((i:Int),v.2,(),R.1.BG,R.1.Room,R.1.As,R.1.A2,R.1.Ax,R.1.Rest,R.1.BA,R.1.Bd,now,turn,v.1,[],[],[]))
  (fun i v=>v.1.length=i/\v.2.length<=1048576/\∀g,Good g l->Hd g R.1 now turn/\g.AE.length=m/\v.1=g.AE.take i/\v.2=tl2 g i)
  (Red l) (by omega) ?_ (v:=([],rest)) ⟨rfl,hk,fun g hg=>by obtain⟨h1,h2,h3⟩:=ha g hg;exact⟨h1,by omega,by simp,h3⟩⟩
 rintro L i ⟨ps,q⟩ ⟨g1,g2,g3⟩ hi ih;dsimp only at g1 g2 g3 ih ⊢;unfold UW;dsimp only;rw [hx,AA];rcases Nat.lt_or_ge i m with h|h
 .obtain⟨xs,q',e1,e2,e3,_,_,e4⟩:=MM (n:=10) g2;obtain⟨a0,a1,a2,a3,a4,a5,a6,a7,a8,a9,rfl⟩:=ten (e3 (by omega));have e1':E8 10 q=some ([a0,a1,a2,a3,a4,a5,a6,a7,a8,a9],q'):=e1;have f0:at? [a0,a1,a2,a3,a4,a5,a6,a7,a8,a9] 0=some a0:=rfl;have f1:at? [a0,a1,a2,a3,a4,a5,a6,a7,a8,a9] 1=some a1:=rfl;have f2:at? [a0,a1,a2,a3,a4,a5,a6,a7,a8,a9] 2=some a2:=rfl;have f3:at? [a0,a1,a2,a3,a4,a5,a6,a7,a8,a9] 3=some a3:=rfl;have f4:at? [a0,a1,a2,a3,a4,a5,a6,a7,a8,a9] 4=some a4:=rfl;have f5:at? [a0,a1,a2,a3,a4,a5,a6,a7,a8,a9] 5=some a5:=rfl;have f6:at? [a0,a1,a2,a3,a4,a5,a6,a7,a8,a9] 6=some a6:=rfl;have f7:at? [a0,a1,a2,a3,a4,a5,a6,a7,a8,a9] 7=some a7:=rfl;have f8:at? [a0,a1,a2,a3,a4,a5,a6,a7,a8,a9] 8=some a8:=rfl;have f9:at? [a0,a1,a2,a3,a4,a5,a6,a7,a8,a9] 9=some a9:=rfl;rw [Ac h,Ab,e1'];simp only [f0,f1,f2,f3,f4,f5,f6,f7,f8,f9,AA];have hlim:lim=268435456:=rfl;rw [A1 (by rw [DC];omega),Ag h (by omega)];refine ih (ps++[⟨a0,a1,w64 (a2-1),a3,a4,a5,a6,a7,a8,a9⟩],q') ⟨by simp [g1],e2,fun g hg=>?_⟩ h;obtain⟨p1,p2,p3,p4⟩:=g3 g hg;have hip:i<g.AE.length:=by omega
  have hpo:=JH ((Hh hg.1).par i hip);have hs:=(BT hpo.1).1;have hf:=hpo.2.2.2.2.1;unfold tl2 at p4;rw [Cr hip,List.flatMap_cons,List.append_assoc] at p4;obtain⟨u1,u2⟩:=e4 (FG g.AE[i]) _ p4 rfl;refine⟨p1,p2,?_,u2⟩;rw [List.take_add_one,List.getElem?_eq_getElem hip,p3];dsimp only;congr 1;show [_]=[g.AE[i]];congr 1;unfold FG at u1;simp only [List.cons.injEq,and_true] at u1;obtain⟨q0,q1,q2,q3,q4,q5,q6,q7,q8,q9⟩:=u1;have hfrom:w64 (a2-1)=g.AE[i].CB:=by
   rw [q2,AP (n:=g.AE[i].CB+1) (by omega) (by omega),AP (by omega) (by omega)];omega
  rw [hfrom,q0,q1,q3,q4,q5,q6,q7,q8,q9]
 .obtain rfl:i=m:=by omega
  rw [Ae,Ad,AG];refine yc hl hr g2 (by omega) fun g hg=>?_
  obtain⟨p1,p2,p3,p4⟩:=g3 g hg;refine⟨p1,?_,?_⟩
  .rw [p3,List.take_of_length_le (by omega)]
  .rw [p4];unfold tl2;rw [List.drop_eq_nil_of_le (by omega)];rfl
end impl
theorem Jr{l:List Int}(hl:l.length<=1048576):∃r,Rh l=some r/\Red l r:=by
 unfold Rh;obtain⟨a,r1,a1,a2,a3,_,_,a4⟩:=MM (n:=1) hl;obtain⟨sz,rfl⟩:=kP (a3 (by omega));have a1':E8 1 l=some ([sz],r1):=a1;rw [a1',AA,show at? [sz] 0=some sz from rfl,AA,E5,AA,Ai];have hag:∀g,Good g l->sz=((Dm g.AS).length:Int)/\r1=Dm g.AS++(g.Now::g.Ah::(g.AE.length:Int)::tl2 g 0):=by
  intro g hg;obtain⟨u1,u2⟩:=a4 [((Dm g.AS).length:Int)] _ (YI hg) rfl;cases u1;exact⟨rfl,u2⟩
 have hbadE:∀(_:∀g,¬Good g l),∃r,Ky l ([sz],r1) sz true=some r/\Red l r:=by
  intro hno;unfold Ky;rw [Ab];exact⟨_,rfl,Red.bad hno⟩
 cases hin:inB sz 9 12 with
 |false=>
  rw [Ad,AG];refine hbadE fun g hg=>?_
  have h1:=FV g.AS;have h2:=(Hh hg.1).E2;have:inB sz 9 12=true:=by rw [Bp,(hag g hg).1];omega
  rw [hin] at this;cases this
 |true=>
  rw [Bp] at hin;rw [Ab,AG];obtain⟨s,rfl⟩:=Int.eq_ofNat_of_zero_le (show 0<=sz by omega);dsimp only;by_cases hsl:(s:Int)>(r1.length:Int)
  .rw [show decide ((s:Int)>(r1.length:Int))=true from decide_eq_true hsl];refine hbadE fun g hg=>?_
   obtain⟨u1,u2⟩:=hag g hg;rw [u2,List.length_append] at hsl;omega
  .rw [show decide ((s:Int)>(r1.length:Int))=false from decide_eq_false hsl];unfold Ky;rw [Ad];obtain⟨xs,r2,c1,c2,_,c3,_,c4⟩:=MM (n:=s) a2;have hxl:=c3 (by omega);rw [c1,AA];dsimp only;rw [Z3 (by omega),AA,Ai];have hag2:∀g,Good g l->xs=Dm g.AS/\r2=g.Now::g.Ah::(g.AE.length:Int)::tl2 g 0:=by
    intro g hg;obtain⟨u1,u2⟩:=hag g hg;exact c4 _ _ u2 (by omega)
   cases hR:(E1 xs).2 with
   |false=>
    rw [Ad];refine⟨_,rfl,Red.bad fun g hg=>?_⟩;rw [(hag2 g hg).1,GS (Hh hg.1).rules] at hR;cases hR
   |true=>
    rw [Ab];have hrb:=(Wy hR).1;obtain⟨ys,r3,d1,d2,d3,_,_,d4⟩:=MM (n:=3) c2;obtain⟨n1,n2,n3,rfl⟩:=three (d3 (by omega));have d1':E8 3 r2=some ([n1,n2,n3],r3):=d1;have hag3:∀g,Good g l->n1=g.Now/\n2=g.Ah/\n3=(g.AE.length:Int)/\r3=tl2 g 0:=by
     intro g hg;obtain⟨u1,u2⟩:=hag2 g hg;obtain⟨v1,v2⟩:=d4 [g.Now,g.Ah,(g.AE.length:Int)] (tl2 g 0) (by rw [u2];rfl) rfl;simp only [List.cons.injEq,and_true] at v1;exact⟨v1.1,v1.2.1,v1.2.2,v2⟩
    rw [d1',AA];dsimp only;rw [show at? [n1,n2,n3] 0=some n1 from rfl,AA,show at? [n1,n2,n3] 1=some n2 from rfl,AA,show at? [n1,n2,n3] 2=some n3 from rfl,AA,E5,AA,Ai];cases hi3:inB n3 0 40 with
    |false=>
     rw [Ad];refine⟨_,rfl,Red.bad fun g hg=>?_⟩;have h2:=(Hh hg.1).few;have:inB n3 0 40=true:=by rw [Bp,(hag3 g hg).2.2.1];omega
     rw [hi3] at this;cases this
    |true=>
     rw [Ab];rw [Bp] at hi3;refine yb hl hrb (x:=([n1,n2,n3],r3)) rfl hi3.1 hi3.2 d2 fun g hg=>?_
     obtain⟨q1,q2,q3,q4⟩:=hag3 g hg;refine⟨⟨?_,q1.symm,q2.symm⟩,q3.symm,q4⟩;rw [(hag2 g hg).1,GS (Hh hg.1).rules]
theorem Ob{l:List Int}(hl:l.length<=1048576):∃r,T4 l=some r/\Rh l=some r/\Red l r:=by
 obtain⟨r,h1,h2⟩:=bN hl;obtain⟨r',h3,h4⟩:=Jr hl;exact⟨r,h1,by rw [h3,h4.one h2],h2⟩
end Lv.P
namespace Lv.P
open Lv Go
theorem XO:BO Hc:=by constructor <;> simp [Hc,bj]
theorem Red.fit{l:List Int}{r:AF×Bool}(h:Red l r):BO r.1:=by
 cases e:r.2 with
 |true=>exact(h.1 e).1.2.1
 |false=>rw [(h.2 e).1];exact XO
theorem bn{c:List Int}(hl:c.length<=1048576):∃r,Rh c=some r/\T4 c=some r/\(r.2=true->Qd r.1=some true/\NG r.1=some c/\X6 c c=some true)/\(r.2=false->r.1.AR=[]):=by
 obtain⟨r,h1,h2,h3⟩:=Ob hl;refine⟨r,h2,h1,fun e=>?_,fun e=>by rw [(h3.2 e).1];rfl⟩;obtain⟨⟨g1,g2,g3⟩,_⟩:=h3.1 e;refine⟨by rw [Cv g2,g1],by rw [Qy g2 g1,g3],by rw [XW (by omega),HW.2 rfl]⟩
theorem sm:∀{l:List Int},(∀n∈l,okN n)->l.length<=(pL l).length
 | [],_=>by simp
 |n::l,h=>by
  have h1:=sm fun m hm=>h m (List.mem_cons_of_mem _ hm)
  have h2:=kT (h n (List.mem_cons_self ..));have:pL (n::l)=pN n++pL l:=rfl;rw [this,List.length_append,List.length_cons];omega
structure tw(s:List UInt8)(r:AF×Int×Bool):Prop where
 yes:r.2.2=true->Bl r.1=true/\BO r.1/\Ba r.1 r.2.1=s
 no:r.2.2=false->r=(Hc,0,false)
 all:∀h q,Bl h=true->BO h->rdL (s.length+1) (s.drop 4)=some (q::BX h)->Ba h q=s->5<=s.length->r=(h,q,true)
theorem tw.fit{s:List UInt8}{r:AF×Int×Bool}(h:tw s r):BO r.1:=by
 cases e:r.2.2 with
 |true=>exact(h.yes e).2.1
 |false=>rw [h.no e];exact XO
theorem vT{f:Nat}{s:List UInt8}{l:List Int}(h:rdL f s=some l):l.length<=s.length/\(s≠[]->l≠[]):=by
 obtain⟨h1,h2⟩:=av f s l h;refine⟨by rw [h1];exact sm h2,fun hs hl=>?_⟩;rw [hl] at h1;exact hs h1
theorem gm{f g:Nat}{s:List UInt8}{l:List Int}(h:rdL f s=some l)(hg:s.length<g):rdL g s=some l:=by
 obtain⟨h1,h2⟩:=av f s l h;rw [h1] at hg ⊢;exact kW l g h2 hg
theorem ID{s:List UInt8}(hs:s.length<=1048576):∃r,KL s=some r/\Ku s=some r/\tw s r:=by
 unfold KL Ku EH UA;by_cases h5:s.length<5
 .rw [AV,AV,if_pos (by omega),if_pos (by omega),AG,Ab];exact⟨_,rfl,rfl,⟨fun h=>(by cases h),fun _=>rfl,fun _ _ _ _ _ _ h=>absurd h (by omega)⟩⟩
 have g4:(0:Int)<=4/\(4:Int)<=(s.length:Int):=by omega
 have hd:List.drop (Int.toNat 4) s=s.drop 4:=rfl;have hdl:(s.drop 4).length<=1048576:=by rw [List.length_drop];omega
 rw [AV,AV,if_neg (by omega),if_neg (by omega),AG,A1 g4,A1 g4,hd,Z5 hdl,bT hdl,AA,AA];have zz:tw s (Hc,0,false)\/True:=.inr trivial;cases e:rdL ((s.drop 4).length+1) (s.drop 4) with
 |none=>
  refine⟨(Hc,0,false),?_,rfl,⟨fun h=>(by cases h),fun _=>rfl,fun h q _ _ h3 _ _=>?_⟩⟩
  .rw [AV];split <;> rfl
  .rw [gm h3 (by omega)] at e;cases e
 |some l=>
  obtain⟨l1,l2⟩:=vT e;have hlne:=l2 (by rw [<-List.length_pos_iff,List.length_drop];omega);obtain⟨q,t,rfl⟩:∃q t,l=q::t:=by
   cases l with
   |nil=>exact(hlne rfl).elim
   |cons q t=>exact⟨q,t,rfl⟩
  have htl:t.length<=1048576:=by simp only [List.length_cons] at l1;omega
  have g1:(0:Int)<=1/\(1:Int)<=((q::t).length:Int):=by simp only [List.length_cons];omega
  have htk:List.take ((q::t).length-Int.toNat 1) (List.drop (Int.toNat 1) (q::t))=t:=by
   show List.take ((q::t).length-1) t=t;exact List.take_of_length_le (by simp only [List.length_cons];omega)
  have a0:at? (q::t) 0=some q:=rfl;obtain⟨r,i1,i2,i3⟩:=Ob htl;have hf:=i3.fit;have hall:∀h p,rdL (s.length+1) (s.drop 4)=some (p::BX h)->p=q/\BX h=t:=by
   intro h p h3;rw [gm h3 (by omega)] at e;cases e;exact⟨rfl,rfl⟩
  unfold EI;simp only [xv,Ai,Ab,A1 g1,htk,i1,i2,AA,a0,Xb hf q,IM hf q];cases hr:r.2 with
  |false=>
   simp only [Ad,AG,Ab];refine⟨(Hc,0,false),?_,rfl,⟨fun h=>(by cases h),fun _=>rfl,fun h p h1 h2 h3 _ _=>?_⟩⟩
   .rw [AV];split <;> rfl
   .exact((i3.2 hr).2 h ⟨h1,h2,(hall h p h3).2⟩).elim
  |true=>
   simp only [Ab,AG];obtain⟨⟨c1,c2,c3⟩,c4⟩:=i3.1 hr;by_cases hT:Ba r.1 q=s
   .have hlen:=JM r.1 q;rw [hT] at hlen;rw [show (Ba r.1 q != s)=false from by simp [hT],Ad,AV,if_neg (by omega)];refine⟨_,rfl,rfl,⟨fun _=>⟨c1,c2,hT⟩,fun h=>(by cases h),fun h p h1 h2 h3 _ _=>?_⟩⟩;obtain⟨u1,u2⟩:=hall h p h3;rw [u1,c4 h ⟨h1,h2,u2⟩]
   .rw [show (Ba r.1 q != s)=true from by simp [hT],Ab];refine⟨(Hc,0,false),?_,rfl,⟨fun h=>(by cases h),fun _=>rfl,fun h p h1 h2 h3 h4 _=>?_⟩⟩
    .rw [AV];split <;> rfl
    .obtain⟨u1,u2⟩:=hall h p h3;rw [u1,c4 h ⟨h1,h2,u2⟩] at h4;exact(hT h4).elim
end Lv.P
