/-
  Plain laws: the program's reader of houses reads right houses, and no other; it reads what the reference's reads.
-/
import Derived.Test.YtffakkimlookoaaGreatPF
set_option linter.unusedVariables false
set_option linter.unusedSimpArgs false
set_option linter.unusedSectionVars false
namespace Lv.P
open Lv Go
theorem VR{r:AQ}(hr:r.AN.length<2 ^ 62){l:List AG}(hl:l.length<=40)(c now:Int):∃q,TO r l c now=some q/\q.length<=40/\(EU l c<=19->q=IK r l c now):=by
 by_cases hc:EU l c<=19
 .refine⟨_,QH hr (by omega) hc now,?_,fun _=>rfl⟩;unfold IK;rw [Gi];have:=List.length_filterMap_le (OX r c now) l;omega
 .have hlim:lim=268435456:=rfl;unfold TO;rw [collect (l:=l) (OX r c now) Kr (by omega) ?_ ?_]
  .unfold Kr;have:=List.length_filterMap_le (OX r c now) l;obtain⟨x,hx,hx2⟩:=XF (l:=l.filterMap (OX r c now)) (by omega);rw [hx,AA];exact⟨x,rfl,by omega,fun h=>(hc h).elim⟩
  .intro L i h v hv;unfold Ks O1 O2 OX;dsimp only;rw [AX h,Af,Ac h,AA,QF hr,AA,AE,AE,BE (by rw [Er];omega),AE,AE];cases h1:(Dr r l[i] now).2 <;> cases h2:l[i].A4==c <;> simp
  .intro L v;unfold Ks;dsimp only;rw [AY,Ag,AE]
theorem XU{l:List AG}(hl:l.length<=40)(c:Int):∃q,Tq l c=some q/\q.length<=40/\(EU l c<=19->q=Lh l c):=by
 by_cases hc:EU l c<=19
 .refine⟨_,SC (by omega) hc,?_,fun _=>rfl⟩;unfold Lh;rw [Gi];have:=List.length_filterMap_le (QX c) l;omega
 .have hlim:lim=268435456:=rfl;unfold Tq;rw [collect (l:=l) (QX c) Ky (by omega) ?_ ?_]
  .unfold Ky;have:=List.length_filterMap_le (QX c) l;obtain⟨x,hx,hx2⟩:=bk (l:=l.filterMap (QX c)) (by omega);rw [hx,AA];exact⟨x,rfl,by omega,fun h=>(hc h).elim⟩
  .intro L i h v hv;unfold Kz PO PQ QX;dsimp only;rw [AX h,Af,Ac h,AA,AE,AE,BE (by rw [Er];omega),AE,AE];cases h1:l[i].State==2 <;> cases h2:l[i].A4==c <;> simp
  .intro L v;unfold Kz;dsimp only;rw [AY,Ag,AE]
theorem Lp{n:Nat}{r:List Int}(hr:r.length<=1048576):∃xs r',FR (n:Int) r=some (xs,r')/\r'.length<=1048576/\(n<=10->xs.length=n)/\(n<=r.length->xs.length=n)/\xs.length<=n /\
 ∀ys zs,r=ys++zs->ys.length=n->xs=ys/\r'=zs:=by
 unfold FR UI;rw [AT,if_neg (by omega),AE,AT];rcases Nat.lt_or_ge r.length n with h|h
 .rw [if_pos (by omega)];have e:∀b:Int,b=(n:Int)->(if (false:Bool)=true then (if 10>(if (true:Bool)=true then (if 0>b then 0 else b) else (if 0<b then 0 else b)) then 10 else (if (true:Bool)=true then (if 0>b then 0 else b) else (if 0<b then 0 else b))) else (if 10<(if (true:Bool)=true then (if 0>b then 0 else b) else (if 0<b then 0 else b)) then 10 else (if (true:Bool)=true then (if 0>b then 0 else b) else (if 0<b then 0 else b))))=((min n 10:Nat):Int):=by
   rintro b rfl;simp only [Bool.false_eq_true,if_false,if_true];rw [if_neg (by omega:¬(0>(n:Int)))];split <;> omega
  rw [e _ rfl];have hlim:lim=268435456:=rfl;rw [BE ⟨by omega,by omega⟩];refine⟨_,[],rfl,by simp,?_,?_,?_,?_⟩
  .intro h1;simp;omega
  .intro h1;omega
  .simp;omega
  .intro ys zs h1 h2;rw [h1,List.length_append] at h;omega
 .rw [if_neg (by omega),BE (by omega),BE (by omega)];refine⟨List.take (n:Int).toNat r,List.drop (n:Int).toNat r,rfl,by rw [List.length_drop];omega,?_,?_,?_,?_⟩
  .intro _;rw [List.length_take];omega
  .intro _;rw [List.length_take];omega
  .rw [List.length_take];omega
  .intro ys zs h1 h2;rw [Int.toNat_natCast,h1,<-h2];exact⟨List.take_left,List.drop_left⟩
theorem j7{α:Type}{l:List α}(h:l.length=1):∃a,l=[a]:=by
 match l,h with
 | [a],_=>exact⟨a,rfl⟩
theorem three{α:Type}{l:List α}(h:l.length=3):∃a b c,l=[a,b,c]:=by
 match l,h with
 | [a,b,c],_=>exact⟨a,b,c,rfl⟩
section impl
variable{l:List Int}(hl:l.length<=1048576){R:AQ×Bool}{now turn:Int}
include hl
theorem yK{h:AH}(hR:h.AI=R.1)(hh:Ba h)(ha:∀g,Good g l->g=h) :
 ∃r,K3 l R ((),R.1.A2,R.1.Room,R.1.Aq,R.1.Au,R.1.As,R.1.Rest,R.1.A3,R.1.BL,h.Now,h.Ai,h.AF,h.AW,h.BA,h.BO)=some r/\Red l r:=by
 unfold K3 Um;dsimp only;rw [YX hR,FA hh,AA,Ae];cases hB:DH h with
 |false=>
  rw [Ag,AE,Af];exact⟨_,rfl,Red.bad fun g hg=>by rw [ha g hg] at hg;rw [hg.1] at hB;cases hB⟩
 |true=>
  have hnl:=MT hh hB;rw [Af,oh hh hB,AA,fw (by omega),AA,AE,Ae];cases hs:D6 (·==·) (DI h) l with
  |true=>
   rw [Af];exact⟨_,rfl,fun _=>⟨⟨hB,hh,Qd.1 hs⟩,fun g hg=>ha g hg⟩,fun hc=>by cases hc⟩
  |false=>
   rw [Ag];refine⟨_,rfl,Red.bad fun g hg=>?_⟩;rw [ha g hg] at hg;rw [Qd.2 hg.2.2] at hs;cases hs
theorem yN{x:List Int×List Int}{ps:List AG}{cs:List AU}{td:List Int}(hx:x.1.length<=1048576) :
 AR (Uo l R x) big (0,(),R.1.A2,R.1.Room,R.1.Aq,R.1.Au,R.1.As,R.1.Rest,R.1.A3,R.1.BL,now,turn,ps,cs,td,[]) =
  K3 l R ((),R.1.A2,R.1.Room,R.1.Aq,R.1.Au,R.1.As,R.1.Rest,R.1.A3,R.1.BL,now,turn,ps,cs,td,x.1.map (fun j=>w64 (j-1))):=by
 refine Bz (n:=x.1.length) (fun i (v:List Int)=>((i:Int),(),R.1.A2,R.1.Room,R.1.Aq,R.1.Au,R.1.As,R.1.Rest,R.1.A3,R.1.BL,now,turn,ps,cs,td,v)) (fun i v=>v=(x.1.take i).map (fun j=>w64 (j-1)))
  (fun _ _=>K3 l R ((),R.1.A2,R.1.Room,R.1.Aq,R.1.Au,R.1.As,R.1.Rest,R.1.A3,R.1.BL,now,turn,ps,cs,td,x.1.map (fun j=>w64 (j-1)))) (by omega) ?_ (v:=[]) (by simp)
 intro L i v hv hi ih;unfold Uo;dsimp only;rcases Nat.lt_or_ge i x.1.length with h|h
 .have hlim:lim=268435456:=rfl;have hvl:v.length<=1048576:=by rw [hv,List.length_map,List.length_take];omega
  simp only [AX h,Af,Ac h,AA,Av h (by omega:x.1.length<2 ^ 63)];rw [BE (by rw [Er];omega)];refine ih _ ?_ h;rw [hv,List.take_add_one,List.getElem?_eq_getElem h,List.map_append];rfl
 .obtain rfl:i=x.1.length:=by omega
  rw [AY,Ag,AE,hv,List.take_length]
theorem yJ(hr:CP R.1=true){ps:List AG}{cs:List AU}{rest:List Int}(hk:rest.length<=1048576)(hps:ps.length<=1048576)(hcs:cs.length<=1048576)(hcf:∀c∈cs,Di c)
 (ha:∀g,Good g l->Hd g R.1 now turn/\g.AF=ps/\g.AW=cs/\rest=tl4 g) :
 ∃r,Ul l R (rest,(),R.1.A2,R.1.Room,R.1.Aq,R.1.Au,R.1.As,R.1.Rest,R.1.A3,R.1.BL,now,turn,ps,cs,[],[])=some r/\Red l r:=by
 have hrl:=BZ hr;have hcrew:=hrl.2.2.2.2.2.2.2.2.2;unfold Ul;dsimp only;obtain⟨a,r1,e1,e2,e3,_,_,e4⟩:=Lp (n:=1) hk;obtain⟨nt,rfl⟩:=j7 (e3 (by omega));have e1':FR 1 rest=some ([nt],r1):=e1;rw [e1',AA,show at? [nt] 0=some nt from rfl,AA,Em,AA,Ae];have hag:∀g,Good g l->nt=(g.BA.length:Int)/\r1=g.BA++g.BO.map up:=by
  intro g hg;obtain⟨q1,q2,q3,q4⟩:=ha g hg;obtain⟨u1,u2⟩:=e4 [(g.BA.length:Int)] (g.BA++g.BO.map up) (by rw [q4];rfl) rfl;cases u1;exact⟨rfl,u2⟩
 cases hin:inB nt 0 4 with
 |false=>
  rw [Ag];refine⟨_,rfl,Red.bad fun g hg=>?_⟩;have:=(Ke hg.1).todo;have:=(Ke hg.1).HV;have:inB nt 0 4=true:=by rw [CL,(hag g hg).1];omega
  rw [hin] at this;cases this
 |true=>
  rw [Af];rw [CL] at hin;obtain⟨n,rfl⟩:=Int.eq_ofNat_of_zero_le hin.1;obtain⟨td,r2,f1,f2,f3,_,_,f4⟩:=Lp (n:=n) e2;rw [f1,AA,kz (by have:=f3 (by omega);dsimp only;omega),AA];obtain⟨c,hc⟩:=Int.eq_ofNat_of_zero_le (show 0<=R.1.BL by omega);obtain⟨js,r3,g1,g2,g3,_,_,g4⟩:=Lp (n:=c) f2;have g1':FR R.1.BL r2=some (js,r3):=by rw [hc];exact g1
  have hjl:=g3 (by omega);have htl:=f3 (by omega);rw [g1',AA];rw [yN hl (by dsimp only;omega)];refine yK hl (h:=⟨R.1,now,turn,ps,cs,td,js.map (fun j=>w64 (j-1))⟩) rfl ⟨by dsimp only;omega,hps,hcs,hcf,by dsimp only;omega,by dsimp only;rw [List.length_map];omega⟩ ?_;intro g hg;obtain⟨⟨q1,q2,q3⟩,q4,q5,q6⟩:=ha g hg;obtain⟨p1,p2⟩:=hag g hg;have hrt:=Ke hg.1;obtain⟨v1,v2⟩:=f4 _ _ p2 (by omega);obtain⟨w1,w2⟩:=g4 (g.BO.map up) [] (by rw [v2,List.append_nil]) (by rw [List.length_map];have:=hrt.yT;rw [q1,hc] at this;omega);have hj:js.map (fun j=>w64 (j-1))=g.BO:=by
   rw [w1,List.map_map]
   conv=>rhs;rw [<-List.map_id g.BO]
   apply List.map_congr_left;intro y hy;have:=hrt.job y hy;show w64 (w64 (y+1)-1)=y;rw [AM (n:=y+1) (by omega) (by omega),AM (by omega) (by omega)];omega
  rw [hj,v1];cases g;dsimp only at *;rw [q1,q2,q3,q4,q5]
theorem yM(hr:CP R.1=true){ps:List AG}{rest:List Int}(hk:rest.length<=1048576)(hps:ps.length<=40)
 (ha:∀g,Good g l->Hd g R.1 now turn/\g.AF=ps/\rest=tl3 g 0) :
 ∃r,Uk l R (rest,(),R.1.A2,R.1.Room,R.1.Aq,R.1.Au,R.1.As,R.1.Rest,R.1.A3,R.1.BL,now,turn,ps,[],[],[])=some r/\Red l r:=by
 have hrl:=BZ hr;unfold Uk;dsimp only;refine YP (n:=R.1.AN.length) (fun i (v:List AU×List Int)=>((i:Int),v.2,(),R.1.A2,R.1.Room,R.1.Aq,R.1.Au,R.1.As,R.1.Rest,R.1.A3,R.1.BL,now,turn,ps,v.1,[],[]))
  (fun i v=>v.1.length=i/\(∀c∈v.1,Di c)/\v.2.length<=1048576/\∀g,Good g l->Hd g R.1 now turn/\g.AF=ps/\v.1=g.AW.take i/\v.2=tl3 g i)
  (Red l) (by omega) ?_ (v:=([],rest)) ⟨rfl,by simp,hk,fun g hg=>by obtain⟨h1,h2,h3⟩:=ha g hg;exact⟨h1,h2,by simp,h3⟩⟩
 rintro L i ⟨cs,q⟩ ⟨g1,gf,g2,g3⟩ hi ih;dsimp only at g1 gf g2 g3 ih ⊢;unfold fQ;dsimp only;rcases Nat.lt_or_ge i R.1.AN.length with h|h
 .have hD:R.1.AN.getD i 0=R.1.AN[i]:=by simp [List.getD,h]
  obtain⟨a,q',e1,e2,e3,_,_,e4⟩:=Lp (n:=1) g2;obtain⟨f,rfl⟩:=j7 (e3 (by omega));have e1':FR 1 q=some ([f],q'):=e1;obtain⟨qu,u1,u2,u3⟩:=VR (r:=R.1) (show R.1.AN.length<2 ^ 62 by omega) hps (i:Int) now;obtain⟨pi,v1,v2,v3⟩:=XU hps (i:Int);have hlim:lim=268435456:=rfl;rw [AX h,Af,Ac h];simp only [AA,e1',show at? [f] 0=some f from rfl,u1,v1,aD (show pi.length<=1048576 by omega),SB (show ps.length<2 ^ 58 by omega),SD (show ps.length<2 ^ 58 by omega),B0,U6,U7,U8,U9,VA,VB,VC];rw [BE (by rw [Er];omega),Av h (by omega)];refine ih (cs++[AU.mk (BX.mk R.1.AN[i] f (QD ps i) (w64 (w64 (R.1.AN[i]-f)-QD ps i)) (Y1 ps i)) qu (Fx pi).1],q') ⟨by simp [g1],?_,e2,fun g hg=>?_⟩ h
  .intro x hx;rcases List.mem_append.1 hx with hx|hx
   .exact gf x hx
   .rw [List.mem_singleton.1 hx];exact⟨by dsimp only;omega,SR _⟩
  .obtain⟨⟨p1,p2,p3⟩,p4,p5,p6⟩:=g3 g hg;have hrt:=Ke hg.1;have hic:i<g.AW.length:=by rw [hrt.SS,p1];exact h
   obtain⟨w1,w2,w3,w4⟩:=hrt.cab i hic;unfold tl3 at p6;rw [CH hic,List.map_cons] at p6;obtain⟨x1,x2⟩:=e4 [fr g.AW[i]] (((g.AW.drop (i+1)).map fr)++tl4 g) (by rw [p6];rfl) rfl;cases x1;refine⟨⟨p1,p2,p3⟩,p4,?_,x2⟩;rw [p4] at w4;rw [List.take_add_one,List.getElem?_eq_getElem hic,p5,u3 (by omega),v3 (by omega)];rw [p1,p4,p2] at w1;dsimp only;congr 1;show [_]=[g.AW[i]];congr 1
   conv=>rhs;rw [w1]
   unfold Ve;rw [hD]
 .obtain rfl:i=R.1.AN.length:=by omega
  rw [AY,Ag,AE];refine yJ hl hr g2 (by omega) (by omega) gf fun g hg=>?_
  obtain⟨p1,p4,p5,p6⟩:=g3 g hg;have hrt:=Ke hg.1;have hn:g.AW.length=R.1.AN.length:=by rw [hrt.SS,p1.1]
  refine⟨p1,p4,?_,?_⟩
  .rw [p5,List.take_of_length_le (by omega)]
  .rw [p6];unfold tl3;rw [List.drop_eq_nil_of_le (by omega)];rfl
theorem yL(hr:CP R.1=true){n:Int}{x:List Int×List Int}(hx:at? x.1 2=some n)(hn0:0<=n)(hn:n<=40){rest:List Int}(hk:rest.length<=1048576)
 (ha:∀g,Good g l->Hd g R.1 now turn/\(g.AF.length:Int)=n/\rest=tl2 g 0) :
 ∃r,AR (Un l R x) big (0,rest,(),R.1.A2,R.1.Room,R.1.Aq,R.1.Au,R.1.As,R.1.Rest,R.1.A3,R.1.BL,now,turn,[],[],[],[])=some r/\Red l r:=by
 have hrl:=BZ hr;obtain⟨m,rfl⟩:=Int.eq_ofNat_of_zero_le hn0;refine YP (n:=m) (fun i (v:List AG×List Int)=>((i:Int),v.2,(),R.1.A2,R.1.Room,R.1.Aq,R.1.Au,R.1.As,R.1.Rest,R.1.A3,R.1.BL,now,turn,v.1,[],[],[]))
  (fun i v=>v.1.length=i/\v.2.length<=1048576/\∀g,Good g l->Hd g R.1 now turn/\g.AF.length=m/\v.1=g.AF.take i/\v.2=tl2 g i)
  (Red l) (by omega) ?_ (v:=([],rest)) ⟨rfl,hk,fun g hg=>by obtain⟨h1,h2,h3⟩:=ha g hg;exact⟨h1,by omega,by simp,h3⟩⟩
 rintro L i ⟨ps,q⟩ ⟨g1,g2,g3⟩ hi ih;dsimp only at g1 g2 g3 ih ⊢;unfold Un;dsimp only;rw [hx,AA];rcases Nat.lt_or_ge i m with h|h
 .obtain⟨xs,q',e1,e2,e3,_,_,e4⟩:=Lp (n:=10) g2;obtain⟨a0,a1,a2,a3,a4,a5,a6,a7,a8,a9,rfl⟩:=ten (e3 (by omega));have e1':FR 10 q=some ([a0,a1,a2,a3,a4,a5,a6,a7,a8,a9],q'):=e1;have f0:at? [a0,a1,a2,a3,a4,a5,a6,a7,a8,a9] 0=some a0:=rfl;have f1:at? [a0,a1,a2,a3,a4,a5,a6,a7,a8,a9] 1=some a1:=rfl;have f2:at? [a0,a1,a2,a3,a4,a5,a6,a7,a8,a9] 2=some a2:=rfl;have f3:at? [a0,a1,a2,a3,a4,a5,a6,a7,a8,a9] 3=some a3:=rfl;have f4:at? [a0,a1,a2,a3,a4,a5,a6,a7,a8,a9] 4=some a4:=rfl;have f5:at? [a0,a1,a2,a3,a4,a5,a6,a7,a8,a9] 5=some a5:=rfl;have f6:at? [a0,a1,a2,a3,a4,a5,a6,a7,a8,a9] 6=some a6:=rfl;have f7:at? [a0,a1,a2,a3,a4,a5,a6,a7,a8,a9] 7=some a7:=rfl;have f8:at? [a0,a1,a2,a3,a4,a5,a6,a7,a8,a9] 8=some a8:=rfl;have f9:at? [a0,a1,a2,a3,a4,a5,a6,a7,a8,a9] 9=some a9:=rfl;rw [AX h,Af,e1'];simp only [f0,f1,f2,f3,f4,f5,f6,f7,f8,f9,AA];have hlim:lim=268435456:=rfl;rw [BE (by rw [Er];omega),Av h (by omega)];refine ih (ps++[⟨a0,a1,w64 (a2-1),a3,a4,a5,a6,a7,a8,a9⟩],q') ⟨by simp [g1],e2,fun g hg=>?_⟩ h;obtain⟨p1,p2,p3,p4⟩:=g3 g hg;have hip:i<g.AF.length:=by omega
  have hpo:=MX ((Ke hg.1).par i hip);have hs:=(BZ hpo.1).1;have hf:=hpo.2.2.2.2.1;unfold tl2 at p4;rw [CH hip,List.flatMap_cons,List.append_assoc] at p4;obtain⟨u1,u2⟩:=e4 (GN g.AF[i]) _ p4 rfl;refine⟨p1,p2,?_,u2⟩;rw [List.take_add_one,List.getElem?_eq_getElem hip,p3];dsimp only;congr 1;show [_]=[g.AF[i]];congr 1;unfold GN at u1;simp only [List.cons.injEq,and_true] at u1;obtain⟨q0,q1,q2,q3,q4,q5,q6,q7,q8,q9⟩:=u1;have hfrom:w64 (a2-1)=g.AF[i].CR:=by
   rw [q2,AM (n:=g.AF[i].CR+1) (by omega) (by omega),AM (by omega) (by omega)];omega
  rw [hfrom,q0,q1,q3,q4,q5,q6,q7,q8,q9]
 .obtain rfl:i=m:=by omega
  rw [AY,Ag,AE];refine yM hl hr g2 (by omega) fun g hg=>?_
  obtain⟨p1,p2,p3,p4⟩:=g3 g hg;refine⟨p1,?_,?_⟩
  .rw [p3,List.take_of_length_le (by omega)]
  .rw [p4];unfold tl2;rw [List.drop_eq_nil_of_le (by omega)];rfl
end impl
theorem Z9{l:List Int}(hl:l.length<=1048576):∃r,Uj l=some r/\Red l r:=by
 unfold Uj;obtain⟨a,r1,a1,a2,a3,_,_,a4⟩:=Lp (n:=1) hl;obtain⟨sz,rfl⟩:=j7 (a3 (by omega));have a1':FR 1 l=some ([sz],r1):=a1;rw [a1',AA,show at? [sz] 0=some sz from rfl,AA,Em,AA,Ae];have hag:∀g,Good g l->sz=((FJ g.AI).length:Int)/\r1=FJ g.AI++(g.Now::g.Ai::(g.AF.length:Int)::tl2 g 0):=by
  intro g hg;obtain⟨u1,u2⟩:=a4 [((FJ g.AI).length:Int)] _ (YV hg) rfl;cases u1;exact⟨rfl,u2⟩
 have hbadE:∀(_:∀g,¬Good g l),∃r,K2 l ([sz],r1) sz true=some r/\Red l r:=by
  intro hno;unfold K2;rw [Af];exact⟨_,rfl,Red.bad hno⟩
 cases hin:inB sz 9 12 with
 |false=>
  rw [Ag,AE];refine hbadE fun g hg=>?_
  have h1:=I5 g.AI;have h2:=(Ke hg.1).HV;have:inB sz 9 12=true:=by rw [CL,(hag g hg).1];omega
  rw [hin] at this;cases this
 |true=>
  rw [CL] at hin;rw [Af,AE];obtain⟨s,rfl⟩:=Int.eq_ofNat_of_zero_le (show 0<=sz by omega);dsimp only;by_cases hsl:(s:Int)>(r1.length:Int)
  .rw [show decide ((s:Int)>(r1.length:Int))=true from decide_eq_true hsl];refine hbadE fun g hg=>?_
   obtain⟨u1,u2⟩:=hag g hg;rw [u2,List.length_append] at hsl;omega
  .rw [show decide ((s:Int)>(r1.length:Int))=false from decide_eq_false hsl];unfold K2;rw [Ag];obtain⟨xs,r2,c1,c2,_,c3,_,c4⟩:=Lp (n:=s) a2;have hxl:=c3 (by omega);rw [c1,AA];dsimp only;rw [aC (by omega),AA,Ae];have hag2:∀g,Good g l->xs=FJ g.AI/\r2=g.Now::g.Ai::(g.AF.length:Int)::tl2 g 0:=by
    intro g hg;obtain⟨u1,u2⟩:=hag g hg;exact c4 _ _ u2 (by omega)
   cases hR:(FM xs).2 with
   |false=>
    rw [Ag];refine⟨_,rfl,Red.bad fun g hg=>?_⟩;rw [(hag2 g hg).1,GZ (Ke hg.1).rules] at hR;cases hR
   |true=>
    rw [Af];have hrb:=(W5 hR).1;obtain⟨ys,r3,d1,d2,d3,_,_,d4⟩:=Lp (n:=3) c2;obtain⟨n1,n2,n3,rfl⟩:=three (d3 (by omega));have d1':FR 3 r2=some ([n1,n2,n3],r3):=d1;have hag3:∀g,Good g l->n1=g.Now/\n2=g.Ai/\n3=(g.AF.length:Int)/\r3=tl2 g 0:=by
     intro g hg;obtain⟨u1,u2⟩:=hag2 g hg;obtain⟨v1,v2⟩:=d4 [g.Now,g.Ai,(g.AF.length:Int)] (tl2 g 0) (by rw [u2];rfl) rfl;simp only [List.cons.injEq,and_true] at v1;exact⟨v1.1,v1.2.1,v1.2.2,v2⟩
    rw [d1',AA];dsimp only;rw [show at? [n1,n2,n3] 0=some n1 from rfl,AA,show at? [n1,n2,n3] 1=some n2 from rfl,AA,show at? [n1,n2,n3] 2=some n3 from rfl,AA,Em,AA,Ae];cases hi3:inB n3 0 40 with
    |false=>
     rw [Ag];refine⟨_,rfl,Red.bad fun g hg=>?_⟩;have h2:=(Ke hg.1).few;have:inB n3 0 40=true:=by rw [CL,(hag3 g hg).2.2.1];omega
     rw [hi3] at this;cases this
    |true=>
     rw [Af];rw [CL] at hi3;refine yL hl hrb (x:=([n1,n2,n3],r3)) rfl hi3.1 hi3.2 d2 fun g hg=>?_
     obtain⟨q1,q2,q3,q4⟩:=hag3 g hg;refine⟨⟨?_,q1.symm,q2.symm⟩,q3.symm,q4⟩;rw [(hag2 g hg).1,GZ (Ke hg.1).rules]
theorem Oh{l:List Int}(hl:l.length<=1048576):∃r,YG l=some r/\Uj l=some r/\Red l r:=by
 obtain⟨r,h1,h2⟩:=bW hl;obtain⟨r',h3,h4⟩:=Z9 hl;exact⟨r,h1,by rw [h3,h4.one h2],h2⟩
end Lv.P
namespace Lv.P
open Lv Go
theorem Og:Ba KS:=by constructor <;> simp [KS,b0]
theorem Red.fit{l:List Int}{r:AH×Bool}(h:Red l r):Ba r.1:=by
 cases e:r.2 with
 |true=>exact(h.1 e).1.2.1
 |false=>rw [(h.2 e).1];exact Og
theorem Mx{l:List Int}(_:okL okI l):Cp l=some true:=by
 unfold Cp;rw [AT];split
 .rfl
 have hl:l.length<=1048576:=by omega
 obtain⟨r,h1,h2,h3⟩:=Oh hl;have hf:=h3.fit;obtain⟨k',s,ps,cs,td,js,em,⟨m1,m2⟩,hh⟩:=Nn hf (k:=1) (by omega) (by omega);obtain⟨a,ea,a1,a2,a3,a4⟩:=QQ (l:=l) hl (k:=1) (by omega) (by omega);have ha:decide (a.1<0)=false:=by rw [decide_eq_false_iff_not];omega
 have hk:decide (k'<0)=false:=by rw [decide_eq_false_iff_not];omega
 have hb:∀b:Bool,(b==b)=true:=by intro b;cases b <;> rfl
 unfold C0 B7 C1;have e1:=Pr (l:=l) (by omega);have e2:=RF hf;have e3:=hh (AH.mk (AQ.mk s r.1.AI.A2 r.1.AI.Room r.1.AI.Aq r.1.AI.Au r.1.AI.As r.1.AI.Rest r.1.AI.A3 r.1.AI.BL) r.1.Now r.1.Ai ps cs td js) rfl rfl rfl rfl rfl;simp only [tN hl,AA,h1,h2,e2,Ae,Af,AE,hb,Bool.not_true,Ag,e1,ea,ha,em,e3,hk,ne_self]
theorem vq:∀{l:List Int},(∀n∈l,okN n)->l.length<=(pL l).length
 | [],_=>by simp
 |n::l,h=>by
  have h1:=vq fun m hm=>h m (List.mem_cons_of_mem _ hm)
  have h2:=sb (h n (List.mem_cons_self ..));have:pL (n::l)=pN n++pL l:=rfl;rw [this,List.length_append,List.length_cons];omega
structure tU(s:List UInt8)(r:AH×Int×Bool):Prop where
 yes:r.2.2=true->DH r.1=true/\Ba r.1/\Ll r.1 r.2.1=s
 no:r.2.2=false->r=(KS,0,false)
 all:∀h q,DH h=true->Ba h->rdL (s.length+1) (s.drop 4)=some (q::DI h)->Ll h q=s->5<=s.length->r=(h,q,true)
theorem tU.fit{s:List UInt8}{r:AH×Int×Bool}(h:tU s r):Ba r.1:=by
 cases e:r.2.2 with
 |true=>exact(h.yes e).2.1
 |false=>rw [h.no e];exact Og
theorem vN{f:Nat}{s:List UInt8}{l:List Int}(h:rdL f s=some l):l.length<=s.length/\(s≠[]->l≠[]):=by
 obtain⟨h1,h2⟩:=bD f s l h;refine⟨by rw [h1];exact vq h2,fun hs hl=>?_⟩;rw [hl] at h1;exact hs h1
theorem gm{f g:Nat}{s:List UInt8}{l:List Int}(h:rdL f s=some l)(hg:s.length<g):rdL g s=some l:=by
 obtain⟨h1,h2⟩:=bD f s l h;rw [h1] at hg ⊢;exact sg l g h2 hg
theorem Mn{s:List UInt8}(hs:s.length<=1048576):∃r,fV s=some r/\YI s=some r/\tU s r:=by
 unfold fV YI Ux Uz;by_cases h5:s.length<5
 .rw [AT,AT,if_pos (by omega),if_pos (by omega),AE,Af];exact⟨_,rfl,rfl,⟨fun h=>(by cases h),fun _=>rfl,fun _ _ _ _ _ _ h=>absurd h (by omega)⟩⟩
 have g4:(0:Int)<=4/\(4:Int)<=(s.length:Int):=by omega
 have hd:List.drop (Int.toNat 4) s=s.drop 4:=rfl;have hdl:(s.drop 4).length<=1048576:=by rw [List.length_drop];omega
 rw [AT,AT,if_neg (by omega),if_neg (by omega),AE,BE g4,BE g4,hd,aE hdl,bh hdl,AA,AA];have zz:tU s (KS,0,false)\/True:=.inr trivial;cases e:rdL ((s.drop 4).length+1) (s.drop 4) with
 |none=>
  refine⟨(KS,0,false),?_,rfl,⟨fun h=>(by cases h),fun _=>rfl,fun h q _ _ h3 _ _=>?_⟩⟩
  .rw [AT];split <;> rfl
  .rw [gm h3 (by omega)] at e;cases e
 |some l=>
  obtain⟨l1,l2⟩:=vN e;have hlne:=l2 (by rw [<-List.length_pos_iff,List.length_drop];omega);obtain⟨q,t,rfl⟩:∃q t,l=q::t:=by
   cases l with
   |nil=>exact(hlne rfl).elim
   |cons q t=>exact⟨q,t,rfl⟩
  have htl:t.length<=1048576:=by simp only [List.length_cons] at l1;omega
  have g1:(0:Int)<=1/\(1:Int)<=((q::t).length:Int):=by simp only [List.length_cons];omega
  have htk:List.take ((q::t).length-Int.toNat 1) (List.drop (Int.toNat 1) (q::t))=t:=by
   show List.take ((q::t).length-1) t=t;exact List.take_of_length_le (by simp only [List.length_cons];omega)
  have a0:at? (q::t) 0=some q:=rfl;obtain⟨r,i1,i2,i3⟩:=Oh htl;have hf:=i3.fit;have hall:∀h p,rdL (s.length+1) (s.drop 4)=some (p::DI h)->p=q/\DI h=t:=by
   intro h p h3;rw [gm h3 (by omega)] at e;cases e;exact⟨rfl,rfl⟩
  unfold Uy;simp only [xa,Ae,Af,BE g1,htk,i1,i2,AA,a0,Xd hf q,XV hf q];cases hr:r.2 with
  |false=>
   simp only [Ag,AE,Af];refine⟨(KS,0,false),?_,rfl,⟨fun h=>(by cases h),fun _=>rfl,fun h p h1 h2 h3 _ _=>?_⟩⟩
   .rw [AT];split <;> rfl
   .exact((i3.2 hr).2 h ⟨h1,h2,(hall h p h3).2⟩).elim
  |true=>
   simp only [Af,AE];obtain⟨⟨c1,c2,c3⟩,c4⟩:=i3.1 hr;by_cases hT:Ll r.1 q=s
   .have hlen:=pU r.1 q;rw [hT] at hlen;rw [show (Ll r.1 q != s)=false from by simp [hT],Ag,AT,if_neg (by omega)];refine⟨_,rfl,rfl,⟨fun _=>⟨c1,c2,hT⟩,fun h=>(by cases h),fun h p h1 h2 h3 _ _=>?_⟩⟩;obtain⟨u1,u2⟩:=hall h p h3;rw [u1,c4 h ⟨h1,h2,u2⟩]
   .rw [show (Ll r.1 q != s)=true from by simp [hT],Af];refine⟨(KS,0,false),?_,rfl,⟨fun h=>(by cases h),fun _=>rfl,fun h p h1 h2 h3 h4 _=>?_⟩⟩
    .rw [AT];split <;> rfl
    .obtain⟨u1,u2⟩:=hall h p h3;rw [u1,c4 h ⟨h1,h2,u2⟩] at h4;exact(hT h4).elim
theorem Mh{s:List UInt8}(_:okS s):CT s=some true:=by
 unfold CT;rw [AT];split
 .rfl
 obtain⟨r,h1,h2,h3⟩:=Mn (s:=s) (by omega);have hf:=h3.fit;obtain⟨k',s',ps,cs,td,js,em,⟨m1,m2⟩,hh⟩:=Nn hf (k:=1) (by omega) (by omega);have hk:decide (k'<0)=false:=by rw [decide_eq_false_iff_not];omega
 have hb:∀b:Bool,(b==b)=true:=by intro b;cases b <;> rfl
 unfold Bw By;have e2:=RF hf;have e3:=hh (AH.mk (AQ.mk s' r.1.AI.A2 r.1.AI.Room r.1.AI.Aq r.1.AI.Au r.1.AI.As r.1.AI.Rest r.1.AI.A3 r.1.AI.BL) r.1.Now r.1.Ai ps cs td js) rfl rfl rfl rfl rfl;simp only [AA,h1,h2,e2,Ae,Af,AE,hb,Bool.not_true,Ag,em,e3,hk,ne_self]
def OZ(s:Be)(k:Int):Dw:=if (k.tmod 2==0)=true then s.IP else s.Odd
theorem iK(s:Be)(k:Int):mh s k=some (OZ s k):=by unfold mh OZ br;split <;> rfl
theorem gA(s:Be)(k:Int):mj s k=some (OZ s k):=by unfold mj OZ br;split <;> rfl
theorem IA(s:Be)(k:Int):∃r,YH s k=some r/\U0 s k=some r/\Ba r.1:=by
 unfold YH U0;rw [iK,gA,AA,AA,iG,fu,AA,AA,Ae,Ae];cases h:Xn (OZ s k) with
 |false=>exact⟨_,rfl,rfl,Og⟩
 |true=>
  unfold Xn at h;rw [Bool.and_eq_true,decide_eq_true_iff,CL] at h;obtain⟨r,h1,h2,h3⟩:=Mn (s:=List.take (OZ s k).Safe.toNat (OZ s k).Data) (by rw [List.length_take];omega);rw [Af,Af,BE h.2,BE h.2,h1,h2,AA];exact⟨r,rfl,rfl,h3.fit⟩
theorem Yx{s:Be}(hs:Ld s){d:Int}(h0:0<=d)(h1:d<=1048576):∃r,qN s d=some r:=by
 unfold qN;obtain⟨a,ea,ha⟩:=XI (a:=s.Log) hs.1.1 h0 h1;rw [ea,AA,AT];split
 .exact⟨_,rfl⟩
 obtain⟨b,eb,hb⟩:=XI (a:=s.IP) hs.2.1.1 (d:=a) (by omega) (by omega);rw [eb,AA,AT];split
 .exact⟨_,rfl⟩
 obtain⟨c,ec,hc⟩:=XI (a:=s.Odd) hs.2.2.1.1 (d:=b) (by omega) (by omega);rw [ec,AA];rw [AT];split <;> exact⟨_,rfl⟩
theorem Mg{s:Be}{k:Int}(hs:Ld s)(_:okI k):CS s k=some true:=by
 unfold CS;obtain⟨z,ez⟩:=Yx hs (d:=1048576) (by omega) (by omega);rw [ez,AA,AT];split
 .rfl
 obtain⟨r,h1,h2,hf⟩:=IA s k;obtain⟨k',s',ps,cs,td,js,em,⟨m1,m2⟩,hh⟩:=Nn hf (k:=1) (by omega) (by omega);have hk:decide (k'<0)=false:=by rw [decide_eq_false_iff_not];omega
 have hb:∀b:Bool,(b==b)=true:=by intro b;cases b <;> rfl
 unfold Bu Bv;have e2:=RF hf;have e3:=hh (AH.mk (AQ.mk s' r.1.AI.A2 r.1.AI.Room r.1.AI.Aq r.1.AI.Au r.1.AI.As r.1.AI.Rest r.1.AI.A3 r.1.AI.BL) r.1.Now r.1.Ai ps cs td js) rfl rfl rfl rfl rfl;simp only [Y2,AA,h1,h2,e2,Ae,Af,AE,hb,Bool.not_true,Ag,em,e3,hk,ne_self]
theorem Qp{s:Be}(hs:Ld s):DD s=some true:=by
 unfold DD;obtain⟨z,ez⟩:=Yx hs (d:=1048576) (by omega) (by omega);rw [ez,AA,AT];split
 .rfl
 obtain⟨r,h1,h2,_⟩:=IA s 0;obtain⟨r',h3,h4,_⟩:=IA s 1;have key:∃c,mi s=some c/\ml s=some c:=by
  unfold mi ml Pm U1 Pn;rw [h1,h2,h3,h4,AA,AA,AA,AA];cases e1:r.2.2 <;> cases e2:r'.2.2 <;> simp only [Ae,Af,Ag,AE,e1,e2,Bool.not_true,Bool.not_false]
  .exact⟨_,rfl,rfl⟩
  .exact⟨_,rfl,rfl⟩
  .exact⟨_,rfl,rfl⟩
  .by_cases hc:r.2.1>=r'.2.1
   .rw [show decide (r.2.1>=r'.2.1)=true from decide_eq_true hc,show decide (r'.2.1>r.2.1)=false from decide_eq_false (by omega)];exact⟨_,rfl,rfl⟩
   .rw [show decide (r.2.1>=r'.2.1)=false from decide_eq_false hc,show decide (r'.2.1>r.2.1)=true from decide_eq_true (by omega)];exact⟨_,rfl,rfl⟩
 obtain⟨c,k1,k2⟩:=key;rw [Y2,AA,k1,AA,AA,k2,AA,ne_self,Ag]
end Lv.P
