/-
  Plain laws: a right house stays right, whatever is done (joins, cancels, freed seats, answers).
-/
import Derived.Test.YtpbbmlmilagnkaaGreatPK
import Derived.Test.YtpbbmlmilagnkaaGreatKG
set_option linter.unusedVariables false
set_option linter.unusedSimpArgs false
set_option linter.unusedSectionVars false
open Bool renaming and_eq_true->AD
open Int renaming eq_ofNat_of_zero_le->Bb
open List renaming length_set->Bm,mem_cons_of_mem->Ag,pairwise_cons->BA
open Nat renaming zero_add->Af
namespace Lv.P
open Lv Go
theorem APm{t:List Int}{n:Int}:Hw t n=true↔(∀k∈t,0<=k/\k<=w64 (n-1))/\t.Pairwise fun a b=>a≠b:=by
 grind[SJ,By,CI,Bool.not_eq_true',List.any_eq_false,List.mem_iff_getElem,List.length_take,Hw,Iw,List.pairwise_iff_getElem,List.getElem_mem]
theorem APn{t:List Int}{n:Nat}(hn:n<=1048576)(h:Hw t n=true){k:Int}(h0:0<=k)(h1:k<n):Hw (Ov t k) n=true:=by
 grind[Ov,APm,List.any_eq_false,List.mem_singleton,BP]
theorem RH.len{h:AE}(hR:RH h):h.AH.length<=4/\h.AH.length=h.AO.AR.length:=by
 have:=Cb hR.rules;have:=hR.D7;omega
theorem RH.EH{h:AE}(hR:RH h){l:List Int}(hl:Hw l h.AH.length=true):RH (EH h l):=⟨hR.rules,hR.now,hR.HT,hR.D7,hR.IX,hR.cab,hl,hR.FL,hR.Qq⟩
theorem RH.VC{h:AE}(hR:RH h){l:List Int}(hl:Jg l h.AH.length=true)(hn:l.length=h.Ay.length):RH (VC h l):=⟨hR.rules,hR.now,hR.HT,hR.D7,hR.IX,hR.cab,hR.todo,hl,by show (l.length:Int)=_;rw[hn];exact hR.Qq⟩
theorem RH.put{h:AE}(hR:RH h){k:Int}(h0:0<=k)(h1:k<h.AH.length):RH (Lv.P.EH h (Ov h.A0 k)):=hR.EH (APn (by have:=hR.len;omega) hR.todo h0 h1)
theorem AHj{h:AE}(hR:RH h){k:Nat}(hk:k<h.AH.length):HE h k=(cbn h k).AR.EK-(cbn h k).AR.ET:=by
 have kl:=F5.1 (hR.cb hk).led
 grind[HE,cbn,BP]
theorem jF{h:AE}{id:Int}(hv:Ib h id=0):0<=Ep h id/\(par h id).State=2:=by
 unfold Ib at hv;by_cases h1:Ep h id<0
 .grind
 .rw[if_neg h1]at hv;by_cases h2:(h.AG.getD (Ep h id).toNat fW).State=2
  .exact⟨by omega,h2⟩
  grind
theorem NR{h:AE}{q:Bw}(hv:verdict h q=0):GK h q=0/\Jp q=true:=by
 grind[E1,verdict,GB,GK]
theorem yw{h:AE}{q:Bw}(h1:inB q.Kind 1 7=true)(h2:Jp q=true)(hv:GK h q=0):(q.Kind=1->UM h q=0)/\(q.Kind=2->¬Ep h q.Id<0) /\
 (q.Kind=3->q.AT<h.AH.length/\inB q.A1 1 60=true/\q.A1<=HE h q.AT)/\(q.Kind=4\/q.Kind=5->Ib h q.Id=0)/\(q.Kind=6->h.Now<1000000):=by
 unfold GK at hv;rw[h1,h2]at hv;simp only[Bool.true_eq_false,if_false]at hv;refine⟨fun k=>?_,fun k=>?_,fun k=>?_,fun k=>?_,fun k=>?_⟩
 .rw[if_pos k]at hv;exact hv
 .grind
 .grind[inB,HE]
 .grind
 grind
theorem AQv{q:Bw}(h:Jp q=true):inB q.Kind 1 7=true:=by
 grind[Jp,CI]
theorem MN{h:AE}{q:Bw}(hv:verdict h q=0):(q.Kind=1->UM h q=0)/\(q.Kind=2->¬Ep h q.Id<0) /\
 (q.Kind=3->q.AT<h.AH.length/\inB q.A1 1 60=true/\q.A1<=HE h q.AT)/\(q.Kind=4\/q.Kind=5->Ib h q.Id=0)/\(q.Kind=6->h.Now<1000000):=
 yw (h:=h) (AQv (NR hv).2) (NR hv).2 (NR hv).1
end Lv.P
namespace Lv.P
open Lv Go
theorem ATY:∀{ps:List AJ},(∀p∈ps,0<=p.AT/\p.AT<4)->(ps.length:Int)=Cr ps 0+Cr ps 1+Cr ps 2+Cr ps 3
 | [],_=>rfl|p::ps,h=>by
  have ih:=ATY (ps:=ps) fun q hq=>h q (Ag _ hq)
  grind[List.mem_cons_self,G7,List.length_cons]
theorem AKI{ps:List AJ}{c:Int}(h:∀p∈ps,p.AT≠c):Cr ps c=0:=by
 induction ps with
 |nil=>rfl|cons p ps ih=>
  grind[G7,List.mem_cons_self,List.mem_cons_of_mem]
theorem RH.cnt{h:AE}(hR:RH h)(c:Int):Cr h.AG c<=h.AO.Room:=by
 have hlen:=hR.len;have hr:=Cb hR.rules;by_cases hc:0<=c/\c<h.AH.length
 .obtain⟨k,rfl⟩:=Bb hc.1;exact(hR.cb (by omega)).room
 .rw[AKI fun p hp=>?_]
  .omega
  .have:=E5 (hR.IX.par p hp).1;omega
theorem AHh{h:AE}{id cabin frm size tier:Int}(hv:verdict h ⟨1,id,cabin,frm,size,tier⟩=0):RH (Jz h id cabin frm size tier)/\(Jz h id cabin frm size tier).AO=h.AO/\(Jz h id cabin frm size tier).AG.Perm (GL h id cabin frm size tier::h.AG)/\∀p∈h.AG,p.Id≠id:=by
 have hR:=E1 hv;have hlen:=hR.len;have hr:=Cb hR.rules;have hnow:=hR.now;have hturn:=hR.HT;have hj:=(MN hv).1 rfl;have ha:=(NR hv).2;unfold Jp at ha;rw[if_pos rfl]at ha;simp only[AD,Oq,CI]at ha;obtain⟨_,ha2,ha3,ha4,ha5⟩:=ha;unfold UM at hj;dsimp only at hj;by_cases c1:(h.AH.length:Int)<=cabin\/(h.AH.length:Int)<=frm\/frm=cabin
 .rw[if_pos c1]at hj;cases hj
 rw[if_neg c1]at hj;by_cases c2:inB size 1 h.AO.A1=false
 .rw[if_pos c2]at hj;cases hj
 rw[if_neg c2]at hj;by_cases c3:h.AO.Cg<=tier
 .rw[if_pos c3]at hj;cases hj
 rw[if_neg c3]at hj;by_cases c4:inB id 1 999=false
 .rw[if_pos c4]at hj;cases hj
 rw[if_neg c4]at hj;by_cases c5:0<=Ep h id
 .rw[if_pos c5]at hj;cases hj
 rw[if_neg c5]at hj;by_cases c6:h.AO.Room<=Cr h.AG cabin
 .rw[if_pos c6]at hj;cases hj
 rw[if_neg c6]at hj;by_cases c7:0<=frm/\HE h frm<size
 .rw[if_pos c7]at hj;cases hj
 rw[if_neg c7]at hj;by_cases c8:1000000<h.Ai
 .rw[if_pos c8]at hj;cases hj
 have c2':=CI.1 (by simpa using c2:inB size 1 h.AO.A1=true);have c4':=CI.1 (by simpa using c4:inB id 1 999=true);have hfresh:∀p∈h.AG,p.Id≠id:=fun p hp e=>c5 (by have:=(hR.o8 hp).1;rw[e]at this;exact this)
 have hpput:∀p:AJ,p.Id=id->Iu h.AG p=put Ir p h.AG:=by
  intro p hp;unfold Iu;unfold Ep at c5;rw[hp,if_neg c5]
 have ew:w64 (h.Ai+1)=h.Ai+1:=BP (by omega) (by omega);have hpb:DC h.AO ⟨id,cabin,frm,size,tier,h.Now,h.Ai,1,0,0⟩ h.Now=true:=by
  unfold DC;simp only[AD,CI,Bool.or_eq_true,beq_iff_eq,Bool.not_eq_true',beq_eq_false_iff_ne];have e1:w64 ((h.AO.AR.length:Int)-1)=(h.AO.AR.length:Int)-1:=BP (by omega) (by omega);have e2:w64 (h.AO.Cg-1)=h.AO.Cg-1:=BP (by omega) (by omega);have e3:w64 (h.AO.Cc-1)=h.AO.Cc-1:=BP (by omega) (by omega);have e4:w64 (h.Now+h.AO.Rest)=h.Now+h.AO.Rest:=BP (by omega) (by omega);rw[e1,e2,e3,e4];refine⟨hR.rules,hnow,c4',by omega,by omega,by omega,c2',by omega,by omega,by omega,by omega,.inl ⟨trivial,by omega⟩⟩
 have hperm:(put Ir (GL h id cabin frm size tier) h.AG).Perm (GL h id cabin frm size tier::h.AG):=Ug _ _;have hpn:∀q:AJ,q∈GL h id cabin frm size tier::h.AG->q=GL h id cabin frm size tier\/q∈h.AG:=fun q hq=>List.mem_cons.1 hq
 have hPR:On h.AO h.Now (h.Ai+1) (put Ir (GL h id cabin frm size tier) h.AG):=by
  refine⟨?_,?_,?_,?_⟩
  .rw[Em];have h4:=ATY (ps:=h.AG) fun p hp=>by have:=E5 (hR.IX.par p hp).1;omega
   have r0:=hR.cnt 0;have r1:=hR.cnt 1;have r2:=hR.cnt 2;have r3:=hR.cnt 3;rcases(show cabin=0\/cabin=1\/cabin=2\/cabin=3 by omega) with e|e|e|e<;>rw[e]at c6<;>omega
  .intro q hq;rcases hpn q (hperm.subset hq) with rfl|hq
   .exact⟨hpb,by show h.Ai<h.Ai+1;omega⟩
   .have:=hR.IX.par q hq;exact⟨this.1,by omega⟩
  .have hd:Ob Ir (GL h id cabin frm size tier::h.AG):=by
    unfold Ob;rw[BA];refine⟨fun q hq=>?_,hR.IX.ids.imp fun h=>.inl (by unfold Ir;rw[decide_eq_true_iff];exact h)⟩;have:=hfresh q hq;unfold Ir;rw[decide_eq_true_iff,decide_eq_true_iff];show id<q.Id\/q.Id<id;omega
   have hs:Cm Ir h.AG=h.AG:=M1 ez (hR.IX.ids.imp fun h=>by unfold Ir;rw[decide_eq_true_iff];exact h);have:=Jm ez hd;rw[Fi,hs]at this;exact this.imp fun h=>by unfold Ir at h;simpa using h
  .rw[hperm.pairwise_iff (fun {a b} h=>by rw[zI];exact h),BA];refine⟨fun q hq=>?_,hR.IX.turns⟩;have h1:=hR.IX.par q hq;have h2:=E5 h1.1;unfold F9 GL;simp only[Bool.or_eq_false_iff,beq_eq_false_iff_ne,Bool.and_eq_false_iff,decide_eq_false_iff_not];refine⟨by omega,.inl (by omega),.inr (by omega)⟩
 have hu:=hPR.uni;have hz:1<=(GL h id cabin frm size tier).A1/\(GL h id cabin frm size tier).A1<=6:=⟨c2'.1,by show size<=6;omega⟩;have hmain:RH (if 0<=frm then IG (FR ⟨h.AO,h.Now,w64 (h.Ai+1),Iu h.AG (GL h id cabin frm size tier),h.AH,h.A0,h.Ay⟩ (GL h id cabin frm size tier)) frm size else FR ⟨h.AO,h.Now,w64 (h.Ai+1),Iu h.AG (GL h id cabin frm size tier),h.AH,h.A0,h.Ay⟩ (GL h id cabin frm size tier)):=by
  rw[hpput _ rfl,ew];generalize hP:GL h id cabin frm size tier=p at *;have q1:p.AT=cabin:=by rw[<-hP];rfl
  have q2:p.BQ=frm:=by rw[<-hP];rfl
  have q3:p.A1=size:=by rw[<-hP];rfl
  have q4:p.State=1:=by rw[<-hP];rfl
  have q5:DC h.AO p h.Now=true:=by rw[<-hP];exact hpb
  have hx:∀i:Nat,i<h.AH.length->Om h.AO (put Ir p h.AG) h.AG h.Now i (cbn (FR ⟨h.AO,h.Now,h.Ai+1,put Ir p h.AG,h.AH,h.A0,h.Ay⟩ p) i):=by
   intro i hi;unfold FR;rw[H2 (by omega) (by show p.AT<(h.AH.length:Int);omega) (by omega)];have hc:=hR.cb hi;refine Om.perm ?_ (hu.perm hperm) hperm.symm (.refl _);by_cases e:(i:Int)=p.AT
   .rw[if_pos e,<-e];refine⟨?_,?_,hc.total,?_,hc.IG,hc.led,?_⟩
    .dsimp only;rw[JJ _ q5 q4,if_pos e.symm,Nt q5 q4];show put ltE _ (cbn h i).Row=_;rw[hc.row]
    .dsimp only;rw[NJ _ (by omega)];exact hc.Ft
    .dsimp only;rw[M0 _ (by omega)];exact hc.held
    .rw[G7,if_pos e.symm];have:(i:Int)=cabin:=by omega
     rw[this];omega
   .rw[if_neg e];refine⟨?_,?_,hc.total,?_,hc.IG,hc.led,?_⟩
    .rw[JJ _ q5 q4,if_neg (Ne.symm e)];exact hc.row
    .rw[NJ _ (by omega)];exact hc.Ft
    .rw[M0 _ (by omega)];exact hc.held
    .rw[G7,if_neg (Ne.symm e),Int.zero_add];exact hc.room
  have hXl:(FR ⟨h.AO,h.Now,h.Ai+1,put Ir p h.AG,h.AH,h.A0,h.Ay⟩ p).AH.length=h.AH.length:=by simp[FR,CQ]
  have hX:Kept (⟨h.AO,h.Now,h.Ai+1,put Ir p h.AG,h.AH,h.A0,h.Ay⟩:AE) (FR ⟨h.AO,h.Now,h.Ai+1,put Ir p h.AG,h.AH,h.A0,h.Ay⟩ p):=⟨rfl,rfl,rfl,hXl,rfl,rfl⟩;have hXs:∀i:Nat,(cbn (FR ⟨h.AO,h.Now,h.Ai+1,put Ir p h.AG,h.AH,h.A0,h.Ay⟩ p) i).AR=(cbn h i).AR:=by
   intro i;unfold FR;rw[H2 (by omega) (by show p.AT<(h.AH.length:Int);omega) (by omega)];by_cases e:(i:Int)=p.AT
   .rw[if_pos e,e];rfl
   .rw[if_neg e];rfl
  have hXp:(FR ⟨h.AO,h.Now,h.Ai+1,put Ir p h.AG,h.AH,h.A0,h.Ay⟩ p).AG=put Ir p h.AG:=rfl;generalize FR ⟨h.AO,h.Now,h.Ai+1,put Ir p h.AG,h.AH,h.A0,h.Ay⟩ p=X at *;obtain⟨x1,x2,x3,x4,x5,x6⟩:=hX;dsimp only at x1 x2 x3 x4 x5 x6;split
  .rename_i f0;obtain⟨k,hk⟩:=Bb f0;have hkl:k<h.AH.length:=by omega
   have hlo:=AHj hR hkl;have hsz:size<=HE h frm:=by
    rcases Int.lt_or_le (HE h frm) size with c|c
    .exact absurd ⟨f0,c⟩ c7
    .exact c
   refine RH.mk' (by show GI X.AO=true;rw[x1];exact hR.rules) (by show 0<=X.Now/\X.Now<=1000000;rw[x2];exact hR.now) (by show 1<=X.Ai/\X.Ai<=1000001;rw[x3];omega) (by simp only[IG,CQ,Bm];rw[x4,x1];exact hR.D7) (by show On X.AO X.Now X.Ai X.AG;rw[x1,x2,x3,hXp];exact hPR) ?_
    (by simp only[IG,CQ,Bm];rw[x4,x5];exact hR.todo) (by simp only[IG,CQ,Bm];rw[x4,x6];exact hR.FL) (by show (X.Ay.length:Int)=X.AO.Cu;rw[x6,x1];exact hR.Qq)
   intro i hi;have hi':i<h.AH.length:=by simp only[IG,CQ,Bm]at hi;rw[x4]at hi;exact hi
   have hxi:=hx i hi';unfold IG;rw[H2 f0 (by omega) (by omega)];show VE X.AO X.AG X.Now i _;rw[x1,x2,hXp];refine Om.full (Om.perm (ps:=put Ir p h.AG) (qs:=p::h.AG) ?_ hu (.refl _) hperm.symm);by_cases e:(i:Int)=frm
   .obtain rfl:i=k:=by omega
    rw[if_pos e,<-e];have kl:=F5.1 hxi.led;have hsame:=hXs i;have hl:DD ⟨(cbn X i).AR.Total,(cbn X i).AR.DJ+0*size,(cbn X i).AR.Dd+0*size,(cbn X i).AR.EK+0*size,(cbn X i).AR.ET+1*size⟩=true:=by
     rw[F5];dsimp only;rw[hk,hlo,<-hsame]at hsz;omega
    rw[AGM hxi.led (by omega) (by omega) (by omega) (by omega) (by omega) hl];refine⟨hxi.row,hxi.Ft,hxi.total,by dsimp only;rw[hxi.held];omega,?_,hl,hxi.room⟩;dsimp only;rw[HS _ hz,if_pos (by omega),hxi.IG];omega
   .rw[if_neg e];refine⟨hxi.row,hxi.Ft,hxi.total,hxi.held,?_,hxi.led,hxi.room⟩;rw[HS _ hz,if_neg (by omega),hxi.IG];omega
  .rename_i f0;refine RH.mk' (by rw[x1];exact hR.rules) (by rw[x2];exact hR.now) (by rw[x3];omega) (by rw[x4,x1];exact hR.D7) (by rw[x1,x2,x3,hXp];exact hPR) ?_ (by rw[x4,x5];exact hR.todo) (by rw[x4,x6];exact hR.FL) (by rw[x6,x1];exact hR.Qq);intro i hi;have hi':i<h.AH.length:=by omega
   have hxi:=hx i hi';rw[x1,x2,hXp];refine Om.full (Om.perm (ps:=put Ir p h.AG) (qs:=p::h.AG) ?_ hu (.refl _) hperm.symm);refine⟨hxi.row,hxi.Ft,hxi.total,hxi.held,?_,hxi.led,hxi.room⟩;rw[HS _ hz,if_neg (by omega),hxi.IG];omega
 unfold Jz;dsimp only;generalize hY:(if 0<=frm then IG (FR ⟨h.AO,h.Now,w64 (h.Ai+1),Iu h.AG (GL h id cabin frm size tier),h.AH,h.A0,h.Ay⟩ (GL h id cabin frm size tier)) frm size else FR ⟨h.AO,h.Now,w64 (h.Ai+1),Iu h.AG (GL h id cabin frm size tier),h.AH,h.A0,h.Ay⟩ (GL h id cabin frm size tier))=Y at *;have hYc:Y.AH.length=h.AH.length:=by rw[<-hY];split<;>simp[IG,FR,CQ]
 have hYp:Y.AG=put Ir (GL h id cabin frm size tier) h.AG:=by rw[<-hY,hpput _ rfl];split<;>rfl
 have hYr:Y.AO=h.AO:=by rw[<-hY];split<;>rfl
 exact⟨hmain.put (by omega) (by omega),hYr,by show Y.AG.Perm _;rw[hYp];exact hperm,hfresh⟩
end Lv.P
namespace Lv.P
open Lv Go
theorem AKG(h:AE)(l:List Int)(j:Int):cbn (EH h l) j=cbn h j:=rfl
structure Tk(h g:AE):Prop where
 rules:g.AO=h.AO
 now:g.Now=h.Now
 HT:g.Ai=h.Ai
 D7:g.AH.length=h.AH.length
 IX:g.AG=h.AG
 FL:g.Ay=h.Ay
theorem APd{h:AE}{i:Nat}:Tk h (NP h i):=by
 unfold NP;dsimp only;split
 .exact⟨rfl,rfl,rfl,by simp[EH,CQ],rfl,rfl⟩
 .exact⟨rfl,rfl,rfl,by simp[CQ],rfl,rfl⟩
end Lv.P
namespace Lv.P
open Lv Go
theorem N4{l:List AJ}(hl:l.length<=1048576)(id:Int):kf l id=some (atF (fun x=>x.Id==id) l 0):=by
 unfold kf AKw
 grind[NX,AF,vU,AKv,BW,A5,vT,BV,AW]
theorem FY{h:AE}(hh:Ba h)(id:Int):KC h id=some (Ep h id):=by
 unfold KC;rw[N4 hh.Bv,AF];rfl
theorem eS{h:AE}{k:Int}(h0:0<=k)(h1:k<h.AH.length):kg h k=some (HE h k):=by
 unfold kg;rw[EW h0 h1,AF,AF];rfl
theorem ANI(p:AJ)(now:Int):vn p now=some (ALM p now):=by
 unfold vn bV ALM;rw[AW,AW,B7]
theorem GV{l:List Int}(hl:l.length<=1048576)(k:Int):T1 l k=some (Ov l k):=by
 grind[lim,T1,bh,Ov,mf,AF,MA,B5,AW,DB]
theorem zP{c:C}{l:List c.D}{k:Nat}(hk:k<l.length):wy c l (k:Int) ((k+1:Nat):Int)=some (l.take k++l.drop (k+1)):=by
 grind[wy]
theorem ANK{c:C}{l:List c.D}{k:Nat}(hk:k<=l.length)(hl:l.length<=1048576)(x:c.D):ic c l (k:Int) [x]=some (l.take k++x::l.drop k):=by
 grind[ic,lim]
theorem ATc{l:List AJ}{k:Nat}(hk:k<l.length):ARo l (k:Int) ((k:Int)+1)=some (l.take k++l.drop (k+1)):=zP (c:=.st 2) hk
theorem ARu{l:List AJ}{k:Nat}(hk:k<=l.length)(hl:l.length<=1048576)(x:AJ):ARp l (k:Int) [x]=some (l.take k++x::l.drop k):=ANK (c:=.st 2) hk hl x
theorem ATa{l:List AQ}{k:Nat}(hk:k<l.length):ARm l (k:Int) ((k:Int)+1)=some (l.take k++l.drop (k+1)):=zP (c:=.st 4) hk
theorem ATg{l:List AQ}{k:Nat}(hk:k<=l.length)(hl:l.length<=1048576)(x:AQ):AKz l (k:Int) [x]=some (l.take k++x::l.drop k):=ANK (c:=.st 4) hk hl x
theorem ATb{l:List AY}{k:Nat}(hk:k<l.length):ARn l (k:Int) ((k:Int)+1)=some (l.take k++l.drop (k+1)):=zP (c:=.st 5) hk
theorem MC{l:List AJ}(hl:l.length<=1048576)(id:Int):T2 l id=some (l.eraseP (fun x=>x.Id==id)):=by
 have hlim:lim=268435456:=rfl;unfold T2 bq;rw[DB (by omega),N4 hl,AF,Bl];rcases HL (fun x:AJ=>x.Id==id) l 0 with ⟨h1,h2,h3⟩|⟨k,hk,h1,h2,h3,_⟩
 .rw[h1,if_neg (by omega),AW,h2]
 .rw[h1,Af,if_pos (by omega),BP (by omega) (by omega)];rw[ATc hk];erw [AF];rw[AW,h2]
theorem RQ{l:List AQ}(hl:l.length<=1048576):Tn l=some l:=by
 unfold Tn;rw[DB (by unfold lim;omega)]
theorem Q2{l:List AQ}(hl:l.length<=1048576)(id:Int):vt l id=some (l.eraseP (fun x=>x.Id==id),l.any fun x=>x.Id==id):=by
 have hlim:lim=268435456:=rfl;unfold vt;rw[RQ hl,AF,UJ (by omega),AF,Bl];rcases HL (fun x:AQ=>x.Id==id) l 0 with ⟨h1,h2,h3⟩|⟨k,hk,h1,h2,h3,_⟩
 .grind
 .rw[h1,Af,if_neg (by omega),BP (by omega) (by omega)];rw[ATa hk];erw [AF];rw[h2,h3]
theorem ME{w:Ah}(hw:DK w){p:AY}(hp:OI p=true):AUo w p=some (Qs w p):=by
 have hlim:lim=268435456:=rfl;have hp1:=(Ld hp).1.1;unfold AUo;rw[P4 hw,AF,GW hw,AF,Rp,hp,AF,BI,B5,AW,AW];unfold Qs bk;by_cases hb:FI w=true
 .rw[if_pos hb,if_pos ⟨hb,hp1⟩,Bool.not_true,BV];obtain⟨m,hm,hm2⟩:=U6 (n:=p.At) hp1;have hlen:m<w.Aa.length:=by have:=(DU.1 hb).1;omega
  have hs:w.Aa[m].length<=1048576:=Nat.le_trans (HR hlen) hw.2;rw[hm2,Int.toNat_natCast,List.getD_eq_getElem?_getD,List.getElem?_eq_getElem hlen,Option.getD_some];simp only[A5 hlen,AF];have hix:AFP w.Aa[m] p=some (atF (isP p) w.Aa[m] 0):=by
   grind[AFP,NX,vz,isP,BW,A5,AF,vu,BV,AW]
  rw[hix,AF,Bl];rcases HL (isP p) w.Aa[m] 0 with ⟨h1,h2,h3⟩|⟨k,hk,h1,h2,h3,_⟩
  .rw[h1,if_pos (by omega),h2,h3,List.set_getElem_self]
  .rw[h1,Af,if_neg (by omega),BP (by omega) (by omega)];rw[ATb hk];erw [AF];rw[DB ⟨rfl,⟨by omega,by omega⟩,trivial⟩,h2,h3]
 grind[BW]
theorem M8{l l':Av}{n a b c d:Int}(h:DD l=true->0<=n->n<=60->l'=⟨l.Total,w64 (l.DJ+w64 (a*n)),w64 (l.Dd+w64 (b*n)),w64 (l.EK+w64 (c*n)),w64 (l.ET+w64 (d*n))⟩) :
 (if DD l=true then if inB n 0 60=true then if DD l'=true then some (l',true) else some (l,false) else some (l,false) else some (l,false))=some (l8 l n a b c d):=by
 unfold l8
 grind[inB]
theorem Kb{x:Int}(h:-1000<=x/\x<=1000):w64 x=x:=BP (by omega) (by omega)
theorem iZ(l:Av)(n:Int):AFN l n=some (l8 l n 0 0 0 1):=by
 rw[<-M8 (l':=⟨l.Total,l.DJ,l.Dd,l.EK,w64 (l.ET+n)⟩) fun h h0 h1=>by have:=F5.1 h;congr 1<;>grind[Kb]];unfold AFN AK5 bg AK4
 grind[E0,Fe,AF,AW,B5]
theorem Jy(l:Av)(n:Int):kq l n=some (l8 l n 0 0 0 (-1)):=by
 rw[<-M8 (l':=⟨l.Total,l.DJ,l.Dd,l.EK,w64 (l.ET-n)⟩) fun h h0 h1=>by have:=F5.1 h;congr 1<;>grind[Kb]];unfold kq AK9 bn AK8
 grind[E0,Fe,AF,AW,B5]
theorem eQ(l:Av)(n:Int):AFg l n=some (l8 l n (-1) 1 0 0):=by
 rw[<-M8 (l':=⟨l.Total,w64 (l.DJ-n),w64 (l.Dd+n),l.EK,l.ET⟩) fun h h0 h1=>by have:=F5.1 h;congr 1<;>grind[Kb]];unfold AFg ALF cM ALE
 grind[E0,Fe,AF,AW,B5]
theorem PW(l:Av)(n:Int):wA l n=some (l8 l n 1 (-1) 0 0):=by
 rw[<-M8 (l':=⟨l.Total,w64 (l.DJ+n),w64 (l.Dd-n),l.EK,l.ET⟩) fun h h0 h1=>by have:=F5.1 h;congr 1<;>grind[Kb]];unfold wA AK7 bm AK6
 grind[E0,Fe,AF,AW,B5]
theorem eR(l:Av)(n:Int):AFG l n=some (l8 l n 0 (-1) 1 0):=by
 rw[<-M8 (l':=⟨l.Total,l.DJ,w64 (l.Dd-n),w64 (l.EK+n),l.ET⟩) fun h h0 h1=>by have:=F5.1 h;congr 1<;>grind[Kb]];unfold AFG AK1 bN AK0
 grind[E0,Fe,AF,AW,B5]
theorem PX(l:Av)(n:Int):wD l n=some (l8 l n 1 0 (-1) 0):=by
 rw[<-M8 (l':=⟨l.Total,w64 (l.DJ+n),l.Dd,w64 (l.EK-n),l.ET⟩) fun h h0 h1=>by have:=F5.1 h;congr 1<;>grind[Kb]];unfold wD ALB bu ALA
 grind[E0,Fe,AF,AW,B5]
theorem AN4{α:Type}{lt:α->α->Bool}{q:α->Bool}(a:α):∀{l:List α} (s:Nat),(∀x∈l,q x=!(lt x a))->(atF q l s = -1/\put lt a l=l++[a])\/∃k,k<l.length/\atF q l s=((s+k:Nat):Int)/\put lt a l=l.take k++a::l.drop k
 | [],s,_=>.inl ⟨rfl,rfl⟩|z::l,s,h=>by
  have hz:=h z (List.mem_cons_self ..);cases e:lt z a with
  |true=>
   have hq:q z=false:=by rw[hz,e];rfl
   rcases AN4 a (l:=l) (s+1) (fun x hx=>h x (Ag _ hx)) with ⟨h1,h2⟩|⟨k,hk,h1,h2⟩
   .exact .inl ⟨by simp[atF,hq,h1],by simp[put,e,h2]⟩
   .exact .inr ⟨k+1,by simpa using hk,by simp only[atF,hq,Bool.false_eq_true,if_false,h1];omega,by simp[put,e,h2]⟩
  |false=>
   grind[atF,put]
theorem MD{l:List AJ}(hl:l.length<=1048576)(p:AJ):km l p=some (Iu l p):=by
 have hlim:lim=268435456:=rfl;unfold km bZ Iu;rw[DB (by omega),N4 hl,AF,Bl];rcases HL (fun x:AJ=>x.Id==p.Id) l 0 with ⟨h1,_,h3⟩|⟨k,hk,h1,_⟩
 .rw[h1,if_neg (by omega),if_neg (by omega)];have hix:AFM l p=some (atF (fun x:AJ=>decide (x.Id>p.Id)) l 0):=by
   grind[AFM,NX,vr,AK3,BW,A5,AF,vq,BV,AW]
  rw[hix,AF,Bl,AW,AW];have hno:=List.any_eq_false.1 h3;rcases AN4 (lt:=Ir) (q:=fun x:AJ=>decide (x.Id>p.Id)) p (l:=l) 0 (fun x hx=>by
   have:=hno x hx;simp only[beq_iff_eq]at this;unfold Ir;rw[Bool.eq_iff_iff];simp;omega) with ⟨h4,h5⟩|⟨k,hk,h4,h5⟩
  .have:=ARu (l:=l) (k:=l.length) (Nat.le_refl _) hl p;rw[h4,if_pos (by omega),this];erw [AF];rw[h5];simp
  .have:=ARu (l:=l) (k:=k) (by omega) hl p;rw[h4,Af,if_neg (by omega),this];erw [AF];rw[h5]
 grind[A5,AF]
theorem Q3{l:List AQ}(hl:l.length<=1048575)(e:AQ):ko l e=some (if ID l=true/\ID (put ltE e l)=true then (put ltE e l,true) else (l,false)):=by
 have hlim:lim=268435456:=rfl;unfold ko;rw[RQ (by omega),AF];have h3:∀i:Nat,i<=l.length->ba l e l i=some (if ID l=true/\ID (l.take i++e::l.drop i)=true then (l.take i++e::l.drop i,true) else (l,false)):=by
  intro i hi;have:=ATg (l:=l) (k:=i) hi (by omega) e;unfold ba bc;rw[RQ (by omega)];rw[AF,this]
  erw [AF]
  rw[AF,this]
  erw [AF]
  grind[Cz,AF,UL,AW,B5]
 refine Po (lt:=ltE) (fun m=>some (if ID l=true/\ID m=true then (m,true) else (l,false))) (by omega) ?_ ?_
 .grind[bf,T0,BW,A5,AF,PV,AW]
 grind[bf,T0,BV,AW]
theorem xR{r:AV}(hr:r.AR.length<2 ^ 62)(p:AJ)(now:Int):AFI r p now=some (Ds r p now):=by
 unfold AFI Ty Ds;rw[KI hr,AF];simp only[AW,BI,B5,bne_iff_ne,ne_eq,beq_iff_eq];by_cases hp:DC r p now=true
 .have hk:=E5 hp;have hru:=Cb hk.1;have ew:w64 (p.CX+1)=p.CX+1:=BP (by omega) (by omega);rw[ew];by_cases h1:p.State=2
  .by_cases h2:p.CX+1=r.Cc
   .have:¬p.CX+1<r.Cc:=by omega
    simp[hp,h1,h2];rfl
   grind
  .simp[hp,h1];rfl
 .simp[hp];rfl
end Lv.P
