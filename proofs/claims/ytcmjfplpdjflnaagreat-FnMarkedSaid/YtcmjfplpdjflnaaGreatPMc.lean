/- Plain laws about what the program computes. -/
import Derived.Test.YtcmjfplpdjflnaaGreatPKc
import Derived.Test.YtcmjfplpdjflnaaGreatKGc
set_option linter.unusedVariables false
set_option linter.unusedSimpArgs false
set_option linter.unusedSectionVars false
open Bool renaming and_eq_true->AF,false_eq_true->BM,true_eq_false->Dl
open Int renaming eq_ofNat_of_zero_le->Ac,toNat_natCast->Ah
open List renaming all_eq_true->DI,getD_eq_getElem?_getD->BQ,getElem?_eq_getElem->AW,getElem_mem->As,length_append->AK,length_cons->AH,length_nil->AN,length_set->A8,mem_cons_of_mem->Ax,mem_cons_self->Be,pairwise_cons->BW,set_set->FB
open Nat renaming le_refl->Ad,le_trans->Aw,lt_or_ge->AV,zero_add->Au
open Option renaming getD_some->KN
namespace Lv.P
open Lv Go
theorem AT3{t:List Int}{n:Int}:JD t n=true↔(∀k∈t,0<=k/\k<=w64 (n-1))/\t.Pairwise fun a b=>a≠b:=by
 grind[RY,CR,CP,List.mem_iff_getElem,JD,JT,List.pairwise_iff_getElem]
theorem AT5{t:List Int}{n:Nat}(e:n<=1048576)(h:JD t n=true){k:Int}(a:0<=k)(c:k<n):JD (R8 t k) n=true:=by
 grind[R8,AT3,A6]
theorem RH.len{h:AE}(hR:RH h):h.AI.length<=4/\h.AI.length=h.AS.AY.length:=by
 have:=CK hR.rules;have:=hR.EL;omega
theorem RH.FA{h:AE}(hR:RH h){l:List Int}(a:JD l h.AI.length=true):RH (FA h l):=⟨hR.rules,hR.now,hR.turn,hR.EL,hR.Ks,hR.cab,a,hR.GV,hR.R3⟩
theorem RH.put{h:AE}(hR:RH h){k:Int}(a:0<=k)(c:k<h.AI.length):RH (Lv.P.FA h (R8 h.BA k)):=hR.FA (AT5 (by have:=hR.len;omega) hR.todo a c)
theorem AKc{h:AE}(hR:RH h){k:Nat}(a:k<h.AI.length):KC h k=(cbn h k).AY.Ff-(cbn h k).AY.Fw:=by
 have kl:=Hg.1 (hR.cb a).led
 grind[KC,cbn,A6]
theorem nh{h:AE}{id:Int}(a:Kf h id=0):0<=GX h id/\(par h id).State=2:=by
 unfold Kf at a;by_cases c:GX h id<0
 .grind
 .rw[AU c]at a;by_cases e:(h.AG.getD (GX h id).toNat wv).State=2
  .exact⟨by omega,e⟩
  grind
theorem QW{h:AE}{q:B1}(a:verdict h q=0):Hu h q=0/\KZ q=true:=by
 grind[verdict,Hu]
theorem ADL{h:AE}{q:B1}(c:inB q.Kind 1 7=true)(e:KZ q=true)(a:Hu h q=0):(q.Kind=1->Xc h q=0)/\(q.Kind=2->¬GX h q.Id<0) /\
 (q.Kind=3->q.Aa<h.AI.length/\inB q.BC 1 60=true/\q.BC<=KC h q.Aa)/\(q.Kind=4\/q.Kind=5->Kf h q.Id=0)/\(q.Kind=6->h.Now<1000000):=by
 unfold Hu at a;rw[c,e]at a;simp only[Dl,if_false]at a;refine⟨fun k=>?_,fun k=>?_,fun k=>?_,fun k=>?_,fun k=>?_⟩
 .rw[AX k]at a;exact a
 .grind
 .grind
 .grind
 grind
theorem AVA{q:B1}(h:KZ q=true):inB q.Kind 1 7=true:=by
 grind[KZ,CP]
theorem PS{h:AE}{q:B1}(a:verdict h q=0):(q.Kind=1->Xc h q=0)/\(q.Kind=2->¬GX h q.Id<0) /\
 (q.Kind=3->q.Aa<h.AI.length/\inB q.BC 1 60=true/\q.BC<=KC h q.Aa)/\(q.Kind=4\/q.Kind=5->Kf h q.Id=0)/\(q.Kind=6->h.Now<1000000):=
 ADL (h:=h) (AVA (QW a).2) (QW a).2 (QW a).1
theorem AXy:∀{ps:List AQ},(∀p∈ps,0<=p.Aa/\p.Aa<4)->(ps.length:Int)=DO ps 0+DO ps 1+DO ps 2+DO ps 3
 | [],_=>rfl|p::ps,h=>by
  have c:=AXy (ps:=ps) fun q a=>h q (Ax _ a)
  grind[List.mem_cons_self,I0,List.length_cons]
theorem ANB{ps:List AQ}{c:Int}(h:∀p∈ps,p.Aa≠c):DO ps c=0:=by
 induction ps with
 |nil=>rfl|cons p ps a=>
  grind[I0,List.mem_cons_self,List.mem_cons_of_mem]
theorem RH.cnt{h:AE}(hR:RH h)(c:Int):DO h.AG c<=h.AS.Room:=by
 have a:=hR.len;have j:=CK hR.rules;by_cases e:0<=c/\c<h.AI.length
 .obtain⟨k,rfl⟩:=Ac e.1;exact(hR.cb (by omega)).room
 .rw[ANB fun p g=>?_]
  .omega
  .have:=FG (hR.Ks.par p g).1;omega
theorem AKZ{h:AE}{id cabin frm size tier:Int}(hv:verdict h ⟨1,id,cabin,frm,size,tier⟩=0):RH (Mf h id cabin frm size tier)/\(Mf h id cabin frm size tier).AS=h.AS/\(Mf h id cabin frm size tier).AG.Perm (Hv h id cabin frm size tier::h.AG)/\∀p∈h.AG,p.Id≠id:=by
 have hR:=HM hv;have hlen:=hR.len;have hr:=CK hR.rules;have O:=hR.now;have hturn:=hR.turn;have j:=(PS hv).1 rfl;have ha:=(QW hv).2;unfold KZ at ha;rw[AX rfl]at ha;simp only[AF,Ry,CP]at ha;obtain⟨_,ha2,ha3,ha4,ha5⟩:=ha;unfold Xc at j;dsimp only at j;by_cases c1:(h.AI.length:Int)<=cabin\/(h.AI.length:Int)<=frm\/frm=cabin
 .rw[AX c1]at j;cases j
 rw[AU c1]at j;by_cases c2:inB size 1 h.AS.BC=false
 .rw[AX c2]at j;cases j
 rw[AU c2]at j;by_cases c3:h.AS.CX<=tier
 .rw[AX c3]at j;cases j
 rw[AU c3]at j;by_cases c4:inB id 1 999=false
 .rw[AX c4]at j;cases j
 rw[AU c4]at j;by_cases L:0<=GX h id
 .rw[AX L]at j;cases j
 rw[AU L]at j;by_cases c6:h.AS.Room<=DO h.AG cabin
 .rw[AX c6]at j;cases j
 rw[AU c6]at j;by_cases c7:0<=frm/\KC h frm<size
 .rw[AX c7]at j;cases j
 rw[AU c7]at j;by_cases c8:1000000<h.Av
 .rw[AX c8]at j;cases j
 have J:=CP.1 (by simpa using c2:inB size 1 h.AS.BC=true);have c4':=CP.1 (by simpa using c4:inB id 1 999=true);have hfresh:∀p∈h.AG,p.Id≠id:=fun p Q e=>L (by have:=(hR.vV Q).1;rw[e]at this;exact this)
 have hpput:∀p:AQ,p.Id=id->K3 h.AG p=put Kr p h.AG:=by
  intro p Q;unfold K3;unfold GX at L;rw[Q,AU L]
 have ew:w64 (h.Av+1)=h.Av+1:=A6 (by omega) (by omega);have S:D6 h.AS ⟨id,cabin,frm,size,tier,h.Now,h.Av,1,0,0⟩ h.Now=true:=by
  unfold D6;simp only[AF,CP,Bool.or_eq_true,beq_iff_eq,Bool.not_eq_true',beq_eq_false_iff_ne];have e1:w64 ((h.AS.AY.length:Int)-1)=(h.AS.AY.length:Int)-1:=A6 (by omega) (by omega);have e2:w64 (h.AS.CX-1)=h.AS.CX-1:=A6 (by omega) (by omega);have e3:w64 (h.AS.Cb-1)=h.AS.Cb-1:=A6 (by omega) (by omega);have e4:w64 (h.Now+h.AS.Rest)=h.Now+h.AS.Rest:=A6 (by omega) (by omega);rw[e1,e2,e3,e4];refine⟨hR.rules,O,c4',by omega,by omega,by omega,J,by omega,by omega,by omega,by omega,.inl ⟨trivial,by omega⟩⟩
 have hperm:(put Kr (Hv h id cabin frm size tier) h.AG).Perm (Hv h id cabin frm size tier::h.AG):=Xo _ _;have hpn:∀q:AQ,q∈Hv h id cabin frm size tier::h.AG->q=Hv h id cabin frm size tier\/q∈h.AG:=fun q E=>List.mem_cons.1 E
 have hPR:Ru h.AS h.Now (h.Av+1) (put Kr (Hv h id cabin frm size tier) h.AG):=by
  refine⟨?_,?_,?_,?_⟩
  .rw[Fi];have h4:=AXy (ps:=h.AG) fun p Q=>by have:=FG (hR.Ks.par p Q).1;omega
   have r0:=hR.cnt 0;have r1:=hR.cnt 1;have r2:=hR.cnt 2;have r3:=hR.cnt 3;rcases(show cabin=0\/cabin=1\/cabin=2\/cabin=3 by omega) with e|e|e|e<;>rw[e]at c6<;>omega
  .intro q E;rcases hpn q (hperm.subset E) with rfl|E
   .exact⟨S,by show h.Av<h.Av+1;omega⟩
   .have:=hR.Ks.par q E;exact⟨this.1,by omega⟩
  .have hd:Rf Kr (Hv h id cabin frm size tier::h.AG):=by
    unfold Rf;rw[BW];refine⟨fun q E=>?_,hR.Ks.ids.imp fun h=>.inl (by unfold Kr;rw[decide_eq_true_iff];exact h)⟩;have:=hfresh q E;unfold Kr;rw[decide_eq_true_iff,decide_eq_true_iff];show id<q.Id\/q.Id<id;omega
   have hs:DV Kr h.AG=h.AG:=P6 lD (hR.Ks.ids.imp fun h=>by unfold Kr;rw[decide_eq_true_iff];exact h);have:=MT lD hd;rw[HJ,hs]at this;exact this.imp fun h=>by unfold Kr at h;simpa using h
  .rw[hperm.pairwise_iff (fun {a b} h=>by rw[ADg];exact h),BW];refine⟨fun q E=>?_,hR.Ks.turns⟩;have h1:=hR.Ks.par q E;have h2:=FG h1.1;unfold IZ Hv;simp only[Bool.or_eq_false_iff,beq_eq_false_iff_ne,Bool.and_eq_false_iff,decide_eq_false_iff_not];refine⟨by omega,.inl (by omega),.inr (by omega)⟩
 have hu:=hPR.uni;have hz:1<=(Hv h id cabin frm size tier).BC/\(Hv h id cabin frm size tier).BC<=6:=⟨J.1,by show size<=6;omega⟩;have hmain:RH (if 0<=frm then KE (Gs ⟨h.AS,h.Now,w64 (h.Av+1),K3 h.AG (Hv h id cabin frm size tier),h.AI,h.BA,h.A4⟩ (Hv h id cabin frm size tier)) frm size else Gs ⟨h.AS,h.Now,w64 (h.Av+1),K3 h.AG (Hv h id cabin frm size tier),h.AI,h.BA,h.A4⟩ (Hv h id cabin frm size tier)):=by
  rw[hpput _ rfl,ew];generalize hP:Hv h id cabin frm size tier=p at *;have q1:p.Aa=cabin:=by rw[<-hP];rfl
  have q2:p.Bl=frm:=by rw[<-hP];rfl
  have q3:p.BC=size:=by rw[<-hP];rfl
  have q4:p.State=1:=by rw[<-hP];rfl
  have q5:D6 h.AS p h.Now=true:=by rw[<-hP];exact S
  have hx:∀i:Nat,i<h.AI.length->Rs h.AS (put Kr p h.AG) h.AG h.Now i (cbn (Gs ⟨h.AS,h.Now,h.Av+1,put Kr p h.AG,h.AI,h.BA,h.A4⟩ p) i):=by
   intro i hi;unfold Gs;rw[Kh (by omega) (by show p.Aa<(h.AI.length:Int);omega) (by omega)];have y:=hR.cb hi;refine Rs.perm ?_ (hu.perm hperm) hperm.symm (.refl _);by_cases e:(i:Int)=p.Aa
   .rw[AX e,<-e];refine⟨?_,?_,y.total,?_,y.KE,y.led,?_⟩
    .dsimp only;rw[Ld _ q5 q4,AX e.symm,Qn q5 q4];show put ltE _ (cbn h i).Row=_;rw[y.row]
    .dsimp only;rw[QL _ (by omega)];exact y.HS
    .dsimp only;rw[P3 _ (by omega)];exact y.held
    .rw[I0,AX e.symm];have:(i:Int)=cabin:=by omega
     rw[this];omega
   .rw[AU e];refine⟨?_,?_,y.total,?_,y.KE,y.led,?_⟩
    .rw[Ld _ q5 q4,AU (Ne.symm e)];exact y.row
    .rw[QL _ (by omega)];exact y.HS
    .rw[P3 _ (by omega)];exact y.held
    .rw[I0,AU (Ne.symm e),Int.zero_add];exact y.room
  have hXl:(Gs ⟨h.AS,h.Now,h.Av+1,put Kr p h.AG,h.AI,h.BA,h.A4⟩ p).AI.length=h.AI.length:=by simp[Gs,Cy]
  have hX:Kept (⟨h.AS,h.Now,h.Av+1,put Kr p h.AG,h.AI,h.BA,h.A4⟩:AE) (Gs ⟨h.AS,h.Now,h.Av+1,put Kr p h.AG,h.AI,h.BA,h.A4⟩ p):=⟨rfl,rfl,rfl,hXl,rfl,rfl⟩;have hXs:∀i:Nat,(cbn (Gs ⟨h.AS,h.Now,h.Av+1,put Kr p h.AG,h.AI,h.BA,h.A4⟩ p) i).AY=(cbn h i).AY:=by
   intro i;unfold Gs;rw[Kh (by omega) (by show p.Aa<(h.AI.length:Int);omega) (by omega)];by_cases e:(i:Int)=p.Aa
   .rw[AX e,e];rfl
   .rw[AU e];rfl
  have hXp:(Gs ⟨h.AS,h.Now,h.Av+1,put Kr p h.AG,h.AI,h.BA,h.A4⟩ p).AG=put Kr p h.AG:=rfl;generalize Gs ⟨h.AS,h.Now,h.Av+1,put Kr p h.AG,h.AI,h.BA,h.A4⟩ p=X at *;obtain⟨B,I,Z,G,x5,x6⟩:=hX;dsimp only at B I Z G x5 x6;split
  .rename_i f0;obtain⟨k,hk⟩:=Ac f0;have hkl:k<h.AI.length:=by omega
   have hlo:=AKc hR hkl;have hsz:size<=KC h frm:=by
    rcases Int.lt_or_le (KC h frm) size with c|c
    .exact absurd ⟨f0,c⟩ c7
    .exact c
   refine RH.mk' (by show D7 X.AS=true;rw[B];exact hR.rules) (by show 0<=X.Now/\X.Now<=1000000;rw[I];exact hR.now) (by show 1<=X.Av/\X.Av<=1000001;rw[Z];omega) (by simp only[KE,Cy,A8];rw[G,B];exact hR.EL) (by show Ru X.AS X.Now X.Av X.AG;rw[B,I,Z,hXp];exact hPR) ?_
    (by simp only[KE,Cy,A8];rw[G,x5];exact hR.todo) (by simp only[KE,Cy,A8];rw[G,x6];exact hR.GV) (by show (X.A4.length:Int)=X.AS.C5;rw[x6,B];exact hR.R3)
   intro i hi;have H:i<h.AI.length:=by simp only[KE,Cy,A8]at hi;rw[G]at hi;exact hi
   have g:=hx i H;unfold KE;rw[Kh f0 (by omega) (by omega)];show YX X.AS X.AG X.Now i _;rw[B,I,hXp];refine Rs.full (Rs.perm (ps:=put Kr p h.AG) (qs:=p::h.AG) ?_ hu (.refl _) hperm.symm);by_cases e:(i:Int)=frm
   .obtain rfl:i=k:=by omega
    rw[AX e,<-e];have kl:=Hg.1 g.led;have hsame:=hXs i;have hl:FL ⟨(cbn X i).AY.Total,(cbn X i).AY.Dh+0*size,(cbn X i).AY.Eg+0*size,(cbn X i).AY.Ff+0*size,(cbn X i).AY.Fw+1*size⟩=true:=by
     rw[Hg];dsimp only;rw[hk,hlo,<-hsame]at hsz;omega
    rw[AJB g.led (by omega) (by omega) (by omega) (by omega) (by omega) hl];refine⟨g.row,g.HS,g.total,by dsimp only;rw[g.held];omega,?_,hl,g.room⟩;dsimp only;rw[JK _ hz,AX (by omega),g.KE];omega
   .rw[AU e];refine⟨g.row,g.HS,g.total,g.held,?_,g.led,g.room⟩;rw[JK _ hz,AU (by omega),g.KE];omega
  .rename_i f0;refine RH.mk' (by rw[B];exact hR.rules) (by rw[I];exact hR.now) (by rw[Z];omega) (by rw[G,B];exact hR.EL) (by rw[B,I,Z,hXp];exact hPR) ?_ (by rw[G,x5];exact hR.todo) (by rw[G,x6];exact hR.GV) (by rw[x6,B];exact hR.R3);intro i hi;have H:i<h.AI.length:=by omega
   have g:=hx i H;rw[B,I,hXp];refine Rs.full (Rs.perm (ps:=put Kr p h.AG) (qs:=p::h.AG) ?_ hu (.refl _) hperm.symm);refine⟨g.row,g.HS,g.total,g.held,?_,g.led,g.room⟩;rw[JK _ hz,AU (by omega),g.KE];omega
 unfold Mf;dsimp only;generalize hY:(if 0<=frm then KE (Gs ⟨h.AS,h.Now,w64 (h.Av+1),K3 h.AG (Hv h id cabin frm size tier),h.AI,h.BA,h.A4⟩ (Hv h id cabin frm size tier)) frm size else Gs ⟨h.AS,h.Now,w64 (h.Av+1),K3 h.AG (Hv h id cabin frm size tier),h.AI,h.BA,h.A4⟩ (Hv h id cabin frm size tier))=Y at *;have hYc:Y.AI.length=h.AI.length:=by rw[<-hY];split<;>simp[KE,Gs,Cy]
 have hYp:Y.AG=put Kr (Hv h id cabin frm size tier) h.AG:=by rw[<-hY,hpput _ rfl];split<;>rfl
 have hYr:Y.AS=h.AS:=by rw[<-hY];split<;>rfl
 exact⟨hmain.put (by omega) (by omega),hYr,by show Y.AG.Perm _;rw[hYp];exact hperm,hfresh⟩
theorem AM9(h:AE)(l:List Int)(j:Int):cbn (FA h l) j=cbn h j:=rfl
structure Tk(h g:AE):Prop where
 rules:g.AS=h.AS
 now:g.Now=h.Now
 turn:g.Av=h.Av
 EL:g.AI.length=h.AI.length
 Ks:g.AG=h.AG
 GV:g.A4=h.A4
theorem ATq{h:AE}{i:Nat}:Tk h (QU h i):=by
 unfold QU;dsimp only;split
 .exact⟨rfl,rfl,rfl,by simp[FA,Cy],rfl,rfl⟩
 .exact⟨rfl,rfl,rfl,by simp[Cy],rfl,rfl⟩
theorem Q2{l:List AQ}(a:l.length<=1048576)(id:Int):pR l id=some (atF (fun x=>x.Id==id) l 0):=by
 unfold pR ANe
 grind[Qd,AB,AA3,ANd,BJ,BH,AA2,BT,AR]
theorem G6{h:AE}(a:Bk h)(id:Int):Mw h id=some (GX h id):=by
 unfold Mw;rw[Q2 a.CJ,AB];rfl
theorem kj{h:AE}{k:Int}(a:0<=k)(c:k<h.AI.length):pS h k=some (KC h k):=by
 unfold pS;rw[Fj a c,AB,AB];rfl
theorem ARK(p:AQ)(now:Int):AA4 p now=some (ANx p now):=by
 unfold AA4 ik ANx;rw[AR,AR,Cf]
theorem IC{l:List Int}(a:l.length<=1048576)(k:Int):W0 l k=some (R8 l k):=by
 grind[lim,W0,i6,R8,Vz,AB,PD,Bn,AR,B6]
theorem ADo{c:C}{l:List c.D}{k:Nat}(a:k<l.length):ABa c l (k:Int) ((k+1:Nat):Int)=some (l.take k++l.drop (k+1)):=by
 grind[ABa]
theorem ARM{c:C}{l:List c.D}{k:Nat}(a:k<=l.length)(e:l.length<=1048576)(x:c.D):nL c l (k:Int) [x]=some (l.take k++x::l.drop k):=by
 grind[nL,lim]
theorem AX6{l:List AQ}{k:Nat}(a:k<l.length):AWC l (k:Int) ((k:Int)+1)=some (l.take k++l.drop (k+1)):=ADo (c:=.st 2) a
theorem AWL{l:List AQ}{k:Nat}(a:k<=l.length)(e:l.length<=1048576)(x:AQ):AV9 l (k:Int) [x]=some (l.take k++x::l.drop k):=ARM (c:=.st 2) a e x
theorem AX4{l:List Ai}{k:Nat}(a:k<l.length):AWA l (k:Int) ((k:Int)+1)=some (l.take k++l.drop (k+1)):=ADo (c:=.st 4) a
theorem AYH{l:List Ai}{k:Nat}(a:k<=l.length)(e:l.length<=1048576)(x:Ai):ANU l (k:Int) [x]=some (l.take k++x::l.drop k):=ARM (c:=.st 4) a e x
theorem AX5{l:List BO}{k:Nat}(a:k<l.length):AWB l (k:Int) ((k:Int)+1)=some (l.take k++l.drop (k+1)):=ADo (c:=.st 5) a
theorem PE{l:List AQ}(h:l.length<=1048576)(id:Int):Wx l id=some (l.eraseP (fun x=>x.Id==id)):=by
 have hlim:lim=268435456:=rfl;unfold Wx ib;rw[B6 (by omega),Q2 h,AB,BL];rcases JG (fun x:AQ=>x.Id==id) l 0 with ⟨a,c,e⟩|⟨k,g,a,c,e,_⟩
 .rw[a,AU (by omega),AR,c]
 .rw[a,Au,AX (by omega),A6 (by omega) (by omega)];rw[AX6 g];erw [AB];rw[AR,c]
theorem U2{l:List Ai}(a:l.length<=1048576):WV l=some l:=by
 unfold WV;rw[B6 (by unfold lim;omega)]
theorem Ud{l:List Ai}(h:l.length<=1048576)(id:Int):AA7 l id=some (l.eraseP (fun x=>x.Id==id),l.any fun x=>x.Id==id):=by
 have hlim:lim=268435456:=rfl;unfold AA7;rw[U2 h,AB,XV (by omega),AB,BL];rcases JG (fun x:Ai=>x.Id==id) l 0 with ⟨a,c,e⟩|⟨k,g,a,c,e,_⟩
 .grind
 .rw[a,Au,AU (by omega),A6 (by omega) (by omega)];rw[AX4 g];erw [AB];rw[c,e]
theorem PG{w:Aq}(B:Cz w){p:BO}(E:RE p=true):pW w p=some (UN w p):=by
 have hlim:lim=268435456:=rfl;have c:=(NH E).1.1;unfold pW;rw[Tf B,AB,ID B,AB,VL,E,AB,BP,Bn,AR,AR];unfold UN jA;by_cases j:Gx w=true
 .rw[AX j,AX ⟨j,c⟩,Bool.not_true,BT];obtain⟨m,H,y⟩:=bR (n:=p.At) c;have a:m<w.Am.length:=by have:=(Ds.1 j).1;omega
  have I:w.Am[m].length<=1048576:=Aw (KY a) B.2;rw[y,Ah,BQ,AW a,KN];simp only[BH a,AB];have q:AH2 w.Am[m] p=some (atF (isP p) w.Am[m] 0):=by
   grind[AH2,Qd,AA9,isP,BJ,BH,AB,AA8,BT,AR]
  rw[q,AB,BL];rcases JG (isP p) w.Am[m] 0 with ⟨e,g,h⟩|⟨k,G,e,g,h,_⟩
  .rw[e,AX (by omega),g,h,List.set_getElem_self]
  .rw[e,Au,AU (by omega),A6 (by omega) (by omega)];rw[AX5 G];erw [AB];rw[B6 ⟨rfl,⟨by omega,by omega⟩,trivial⟩,g,h]
 grind[BJ]
theorem QB{l l':BE}{n a b c d:Int}(h:FL l=true->0<=n->n<=60->l'=⟨l.Total,w64 (l.Dh+w64 (a*n)),w64 (l.Eg+w64 (b*n)),w64 (l.Ff+w64 (c*n)),w64 (l.Fw+w64 (d*n))⟩) :
 (if FL l=true then if inB n 0 60=true then if FL l'=true then some (l',true) else some (l,false) else some (l,false) else some (l,false))=some (l8 l n a b c d):=by
 unfold l8
 grind[inB]
theorem Nf{x:Int}(h:-1000<=x/\x<=1000):w64 x=x:=A6 (by omega) (by omega)
theorem nK(l:BE)(n:Int):AH0 l n=some (l8 l n 0 0 0 1):=by
 rw[<-QB (l':=⟨l.Total,l.Dh,l.Eg,l.Ff,w64 (l.Fw+n)⟩) fun h a c=>by have:=Hg.1 h;congr 1<;>grind[Nf]];unfold AH0 ANh i5 ANg
 grind[HI,Fq,AB,AR,Bn]
theorem Me(l:BE)(n:Int):pP l n=some (l8 l n 0 0 0 (-1)):=by
 rw[<-QB (l':=⟨l.Total,l.Dh,l.Eg,l.Ff,w64 (l.Fw-n)⟩) fun h a c=>by have:=Hg.1 h;congr 1<;>grind[Nf]];unfold pP ANZ iZ ANY
 grind[HI,Fq,AB,AR,Bn]
theorem kg(l:BE)(n:Int):AIM l n=some (l8 l n (-1) 1 0 0):=by
 rw[<-QB (l':=⟨l.Total,w64 (l.Dh-n),w64 (l.Eg+n),l.Ff,l.Fw⟩) fun h a c=>by have:=Hg.1 h;congr 1<;>grind[Nf]];unfold AIM ANp jV ANo
 grind[HI,Fq,AB,AR,Bn]
theorem S7(l:BE)(n:Int):ABA l n=some (l8 l n 1 (-1) 0 0):=by
 rw[<-QB (l':=⟨l.Total,w64 (l.Dh+n),w64 (l.Eg-n),l.Ff,l.Fw⟩) fun h a c=>by have:=Hg.1 h;congr 1<;>grind[Nf]];unfold ABA ANj jB ANi
 grind[HI,Fq,AB,AR,Bn]
theorem kh(l:BE)(n:Int):AIA l n=some (l8 l n 0 (-1) 1 0):=by
 rw[<-QB (l':=⟨l.Total,l.Dh,w64 (l.Eg-n),w64 (l.Ff+n),l.Fw⟩) fun h a c=>by have:=Hg.1 h;congr 1<;>grind[Nf]];unfold AIA ANk jG ANc
 grind[HI,Fq,AB,AR,Bn]
theorem S8(l:BE)(n:Int):AA1 l n=some (l8 l n 1 0 (-1) 0):=by
 rw[<-QB (l':=⟨l.Total,w64 (l.Dh+n),l.Eg,w64 (l.Ff-n),l.Fw⟩) fun h a c=>by have:=Hg.1 h;congr 1<;>grind[Nf]];unfold AA1 ANb ie ANa
 grind[HI,Fq,AB,AR,Bn]
theorem AR8{α:Type}{lt:α->α->Bool}{q:α->Bool}(a:α):∀{l:List α} (s:Nat),(∀x∈l,q x=!(lt x a))->(atF q l s = -1/\put lt a l=l++[a])\/∃k,k<l.length/\atF q l s=((s+k:Nat):Int)/\put lt a l=l.take k++a::l.drop k
 | [],s,_=>.inl ⟨rfl,rfl⟩|z::l,s,h=>by
  have E:=h z (Be ..);cases e:lt z a with
  |true=>
   have j:q z=false:=by rw[E,e];rfl
   rcases AR8 a (l:=l) (s+1) (fun x B=>h x (Ax _ B)) with ⟨c,g⟩|⟨k,y,c,g⟩
   .exact .inl ⟨by simp[atF,j,c],by simp[put,e,g]⟩
   .exact .inr ⟨k+1,by simpa using y,by simp only[atF,j,BM,if_false,c];omega,by simp[put,e,g]⟩
  |false=>
   grind[atF,put]
theorem PF{l:List AQ}(g:l.length<=1048576)(p:AQ):pU l p=some (K3 l p):=by
 have hlim:lim=268435456:=rfl;unfold pU iv K3;rw[B6 (by omega),Q2 g,AB,BL];rcases JG (fun x:AQ=>x.Id==p.Id) l 0 with ⟨j,_,y⟩|⟨k,B,j,_⟩
 .rw[j,AU (by omega),AU (by omega)];have e:AHz l p=some (atF (fun x:AQ=>decide (x.Id>p.Id)) l 0):=by
   grind[AHz,Qd,AA6,ANf,BJ,BH,AB,AA5,BT,AR]
  rw[e,AB,BL,AR,AR];have h:=List.any_eq_false.1 y;rcases AR8 (lt:=Kr) (q:=fun x:AQ=>decide (x.Id>p.Id)) p (l:=l) 0 (fun x E=>by
   have:=h x E;simp only[beq_iff_eq]at this;unfold Kr;rw[Bool.eq_iff_iff];simp;omega) with ⟨a,c⟩|⟨k,B,a,c⟩
  .have:=AWL (l:=l) (k:=l.length) (Ad _) g p;rw[a,AX (by omega),this];erw [AB];rw[c];simp
  .have:=AWL (l:=l) (k:=k) (by omega) g p;rw[a,Au,AU (by omega),this];erw [AB];rw[c]
 grind[BH,AB]
theorem Ue{l:List Ai}(c:l.length<=1048575)(e:Ai):pV l e=some (if Kv l=true/\Kv (put ltE e l)=true then (put ltE e l,true) else (l,false)):=by
 have hlim:lim=268435456:=rfl;unfold pV;rw[U2 (by omega),AB];have a:∀i:Nat,i<=l.length->iw l e l i=some (if Kv l=true/\Kv (l.take i++e::l.drop i)=true then (l.take i++e::l.drop i,true) else (l,false)):=by
  intro i hi;have:=AYH (l:=l) (k:=i) hi (by omega) e;unfold iw iy;rw[U2 (by omega)];rw[AB,this]
  erw [AB]
  rw[AB,this]
  erw [AB]
  grind[Cm,AB,XW,AR,Bn]
 refine TM (lt:=ltE) (fun m=>some (if Kv l=true/\Kv m=true then (m,true) else (l,false))) (by omega) ?_ ?_
 .grind[iz,Wz,BJ,BH,AB,Sz,AR]
 grind[iz,Wz,BT,AR]
theorem AB0{r:Ab}(h:r.AY.length<2 ^ 62)(p:AQ)(now:Int):AIC r p now=some (Ec r p now):=by
 unfold AIC W7 Ec;rw[NC h,AB];simp only[AR,BP,Bn,bne_iff_ne,ne_eq,beq_iff_eq];by_cases a:D6 r p now=true
 .have g:=FG a;have j:=CK g.1;have ew:w64 (p.C0+1)=p.C0+1:=A6 (by omega) (by omega);rw[ew];by_cases c:p.State=2
  .by_cases e:p.C0+1=r.Cb
   .have:¬p.C0+1<r.Cb:=by omega
    simp[a,c,e];rfl
   grind
  .simp[a,c];rfl
 .simp[a];rfl
theorem AGO{q:B1}(h:KZ q=true):(q.Kind=1->0<=q.Aa /\ -1<=q.Bl)/\(q.Kind=3->0<=q.Aa)/\(q.Kind=7->0<=q.Id):=by
 grind[KZ,Ry,CP]
theorem AFC{h:AE}(hR:RH h){q:B1}(B:0<=q.Aa)(E:-1<=q.Bl) :
 (bd (Ms q.Aa (↑h.AI.length:Int)) fun y=>
  br (!y)
   (jn (MH h q) true)
   (bd (C4 q.Bl (-1) (w64 ((↑h.AI.length:Int)-1))) fun a=>
   br (!a)
    (jn (MH h q) true)
    (jn (MH h q) (q.Bl==q.Aa))))=some (Xc h q):=by
 have e:=hR.fit;have g:=hR.len;have I:=e.CJ;have ew:w64 ((h.AI.length:Int)-1)=(h.AI.length:Int)-1:=A6 (by omega) (by omega);have G:∀b,(q.Bl<h.AI.length\/b=true)->MH h q b=some (if b=true then 4
  else if inB q.BC 1 h.AS.BC=false then 5
  else if h.AS.CX<=q.Cs then 6
  else if inB q.Id 1 999=false then 7
  else if 0<=GX h q.Id then 8
  else if h.AS.Room<=DO h.AG q.Aa then 9
  else if 0<=q.Bl/\KC h q.Bl<q.BC then 10
  else if 1000000<h.Av then 11 else 0):=by
  intro b j;unfold MH il I2;cases b with
  |true=>rfl|false=>
   have hF:q.Bl<h.AI.length:=by simpa using j
   have H:0<=q.Bl->pS h q.Bl=some (KC h q.Bl):=fun c=>kj c hF
   simp only[BT,Fq,AB,BP,Bn,BM,if_false,ge_iff_le,gt_iff_lt,decide_eq_true_eq,G6 e,Q0 (show h.AG.length<2 ^ 58 by omega),AR,bne_iff_ne,ne_eq];by_cases c:0<=q.Bl
   .grind[AB]
   .grind
 grind[Xb,AB,Fq,Bn,AR,Xc,CP]
theorem ax{h:AE}(j:Bk h)(id:Int) :
 (bd (Mw h id) fun a=>
 br (decide (a<0))
  (some 7)
  (bd (at? h.AG a) fun c=>
  br (c.State != 2)
   (some 13)
   (bd (at? h.AG a) fun e=>
   bd (AA4 e h.Now) fun g=>
   br g
    (some 14)
    (jn I2 ()))))=some (Kf h id):=by
 unfold Kf;rw[G6 j,AB,BL]
 grind[Yb,RG,AB,ARK,Bn,I2,AR]
theorem G7{h:AE}(G:Bk h)(q:B1):Sg h q=some (verdict h q):=by
 unfold Sg verdict;rw[Fh G,AB,BP,Bn];by_cases g:DE h=true
 .have hR:=IV.1 g;have X:=hR.len;have Y:=hR.now;have ew:w64 ((h.AI.length:Int)-1)=(h.AI.length:Int)-1:=A6 (by omega) (by omega);rw[AX g,AX g];unfold Hu;rw[Fq,AB,BP,Bn];cases inB q.Kind 1 7
  .rfl
  .simp only[if_true,Dl,if_false];rw[AB1,AB,BP,Bn];cases ha:KZ q
   .rfl
   .obtain⟨l1,l3,l7⟩:=AGO ha;have j:I2 ()=some 0:=rfl;simp only[if_true,Dl,if_false];by_cases a:q.Kind=1
    .rw[AX a,Bn,AX (by simpa using a)];exact AFC hR (l1 a).1 (l1 a).2
    rw[AU a,Bn,AU (by simpa using a)];by_cases H:q.Kind=2
    .rw[AX H,Bn,AX (by simpa using H),G6 G,AB,BL,AR,j];split<;>rfl
    rw[AU H,Bn,AU (by simpa using H)];by_cases y:q.Kind=3
    .have hc:=l3 y;rw[AX y,Bn,AX (by simpa using y),Xb,AB,ew,Fq,AB,BP,BP,Bn,Bn,AR,j];by_cases Q:(h.AI.length:Int)<=q.Aa
     .rw[AU (by rw[CP];omega),AX Q]
     .rw[AX (by rw[CP];omega),AU Q,kj hc (by omega),AB,BL];cases inB q.BC 1 60<;>simp<;>split<;>rfl
    rw[AU y,Bn,AU (by simpa using y)];unfold iq;by_cases Z:q.Kind=4\/q.Kind=5
    .rw[AX Z];have:(q.Kind==4)=true\/(q.Kind==4)=false/\(q.Kind==5)=true:=by grind
     rcases this with e|⟨e,J⟩
     .rw[e,BJ,AR,BJ];exact ax G q.Id
     .rw[e,J,BT,AR,BJ];exact ax G q.Id
    .have e4:(q.Kind==4)=false:=by grind
     have J:(q.Kind==5)=false:=by grind
     rw[AU Z,e4,J,BT,AR,BT,Bn];by_cases I:q.Kind=6
     .rw[AX (by simpa using I),AX I,Bn,AR,j];by_cases c:1000000<=h.Now
      .rw[AX (by simp;omega),AX c]
      .rw[AU (by simp;omega),AU c]
     .rw[AU (by simpa using I),AU I,Bn];by_cases B:q.Kind=7
      .rw[AX (by simpa using B),AX B,BL];by_cases E:h.AS.C5<=q.Id
       .rw[AX E,AX E]
       .rw[AU E,AU E];obtain⟨n,hn⟩:=Ac (l7 B);have O:n<h.A4.length:=by have:=hR.R3;omega
        have L:=DI.1 hR.GV _ (As O);rw[CP]at L;rw[hn,BH O,AB,Ah,BQ,AW O,KN];unfold iu;simp only[Bn,AR,beq_iff_eq,j];by_cases S:h.A4[n] = -1
        .have:h.A4[n]<0:=by omega
         by_cases h3:h.BA.length=0<;>simp[S,h3,this]
        .have:¬h.A4[n]<0:=by omega
         simp[S,this]
      .rw[AU (by simpa using B),AU B,AR,j]
 .rw[AU g,AU g]
theorem Vr{α:Type}{l:List α}{k:Int}(a:0<=k)(c:k<l.length)(v:α):at? (l.set k.toNat v) k=some v:=by
 grind[BH]
theorem RH.AVf{h:AE}(hR:RH h){k:Int}(c:0<=k)(e:k<h.AI.length):Kv (cbn h k).Row=true/\(cbn h k).Row.length<=10:=by
 obtain⟨n,rfl⟩:=Ac c;have a:=hR.cb (i:=n) (by omega);have q:=CK hR.rules;have j:=a.room;have g:=RJ h.AS h.AG n h.Now;rw[a.row];exact⟨ACW hR.Ks (by omega),by omega⟩
theorem RH.AJ1{h:AE}(hR:RH h){k:Int}(a:0<=k)(c:k<h.AI.length):EE (cbn h k):=hR.fit.Dq _ (U0 a c)
theorem AFl{h:AE}(hR:RH h){id:Int}(c:0<=GX h id)(q:(par h id).State=2):RE ⟨(par h id).Ci,id⟩=true/\(par h id).Id=id:=by
 have a:=hR.one c;have e:=FG a.okp;have j:=CK hR.rules;have g:=a.pid
 grind[RE,CP]
theorem AKP{h:AE}(c:Bk h)(id cabin frm size tier:Int):AH1 h id cabin frm size tier=some (kr h id cabin frm size tier):=by
 unfold AH1 i7 kr;rw[Gy c,AB,G7 c,AB];simp only[Bn,bne_iff_ne,ne_eq];by_cases a:verdict h ⟨1,id,cabin,frm,size,tier⟩=0
 .rw[AU (not_not_intro a),AU (not_not_intro a)];obtain⟨hJ,_,_,_⟩:=AKZ a;have hR:=HM a;have g:=(AGO (QW a).2).1 rfl;dsimp only at g;obtain⟨H,q,y,G⟩:=YT a;have I:=c.Dj;have j:=hR.AVf q y;have ec:at? h.AI cabin=some (cbn h cabin):=Fj q y;have hJl:(Mf h id cabin frm size tier).AI.length=h.AI.length:=by unfold Mf;dsimp only;split<;>simp[FA,KE,Gs,Cy]
  have hJr:=hJ.AVf (k:=cabin) q (by rw[hJl];exact y);have e:(cbn (Mf h id cabin frm size tier) cabin).Row=put ltE (Ew h.AS (Hv h id cabin frm size tier) h.Now).1 (cbn h cabin).Row:=by
   grind[Mf,AM9,cbn,Gs,Hv,KE,Cy]
  rw[e]at hJr;rw[PF c.CJ,AB,NB (by omega),AB];simp only[ec,AB];have E:=Ue (l:=(cbn h cabin).Row) (by omega) (Ew h.AS (Hv h id cabin frm size tier) h.Now).1;rw[AX ⟨j.1,hJr.1⟩]at E;show bd (pV (cbn h cabin).Row (Ew h.AS (Hv h id cabin frm size tier) h.Now).1) _=_;rw[E,AB];unfold Mf;dsimp only;by_cases B:0<=frm
  .have hX:at? (h.AI.set cabin.toNat ⟨(cbn h cabin).AY,put ltE (Ew h.AS (Hv h id cabin frm size tier) h.Now).1 (cbn h cabin).Row,(cbn h cabin).By⟩) frm=some (cbn (Gs ⟨h.AS,h.Now,w64 (h.Av+1),K3 h.AG (Hv h id cabin frm size tier),h.AI,h.BA,h.A4⟩ (Hv h id cabin frm size tier)) frm):=
    Fj (h:=Gs ⟨h.AS,h.Now,w64 (h.Av+1),K3 h.AG (Hv h id cabin frm size tier),h.AI,h.BA,h.A4⟩ (Hv h id cabin frm size tier)) B (by simp only[Gs,Cy,A8];exact G)
   rw[AX (by omega),AX B,hX];simp only[AB,nK,AR,IC c.todo];rfl
  .rw[AU (by omega),AU B];simp only[AB,AR,IC c.todo];rfl
 .rw[AX a,AX a]
theorem AI3{g:AE}{p:AQ}{id:Int}(c:p.Id=id)(e:-1<=p.Bl)(h:p.Bl<g.AI.length)(j:g.AG.length<=1048576) :
 (if p.Bl = -1 then some (OM g (g.AG.eraseP fun x=>x.Id==id)) else some (OM (Cy g p.Bl ⟨(l8 (cbn g p.Bl).AY p.BC 0 0 0 (-1)).1,(cbn g p.Bl).Row,(cbn g p.Bl).By⟩) (g.AG.eraseP fun x=>x.Id==id)))=some (gone g p):=by
 unfold gone;rw[c];dsimp only;by_cases a:0<=p.Bl
 .rw[AU (by omega),AX a];rfl
 .rw[AX (by omega),AU a];rfl
theorem ABx{h:AE}(e:Bk h)(id:Int):AHx h id=some (Qh h id):=by
 unfold AHx Qh;rw[Gy e,AB,G7 e,AB];simp only[Bn,bne_iff_ne,ne_eq];by_cases E:verdict h ⟨2,id,0,0,0,0⟩=0
 .rw[AU (not_not_intro E),AU (not_not_intro E)];obtain⟨Q,p0⟩:=Tb E;have hR:=IV.1 Q;have I:=hR.one p0;have c:=I.size;have J:=hR.len;have X:=FG I.okp;have H:=I.pid;have y:∀g:AE,g.AI.length=h.AI.length->g.AG=h.AG->Wy id (par h id) g=some (gone g (par h id),0):=by
   intro g S q;have a:=AI3 (g:=g) (p:=par h id) H (by omega) (by omega) (by rw[q];exact e.CJ);unfold Wy ic;have B:Wx g.AG id=some (g.AG.eraseP fun x=>x.Id==id):=PE (by rw[q];exact e.CJ) id;simp only[Bn,bne_iff_ne,ne_eq,AR];by_cases G:(par h id).Bl = -1
   .rw[AU (not_not_intro G),B,AB];rw[AX G]at a;rw[<-Option.some.inj a];rfl
   .have ef:at? g.AI (par h id).Bl=some (cbn g (par h id).Bl):=Fj (by omega) (by omega);rw[AX G];simp only[ef,AB,Me,B];rw[AU G]at a;rw[<-Option.some.inj a];rfl
  have ec:at? h.AI (par h id).Aa=some (cbn h (par h id).Aa):=Fj c.2.1.1 (by omega);have j:=hR.AJ1 c.2.1.1 (by omega);simp only[G6 e,AB,Qe p0,Ee,ec,beq_iff_eq,AR];unfold cancelled;dsimp only;by_cases s1:(par h id).State=1
  .rw[AX s1,AU (by omega),Ud j.1,AB];exact y (mq h (par h id).Aa id) (by simp[mq,Cy]) rfl
  .have O:(par h id).State=2:=by omega
   have L:=AFl hR p0 O;rw[AU s1,AX O,PG j.2 L.1,AB];simp only[Vr c.2.1.1 (show (par h id).Aa<(h.AI.length:Int) by omega),AB,S7,IC e.todo,FB];have:=y (FA (dropped h (par h id)) (R8 (dropped h (par h id)).BA (par h id).Aa)) (by simp[FA,dropped,Cy]) rfl;rw[<-this];unfold dropped;rw[L.2];rfl
 .rw[AX E,AX E]
theorem kX{h:AE}(c:Bk h)(k n:Int):AHy h k n=some (j6 h k n):=by
 unfold AHy j6;rw[Gy c,AB,G7 c,AB];simp only[Bn,bne_iff_ne,ne_eq];by_cases a:verdict h ⟨3,0,k,0,n,0⟩=0
 .rw[AU (not_not_intro a),AU (not_not_intro a)];obtain⟨j,e,g⟩:=YS a;have ec:at? h.AI k=some (cbn h k):=Fj e g;simp only[ec,AB,S8,IC c.todo];rfl
 .rw[AX a,AX a]
theorem AM8{X:AE}{p:AQ}(a:0<=p.Bl)(c:p.Bl<X.AI.length):cbn (gone X p) p.Bl=⟨(l8 (cbn X p.Bl).AY p.BC 0 0 0 (-1)).1,(cbn X p.Bl).Row,(cbn X p.Bl).By⟩:=by
 grind[gone,Kh]
theorem ABu{h:AE}(g:Bk h)(id:Int):AIB h id=some (Qb h id):=by
 unfold AIB Qb jH;rw[Gy g,AB,G7 g,AB];simp only[Bn,bne_iff_ne,ne_eq];by_cases e:verdict h ⟨4,id,0,0,0,0⟩=0
 .rw[AU (not_not_intro e),AU (not_not_intro e)];obtain⟨G,p0⟩:=Ta e;have hR:=IV.1 G;have H:=hR.one p0;have c:=H.size;have B:=hR.len;have E:=(nh ((PS e).2.2.2.1 (.inl rfl))).2;dsimp only at E;have j:=AFl hR p0 E;have ec:at? h.AI (par h id).Aa=some (cbn h (par h id).Aa):=Fj c.2.1.1 (by omega);have q:=hR.AJ1 c.2.1.1 (by omega);have y:Wx h.AG id=some (h.AG.eraseP fun x=>x.Id==id):=PE g.CJ id;simp only[G6 g,AB,Qe p0,Ee,ec,kh,Vr c.2.1.1 (show (par h id).Aa<(h.AI.length:Int) by omega),PG q.2 j.1,y,FB,AR];have hXl:(YC h (par h id)).AI.length=h.AI.length:=by simp[YC,Cy]
  have hX:(YC h (par h id)).AI=h.AI.set (par h id).Aa.toNat ⟨(l8 (cbn h (par h id).Aa).AY (par h id).BC 0 (-1) 1 0).1,(cbn h (par h id).Aa).Row,(UN (cbn h (par h id).Aa).By ⟨(par h id).Ci,id⟩).1⟩:=by unfold YC Cy;rw[j.2]
  rw[<-hX];unfold accepted;dsimp only;by_cases a:0<=(par h id).Bl
  .have ef:at? (YC h (par h id)).AI (par h id).Bl=some (cbn (YC h (par h id)) (par h id).Bl):=Fj a (by omega);rw[AX (by omega),AX a,ef];simp only[AB,Me,Vr a (show (par h id).Bl<((YC h (par h id)).AI.length:Int) by omega),S8,IC g.todo,FB];unfold UZ;rw[AM8 a (by omega)];unfold gone Cy;simp only[AX a,FB,j.2];rfl
  .rw[AU (by omega),AU a];unfold gone;simp only[AU a,j.2];rfl
 .rw[AX e,AX e]
theorem Uh{h:AE}(hR:RH h){id:Int}(p0:0<=GX h id)(Z:(par h id).State=2):ABF h id=some (Ih h (par h id)):=by
 have y:=hR.fit;have X:=hR.one p0;have E:=X.size;have S:=hR.len;have hs:=y.Dj;have H:=AFl hR p0 Z;have c:=E.2.1.1;have a:(par h id).Aa<(h.AI.length:Int):=by omega
 have ec:at? h.AI (par h id).Aa=some (cbn h (par h id).Aa):=Fj c a;have J:=hR.AJ1 c a;have O:Wx h.AG id=some (h.AG.eraseP fun x=>x.Id==id):=PE y.CJ id;unfold ABF jI;simp only[G6 y,AB,Qe p0,Ee,ec,S7,Vr c a,PG J.2 H.1,AB0 (show h.AS.AY.length<2 ^ 62 by omega),FB,Bn,AR,O];have hXl:(dropped h (par h id)).AI.length=h.AI.length:=by simp[dropped,Cy]
 have hX:(dropped h (par h id)).AI=h.AI.set (par h id).Aa.toNat ⟨(l8 (cbn h (par h id).Aa).AY (par h id).BC 1 (-1) 0 0).1,(cbn h (par h id).Aa).Row,(UN (cbn h (par h id).Aa).By ⟨(par h id).Ci,id⟩).1⟩:=by unfold dropped Cy;rw[H.2]
 have hF:=ju hR X Z;by_cases q:(Ec h.AS (par h id) h.Now).2=true
 .have j:=ae q;have e:Ih h (par h id)=Gs (OM (dropped h (par h id)) (K3 h.AG (Ec h.AS (par h id) h.Now).1)) (Ec h.AS (par h id) h.Now).1:=by unfold Ih;rw[AX q]
  have hrowX:cbn (dropped h (par h id)) (par h id).Aa=⟨(l8 (cbn h (par h id).Aa).AY (par h id).BC 1 (-1) 0 0).1,(cbn h (par h id).Aa).Row,(UN (cbn h (par h id).Aa).By ⟨(par h id).Ci,id⟩).1⟩:=by
   unfold dropped;rw[Kh c a c,AX rfl,H.2]
  have Q:=hR.AVf c a;have B:=hF.AVf c (by rw[(jv h _).EL];exact a);have e2:(cbn (Ih h (par h id)) (par h id).Aa).Row=put ltE (Ew h.AS (Ec h.AS (par h id) h.Now).1 h.Now).1 (cbn h (par h id).Aa).Row:=by
   rw[e];unfold Gs;rw[j,Kh c (by show (par h id).Aa<((dropped h (par h id)).AI.length:Int);omega) c,AX rfl];show put ltE _ (cbn (dropped h (par h id)) (par h id).Aa).Row=_;rw[hrowX];rfl
  rw[e2]at B;have Y:=Ue (l:=(cbn h (par h id).Aa).Row) (by omega) (Ew h.AS (Ec h.AS (par h id) h.Now).1 h.Now).1;rw[AX ⟨Q.1,B.1⟩]at Y;simp only[q,if_true,PF y.CJ,AB,NB (show h.AS.AY.length<2 ^ 62 by omega),Y];rw[e];unfold Gs;rw[j]
  grind[Cy,OM,dropped,par,cbn,put,ltE,List.set_set]
 .have I:(Ec h.AS (par h id) h.Now).2=false:=by simpa using q
  have e:Ih h (par h id)=gone (dropped h (par h id)) (par h id):=by unfold Ih;rw[AU q]
  have L:=AI3 (g:=dropped h (par h id)) (p:=par h id) H.2 E.2.2.1.1 (by omega) y.CJ;rw[e,<-L];simp only[I,BM,if_false,<-hX,bne_iff_ne,ne_eq];by_cases G:(par h id).Bl = -1
  .rw[AU (not_not_intro G),AX G];rfl
  .have ef:at? (dropped h (par h id)).AI (par h id).Bl=some (cbn (dropped h (par h id)) (par h id).Bl):=Fj (by omega) (by omega);rw[AX G,AU G,ef];simp only[AB,Me];rfl
theorem vF{h:AE}(c:Bk h)(id:Int):AID h id=some (Nx h id):=by
 unfold AID Nx;rw[Gy c,AB,G7 c,AB];simp only[Bn,bne_iff_ne,ne_eq];by_cases a:verdict h ⟨5,id,0,0,0,0⟩=0
 .rw[AU (not_not_intro a),AU (not_not_intro a)];obtain⟨g,p0⟩:=Rr a;have hR:=IV.1 g;have e:=(nh ((PS a).2.2.2.1 (.inr rfl))).2;dsimp only at e;have hF:=ju hR (hR.one p0) e;simp only[G6 c,AB,Qe p0,Uh hR p0 e,IC hF.fit.todo];rfl
 .rw[AX a,AX a]
theorem AMe{n:Nat}{h x:AE}(H:Sm n h)(J:x.AI.length=h.AI.length)(q:∀c:Int,DO h.AG c<=19)(Q:n+h.AI.length<=1048576):BB (W8 x) big (0,h)=some (Ow h.AI.length 0 h,0):=by
 generalize a:h.AI.length=len at *;refine(C9 (F:=W8 x) (n:=len) (fun i (v:AE)=>((i:Int),v)) (fun i v=>Sm (n+i) v/\v.AI.length=len/\v.AG=h.AG) (fun i v=>some (Ow (len-i) i v,0)) (by omega) ?_ (v:=h) ⟨H,a,rfl⟩).trans (by rw[Nat.sub_zero]);intro L i v ⟨G,E,g⟩ hi O;have y:=G.fit (by omega);unfold W8;dsimp only;rw[J];rcases AV i len with j|j
 .have S:=y.Dj;have I:=y.CJ;rw[B7 j,BJ,Q1 (by omega) I (by rw[g];exact q _),AB,Fj (by omega) (by omega),AB,AB,Q0 (by omega),AB];have e:Ow (len-i) i v=Ow (len-(i+1)) (i+1) (QU v i):=by rw[show len-i=(len-(i+1))+1 by omega];rfl
  rw[e];have B:=O (QU v i) ⟨by have:=ml G i;rw[Nat.add_assoc]at this;exact this,by rw[rV];exact E,by rw[ATq.Ks];exact g⟩ j;rw[<-B];unfold jJ QU;simp only[BL,gt_iff_lt,AR,Bg j (show len<2 ^ 63 by omega),Ah,IC y.todo,AB];split<;>rfl
 .have:i=len:=by omega
  subst this;rw[Cl,BT,AR,Nat.sub_self];rfl
theorem AKU{h:AE}(g:Bk h):AIE h=some (mn h):=by
 unfold AIE mn;rw[Gy g,AB,G7 g,AB];simp only[Bn,bne_iff_ne,ne_eq];by_cases e:verdict h ⟨6,0,0,0,0,0⟩=0
 .have hR:=HM e;have a:=hR.sm;have j:=hR.len;have y:=CK hR.rules;have q:Sm 1000 ⟨h.AS,w64 (h.Now+1),h.Av,h.AG,h.AI,h.BA,h.A4⟩:=⟨a.Dj,a.CJ,a.EL,a.Dq,a.todo,a.GV⟩;rw[AU (not_not_intro e),AU (not_not_intro e)];exact AMe (x:=h) q rfl (fun c=>by have:=hR.cnt c;show DO h.AG c<=19;omega) (by show 1000+h.AI.length<=1048576;omega)
 .rw[AX e,AX e]
theorem vK{w:Aq}(a:Cz w)(now:Int):AIF w now=some ((Ek w).filter fun p=>decide (p.At<=now)):=by
 have hlim:lim=268435456:=rfl;have c:=IF a;unfold AIF;rw[Og a,AB,collect (l:=Ek w) (fun p=>if p.At<=now then some p else none) some c ?_ ?_]
 .congr 1;generalize Ek w=l
  induction l<;>grind
 .grind[jM,jL,BH,AB,BL,AR,B6]
 grind[jM,ABH,BT,AR]
theorem Ui{h:AE}(hR:RH h){k:Nat}(c:k<h.AI.length):ABG h k=some true:=by
 have a:=hR.len;unfold ABG jK;rw[Fh hR.fit,IV.2 hR,AB,BJ,Xb,AB,AR,A6 (by omega) (by omega),CP.2 (by omega)]
theorem AE8{h:AE}(hR:RH h){k:Nat}(c:k<h.AI.length):AIH h k=some (jo (cbn h k).By h.Now):=by
 have hlim:lim=268435456:=rfl;have a:=(hR.AJ1 (k:=(k:Int)) (by omega) (by omega)).2;have e:=IF a;unfold AIH;rw[Ui hR c,AB,BP,BJ,show at? h.AI (k:Int)=some (cbn h k) from Fj (by omega) (by omega),AB,vK a,AB];generalize hD:(Ek (cbn h k).By).filter (fun p=>decide (p.At<=h.Now))=D;have hDl:D.length<=1048576:=by rw[<-hD];exact Aw (List.length_filter_le _ _) e
 rw[collect (l:=D) (fun p=>some p.Id) some hDl ?_ ?_]
 .unfold jo;rw[<-hD];congr 1;generalize Ek (cbn h k).By=l
  induction l<;>grind
 .grind[jN,BJ,BH,AB,B6]
 grind[jN,ABI,BT,AR]
theorem ABz{h:AE}(hR:RH h){k:Nat}(g:k<h.AI.length):AII h k=some (XI h k):=by
 obtain⟨hO,E⟩:=Sn hR g;unfold AII XI;rw[Gy hR.fit,AB,AE8 hR g,AB];generalize jo (cbn h k).By h.Now=D at *;refine(C9 (F:=jO D) (n:=D.length) (fun i (v:AE)=>((i:Int),v)) (fun i v=>RH v/\AJv v (D.drop i)) (fun i v=>some (Tt (D.drop i) v)) (by omega) ?_ (v:=h) ⟨hR,hO⟩);rintro L i v ⟨j,c⟩ hi y;unfold jO ABJ;dsimp only;rcases AV i D.length with a|q
 .rw[Dc a]at c ⊢;have e:=c.2 D[i] (Be ..);obtain⟨s1,B,_⟩:=U8 j c;simp only[B7 a,BJ,BH a,AB,Uh j e.1 e.2,Bg a (show D.length<2 ^ 63 by omega)];exact y _ ⟨s1,B⟩ a
 .obtain rfl:i=D.length:=by omega
  rw[Cl,BT,AR,List.drop_length];rfl
theorem vN(p:AQ)(now:Int):AIJ p now=some (bI p now):=by
 unfold AIJ jP bI;rw[AR,AR,Cf]
theorem nH{l:List Ai}(a:l.length<=1048576){skip:List Int}(c:skip.length<=1048576)(free:Int):AIK l free skip=some (atF (ABi free skip) l 0):=by
 unfold AIK ANn;rw[Qd (l:=l) (p:=ABi free skip) (by omega) ?_ ?_,AB]
 .intro L i h;unfold jR ANm jQ ABi
  grind[BJ,BH,AB,PD,AR,Cf]
 grind[jR,ABK,BT,AR]
theorem kY{h:AE}(hR:RH h){k:Nat}(e:k<h.AI.length):AIL h k=some (Es h k):=by
 have hlim:lim=268435456:=rfl;have c:=hR.fit;have a:=c.CJ;have j:(mP h).length<=1048576:=Aw (List.length_filterMap_le _ _) a;have g:=(hR.AJ1 (k:=(k:Int)) (by omega) (by omega)).1;unfold AIL;rw[Ui hR e,AB,BP,BJ,collect (l:=h.AG) (fun p=>if bI p h.Now=true then some p.Id else none) (jT h k) a ?_ ?_]
 .grind[jT,at?,cbn,AB,mP,nH,Uk,Es,BL,sD]
 .grind[jU,jS,BH,AB,vN,Bn,AR,B6]
 grind[jU,BT,AR]
theorem AE9{h:AE}(hR:RH h){k:Nat}(g:k<h.AI.length):AIN h k=some (if Es h k=0 then (h,0) else (Il h k (Es h k),Es h k)):=by
 have a:=hR.fit;unfold AIN;rw[Gy a,AB,kY hR g,AB,Bn];by_cases c:Es h k=0
 .grind
 .obtain⟨j,q,y,B,E⟩:=lL hR g c;have e:=hR.AJ1 (k:=(k:Int)) (by omega) (by omega);have ec:at? h.AI (k:Int)=some (cbn h k):=Fj (by omega) (by omega);rw[AU (by simpa using c),AU c];simp only[G6 a,AB,Qe j,Ee,ec,kg,Vr (show 0<=(k:Int) by omega) (show (k:Int)<(h.AI.length:Int) by omega),Ud e.1,PF a.CJ,FB,Ug e.2];rfl
theorem AMF{h:AE}(hR:RH h){k:Nat}(y:k<h.AI.length):BB (W9 k) big ([],h)=some (OF k 10 h []):=by
 have hlim:lim=268435456:=rfl;refine Zd (F:=W9 k) (fun x=>some (OF k (10-x.1.length) x.2 x.1)) (fun x=>RH x.2/\k<x.2.AI.length/\x.1.length+(cbn x.2 k).Row.length<=10) (fun x=>(cbn x.2 k).Row.length) ?_ (x:=([],h)) ⟨hR,y,by have:=cw hR y;simpa using this⟩ (by have:=cw hR y;show (cbn h k).Row.length<_;omega);rintro L ⟨a,g⟩ ⟨q,c,e⟩ E;dsimp only at q c e E ⊢;unfold W9;dsimp only;rw[AE9 q c,AB];by_cases j:Es g k=0
 .grind[AJe,BJ]
 .obtain⟨s1,H⟩:=VP q c j;have B:=ACE j;rw[AU j];dsimp only;have G:(Es g k==0)=false:=by simpa using j
  rw[G,BT,B6 (by simp only[AH,AN];omega),E (a++[Es g k],Il g k (Es g k)) ⟨s1,by rw[(RB g k _).EL];exact c,by simp only[AK,AH,AN];omega⟩ (by dsimp only;omega)];congr 1;rw[show 10-a.length=(10-(a++[Es g k]).length)+1 by simp only[AK,AH,AN];omega]
  conv=>rhs;unfold OF
  rw[AU j]
theorem AKS{h:AE}(hR:RH h){k:Nat}(a:k<h.AI.length):AIO h k=some (J3 h k):=by
 obtain⟨c,e⟩:=Qo hR (Sn hR a).1;unfold AIO;rw[ABz hR a,AB];exact AMF c (by rw[e.EL];exact a)
theorem AKR{h:AE}(q:Bk h)(who:Int):AIP h who=some (Xm h who):=by
 unfold AIP Xm;rw[Gy q,AB,G7 q,AB];simp only[Bn,bne_iff_ne,ne_eq,beq_iff_eq];by_cases a:verdict h ⟨7,who,0,0,0,0⟩=0
 .rw[AU (not_not_intro a),AU (not_not_intro a)];have hR:=HM a;have G:=hR.len;obtain⟨n,c,e,L⟩:=YU rfl a;dsimp only at e;subst e;have eg:h.A4.getD n 0=h.A4[n]:=by rw[BQ,AW c];rfl
  have y:=DI.1 hR.GV _ (As c);rw[CP]at y;unfold wy;simp only[BH c,AB,Ah,eg];by_cases g:h.A4[n]<0
  .have j:h.A4[n] = -1:=by omega
   rw[AX j,AX g];have H:0<h.BA.length:=by
    grind
   have I:h.BA.getD 0 0=h.BA[0]:=by rw[BQ,AW H];rfl
   have O:=q.todo;have J:List.take (h.BA.length-Int.toNat 1) (List.drop (Int.toNat 1) h.BA)=h.BA.drop 1:=List.take_of_length_le (by rw[List.length_drop];exact Ad _);rw[Vt,AW H,AB,AB,B6 ⟨by omega,by omega⟩,I,J];rfl
  .have j:¬h.A4[n] = -1:=by omega
   rw[AU j,AU g];obtain⟨k,E,ek⟩:=hR.job c g;obtain⟨s1,Q,S⟩:=mL hR E;have B:n<(J3 h k).1.A4.length:=by rw[Q.GV];exact c
   rw[ek,AKS hR E,AB,BH B,AB,AB];rfl
 .rw[AX a,AX a]
theorem AU3{h:AE}(a:Bk h)(q:B1):AIQ h q=some (doF h q):=by
 grind[AIQ,doF,MI,Gy,G7,AB,AKP,ABx,kX,ABu,vF,AKU,AKR,Bn,AR]
theorem kW{h:AE}(q:Bk h){l:List B1}(G:l.length<=1048576):ABL h l=some (IQ l h):=by
 have hlim:lim=268435456:=rfl;unfold ABL;rw[Gy q,AB];refine(C9 (F:=jW l) (n:=l.length) (fun i (v:List C6×AE)=>(v.1,(i:Int),v.2)) (fun i v=>Bk v.2/\v.1.length=i) (fun i v=>some ((IQ (l.drop i) v.2).1,v.1++(IQ (l.drop i) v.2).2)) (by omega) ?_ (v:=([],h)) ⟨q,rfl⟩).trans ?_
 .rintro L i ⟨a,g⟩ ⟨e,j⟩ hi y;dsimp only at e j y ⊢;unfold jW ABM;dsimp only;rcases AV i l.length with c|E
  .have B:=xQ e l[i];rw[Dc c];simp only[B7 c,BJ,BH c,AB,AU3 e,Bg c (show l.length<2 ^ 63 by omega)];rw[B6 (by simp only[AH,AN];omega)];have:=y (a++[(doF g l[i]).2],(doF g l[i]).1) ⟨B.2.1,by simp[j]⟩ c;dsimp only at this;rw[this];simp only[IQ,List.append_assoc,List.singleton_append]
  .grind[BT,AR,IQ]
 .simp
end Lv.P
