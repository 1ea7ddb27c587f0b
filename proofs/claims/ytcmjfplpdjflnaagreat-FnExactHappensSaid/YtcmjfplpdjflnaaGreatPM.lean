/- Plain laws about what the program computes. -/
import Derived.Test.YtcmjfplpdjflnaaGreatPK
import Derived.Test.YtcmjfplpdjflnaaGreatKG
set_option linter.unusedVariables false
set_option linter.unusedSimpArgs false
set_option linter.unusedSectionVars false
open Bool renaming and_eq_true->AE
open Int renaming eq_ofNat_of_zero_le->A6
open List renaming length_set->BZ,mem_cons_of_mem->Au,pairwise_cons->BT
open Nat renaming zero_add->As
namespace Lv.P
open Lv Go
theorem AVj{t:List Int}{n:Int}:IQ t n=true↔(∀k∈t,0<=k/\k<=w64 (n-1))/\t.Pairwise fun a b=>a≠b:=by
 grind[Ry,CP,CQ,List.mem_iff_getElem,IQ,Je,List.pairwise_iff_getElem]
theorem AVl{t:List Int}{n:Nat}(e:n<=1048576)(h:IQ t n=true){k:Int}(a:0<=k)(c:k<n):IQ (Qa t k) n=true:=by
 grind[Qa,AVj,Aq]
theorem RH.len{h:AF}(hR:RH h):h.AH.length<=4/\h.AH.length=h.AQ.AZ.length:=by
 have:=CR hR.rules;have:=hR.EN;omega
theorem RH.El{h:AF}(hR:RH h){l:List Int}(a:IQ l h.AH.length=true):RH (El h l):=⟨hR.rules,hR.now,hR.turn,hR.EN,hR.J2,hR.cab,a,hR.F5,hR.Rb⟩
theorem RH.put{h:AF}(hR:RH h){k:Int}(a:0<=k)(c:k<h.AH.length):RH (Lv.P.El h (Qa h.BE k)):=hR.El (AVl (by have:=hR.len;omega) hR.todo a c)
theorem ALU{h:AF}(hR:RH h){k:Nat}(a:k<h.AH.length):JL h k=(cbn h k).AZ.FM-(cbn h k).AZ.Fa:=by
 have kl:=HB.1 (hR.cb a).led
 grind[JL,cbn,Aq]
theorem mM{h:AF}{id:Int}(a:Jo h id=0):0<=Fv h id/\(par h id).State=2:=by
 unfold Jo at a;by_cases c:Fv h id<0
 .grind
 .rw[AT c]at a;by_cases e:(h.AG.getD (Fv h id).toNat uF).State=2
  .exact⟨by omega,e⟩
  grind
theorem PH{h:AF}{q:Bo}(a:verdict h q=0):HL h q=0/\KE q=true:=by
 grind[verdict,HL]
theorem AC4{h:AF}{q:Bo}(c:inB q.Kind 1 7=true)(e:KE q=true)(a:HL h q=0):(q.Kind=1->WM h q=0)/\(q.Kind=2->¬Fv h q.Id<0) /\
 (q.Kind=3->q.AY<h.AH.length/\inB q.BB 1 60=true/\q.BB<=JL h q.AY)/\(q.Kind=4\/q.Kind=5->Jo h q.Id=0)/\(q.Kind=6->h.Now<1000000):=by
 unfold HL at a;rw[c,e]at a;simp only[Bool.true_eq_false,if_false]at a;refine⟨fun k=>?_,fun k=>?_,fun k=>?_,fun k=>?_,fun k=>?_⟩
 .rw[AW k]at a;exact a
 .grind
 .grind
 .grind
 grind
theorem AW2{q:Bo}(h:KE q=true):inB q.Kind 1 7=true:=by
 grind[KE,CQ]
theorem N9{h:AF}{q:Bo}(a:verdict h q=0):(q.Kind=1->WM h q=0)/\(q.Kind=2->¬Fv h q.Id<0) /\
 (q.Kind=3->q.AY<h.AH.length/\inB q.BB 1 60=true/\q.BB<=JL h q.AY)/\(q.Kind=4\/q.Kind=5->Jo h q.Id=0)/\(q.Kind=6->h.Now<1000000):=
 AC4 (h:=h) (AW2 (PH a).2) (PH a).2 (PH a).1
theorem AaI:∀{ps:List AM},(∀p∈ps,0<=p.AY/\p.AY<4)->(ps.length:Int)=DG ps 0+DG ps 1+DG ps 2+DG ps 3
 | [],_=>rfl|p::ps,h=>by
  have c:=AaI (ps:=ps) fun q a=>h q (Au _ a)
  grind[List.mem_cons_self,IF,List.length_cons]
theorem AOI{ps:List AM}{c:Int}(h:∀p∈ps,p.AY≠c):DG ps c=0:=by
 induction ps with
 |nil=>rfl|cons p ps a=>
  grind[IF,List.mem_cons_self,List.mem_cons_of_mem]
theorem RH.cnt{h:AF}(hR:RH h)(c:Int):DG h.AG c<=h.AQ.Room:=by
 have a:=hR.len;have j:=CR hR.rules;by_cases e:0<=c/\c<h.AH.length
 .obtain⟨k,rfl⟩:=A6 e.1;exact(hR.cb (by omega)).room
 .rw[AOI fun p g=>?_]
  .omega
  .have:=E3 (hR.J2.par p g).1;omega
theorem ALS{h:AF}{id cabin frm size tier:Int}(hv:verdict h ⟨1,id,cabin,frm,size,tier⟩=0):RH (La h id cabin frm size tier)/\(La h id cabin frm size tier).AQ=h.AQ/\(La h id cabin frm size tier).AG.Perm (HN h id cabin frm size tier::h.AG)/\∀p∈h.AG,p.Id≠id:=by
 have hR:=Gt hv;have hlen:=hR.len;have hr:=CR hR.rules;have O:=hR.now;have hturn:=hR.turn;have j:=(N9 hv).1 rfl;have ha:=(PH hv).2;unfold KE at ha;rw[AW rfl]at ha;simp only[AE,QX,CQ]at ha;obtain⟨_,ha2,ha3,ha4,ha5⟩:=ha;unfold WM at j;dsimp only at j;by_cases c1:(h.AH.length:Int)<=cabin\/(h.AH.length:Int)<=frm\/frm=cabin
 .rw[AW c1]at j;cases j
 rw[AT c1]at j;by_cases c2:inB size 1 h.AQ.BB=false
 .rw[AW c2]at j;cases j
 rw[AT c2]at j;by_cases c3:h.AQ.Ce<=tier
 .rw[AW c3]at j;cases j
 rw[AT c3]at j;by_cases c4:inB id 1 999=false
 .rw[AW c4]at j;cases j
 rw[AT c4]at j;by_cases L:0<=Fv h id
 .rw[AW L]at j;cases j
 rw[AT L]at j;by_cases c6:h.AQ.Room<=DG h.AG cabin
 .rw[AW c6]at j;cases j
 rw[AT c6]at j;by_cases c7:0<=frm/\JL h frm<size
 .rw[AW c7]at j;cases j
 rw[AT c7]at j;by_cases c8:1000000<h.Ay
 .rw[AW c8]at j;cases j
 have J:=CQ.1 (by simpa using c2:inB size 1 h.AQ.BB=true);have c4':=CQ.1 (by simpa using c4:inB id 1 999=true);have hfresh:∀p∈h.AG,p.Id≠id:=fun p Q e=>L (by have:=(hR.tJ Q).1;rw[e]at this;exact this)
 have hpput:∀p:AM,p.Id=id->KF h.AG p=put J1 p h.AG:=by
  intro p Q;unfold KF;unfold Fv at L;rw[Q,AT L]
 have ew:w64 (h.Ay+1)=h.Ay+1:=Aq (by omega) (by omega);have S:Dn h.AQ ⟨id,cabin,frm,size,tier,h.Now,h.Ay,1,0,0⟩ h.Now=true:=by
  unfold Dn;simp only[AE,CQ,Bool.or_eq_true,beq_iff_eq,Bool.not_eq_true',beq_eq_false_iff_ne];have e1:w64 ((h.AQ.AZ.length:Int)-1)=(h.AQ.AZ.length:Int)-1:=Aq (by omega) (by omega);have e2:w64 (h.AQ.Ce-1)=h.AQ.Ce-1:=Aq (by omega) (by omega);have e3:w64 (h.AQ.Cd-1)=h.AQ.Cd-1:=Aq (by omega) (by omega);have e4:w64 (h.Now+h.AQ.Rest)=h.Now+h.AQ.Rest:=Aq (by omega) (by omega);rw[e1,e2,e3,e4];refine⟨hR.rules,O,c4',by omega,by omega,by omega,J,by omega,by omega,by omega,by omega,.inl ⟨trivial,by omega⟩⟩
 have hperm:(put J1 (HN h id cabin frm size tier) h.AG).Perm (HN h id cabin frm size tier::h.AG):=Wc _ _;have hpn:∀q:AM,q∈HN h id cabin frm size tier::h.AG->q=HN h id cabin frm size tier\/q∈h.AG:=fun q E=>List.mem_cons.1 E
 have hPR:QU h.AQ h.Now (h.Ay+1) (put J1 (HN h id cabin frm size tier) h.AG):=by
  refine⟨?_,?_,?_,?_⟩
  .rw[FR];have h4:=AaI (ps:=h.AG) fun p Q=>by have:=E3 (hR.J2.par p Q).1;omega
   have r0:=hR.cnt 0;have r1:=hR.cnt 1;have r2:=hR.cnt 2;have r3:=hR.cnt 3;rcases(show cabin=0\/cabin=1\/cabin=2\/cabin=3 by omega) with e|e|e|e<;>rw[e]at c6<;>omega
  .intro q E;rcases hpn q (hperm.subset E) with rfl|E
   .exact⟨S,by show h.Ay<h.Ay+1;omega⟩
   .have:=hR.J2.par q E;exact⟨this.1,by omega⟩
  .have hd:QI J1 (HN h id cabin frm size tier::h.AG):=by
    unfold QI;rw[BT];refine⟨fun q E=>?_,hR.J2.ids.imp fun h=>.inl (by unfold J1;rw[decide_eq_true_iff];exact h)⟩;have:=hfresh q E;unfold J1;rw[decide_eq_true_iff,decide_eq_true_iff];show id<q.Id\/q.Id<id;omega
   have hs:DK J1 h.AG=h.AG:=Ok je (hR.J2.ids.imp fun h=>by unfold J1;rw[decide_eq_true_iff];exact h);have:=LQ je hd;rw[Gr,hs]at this;exact this.imp fun h=>by unfold J1 at h;simpa using h
  .rw[hperm.pairwise_iff (fun {a b} h=>by rw[ADN];exact h),BT];refine⟨fun q E=>?_,hR.J2.turns⟩;have h1:=hR.J2.par q E;have h2:=E3 h1.1;unfold Hr HN;simp only[Bool.or_eq_false_iff,beq_eq_false_iff_ne,Bool.and_eq_false_iff,decide_eq_false_iff_not];refine⟨by omega,.inl (by omega),.inr (by omega)⟩
 have hu:=hPR.uni;have hz:1<=(HN h id cabin frm size tier).BB/\(HN h id cabin frm size tier).BB<=6:=⟨J.1,by show size<=6;omega⟩;have hmain:RH (if 0<=frm then JN (GM ⟨h.AQ,h.Now,w64 (h.Ay+1),KF h.AG (HN h id cabin frm size tier),h.AH,h.BE,h.BC⟩ (HN h id cabin frm size tier)) frm size else GM ⟨h.AQ,h.Now,w64 (h.Ay+1),KF h.AG (HN h id cabin frm size tier),h.AH,h.BE,h.BC⟩ (HN h id cabin frm size tier)):=by
  rw[hpput _ rfl,ew];generalize hP:HN h id cabin frm size tier=p at *;have q1:p.AY=cabin:=by rw[<-hP];rfl
  have q2:p.Bk=frm:=by rw[<-hP];rfl
  have q3:p.BB=size:=by rw[<-hP];rfl
  have q4:p.State=1:=by rw[<-hP];rfl
  have q5:Dn h.AQ p h.Now=true:=by rw[<-hP];exact S
  have hx:∀i:Nat,i<h.AH.length->QT h.AQ (put J1 p h.AG) h.AG h.Now i (cbn (GM ⟨h.AQ,h.Now,h.Ay+1,put J1 p h.AG,h.AH,h.BE,h.BC⟩ p) i):=by
   intro i hi;unfold GM;rw[Jr (by omega) (by show p.AY<(h.AH.length:Int);omega) (by omega)];have y:=hR.cb hi;refine QT.perm ?_ (hu.perm hperm) hperm.symm (.refl _);by_cases e:(i:Int)=p.AY
   .rw[AW e,<-e];refine⟨?_,?_,y.total,?_,y.JN,y.led,?_⟩
    .dsimp only;rw[Kt _ q5 q4,AW e.symm,Pb q5 q4];show put ltE _ (cbn h i).Row=_;rw[y.row]
    .dsimp only;rw[O2 _ (by omega)];exact y.G0
    .dsimp only;rw[Oh _ (by omega)];exact y.held
    .rw[IF,AW e.symm];have:(i:Int)=cabin:=by omega
     rw[this];omega
   .rw[AT e];refine⟨?_,?_,y.total,?_,y.JN,y.led,?_⟩
    .rw[Kt _ q5 q4,AT (Ne.symm e)];exact y.row
    .rw[O2 _ (by omega)];exact y.G0
    .rw[Oh _ (by omega)];exact y.held
    .rw[IF,AT (Ne.symm e),Int.zero_add];exact y.room
  have hXl:(GM ⟨h.AQ,h.Now,h.Ay+1,put J1 p h.AG,h.AH,h.BE,h.BC⟩ p).AH.length=h.AH.length:=by simp[GM,Cu]
  have hX:Kept (⟨h.AQ,h.Now,h.Ay+1,put J1 p h.AG,h.AH,h.BE,h.BC⟩:AF) (GM ⟨h.AQ,h.Now,h.Ay+1,put J1 p h.AG,h.AH,h.BE,h.BC⟩ p):=⟨rfl,rfl,rfl,hXl,rfl,rfl⟩;have hXs:∀i:Nat,(cbn (GM ⟨h.AQ,h.Now,h.Ay+1,put J1 p h.AG,h.AH,h.BE,h.BC⟩ p) i).AZ=(cbn h i).AZ:=by
   intro i;unfold GM;rw[Jr (by omega) (by show p.AY<(h.AH.length:Int);omega) (by omega)];by_cases e:(i:Int)=p.AY
   .rw[AW e,e];rfl
   .rw[AT e];rfl
  have hXp:(GM ⟨h.AQ,h.Now,h.Ay+1,put J1 p h.AG,h.AH,h.BE,h.BC⟩ p).AG=put J1 p h.AG:=rfl;generalize GM ⟨h.AQ,h.Now,h.Ay+1,put J1 p h.AG,h.AH,h.BE,h.BC⟩ p=X at *;obtain⟨B,I,Z,G,x5,x6⟩:=hX;dsimp only at B I Z G x5 x6;split
  .rename_i f0;obtain⟨k,hk⟩:=A6 f0;have hkl:k<h.AH.length:=by omega
   have hlo:=ALU hR hkl;have hsz:size<=JL h frm:=by
    rcases Int.lt_or_le (JL h frm) size with c|c
    .exact absurd ⟨f0,c⟩ c7
    .exact c
   refine RH.mk' (by show EO X.AQ=true;rw[B];exact hR.rules) (by show 0<=X.Now/\X.Now<=1000000;rw[I];exact hR.now) (by show 1<=X.Ay/\X.Ay<=1000001;rw[Z];omega) (by simp only[JN,Cu,BZ];rw[G,B];exact hR.EN) (by show QU X.AQ X.Now X.Ay X.AG;rw[B,I,Z,hXp];exact hPR) ?_
    (by simp only[JN,Cu,BZ];rw[G,x5];exact hR.todo) (by simp only[JN,Cu,BZ];rw[G,x6];exact hR.F5) (by show (X.BC.length:Int)=X.AQ.C3;rw[x6,B];exact hR.Rb)
   intro i hi;have H:i<h.AH.length:=by simp only[JN,Cu,BZ]at hi;rw[G]at hi;exact hi
   have g:=hx i H;unfold JN;rw[Jr f0 (by omega) (by omega)];show XC X.AQ X.AG X.Now i _;rw[B,I,hXp];refine QT.full (QT.perm (ps:=put J1 p h.AG) (qs:=p::h.AG) ?_ hu (.refl _) hperm.symm);by_cases e:(i:Int)=frm
   .obtain rfl:i=k:=by omega
    rw[AW e,<-e];have kl:=HB.1 g.led;have hsame:=hXs i;have hl:FE ⟨(cbn X i).AZ.Total,(cbn X i).AZ.DY+0*size,(cbn X i).AZ.EZ+0*size,(cbn X i).AZ.FM+0*size,(cbn X i).AZ.Fa+1*size⟩=true:=by
     rw[HB];dsimp only;rw[hk,hlo,<-hsame]at hsz;omega
    rw[AJy g.led (by omega) (by omega) (by omega) (by omega) (by omega) hl];refine⟨g.row,g.G0,g.total,by dsimp only;rw[g.held];omega,?_,hl,g.room⟩;dsimp only;rw[IZ _ hz,AW (by omega),g.JN];omega
   .rw[AT e];refine⟨g.row,g.G0,g.total,g.held,?_,g.led,g.room⟩;rw[IZ _ hz,AT (by omega),g.JN];omega
  .rename_i f0;refine RH.mk' (by rw[B];exact hR.rules) (by rw[I];exact hR.now) (by rw[Z];omega) (by rw[G,B];exact hR.EN) (by rw[B,I,Z,hXp];exact hPR) ?_ (by rw[G,x5];exact hR.todo) (by rw[G,x6];exact hR.F5) (by rw[x6,B];exact hR.Rb);intro i hi;have H:i<h.AH.length:=by omega
   have g:=hx i H;rw[B,I,hXp];refine QT.full (QT.perm (ps:=put J1 p h.AG) (qs:=p::h.AG) ?_ hu (.refl _) hperm.symm);refine⟨g.row,g.G0,g.total,g.held,?_,g.led,g.room⟩;rw[IZ _ hz,AT (by omega),g.JN];omega
 unfold La;dsimp only;generalize hY:(if 0<=frm then JN (GM ⟨h.AQ,h.Now,w64 (h.Ay+1),KF h.AG (HN h id cabin frm size tier),h.AH,h.BE,h.BC⟩ (HN h id cabin frm size tier)) frm size else GM ⟨h.AQ,h.Now,w64 (h.Ay+1),KF h.AG (HN h id cabin frm size tier),h.AH,h.BE,h.BC⟩ (HN h id cabin frm size tier))=Y at *;have hYc:Y.AH.length=h.AH.length:=by rw[<-hY];split<;>simp[JN,GM,Cu]
 have hYp:Y.AG=put J1 (HN h id cabin frm size tier) h.AG:=by rw[<-hY,hpput _ rfl];split<;>rfl
 have hYr:Y.AQ=h.AQ:=by rw[<-hY];split<;>rfl
 exact⟨hmain.put (by omega) (by omega),hYr,by show Y.AG.Perm _;rw[hYp];exact hperm,hfresh⟩
theorem AOG(h:AF)(l:List Int)(j:Int):cbn (El h l) j=cbn h j:=rfl
structure Tk(h g:AF):Prop where
 rules:g.AQ=h.AQ
 now:g.Now=h.Now
 turn:g.Ay=h.Ay
 EN:g.AH.length=h.AH.length
 J2:g.AG=h.AG
 F5:g.BC=h.BC
theorem AVa{h:AF}{i:Nat}:Tk h (PF h i):=by
 unfold PF;dsimp only;split
 .exact⟨rfl,rfl,rfl,by simp[El,Cu],rfl,rfl⟩
 .exact⟨rfl,rfl,rfl,by simp[Cu],rfl,rfl⟩
theorem Pq{l:List AM}(a:l.length<=1048576)(id:Int):nq l id=some (atF (fun x=>x.Id==id) l 0):=by
 unfold nq AOl
 grind[PR,AB,AAW,AOk,BL,BG,AAV,BO,AU]
theorem Ga{h:AF}(a:By h)(id:Int):Lt h id=some (Fv h id):=by
 unfold Lt;rw[Pq a.CN,AB];rfl
theorem jR{h:AF}{k:Int}(a:0<=k)(c:k<h.AH.length):nr h k=some (JL h k):=by
 unfold nr;rw[FF a c,AB,AB];rfl
theorem AS4(p:AM)(now:Int):AAX p now=some (AO5 p now):=by
 unfold AAX gH AO5;rw[AU,AU,Cr]
theorem Hb{l:List Int}(a:l.length<=1048576)(k:Int):Vh l k=some (Qa l k):=by
 grind[lim,Vh,fz,Qa,R9,AB,Nx,CJ,AU,B4]
theorem ADR{c:C}{l:List c.D}{k:Nat}(a:k<l.length):AA7 c l (k:Int) ((k+1:Nat):Int)=some (l.take k++l.drop (k+1)):=by
 grind[AA7]
theorem AS7{c:C}{l:List c.D}{k:Nat}(a:k<=l.length)(e:l.length<=1048576)(x:c.D):ln c l (k:Int) [x]=some (l.take k++x::l.drop k):=by
 grind[ln,lim]
theorem AaQ{l:List AM}{k:Nat}(a:k<l.length):AXz l (k:Int) ((k:Int)+1)=some (l.take k++l.drop (k+1)):=ADR (c:=.st 2) a
theorem AYV{l:List AM}{k:Nat}(a:k<=l.length)(e:l.length<=1048576)(x:AM):AXw l (k:Int) [x]=some (l.take k++x::l.drop k):=AS7 (c:=.st 2) a e x
theorem AaO{l:List Ad}{k:Nat}(a:k<l.length):AXx l (k:Int) ((k:Int)+1)=some (l.take k++l.drop (k+1)):=ADR (c:=.st 4) a
theorem AaY{l:List Ad}{k:Nat}(a:k<=l.length)(e:l.length<=1048576)(x:Ad):AOj l (k:Int) [x]=some (l.take k++x::l.drop k):=AS7 (c:=.st 4) a e x
theorem AaP{l:List A7}{k:Nat}(a:k<l.length):AXy l (k:Int) ((k:Int)+1)=some (l.take k++l.drop (k+1)):=ADR (c:=.st 5) a
theorem Ny{l:List AM}(h:l.length<=1048576)(id:Int):Vm l id=some (l.eraseP (fun x=>x.Id==id)):=by
 have hlim:lim=268435456:=rfl;unfold Vm gY;rw[B4 (by omega),Pq h,AB,BH];rcases IU (fun x:AM=>x.Id==id) l 0 with ⟨a,c,e⟩|⟨k,g,a,c,e,_⟩
 .rw[a,AT (by omega),AU,c]
 .rw[a,As,AW (by omega),Aq (by omega) (by omega)];rw[AaQ g];erw [AB];rw[AU,c]
theorem TX{l:List Ad}(a:l.length<=1048576):VR l=some l:=by
 unfold VR;rw[B4 (by unfold lim;omega)]
theorem Sy{l:List Ad}(h:l.length<=1048576)(id:Int):AAQ l id=some (l.eraseP (fun x=>x.Id==id),l.any fun x=>x.Id==id):=by
 have hlim:lim=268435456:=rfl;unfold AAQ;rw[TX h,AB,WE (by omega),AB,BH];rcases IU (fun x:Ad=>x.Id==id) l 0 with ⟨a,c,e⟩|⟨k,g,a,c,e,_⟩
 .grind
 .rw[a,As,AT (by omega),Aq (by omega) (by omega)];rw[AaO g];erw [AB];rw[c,e]
theorem N0{w:Av}(B:DP w){p:A7}(E:P2 p=true):nk w p=some (Sl w p):=by
 have hlim:lim=268435456:=rfl;have c:=(ML E).1.1;unfold nk;rw[SA B,AB,Jy B,AB,T0,E,AB,BK,CJ,AU,AU];unfold Sl gB;by_cases j:Ht w=true
 .rw[AW j,AW ⟨j,c⟩,Bool.not_true,BO];obtain⟨m,H,y⟩:=Zy (n:=p.At) c;have a:m<w.An.length:=by have:=(Dq.1 j).1;omega
  have I:w.An[m].length<=1048576:=Nat.le_trans (IY a) B.2;rw[y,Int.toNat_natCast,List.getD_eq_getElem?_getD,List.getElem?_eq_getElem a,Option.getD_some];simp only[BG a,AB];have q:AIj w.An[m] p=some (atF (isP p) w.An[m] 0):=by
   grind[AIj,PR,AAS,isP,BL,BG,AB,AAR,BO,AU]
  rw[q,AB,BH];rcases IU (isP p) w.An[m] 0 with ⟨e,g,h⟩|⟨k,G,e,g,h,_⟩
  .rw[e,AW (by omega),g,h,List.set_getElem_self]
  .rw[e,As,AT (by omega),Aq (by omega) (by omega)];rw[AaP G];erw [AB];rw[B4 ⟨rfl,⟨by omega,by omega⟩,trivial⟩,g,h]
 grind[BL]
theorem Oq{l l':BJ}{n a b c d:Int}(h:FE l=true->0<=n->n<=60->l'=⟨l.Total,w64 (l.DY+w64 (a*n)),w64 (l.EZ+w64 (b*n)),w64 (l.FM+w64 (c*n)),w64 (l.Fa+w64 (d*n))⟩) :
 (if FE l=true then if inB n 0 60=true then if FE l'=true then some (l',true) else some (l,false) else some (l,false) else some (l,false))=some (l8 l n a b c d):=by
 unfold l8
 grind[inB]
theorem Mf{x:Int}(h:-1000<=x/\x<=1000):w64 x=x:=Aq (by omega) (by omega)
theorem ll(l:BJ)(n:Int):AIh l n=some (l8 l n 0 0 0 1):=by
 rw[<-Oq (l':=⟨l.Total,l.DY,l.EZ,l.FM,w64 (l.Fa+n)⟩) fun h a c=>by have:=HB.1 h;congr 1<;>grind[Mf]];unfold AIh AOo gT AOn
 grind[Gq,E9,AB,AU,CJ]
theorem LZ(l:BJ)(n:Int):ny l n=some (l8 l n 0 0 0 (-1)):=by
 rw[<-Oq (l':=⟨l.Total,l.DY,l.EZ,l.FM,w64 (l.Fa-n)⟩) fun h a c=>by have:=HB.1 h;congr 1<;>grind[Mf]];unfold ny AOq gX AOi
 grind[Gq,E9,AB,AU,CJ]
theorem jO(l:BJ)(n:Int):AIs l n=some (l8 l n (-1) 1 0 0):=by
 rw[<-Oq (l':=⟨l.Total,w64 (l.DY-n),w64 (l.EZ+n),l.FM,l.Fa⟩) fun h a c=>by have:=HB.1 h;congr 1<;>grind[Mf]];unfold AIs AOp gU AOy
 grind[Gq,E9,AB,AU,CJ]
theorem RQ(l:BJ)(n:Int):AAT l n=some (l8 l n 1 (-1) 0 0):=by
 rw[<-Oq (l':=⟨l.Total,w64 (l.DY+n),w64 (l.EZ-n),l.FM,l.Fa⟩) fun h a c=>by have:=HB.1 h;congr 1<;>grind[Mf]];unfold AAT AOh gC AOg
 grind[Gq,E9,AB,AU,CJ]
theorem jP(l:BJ)(n:Int):AI2 l n=some (l8 l n 0 (-1) 1 0):=by
 rw[<-Oq (l':=⟨l.Total,l.DY,w64 (l.EZ-n),w64 (l.FM+n),l.Fa⟩) fun h a c=>by have:=HB.1 h;congr 1<;>grind[Mf]];unfold AI2 AOu gh AOt
 grind[Gq,E9,AB,AU,CJ]
theorem RR(l:BJ)(n:Int):AAc l n=some (l8 l n 1 0 (-1) 0):=by
 rw[<-Oq (l':=⟨l.Total,w64 (l.DY+n),l.EZ,w64 (l.FM-n),l.Fa⟩) fun h a c=>by have:=HB.1 h;congr 1<;>grind[Mf]];unfold AAc AOs gb AOr
 grind[Gq,E9,AB,AU,CJ]
theorem ATu{α:Type}{lt:α->α->Bool}{q:α->Bool}(a:α):∀{l:List α} (s:Nat),(∀x∈l,q x=!(lt x a))->(atF q l s = -1/\put lt a l=l++[a])\/∃k,k<l.length/\atF q l s=((s+k:Nat):Int)/\put lt a l=l.take k++a::l.drop k
 | [],s,_=>.inl ⟨rfl,rfl⟩|z::l,s,h=>by
  have E:=h z (List.mem_cons_self ..);cases e:lt z a with
  |true=>
   have j:q z=false:=by rw[E,e];rfl
   rcases ATu a (l:=l) (s+1) (fun x B=>h x (Au _ B)) with ⟨c,g⟩|⟨k,y,c,g⟩
   .exact .inl ⟨by simp[atF,j,c],by simp[put,e,g]⟩
   .exact .inr ⟨k+1,by simpa using y,by simp only[atF,j,Bool.false_eq_true,if_false,c];omega,by simp[put,e,g]⟩
  |false=>
   grind[atF,put]
theorem Nz{l:List AM}(g:l.length<=1048576)(p:AM):nw l p=some (KF l p):=by
 have hlim:lim=268435456:=rfl;unfold nw gO KF;rw[B4 (by omega),Pq g,AB,BH];rcases IU (fun x:AM=>x.Id==p.Id) l 0 with ⟨j,_,y⟩|⟨k,B,j,_⟩
 .rw[j,AT (by omega),AT (by omega)];have e:AIr l p=some (atF (fun x:AM=>decide (x.Id>p.Id)) l 0):=by
   grind[AIr,PR,AAZ,AOm,BL,BG,AB,AAY,BO,AU]
  rw[e,AB,BH,AU,AU];have h:=List.any_eq_false.1 y;rcases ATu (lt:=J1) (q:=fun x:AM=>decide (x.Id>p.Id)) p (l:=l) 0 (fun x E=>by
   have:=h x E;simp only[beq_iff_eq]at this;unfold J1;rw[Bool.eq_iff_iff];simp;omega) with ⟨a,c⟩|⟨k,B,a,c⟩
  .have:=AYV (l:=l) (k:=l.length) (Nat.le_refl _) g p;rw[a,AW (by omega),this];erw [AB];rw[c];simp
  .have:=AYV (l:=l) (k:=k) (by omega) g p;rw[a,As,AT (by omega),this];erw [AB];rw[c]
 grind[BG,AB]
theorem S4{l:List Ad}(c:l.length<=1048575)(e:Ad):nx l e=some (if J5 l=true/\J5 (put ltE e l)=true then (put ltE e l,true) else (l,false)):=by
 have hlim:lim=268435456:=rfl;unfold nx;rw[TX (by omega),AB];have a:∀i:Nat,i<=l.length->gP l e l i=some (if J5 l=true/\J5 (l.take i++e::l.drop i)=true then (l.take i++e::l.drop i,true) else (l,false)):=by
  intro i hi;have:=AaY (l:=l) (k:=i) hi (by omega) e;unfold gP gQ;rw[TX (by omega)];rw[AB,this]
  erw [AB]
  rw[AB,this]
  erw [AB]
  grind[Ch,AB,WG,AU,CJ]
 refine Ri (lt:=ltE) (fun m=>some (if J5 l=true/\J5 m=true then (m,true) else (l,false))) (by omega) ?_ ?_
 .grind[gR,Vj,BL,BG,AB,RN,AU]
 grind[gR,Vj,BO,AU]
theorem ABf{r:Ae}(h:r.AZ.length<2 ^ 62)(p:AM)(now:Int):AI4 r p now=some (EG r p now):=by
 unfold AI4 Vo EG;rw[MI h,AB];simp only[AU,BK,CJ,bne_iff_ne,ne_eq,beq_iff_eq];by_cases a:Dn r p now=true
 .have g:=E3 a;have j:=CR g.1;have ew:w64 (p.DB+1)=p.DB+1:=Aq (by omega) (by omega);rw[ew];by_cases c:p.State=2
  .by_cases e:p.DB+1=r.Cd
   .have:¬p.DB+1<r.Cd:=by omega
    simp[a,c,e];rfl
   grind
  .simp[a,c];rfl
 .simp[a];rfl
end Lv.P
