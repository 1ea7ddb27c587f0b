/- Plain laws about what the program computes. -/
import Derived.Test.YtnjoipcemhflkaaGreatPKc
import Derived.Test.YtnjoipcemhflkaaGreatKGc
set_option linter.unusedVariables false
set_option linter.unusedSimpArgs false
set_option linter.unusedSectionVars false
open Bool renaming and_eq_true->AF
open Int renaming eq_ofNat_of_zero_le->AZ,toNat_natCast->Ac
open List renaming getD_eq_getElem?_getD->A0,getElem?_eq_getElem->AU,length_set->Am,mem_cons_of_mem->Aq,pairwise_cons->BK
open Nat renaming zero_add->Ao
namespace Lv.P
open Lv Go
theorem je{t:List Int}{n:Int}:Gr t n=true↔(∀k∈t,0<=k/\k<=w64 (n-1))/\t.Pairwise fun a b=>a≠b:=by
 grind[TB,CC,B8,List.mem_iff_getElem,Gr,JY,List.pairwise_iff_getElem]
theorem XX{t:List Int}{n:Nat}(e:n<=1048576)(h:Gr t n=true){k:Int}(a:0<=k)(c:k<n):Gr (QI t k) n=true:=by
 grind[QI,je,A4]
theorem RH.len{h:AE}(hR:RH h):h.AH.length<=4/\h.AH.length=h.AR.AW.length:=by
 have:=B2 hR.rules;have:=hR.De;omega
theorem RH.Dm{h:AE}(hR:RH h){l:List Int}(a:Gr l h.AH.length=true):RH (Dm h l):=⟨hR.rules,hR.now,hR.turn,hR.De,hR.Hk,hR.cab,a,hR.E8,hR.P1⟩
theorem RH.QL{h:AE}(hR:RH h){l:List Int}(a:JW l h.AH.length=true)(c:l.length=h.Ay.length):RH (QL h l):=⟨hR.rules,hR.now,hR.turn,hR.De,hR.Hk,hR.cab,hR.todo,a,by show (l.length:Int)=_;rw[c];exact hR.P1⟩
theorem RH.put{h:AE}(hR:RH h){k:Int}(a:0<=k)(c:k<h.AH.length):RH (Lv.P.Dm h (QI h.Az k)):=hR.Dm (XX (by have:=hR.len;omega) hR.todo a c)
theorem n0{h:AE}(hR:RH h){id:Int}(j:0<=FI h id):RH (cancelled h id):=by
 have a:=hR.one j;have q:=a.size;have c:=hR.len;unfold cancelled;dsimp only;split
 .rename_i e;refine aZ hR a (g:=Dm (dropped h (par h id)) (QI (dropped h (par h id)).Az (par h id).AX)) (Q2 hR a e (.inr ⟨rfl,rfl⟩)) rfl rfl rfl rfl (by simp[Dm,dropped,CS]) ?_ rfl;exact XX (by omega) hR.todo q.2.1.1 (by omega)
 .rename_i e;have s1:(par h id).State=1:=by have:=(Ed a.okp);omega
  have:=a.pid;exact aZ hR a (g:=TC h (par h id).AX id) (ADE hR a s1) rfl rfl rfl rfl (by simp[TC,CS]) hR.todo rfl
theorem yX{h:AE}(hR:RH h){k:Nat}(B:k<h.AH.length){n:Int}(E:0<=n/\n<=60)(G:(cbn h k).AW.FP+n<=(cbn h k).AW.E6):RH (SO h k n):=by
 have q:=hR.len;have j:=hR.cb B;have kl:=FD.1 j.led;have c:EW ⟨(cbn h k).AW.Total,(cbn h k).AW.DP+1*n,(cbn h k).AW.ER+0*n,(cbn h k).AW.E6+(-1)*n,(cbn h k).AW.FP+0*n⟩=true:=by
  rw[FD];dsimp only;omega
 have y:=mS j.led E (by omega) (by omega) (by omega) (by omega) c;refine RH.mk' hR.rules hR.now hR.turn (by show (h.AH.set _ _).length=_;rw[Am];exact hR.De) hR.Hk ?_ (by show Gr (QI h.Az k) ((h.AH.set _ _).length:Nat)=true;rw[Am];exact XX (by omega) hR.todo (by omega) (by omega)) (by show JW h.Ay ((h.AH.set _ _).length:Nat)=true;rw[Am];exact hR.E8) hR.P1;intro i hi;have g:i<h.AH.length:=by have:i<(h.AH.set (k:Int).toNat _).length:=hi;rw[Am]at this;exact this
 have a:=hR.cb g;show VL h.AR h.AG h.Now i (cbn (CS h k ⟨(l8 (cbn h k).AW n 1 0 (-1) 0).1,(cbn h k).Row,(cbn h k).Bl⟩) i);rw[ID (by omega) (by omega) (by omega)];by_cases e:(i:Int)=k
 .obtain rfl:i=k:=by omega
  rw[if_pos rfl,y];exact⟨a.row,a.F4,a.total,by dsimp only;rw[a.held];omega,by dsimp only;rw[a.Is];omega,c,a.room⟩
 .rw[if_neg e];exact a
theorem mZ{h:AE}(hR:RH h){k:Nat}(a:k<h.AH.length):Jr h k=(cbn h k).AW.E6-(cbn h k).AW.FP:=by
 have kl:=FD.1 (hR.cb a).led
 grind[Jr,cbn,A4]
theorem tq{h:AE}(hR:RH h){id:Int}(G:0<=FI h id)(L:(par h id).State=2):RH (accepted h id):=by
 have e:=hR.one G;have I:=e.size;have B:=hR.len;have q:AJS h (par h id) _ (PD h (par h id)):=Q2 hR e L (.inl ⟨rfl,rfl⟩);have j:RH (gone (PD h (par h id)) (par h id)):=aZ hR e q rfl rfl rfl rfl (by simp[PD,CS]) hR.todo rfl;unfold accepted;dsimp only;split
 .rename_i E;obtain⟨k,y⟩:=AZ E;have c:k<h.AH.length:=by omega
  rw[y];refine yX j (by rw[yg];show k<((PD h (par h id)).AH.length);simpa[PD,CS] using c) (by omega) ?_;have a:=q k c;have kl:=FD.1 a.led;have J:=a.Is;rw[H0 _ I.1,if_pos y]at J;have H:=AAL (h.AG.eraseP fun x=>x.Id==id) k;have g:(PD h (par h id)).AG.eraseP (fun x=>x.Id==(par h id).Id)=h.AG.eraseP fun x=>x.Id==id:=by rw[e.pid];exact e.cut
  grind[cbn,PD,FD,gone,CS,mS]
 .exact j
theorem TF{h:AE}{id:Int}(a:KH h id=0):0<=FI h id/\(par h id).State=2:=by
 unfold KH at a;by_cases c:FI h id<0
 .grind
 .rw[if_neg c]at a;by_cases e:(h.AG.getD (FI h id).toNat sR).State=2
  .exact⟨by omega,e⟩
  grind
theorem QK{h:AE}{q:B9}(a:verdict h q=0):HJ h q=0/\KC q=true:=by
 grind[verdict,HJ]
theorem AAX{h:AE}{q:B9}(c:inB q.Kind 1 7=true)(e:KC q=true)(a:HJ h q=0):(q.Kind=1->Ws h q=0)/\(q.Kind=2->¬FI h q.Id<0) /\
 (q.Kind=3->q.AX<h.AH.length/\inB q.A5 1 60=true/\q.A5<=Jr h q.AX)/\(q.Kind=4\/q.Kind=5->KH h q.Id=0)/\(q.Kind=6->h.Now<1000000):=by
 unfold HJ at a;rw[c,e]at a;simp only[Bool.true_eq_false,if_false]at a;refine⟨fun k=>?_,fun k=>?_,fun k=>?_,fun k=>?_,fun k=>?_⟩
 .rw[if_pos k]at a;exact a
 .grind
 .grind
 .grind
 grind
theorem ARK{q:B9}(h:KC q=true):inB q.Kind 1 7=true:=by
 grind[KC,B8]
theorem Ff{h:AE}{q:B9}(a:verdict h q=0):(q.Kind=1->Ws h q=0)/\(q.Kind=2->¬FI h q.Id<0) /\
 (q.Kind=3->q.AX<h.AH.length/\inB q.A5 1 60=true/\q.A5<=Jr h q.AX)/\(q.Kind=4\/q.Kind=5->KH h q.Id=0)/\(q.Kind=6->h.Now<1000000):=
 AAX (h:=h) (ARK (QK a).2) (QK a).2 (QK a).1
theorem yL{h:AE}(hR:RH h){id:Int}(e:0<=FI h id)(y:(par h id).State=2):RH (yK h id):=by
 have c:=hR.one e;have q:=c.size;have a:=hR.len;have g:=Wc hR c y;have j:=Qi h (par h id);exact g.put q.2.1.1 (by have:=j.De;omega)
theorem ATz:∀{ps:List AQ},(∀p∈ps,0<=p.AX/\p.AX<4)->(ps.length:Int)=C2 ps 0+C2 ps 1+C2 ps 2+C2 ps 3
 | [],_=>rfl|p::ps,h=>by
  have c:=ATz (ps:=ps) fun q a=>h q (Aq _ a)
  grind[List.mem_cons_self,HW,List.length_cons]
theorem AJt{ps:List AQ}{c:Int}(h:∀p∈ps,p.AX≠c):C2 ps c=0:=by
 induction ps with
 |nil=>rfl|cons p ps a=>
  grind[HW,List.mem_cons_self,List.mem_cons_of_mem]
theorem RH.cnt{h:AE}(hR:RH h)(c:Int):C2 h.AG c<=h.AR.Room:=by
 have a:=hR.len;have j:=B2 hR.rules;by_cases e:0<=c/\c<h.AH.length
 .obtain⟨k,rfl⟩:=AZ e.1;exact(hR.cb (by omega)).room
 .rw[AJt fun p g=>?_]
  .omega
  .have:=Ed (hR.Hk.par p g).1;omega
theorem mR{h:AE}{id cabin frm size tier:Int}(hv:verdict h ⟨1,id,cabin,frm,size,tier⟩=0):RH (MZ h id cabin frm size tier)/\(MZ h id cabin frm size tier).AR=h.AR/\(MZ h id cabin frm size tier).AG.Perm (HL h id cabin frm size tier::h.AG)/\∀p∈h.AG,p.Id≠id:=by
 have hR:=Fg hv;have hlen:=hR.len;have hr:=B2 hR.rules;have O:=hR.now;have hturn:=hR.turn;have j:=(Ff hv).1 rfl;have ha:=(QK hv).2;unfold KC at ha;rw[if_pos rfl]at ha;simp only[AF,Rh,B8]at ha;obtain⟨_,ha2,ha3,ha4,ha5⟩:=ha;unfold Ws at j;dsimp only at j;by_cases c1:(h.AH.length:Int)<=cabin\/(h.AH.length:Int)<=frm\/frm=cabin
 .rw[if_pos c1]at j;cases j
 rw[if_neg c1]at j;by_cases c2:inB size 1 h.AR.A5=false
 .rw[if_pos c2]at j;cases j
 rw[if_neg c2]at j;by_cases c3:h.AR.CK<=tier
 .rw[if_pos c3]at j;cases j
 rw[if_neg c3]at j;by_cases c4:inB id 1 999=false
 .rw[if_pos c4]at j;cases j
 rw[if_neg c4]at j;by_cases L:0<=FI h id
 .rw[if_pos L]at j;cases j
 rw[if_neg L]at j;by_cases c6:h.AR.Room<=C2 h.AG cabin
 .rw[if_pos c6]at j;cases j
 rw[if_neg c6]at j;by_cases c7:0<=frm/\Jr h frm<size
 .rw[if_pos c7]at j;cases j
 rw[if_neg c7]at j;by_cases c8:1000000<h.As
 .rw[if_pos c8]at j;cases j
 have J:=B8.1 (by simpa using c2:inB size 1 h.AR.A5=true);have c4':=B8.1 (by simpa using c4:inB id 1 999=true);have hfresh:∀p∈h.AG,p.Id≠id:=fun p Q e=>L (by have:=(hR.rX Q).1;rw[e]at this;exact this)
 have hpput:∀p:AQ,p.Id=id->Kw h.AG p=put Kj p h.AG:=by
  intro p Q;unfold Kw;unfold FI at L;rw[Q,if_neg L]
 have ew:w64 (h.As+1)=h.As+1:=A4 (by omega) (by omega);have S:DL h.AR ⟨id,cabin,frm,size,tier,h.Now,h.As,1,0,0⟩ h.Now=true:=by
  unfold DL;simp only[AF,B8,Bool.or_eq_true,beq_iff_eq,Bool.not_eq_true',beq_eq_false_iff_ne];have e1:w64 ((h.AR.AW.length:Int)-1)=(h.AR.AW.length:Int)-1:=A4 (by omega) (by omega);have e2:w64 (h.AR.CK-1)=h.AR.CK-1:=A4 (by omega) (by omega);have e3:w64 (h.AR.CP-1)=h.AR.CP-1:=A4 (by omega) (by omega);have e4:w64 (h.Now+h.AR.Rest)=h.Now+h.AR.Rest:=A4 (by omega) (by omega);rw[e1,e2,e3,e4];refine⟨hR.rules,O,c4',by omega,by omega,by omega,J,by omega,by omega,by omega,by omega,.inl ⟨trivial,by omega⟩⟩
 have hperm:(put Kj (HL h id cabin frm size tier) h.AG).Perm (HL h id cabin frm size tier::h.AG):=W6 _ _;have hpn:∀q:AQ,q∈HL h id cabin frm size tier::h.AG->q=HL h id cabin frm size tier\/q∈h.AG:=fun q E=>List.mem_cons.1 E
 have hPR:QP h.AR h.Now (h.As+1) (put Kj (HL h id cabin frm size tier) h.AG):=by
  refine⟨?_,?_,?_,?_⟩
  .rw[Ey];have h4:=ATz (ps:=h.AG) fun p Q=>by have:=Ed (hR.Hk.par p Q).1;omega
   have r0:=hR.cnt 0;have r1:=hR.cnt 1;have r2:=hR.cnt 2;have r3:=hR.cnt 3;rcases(show cabin=0\/cabin=1\/cabin=2\/cabin=3 by omega) with e|e|e|e<;>rw[e]at c6<;>omega
  .intro q E;rcases hpn q (hperm.subset E) with rfl|E
   .exact⟨S,by show h.As<h.As+1;omega⟩
   .have:=hR.Hk.par q E;exact⟨this.1,by omega⟩
  .have hd:RS Kj (HL h id cabin frm size tier::h.AG):=by
    unfold RS;rw[BK];refine⟨fun q E=>?_,hR.Hk.ids.imp fun h=>.inl (by unfold Kj;rw[decide_eq_true_iff];exact h)⟩;have:=hfresh q E;unfold Kj;rw[decide_eq_true_iff,decide_eq_true_iff];show id<q.Id\/q.Id<id;omega
   have hs:C7 Kj h.AG=h.AG:=Pt iG (hR.Hk.ids.imp fun h=>by unfold Kj;rw[decide_eq_true_iff];exact h);have:=ML iG hd;rw[Gj,hs]at this;exact this.imp fun h=>by unfold Kj at h;simpa using h
  .rw[hperm.pairwise_iff (fun {a b} h=>by rw[AAq];exact h),BK];refine⟨fun q E=>?_,hR.Hk.turns⟩;have h1:=hR.Hk.par q E;have h2:=Ed h1.1;unfold H4 HL;simp only[Bool.or_eq_false_iff,beq_eq_false_iff_ne,Bool.and_eq_false_iff,decide_eq_false_iff_not];refine⟨by omega,.inl (by omega),.inr (by omega)⟩
 have hu:=hPR.uni;have hz:1<=(HL h id cabin frm size tier).A5/\(HL h id cabin frm size tier).A5<=6:=⟨J.1,by show size<=6;omega⟩;have hmain:RH (if 0<=frm then Is (GD ⟨h.AR,h.Now,w64 (h.As+1),Kw h.AG (HL h id cabin frm size tier),h.AH,h.Az,h.Ay⟩ (HL h id cabin frm size tier)) frm size else GD ⟨h.AR,h.Now,w64 (h.As+1),Kw h.AG (HL h id cabin frm size tier),h.AH,h.Az,h.Ay⟩ (HL h id cabin frm size tier)):=by
  rw[hpput _ rfl,ew];generalize hP:HL h id cabin frm size tier=p at *;have q1:p.AX=cabin:=by rw[<-hP];rfl
  have q2:p.BY=frm:=by rw[<-hP];rfl
  have q3:p.A5=size:=by rw[<-hP];rfl
  have q4:p.State=1:=by rw[<-hP];rfl
  have q5:DL h.AR p h.Now=true:=by rw[<-hP];exact S
  have hx:∀i:Nat,i<h.AH.length->Rc h.AR (put Kj p h.AG) h.AG h.Now i (cbn (GD ⟨h.AR,h.Now,h.As+1,put Kj p h.AG,h.AH,h.Az,h.Ay⟩ p) i):=by
   intro i hi;unfold GD;rw[ID (by omega) (by show p.AX<(h.AH.length:Int);omega) (by omega)];have y:=hR.cb hi;refine Rc.perm ?_ (hu.perm hperm) hperm.symm (.refl _);by_cases e:(i:Int)=p.AX
   .rw[if_pos e,<-e];refine⟨?_,?_,y.total,?_,y.Is,y.led,?_⟩
    .dsimp only;rw[Ju _ q5 q4,if_pos e.symm,Qg q5 q4];show put ltE _ (cbn h i).Row=_;rw[y.row]
    .dsimp only;rw[NS _ (by omega)];exact y.F4
    .dsimp only;rw[NP _ (by omega)];exact y.held
    .rw[HW,if_pos e.symm];have:(i:Int)=cabin:=by omega
     rw[this];omega
   .rw[if_neg e];refine⟨?_,?_,y.total,?_,y.Is,y.led,?_⟩
    .rw[Ju _ q5 q4,if_neg (Ne.symm e)];exact y.row
    .rw[NS _ (by omega)];exact y.F4
    .rw[NP _ (by omega)];exact y.held
    .rw[HW,if_neg (Ne.symm e),Int.zero_add];exact y.room
  have hXl:(GD ⟨h.AR,h.Now,h.As+1,put Kj p h.AG,h.AH,h.Az,h.Ay⟩ p).AH.length=h.AH.length:=by simp[GD,CS]
  have hX:Kept (⟨h.AR,h.Now,h.As+1,put Kj p h.AG,h.AH,h.Az,h.Ay⟩:AE) (GD ⟨h.AR,h.Now,h.As+1,put Kj p h.AG,h.AH,h.Az,h.Ay⟩ p):=⟨rfl,rfl,rfl,hXl,rfl,rfl⟩;have hXs:∀i:Nat,(cbn (GD ⟨h.AR,h.Now,h.As+1,put Kj p h.AG,h.AH,h.Az,h.Ay⟩ p) i).AW=(cbn h i).AW:=by
   intro i;unfold GD;rw[ID (by omega) (by show p.AX<(h.AH.length:Int);omega) (by omega)];by_cases e:(i:Int)=p.AX
   .rw[if_pos e,e];rfl
   .rw[if_neg e];rfl
  have hXp:(GD ⟨h.AR,h.Now,h.As+1,put Kj p h.AG,h.AH,h.Az,h.Ay⟩ p).AG=put Kj p h.AG:=rfl;generalize GD ⟨h.AR,h.Now,h.As+1,put Kj p h.AG,h.AH,h.Az,h.Ay⟩ p=X at *;obtain⟨B,I,Z,G,x5,x6⟩:=hX;dsimp only at B I Z G x5 x6;split
  .rename_i f0;obtain⟨k,hk⟩:=AZ f0;have hkl:k<h.AH.length:=by omega
   have hlo:=mZ hR hkl;have hsz:size<=Jr h frm:=by
    rcases Int.lt_or_le (Jr h frm) size with c|c
    .exact absurd ⟨f0,c⟩ c7
    .exact c
   refine RH.mk' (by show Dd X.AR=true;rw[B];exact hR.rules) (by show 0<=X.Now/\X.Now<=1000000;rw[I];exact hR.now) (by show 1<=X.As/\X.As<=1000001;rw[Z];omega) (by simp only[Is,CS,Am];rw[G,B];exact hR.De) (by show QP X.AR X.Now X.As X.AG;rw[B,I,Z,hXp];exact hPR) ?_
    (by simp only[Is,CS,Am];rw[G,x5];exact hR.todo) (by simp only[Is,CS,Am];rw[G,x6];exact hR.E8) (by show (X.Ay.length:Int)=X.AR.Cr;rw[x6,B];exact hR.P1)
   intro i hi;have H:i<h.AH.length:=by simp only[Is,CS,Am]at hi;rw[G]at hi;exact hi
   have g:=hx i H;unfold Is;rw[ID f0 (by omega) (by omega)];show VL X.AR X.AG X.Now i _;rw[B,I,hXp];refine Rc.full (Rc.perm (ps:=put Kj p h.AG) (qs:=p::h.AG) ?_ hu (.refl _) hperm.symm);by_cases e:(i:Int)=frm
   .obtain rfl:i=k:=by omega
    rw[if_pos e,<-e];have kl:=FD.1 g.led;have hsame:=hXs i;have hl:EW ⟨(cbn X i).AW.Total,(cbn X i).AW.DP+0*size,(cbn X i).AW.ER+0*size,(cbn X i).AW.E6+0*size,(cbn X i).AW.FP+1*size⟩=true:=by
     rw[FD];dsimp only;rw[hk,hlo,<-hsame]at hsz;omega
    rw[mS g.led (by omega) (by omega) (by omega) (by omega) (by omega) hl];refine⟨g.row,g.F4,g.total,by dsimp only;rw[g.held];omega,?_,hl,g.room⟩;dsimp only;rw[H0 _ hz,if_pos (by omega),g.Is];omega
   .rw[if_neg e];refine⟨g.row,g.F4,g.total,g.held,?_,g.led,g.room⟩;rw[H0 _ hz,if_neg (by omega),g.Is];omega
  .rename_i f0;refine RH.mk' (by rw[B];exact hR.rules) (by rw[I];exact hR.now) (by rw[Z];omega) (by rw[G,B];exact hR.De) (by rw[B,I,Z,hXp];exact hPR) ?_ (by rw[G,x5];exact hR.todo) (by rw[G,x6];exact hR.E8) (by rw[x6,B];exact hR.P1);intro i hi;have H:i<h.AH.length:=by omega
   have g:=hx i H;rw[B,I,hXp];refine Rc.full (Rc.perm (ps:=put Kj p h.AG) (qs:=p::h.AG) ?_ hu (.refl _) hperm.symm);refine⟨g.row,g.F4,g.total,g.held,?_,g.led,g.room⟩;rw[H0 _ hz,if_neg (by omega),g.Is];omega
 unfold MZ;dsimp only;generalize hY:(if 0<=frm then Is (GD ⟨h.AR,h.Now,w64 (h.As+1),Kw h.AG (HL h id cabin frm size tier),h.AH,h.Az,h.Ay⟩ (HL h id cabin frm size tier)) frm size else GD ⟨h.AR,h.Now,w64 (h.As+1),Kw h.AG (HL h id cabin frm size tier),h.AH,h.Az,h.Ay⟩ (HL h id cabin frm size tier))=Y at *;have hYc:Y.AH.length=h.AH.length:=by rw[<-hY];split<;>simp[Is,GD,CS]
 have hYp:Y.AG=put Kj (HL h id cabin frm size tier) h.AG:=by rw[<-hY,hpput _ rfl];split<;>rfl
 have hYr:Y.AR=h.AR:=by rw[<-hY];split<;>rfl
 exact⟨hmain.put (by omega) (by omega),hYr,by show Y.AG.Perm _;rw[hYp];exact hperm,hfresh⟩
theorem uQ(h:AE)(l:List Int)(j:Int):cbn (Dm h l) j=cbn h j:=rfl
theorem AJK{h:AE}{i:Nat}(hi:i<h.AH.length){j:Int}(a:0<=j):cbn (LD h i) j=if j=i then ⟨(cbn h i).AW,DM h.AR h.AG i h.Now,(cbn h i).Bl⟩ else cbn h j:=by
 grind[LD,uQ,ID]
structure Tk(h g:AE):Prop where
 rules:g.AR=h.AR
 now:g.Now=h.Now
 turn:g.As=h.As
 De:g.AH.length=h.AH.length
 Hk:g.AG=h.AG
 E8:g.Ay=h.Ay
theorem AAJ{h:AE}{i:Nat}:Tk h (LD h i):=by
 unfold LD;dsimp only;split
 .exact⟨rfl,rfl,rfl,by simp[Dm,CS],rfl,rfl⟩
 .exact⟨rfl,rfl,rfl,by simp[CS],rfl,rfl⟩
theorem ADA{h:AE}{i:Nat}(hi:i<h.AH.length)(c:h.AH.length<=1048576)(a:Gr h.Az h.AH.length=true):Gr (LD h i).Az h.AH.length=true:=by
 unfold LD;dsimp only;split
 .exact XX c a (by omega) (by omega)
 .exact a
theorem nR:∀(k i:Nat) {h:AE},i+k=h.AH.length->h.AH.length<=1048576->Gr h.Az h.AH.length=true ->
 Tk h (Kr k i h)/\Gr (Kr k i h).Az h.AH.length=true/\∀j:Nat,j<h.AH.length->cbn (Kr k i h) j=if i<=j then ⟨(cbn h j).AW,DM h.AR h.AG j h.Now,(cbn h j).Bl⟩ else cbn h j
 |0,i,h,e,c,g=>⟨⟨rfl,rfl,rfl,rfl,rfl,rfl⟩,g,fun j y=>by rw[if_neg (by omega)];rfl⟩|k+1,i,h,e,c,g=>by
  have hi:i<h.AH.length:=by omega
  have t:=AAJ (h:=h) (i:=i);obtain⟨a,q,a3⟩:=nR k (i+1) (h:=LD h i) (by rw[t.De];omega) (by rw[t.De];exact c) (by rw[t.De];exact ADA hi c g);unfold Kr;refine⟨⟨a.rules.trans t.rules,a.now.trans t.now,a.turn.trans t.turn,a.De.trans t.De,a.Hk.trans t.Hk,a.E8.trans t.E8⟩,by rw[t.De]at q;exact q,?_⟩;intro j y;rw[a3 j (by rw[t.De];exact y),t.rules,t.Hk,t.now,AJK hi (by omega)]
  grind
theorem zL{r:Aa}{p:AQ}{now:Int}(h:DL r p now=true)(a:now<1000000):DL r p (now+1)=true:=by
 grind[B2,DL,B8,A4]
theorem AJM{h:AE}(hR:RH h)(O:h.Now<1000000):RH (tP h)/\Tk ⟨h.AR,h.Now+1,h.As,h.AG,h.AH,h.Az,h.Ay⟩ (tP h):=by
 have I:=hR.len;have J:=hR.now;have ew:w64 (h.Now+1)=h.Now+1:=A4 (by omega) (by omega);unfold tP;rw[ew];obtain⟨G,H,a3⟩:=nR h.AH.length 0 (h:=⟨h.AR,h.Now+1,h.As,h.AG,h.AH,h.Az,h.Ay⟩) (by dsimp only;omega) (by dsimp only;omega) hR.todo;refine⟨?_,G⟩;generalize Kr h.AH.length 0 (⟨h.AR,h.Now+1,h.As,h.AG,h.AH,h.Az,h.Ay⟩:AE)=g at *;obtain⟨a,j,y,q,B,E⟩:=G;dsimp only at a j y q B E H a3;have hP:QP h.AR (h.Now+1) h.As h.AG:=⟨hR.Hk.few,fun p L=>⟨zL (hR.Hk.par p L).1 O,(hR.Hk.par p L).2⟩,hR.Hk.ids,hR.Hk.turns⟩;refine RH.mk' (by rw[a];exact hR.rules) (by rw[j];omega) (by rw[y];exact hR.turn) (by rw[q,a];exact hR.De) (by rw[a,j,y,B];exact hP) ?_ (by rw[q];exact H) (by rw[q,E];exact hR.E8) (by rw[E,a];exact hR.P1);intro i hi;have e:i<h.AH.length:=by omega
 rw[a,j,B,a3 i e,if_pos (Nat.zero_le _)];have c:=hR.cb e;exact⟨rfl,c.F4,c.total,c.held,c.Is,c.led,c.room⟩
theorem yy{l:List Int}{n:Nat}(e:n<=1048576)(h:JW l n=true)(i:Nat){x:Int}(a:-1<=x)(c:x<n):JW (l.set i x) n=true:=by
 grind[JW,B8,A4]
theorem AHa{h:AE}{who:Int}(E:verdict h ⟨7,who,0,0,0,0⟩=0):RH (U2 h who).1/\(U2 h who).1.AR=h.AR:=by
 have hR:=Fg E;have q:=hR.len;obtain⟨n,y,e,H⟩:=RO rfl E;dsimp only at e;have eg:h.Ay.getD who.toNat 0=h.Ay[n]:=by rw[e,Ac,A0,AU y];rfl
 unfold U2;rw[eg];split
 .rename_i j;have B:0<h.Az.length:=by
   grind
  have G:h.Az.getD 0 0=h.Az[0]:=by rw[A0,AU B];rfl
  have a:=je.1 hR.todo;have c:=a.1 _ (List.getElem_mem B);rw[A4 (by omega) (by omega)]at c;have hR1:RH (Dm h (h.Az.drop 1)):=hR.Dm (je.2 ⟨fun k g=>a.1 k (List.mem_of_mem_drop g),a.2.sublist (List.drop_sublist _ _)⟩);refine⟨hR1.QL ?_ (by rw[Am];rfl),rfl⟩;rw[G];exact yy (by show h.AH.length<=_;omega) hR.E8 _ (by omega) (by show _<(h.AH.length:Int);omega)
 .rename_i j;obtain⟨k,g,ek⟩:=hR.job y j;rw[ek];obtain⟨s1,I,J⟩:=U9 hR g;have sl:=s1.len;refine⟨s1.QL ?_ (by rw[Am]),I.rules⟩;exact yy (by omega) s1.E8 _ (by omega) (by omega)
theorem AT8{h:AE}(hR:RH h)(q:B9):RH (doF h q).1/\(doF h q).1.AR=h.AR:=by
 unfold doF;by_cases O:verdict h q=0
 .rw[if_neg (not_not_intro O)];by_cases g:q.Kind=1
  .rw[if_pos g];unfold Ze;by_cases a:verdict h ⟨1,q.Id,q.AX,q.BY,q.A5,q.Ci⟩=0
   .rw[if_neg (not_not_intro a)];have:=mR a;exact⟨this.1,this.2.1⟩
   .rw[if_pos a];exact⟨hR,rfl⟩
  rw[if_neg g];by_cases j:q.Kind=2
  .rw[if_pos j];unfold OR;by_cases a:verdict h ⟨2,q.Id,0,0,0,0⟩=0
   .rw[if_neg (not_not_intro a)];refine⟨n0 hR (by have:=(Ff a).2.1 rfl;dsimp only at this;omega),?_⟩;unfold cancelled;dsimp only;split<;>exact(YK _ _).rules
   .rw[if_pos a];exact⟨hR,rfl⟩
  rw[if_neg j];by_cases y:q.Kind=3
  .rw[if_pos y];unfold ZR;by_cases a:verdict h ⟨3,0,q.AX,0,q.A5,0⟩=0
   .rw[if_neg (not_not_intro a)];have c:=(Ff a).2.2.1 rfl;dsimp only at c;obtain⟨_,H,Q⟩:=RN a;obtain⟨k,I⟩:=AZ H;have e:k<h.AH.length:=by omega
    have J:=mZ hR e;have L:=B8.1 c.2.1;rw[I]at c ⊢;exact⟨yX hR e (by omega) (by omega),rfl⟩
   .rw[if_pos a];exact⟨hR,rfl⟩
  rw[if_neg y];by_cases B:q.Kind=4
  .rw[if_pos B];unfold OL;by_cases a:verdict h ⟨4,q.Id,0,0,0,0⟩=0
   .rw[if_neg (not_not_intro a)];have c:=TF ((Ff a).2.2.2.1 (.inl rfl));refine⟨tq hR c.1 c.2,?_⟩;unfold accepted;dsimp only;split<;>exact(YK _ _).rules
   .rw[if_pos a];exact⟨hR,rfl⟩
  rw[if_neg B];by_cases E:q.Kind=5
  .rw[if_pos E];unfold MC;by_cases a:verdict h ⟨5,q.Id,0,0,0,0⟩=0
   .rw[if_neg (not_not_intro a)];have c:=TF ((Ff a).2.2.2.1 (.inr rfl));exact⟨yL hR c.1 c.2,(Qi h _).rules⟩
   .rw[if_pos a];exact⟨hR,rfl⟩
  rw[if_neg E];by_cases G:q.Kind=6
  .rw[if_pos G];unfold Zu;by_cases a:verdict h ⟨6,0,0,0,0,0⟩=0
   .rw[if_neg (not_not_intro a)];have:=AJM hR ((Ff a).2.2.2.2 rfl);exact⟨this.1,this.2.rules⟩
   .rw[if_pos a];exact⟨hR,rfl⟩
  .rw[if_neg G];unfold UI;by_cases a:verdict h ⟨7,q.Id,0,0,0,0⟩=0
   .rw[if_neg (not_not_intro a)];exact AHa a
   .rw[if_pos a];exact⟨hR,rfl⟩
 grind
theorem yO:∀(l:List B9) {h:AE},RH h->RH (HM l h).1/\(HM l h).1.AR=h.AR
 | [],h,hR=>⟨hR,rfl⟩|q::l,h,hR=>by
  have a:=AT8 hR q;have c:=yO l a.1;exact⟨c.1,c.2.trans a.2⟩
theorem Qt{l:List AQ}(a:l.length<=1048576)(id:Int):lk l id=some (atF (fun x=>x.Id==id) l 0):=by
 unfold lk AKB
 grind[QR,AB,xg,AKA,BP,A9,xe,BS,AT]
theorem GX{h:AE}(a:Bf h)(id:Int):Mr h id=some (FI h id):=by
 unfold Mr;rw[Qt a.B4,AB];rfl
theorem gw{h:AE}{k:Int}(a:0<=k)(c:k<h.AH.length):ll h k=some (Jr h k):=by
 unfold ll;rw[Ez a c,AB,AB];rfl
theorem ANf(p:AQ)(now:Int):xh p now=some (AKX p now):=by
 unfold xh fG AKX;rw[AT,AT,Cf]
theorem Hi{l:List Int}(a:l.length<=1048576)(k:Int):WO l k=some (QI l k):=by
 grind[lim,WO,eX,QI,VX,AB,O4,Bb,AT,Bt]
theorem AAy{c:C}{l:List c.D}{k:Nat}(a:k<l.length):yM c l (k:Int) ((k+1:Nat):Int)=some (l.take k++l.drop (k+1)):=by
 grind[yM]
theorem ANi{c:C}{l:List c.D}{k:Nat}(a:k<=l.length)(e:l.length<=1048576)(x:c.D):j9 c l (k:Int) [x]=some (l.take k++x::l.drop k):=by
 grind[j9,lim]
theorem AT7{l:List AQ}{k:Nat}(a:k<l.length):ASH l (k:Int) ((k:Int)+1)=some (l.take k++l.drop (k+1)):=AAy (c:=.st 2) a
theorem ASR{l:List AQ}{k:Nat}(a:k<=l.length)(e:l.length<=1048576)(x:AQ):ASE l (k:Int) [x]=some (l.take k++x::l.drop k):=ANi (c:=.st 2) a e x
theorem AT5{l:List Ae}{k:Nat}(a:k<l.length):ASF l (k:Int) ((k:Int)+1)=some (l.take k++l.drop (k+1)):=AAy (c:=.st 4) a
theorem AUJ{l:List Ae}{k:Nat}(a:k<=l.length)(e:l.length<=1048576)(x:Ae):AJ9 l (k:Int) [x]=some (l.take k++x::l.drop k):=ANi (c:=.st 4) a e x
theorem AT6{l:List BB}{k:Nat}(a:k<l.length):ASG l (k:Int) ((k:Int)+1)=some (l.take k++l.drop (k+1)):=AAy (c:=.st 5) a
theorem O5{l:List AQ}(h:l.length<=1048576)(id:Int):WS l id=some (l.eraseP (fun x=>x.Id==id)):=by
 have hlim:lim=268435456:=rfl;unfold WS fS;rw[Bt (by omega),Qt h,AB,BJ];rcases Iw (fun x:AQ=>x.Id==id) l 0 with ⟨a,c,e⟩|⟨k,g,a,c,e,_⟩
 .rw[a,if_neg (by omega),AT,c]
 .rw[a,Ao,if_pos (by omega),A4 (by omega) (by omega)];rw[AT7 g];erw [AB];rw[AT,c]
theorem UZ{l:List Ae}(a:l.length<=1048576):Vv l=some l:=by
 unfold Vv;rw[Bt (by unfold lim;omega)]
theorem T9{l:List Ae}(h:l.length<=1048576)(id:Int):xV l id=some (l.eraseP (fun x=>x.Id==id),l.any fun x=>x.Id==id):=by
 have hlim:lim=268435456:=rfl;unfold xV;rw[UZ h,AB,Wo (by omega),AB,BJ];rcases Iw (fun x:Ae=>x.Id==id) l 0 with ⟨a,c,e⟩|⟨k,g,a,c,e,_⟩
 .grind
 .rw[a,Ao,if_neg (by omega),A4 (by omega) (by omega)];rw[AT5 g];erw [AB];rw[c,e]
theorem O7{w:Aj}(B:Cv w){p:BB}(E:Q7 p=true):lj w p=some (Tz w p):=by
 have hlim:lim=268435456:=rfl;have c:=(NA E).1.1;unfold lj;rw[TJ B,AB,Kg B,AB,Uu,E,AB,BN,Bb,AT,AT];unfold Tz eZ;by_cases j:HK w=true
 .rw[if_pos j,if_pos ⟨j,c⟩,Bool.not_true,BS];obtain⟨m,H,y⟩:=Zv (n:=p.At) c;have a:m<w.Ag.length:=by have:=(DT.1 j).1;omega
  have I:w.Ag[m].length<=1048576:=Nat.le_trans (KB a) B.2;rw[y,Ac,A0,AU a,Option.getD_some];simp only[A9 a,AB];have q:AEv w.Ag[m] p=some (atF (isP p) w.Ag[m] 0):=by
   grind[AEv,QR,xX,isP,BP,A9,AB,xW,BS,AT]
  rw[q,AB,BJ];rcases Iw (isP p) w.Ag[m] 0 with ⟨e,g,h⟩|⟨k,G,e,g,h,_⟩
  .rw[e,if_pos (by omega),g,h,List.set_getElem_self]
  .rw[e,Ao,if_neg (by omega),A4 (by omega) (by omega)];rw[AT6 G];erw [AB];rw[Bt ⟨rfl,⟨by omega,by omega⟩,trivial⟩,g,h]
 grind[BP]
theorem Pz{l l':A3}{n a b c d:Int}(h:EW l=true->0<=n->n<=60->l'=⟨l.Total,w64 (l.DP+w64 (a*n)),w64 (l.ER+w64 (b*n)),w64 (l.E6+w64 (c*n)),w64 (l.FP+w64 (d*n))⟩) :
 (if EW l=true then if inB n 0 60=true then if EW l'=true then some (l',true) else some (l,false) else some (l,false) else some (l,false))=some (l8 l n a b c d):=by
 unfold l8
 grind[inB]
theorem NY{x:Int}(h:-1000<=x/\x<=1000):w64 x=x:=A4 (by omega) (by omega)
theorem j8(l:A3)(n:Int):AEt l n=some (l8 l n 0 0 0 1):=by
 rw[<-Pz (l':=⟨l.Total,l.DP,l.ER,l.E6,w64 (l.FP+n)⟩) fun h a c=>by have:=FD.1 h;congr 1<;>grind[NY]];unfold AEt AJ7 eW AJ6
 grind[Gi,FE,AB,AT,Bb]
theorem MY(l:A3)(n:Int):lq l n=some (l8 l n 0 0 0 (-1)):=by
 rw[<-Pz (l':=⟨l.Total,l.DP,l.ER,l.E6,w64 (l.FP-n)⟩) fun h a c=>by have:=FD.1 h;congr 1<;>grind[NY]];unfold lq AKI fR AKH
 grind[Gi,FE,AB,AT,Bb]
theorem gp(l:A3)(n:Int):AE4 l n=some (l8 l n (-1) 1 0 0):=by
 rw[<-Pz (l':=⟨l.Total,w64 (l.DP-n),w64 (l.ER+n),l.E6,l.FP⟩) fun h a c=>by have:=FD.1 h;congr 1<;>grind[NY]];unfold AE4 AKF fO AKE
 grind[Gi,FE,AB,AT,Bb]
theorem SY(l:A3)(n:Int):xl l n=some (l8 l n 1 (-1) 0 0):=by
 rw[<-Pz (l':=⟨l.Total,w64 (l.DP+n),w64 (l.ER-n),l.E6,l.FP⟩) fun h a c=>by have:=FD.1 h;congr 1<;>grind[NY]];unfold xl AKG fQ AJ8
 grind[Gi,FE,AB,AT,Bb]
theorem gq(l:A3)(n:Int):AFC l n=some (l8 l n 0 (-1) 1 0):=by
 rw[<-Pz (l':=⟨l.Total,l.DP,w64 (l.ER-n),w64 (l.E6+n),l.FP⟩) fun h a c=>by have:=FD.1 h;congr 1<;>grind[NY]];unfold AFC AKM fV AKL
 grind[Gi,FE,AB,AT,Bb]
theorem SZ(l:A3)(n:Int):xm l n=some (l8 l n 1 0 (-1) 0):=by
 rw[<-Pz (l':=⟨l.Total,w64 (l.DP+n),l.ER,w64 (l.E6-n),l.FP⟩) fun h a c=>by have:=FD.1 h;congr 1<;>grind[NY]];unfold xm AKK fU AKJ
 grind[Gi,FE,AB,AT,Bb]
theorem AOT{α:Type}{lt:α->α->Bool}{q:α->Bool}(a:α):∀{l:List α} (s:Nat),(∀x∈l,q x=!(lt x a))->(atF q l s = -1/\put lt a l=l++[a])\/∃k,k<l.length/\atF q l s=((s+k:Nat):Int)/\put lt a l=l.take k++a::l.drop k
 | [],s,_=>.inl ⟨rfl,rfl⟩|z::l,s,h=>by
  have E:=h z (List.mem_cons_self ..);cases e:lt z a with
  |true=>
   have j:q z=false:=by rw[E,e];rfl
   rcases AOT a (l:=l) (s+1) (fun x B=>h x (Aq _ B)) with ⟨c,g⟩|⟨k,y,c,g⟩
   .exact .inl ⟨by simp[atF,j,c],by simp[put,e,g]⟩
   .exact .inr ⟨k+1,by simpa using y,by simp only[atF,j,Bool.false_eq_true,if_false,c];omega,by simp[put,e,g]⟩
  |false=>
   grind[atF,put]
theorem O6{l:List AQ}(g:l.length<=1048576)(p:AQ):ln l p=some (Kw l p):=by
 have hlim:lim=268435456:=rfl;unfold ln fK Kw;rw[Bt (by omega),Qt g,AB,BJ];rcases Iw (fun x:AQ=>x.Id==p.Id) l 0 with ⟨j,_,y⟩|⟨k,B,j,_⟩
 .rw[j,if_neg (by omega),if_neg (by omega)];have e:AE1 l p=some (atF (fun x:AQ=>decide (x.Id>p.Id)) l 0):=by
   grind[AE1,QR,xj,AKC,BP,A9,AB,xi,BS,AT]
  rw[e,AB,BJ,AT,AT];have h:=List.any_eq_false.1 y;rcases AOT (lt:=Kj) (q:=fun x:AQ=>decide (x.Id>p.Id)) p (l:=l) 0 (fun x E=>by
   have:=h x E;simp only[beq_iff_eq]at this;unfold Kj;rw[Bool.eq_iff_iff];simp;omega) with ⟨a,c⟩|⟨k,B,a,c⟩
  .have:=ASR (l:=l) (k:=l.length) (Nat.le_refl _) g p;rw[a,if_pos (by omega),this];erw [AB];rw[c];simp
  .have:=ASR (l:=l) (k:=k) (by omega) g p;rw[a,Ao,if_neg (by omega),this];erw [AB];rw[c]
 grind[A9,AB]
theorem UA{l:List Ae}(c:l.length<=1048575)(e:Ae):lh l e=some (if Km l=true/\Km (put ltE e l)=true then (put ltE e l,true) else (l,false)):=by
 have hlim:lim=268435456:=rfl;unfold lh;rw[UZ (by omega),AB];have a:∀i:Nat,i<=l.length->eT l e l i=some (if Km l=true/\Km (l.take i++e::l.drop i)=true then (l.take i++e::l.drop i,true) else (l,false)):=by
  intro i hi;have:=AUJ (l:=l) (k:=i) hi (by omega) e;unfold eT eU;rw[UZ (by omega)];rw[AB,this]
  erw [AB]
  rw[AB,this]
  erw [AB]
  grind[CQ,AB,Wp,AT,Bb]
 refine So (lt:=ltE) (fun m=>some (if Km l=true/\Km m=true then (m,true) else (l,false))) (by omega) ?_ ?_
 .grind[eV,WN,BP,A9,AB,SW,AT]
 grind[eV,WN,BS,AT]
theorem yr{r:Aa}(h:r.AW.length<2 ^ 62)(p:AQ)(now:Int):AFE r p now=some (D4 r p now):=by
 unfold AFE WU D4;rw[M8 h,AB];simp only[AT,BN,Bb,bne_iff_ne,ne_eq,beq_iff_eq];by_cases a:DL r p now=true
 .have g:=Ed a;have j:=B2 g.1;have ew:w64 (p.Cn+1)=p.Cn+1:=A4 (by omega) (by omega);rw[ew];by_cases c:p.State=2
  .by_cases e:p.Cn+1=r.CP
   .have:¬p.Cn+1<r.CP:=by omega
    simp[a,c,e];rfl
   grind
  .simp[a,c];rfl
 .simp[a];rfl
end Lv.P
