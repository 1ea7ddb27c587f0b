/- Plain laws about what the program computes. -/
import Derived.Test.YtnjoipcemhflkaaGreatPKb
import Derived.Test.YtnjoipcemhflkaaGreatKGb
set_option linter.unusedVariables false
set_option linter.unusedSimpArgs false
set_option linter.unusedSectionVars false
open Bool renaming and_eq_true->AF
open Int renaming eq_ofNat_of_zero_le->AX,toNat_natCast->Ac
open List renaming getD_eq_getElem?_getD->A7,getElem?_eq_getElem->AS,length_set->BJ,mem_cons_of_mem->As,pairwise_cons->BV
open Nat renaming zero_add->Aq
namespace Lv.P
open Lv Go
theorem oX{t:List Int}{n:Int}:HW t n=true↔(∀k∈t,0<=k/\k<=w64 (n-1))/\t.Pairwise fun a b=>a≠b:=by
 grind[RW,CO,CA,List.mem_iff_getElem,HW,JY,List.pairwise_iff_getElem]
theorem Yk{t:List Int}{n:Nat}(e:n<=1048576)(h:HW t n=true){k:Int}(a:0<=k)(c:k<n):HW (QP t k) n=true:=by
 grind[QP,oX,A2]
theorem RH.len{h:AE}(hR:RH h):h.AH.length<=4/\h.AH.length=h.AQ.AY.length:=by
 have:=CI hR.rules;have:=hR.Ds;omega
theorem RH.ET{h:AE}(hR:RH h){l:List Int}(a:HW l h.AH.length=true):RH (ET h l):=⟨hR.rules,hR.now,hR.turn,hR.Ds,hR.IE,hR.cab,a,hR.Fk,hR.PE⟩
theorem RH.QS{h:AE}(hR:RH h){l:List Int}(a:JX l h.AH.length=true)(c:l.length=h.A9.length):RH (QS h l):=⟨hR.rules,hR.now,hR.turn,hR.Ds,hR.IE,hR.cab,hR.todo,a,by show (l.length:Int)=_;rw[c];exact hR.PE⟩
theorem RH.put{h:AE}(hR:RH h){k:Int}(a:0<=k)(c:k<h.AH.length):RH (Lv.P.ET h (QP h.BB k)):=hR.ET (Yk (by have:=hR.len;omega) hR.todo a c)
theorem uN{h:AE}(hR:RH h){id:Int}(j:0<=Fw h id):RH (cancelled h id):=by
 have a:=hR.one j;have q:=a.size;have c:=hR.len;unfold cancelled;dsimp only;split
 .rename_i e;refine dZ hR a (g:=ET (dropped h (par h id)) (QP (dropped h (par h id)).BB (par h id).Ab)) (RC hR a e (.inr ⟨rfl,rfl⟩)) rfl rfl rfl rfl (by simp[ET,dropped,Cj]) ?_ rfl;exact Yk (by omega) hR.todo q.2.1.1 (by omega)
 .rename_i e;have s1:(par h id).State=1:=by have:=(E2 a.okp);omega
  have:=a.pid;exact dZ hR a (g:=Te h (par h id).Ab id) (AI3 hR a s1) rfl rfl rfl rfl (by simp[Te,Cj]) hR.todo rfl
theorem ADR{h:AE}(hR:RH h){k:Nat}(B:k<h.AH.length){n:Int}(E:0<=n/\n<=60)(G:(cbn h k).AY.F8+n<=(cbn h k).AY.Fm):RH (Sl h k n):=by
 have q:=hR.len;have j:=hR.cb B;have kl:=Fs.1 j.led;have c:Ed ⟨(cbn h k).AY.Total,(cbn h k).AY.Dv+1*n,(cbn h k).AY.FA+0*n,(cbn h k).AY.Fm+(-1)*n,(cbn h k).AY.F8+0*n⟩=true:=by
  rw[Fs];dsimp only;omega
 have y:=sT j.led E (by omega) (by omega) (by omega) (by omega) c;refine RH.mk' hR.rules hR.now hR.turn (by show (h.AH.set _ _).length=_;rw[BJ];exact hR.Ds) hR.IE ?_ (by show HW (QP h.BB k) ((h.AH.set _ _).length:Nat)=true;rw[BJ];exact Yk (by omega) hR.todo (by omega) (by omega)) (by show JX h.A9 ((h.AH.set _ _).length:Nat)=true;rw[BJ];exact hR.Fk) hR.PE;intro i hi;have g:i<h.AH.length:=by have:i<(h.AH.set (k:Int).toNat _).length:=hi;rw[BJ]at this;exact this
 have a:=hR.cb g;show Vw h.AQ h.AG h.Now i (cbn (Cj h k ⟨(l8 (cbn h k).AY n 1 0 (-1) 0).1,(cbn h k).Row,(cbn h k).By⟩) i);rw[Ij (by omega) (by omega) (by omega)];by_cases e:(i:Int)=k
 .obtain rfl:i=k:=by omega
  rw[AW rfl,y];exact⟨a.row,a.Gr,a.total,by dsimp only;rw[a.held];omega,by dsimp only;rw[a.JG];omega,c,a.room⟩
 .rw[AR e];exact a
theorem sa{h:AE}(hR:RH h){k:Nat}(a:k<h.AH.length):J7 h k=(cbn h k).AY.Fm-(cbn h k).AY.F8:=by
 have kl:=Fs.1 (hR.cb a).led
 grind[J7,cbn,A2]
theorem zu{h:AE}(hR:RH h){id:Int}(G:0<=Fw h id)(L:(par h id).State=2):RH (accepted h id):=by
 have e:=hR.one G;have I:=e.size;have B:=hR.len;have q:APp h (par h id) _ (PJ h (par h id)):=RC hR e L (.inl ⟨rfl,rfl⟩);have j:RH (gone (PJ h (par h id)) (par h id)):=dZ hR e q rfl rfl rfl rfl (by simp[PJ,Cj]) hR.todo rfl;unfold accepted;dsimp only;split
 .rename_i E;obtain⟨k,y⟩:=AX E;have c:k<h.AH.length:=by omega
  rw[y];refine ADR j (by rw[ADb];show k<((PJ h (par h id)).AH.length);simpa[PJ,Cj] using c) (by omega) ?_;have a:=q k c;have kl:=Fs.1 a.led;have J:=a.JG;rw[IX _ I.1,AW y]at J;have H:=AE0 (h.AG.eraseP fun x=>x.Id==id) k;have g:(PJ h (par h id)).AG.eraseP (fun x=>x.Id==(par h id).Id)=h.AG.eraseP fun x=>x.Id==id:=by rw[e.pid];exact e.cut
  grind[cbn,PJ,Fs,gone,Cj,sT]
 .exact j
theorem Ti{h:AE}{id:Int}(a:KY h id=0):0<=Fw h id/\(par h id).State=2:=by
 unfold KY at a;by_cases c:Fw h id<0
 .grind
 .rw[AR c]at a;by_cases e:(h.AG.getD (Fw h id).toNat ym).State=2
  .exact⟨by omega,e⟩
  grind
theorem QR{h:AE}{q:B3}(a:verdict h q=0):Ht h q=0/\KT q=true:=by
 grind[verdict,Ht]
theorem AE6{h:AE}{q:B3}(c:inB q.Kind 1 7=true)(e:KT q=true)(a:Ht h q=0):(q.Kind=1->Xt h q=0)/\(q.Kind=2->¬Fw h q.Id<0) /\
 (q.Kind=3->q.Ab<h.AH.length/\inB q.BE 1 60=true/\q.BE<=J7 h q.Ab)/\(q.Kind=4\/q.Kind=5->KY h q.Id=0)/\(q.Kind=6->h.Now<1000000):=by
 unfold Ht at a;rw[c,e]at a;simp only[Bool.true_eq_false,if_false]at a;refine⟨fun k=>?_,fun k=>?_,fun k=>?_,fun k=>?_,fun k=>?_⟩
 .rw[AW k]at a;exact a
 .grind
 .grind
 .grind
 grind
theorem AWj{q:B3}(h:KT q=true):inB q.Kind 1 7=true:=by
 grind[KT,CA]
theorem GQ{h:AE}{q:B3}(a:verdict h q=0):(q.Kind=1->Xt h q=0)/\(q.Kind=2->¬Fw h q.Id<0) /\
 (q.Kind=3->q.Ab<h.AH.length/\inB q.BE 1 60=true/\q.BE<=J7 h q.Ab)/\(q.Kind=4\/q.Kind=5->KY h q.Id=0)/\(q.Kind=6->h.Now<1000000):=
 AE6 (h:=h) (AWj (QR a).2) (QR a).2 (QR a).1
theorem ADD{h:AE}(hR:RH h){id:Int}(e:0<=Fw h id)(y:(par h id).State=2):RH (ADC h id):=by
 have c:=hR.one e;have q:=c.size;have a:=hR.len;have g:=XZ hR c y;have j:=Qn h (par h id);exact g.put q.2.1.1 (by have:=j.Ds;omega)
theorem AZS:∀{ps:List AU},(∀p∈ps,0<=p.Ab/\p.Ab<4)->(ps.length:Int)=DS ps 0+DS ps 1+DS ps 2+DS ps 3
 | [],_=>rfl|p::ps,h=>by
  have c:=AZS (ps:=ps) fun q a=>h q (As _ a)
  grind[List.mem_cons_self,H5,List.length_cons]
theorem AQH{ps:List AU}{c:Int}(h:∀p∈ps,p.Ab≠c):DS ps c=0:=by
 induction ps with
 |nil=>rfl|cons p ps a=>
  grind[H5,List.mem_cons_self,List.mem_cons_of_mem]
theorem RH.cnt{h:AE}(hR:RH h)(c:Int):DS h.AG c<=h.AQ.Room:=by
 have a:=hR.len;have j:=CI hR.rules;by_cases e:0<=c/\c<h.AH.length
 .obtain⟨k,rfl⟩:=AX e.1;exact(hR.cb (by omega)).room
 .rw[AQH fun p g=>?_]
  .omega
  .have:=E2 (hR.IE.par p g).1;omega
theorem sR{h:AE}{id cabin frm size tier:Int}(hv:verdict h ⟨1,id,cabin,frm,size,tier⟩=0):RH (Mf h id cabin frm size tier)/\(Mf h id cabin frm size tier).AQ=h.AQ/\(Mf h id cabin frm size tier).AG.Perm (Hv h id cabin frm size tier::h.AG)/\∀p∈h.AG,p.Id≠id:=by
 have hR:=GR hv;have hlen:=hR.len;have hr:=CI hR.rules;have O:=hR.now;have hturn:=hR.turn;have j:=(GQ hv).1 rfl;have ha:=(QR hv).2;unfold KT at ha;rw[AW rfl]at ha;simp only[AF,Rv,CA]at ha;obtain⟨_,ha2,ha3,ha4,ha5⟩:=ha;unfold Xt at j;dsimp only at j;by_cases c1:(h.AH.length:Int)<=cabin\/(h.AH.length:Int)<=frm\/frm=cabin
 .rw[AW c1]at j;cases j
 rw[AR c1]at j;by_cases c2:inB size 1 h.AQ.BE=false
 .rw[AW c2]at j;cases j
 rw[AR c2]at j;by_cases c3:h.AQ.CS<=tier
 .rw[AW c3]at j;cases j
 rw[AR c3]at j;by_cases c4:inB id 1 999=false
 .rw[AW c4]at j;cases j
 rw[AR c4]at j;by_cases L:0<=Fw h id
 .rw[AW L]at j;cases j
 rw[AR L]at j;by_cases c6:h.AQ.Room<=DS h.AG cabin
 .rw[AW c6]at j;cases j
 rw[AR c6]at j;by_cases c7:0<=frm/\J7 h frm<size
 .rw[AW c7]at j;cases j
 rw[AR c7]at j;by_cases c8:1000000<h.A0
 .rw[AW c8]at j;cases j
 have J:=CA.1 (by simpa using c2:inB size 1 h.AQ.BE=true);have c4':=CA.1 (by simpa using c4:inB id 1 999=true);have hfresh:∀p∈h.AG,p.Id≠id:=fun p Q e=>L (by have:=(hR.yD Q).1;rw[e]at this;exact this)
 have hpput:∀p:AU,p.Id=id->K8 h.AG p=put Kt p h.AG:=by
  intro p Q;unfold K8;unfold Fw at L;rw[Q,AR L]
 have ew:w64 (h.A0+1)=h.A0+1:=A2 (by omega) (by omega);have S:Dq h.AQ ⟨id,cabin,frm,size,tier,h.Now,h.A0,1,0,0⟩ h.Now=true:=by
  unfold Dq;simp only[AF,CA,Bool.or_eq_true,beq_iff_eq,Bool.not_eq_true',beq_eq_false_iff_ne];have e1:w64 ((h.AQ.AY.length:Int)-1)=(h.AQ.AY.length:Int)-1:=A2 (by omega) (by omega);have e2:w64 (h.AQ.CS-1)=h.AQ.CS-1:=A2 (by omega) (by omega);have e3:w64 (h.AQ.CY-1)=h.AQ.CY-1:=A2 (by omega) (by omega);have e4:w64 (h.Now+h.AQ.Rest)=h.Now+h.AQ.Rest:=A2 (by omega) (by omega);rw[e1,e2,e3,e4];refine⟨hR.rules,O,c4',by omega,by omega,by omega,J,by omega,by omega,by omega,by omega,.inl ⟨trivial,by omega⟩⟩
 have hperm:(put Kt (Hv h id cabin frm size tier) h.AG).Perm (Hv h id cabin frm size tier::h.AG):=YH _ _;have hpn:∀q:AU,q∈Hv h id cabin frm size tier::h.AG->q=Hv h id cabin frm size tier\/q∈h.AG:=fun q E=>List.mem_cons.1 E
 have hPR:QZ h.AQ h.Now (h.A0+1) (put Kt (Hv h id cabin frm size tier) h.AG):=by
  refine⟨?_,?_,?_,?_⟩
  .rw[Ft];have h4:=AZS (ps:=h.AG) fun p Q=>by have:=E2 (hR.IE.par p Q).1;omega
   have r0:=hR.cnt 0;have r1:=hR.cnt 1;have r2:=hR.cnt 2;have r3:=hR.cnt 3;rcases(show cabin=0\/cabin=1\/cabin=2\/cabin=3 by omega) with e|e|e|e<;>rw[e]at c6<;>omega
  .intro q E;rcases hpn q (hperm.subset E) with rfl|E
   .exact⟨S,by show h.A0<h.A0+1;omega⟩
   .have:=hR.IE.par q E;exact⟨this.1,by omega⟩
  .have hd:Rc Kt (Hv h id cabin frm size tier::h.AG):=by
    unfold Rc;rw[BV];refine⟨fun q E=>?_,hR.IE.ids.imp fun h=>.inl (by unfold Kt;rw[decide_eq_true_iff];exact h)⟩;have:=hfresh q E;unfold Kt;rw[decide_eq_true_iff,decide_eq_true_iff];show id<q.Id\/q.Id<id;omega
   have hs:DZ Kt h.AG=h.AG:=P3 mj (hR.IE.ids.imp fun h=>by unfold Kt;rw[decide_eq_true_iff];exact h);have:=MR mj hd;rw[HO,hs]at this;exact this.imp fun h=>by unfold Kt at h;simpa using h
  .rw[hperm.pairwise_iff (fun {a b} h=>by rw[AFP];exact h),BV];refine⟨fun q E=>?_,hR.IE.turns⟩;have h1:=hR.IE.par q E;have h2:=E2 h1.1;unfold Ic Hv;simp only[Bool.or_eq_false_iff,beq_eq_false_iff_ne,Bool.and_eq_false_iff,decide_eq_false_iff_not];refine⟨by omega,.inl (by omega),.inr (by omega)⟩
 have hu:=hPR.uni;have hz:1<=(Hv h id cabin frm size tier).BE/\(Hv h id cabin frm size tier).BE<=6:=⟨J.1,by show size<=6;omega⟩;have hmain:RH (if 0<=frm then JG (Gz ⟨h.AQ,h.Now,w64 (h.A0+1),K8 h.AG (Hv h id cabin frm size tier),h.AH,h.BB,h.A9⟩ (Hv h id cabin frm size tier)) frm size else Gz ⟨h.AQ,h.Now,w64 (h.A0+1),K8 h.AG (Hv h id cabin frm size tier),h.AH,h.BB,h.A9⟩ (Hv h id cabin frm size tier)):=by
  rw[hpput _ rfl,ew];generalize hP:Hv h id cabin frm size tier=p at *;have q1:p.Ab=cabin:=by rw[<-hP];rfl
  have q2:p.Bu=frm:=by rw[<-hP];rfl
  have q3:p.BE=size:=by rw[<-hP];rfl
  have q4:p.State=1:=by rw[<-hP];rfl
  have q5:Dq h.AQ p h.Now=true:=by rw[<-hP];exact S
  have hx:∀i:Nat,i<h.AH.length->Rs h.AQ (put Kt p h.AG) h.AG h.Now i (cbn (Gz ⟨h.AQ,h.Now,h.A0+1,put Kt p h.AG,h.AH,h.BB,h.A9⟩ p) i):=by
   intro i hi;unfold Gz;rw[Ij (by omega) (by show p.Ab<(h.AH.length:Int);omega) (by omega)];have y:=hR.cb hi;refine Rs.perm ?_ (hu.perm hperm) hperm.symm (.refl _);by_cases e:(i:Int)=p.Ab
   .rw[AW e,<-e];refine⟨?_,?_,y.total,?_,y.JG,y.led,?_⟩
    .dsimp only;rw[J9 _ q5 q4,AW e.symm,Ql q5 q4];show put ltE _ (cbn h i).Row=_;rw[y.row]
    .dsimp only;rw[NV _ (by omega)];exact y.Gr
    .dsimp only;rw[NQ _ (by omega)];exact y.held
    .rw[H5,AW e.symm];have:(i:Int)=cabin:=by omega
     rw[this];omega
   .rw[AR e];refine⟨?_,?_,y.total,?_,y.JG,y.led,?_⟩
    .rw[J9 _ q5 q4,AR (Ne.symm e)];exact y.row
    .rw[NV _ (by omega)];exact y.Gr
    .rw[NQ _ (by omega)];exact y.held
    .rw[H5,AR (Ne.symm e),Int.zero_add];exact y.room
  have hXl:(Gz ⟨h.AQ,h.Now,h.A0+1,put Kt p h.AG,h.AH,h.BB,h.A9⟩ p).AH.length=h.AH.length:=by simp[Gz,Cj]
  have hX:Kept (⟨h.AQ,h.Now,h.A0+1,put Kt p h.AG,h.AH,h.BB,h.A9⟩:AE) (Gz ⟨h.AQ,h.Now,h.A0+1,put Kt p h.AG,h.AH,h.BB,h.A9⟩ p):=⟨rfl,rfl,rfl,hXl,rfl,rfl⟩;have hXs:∀i:Nat,(cbn (Gz ⟨h.AQ,h.Now,h.A0+1,put Kt p h.AG,h.AH,h.BB,h.A9⟩ p) i).AY=(cbn h i).AY:=by
   intro i;unfold Gz;rw[Ij (by omega) (by show p.Ab<(h.AH.length:Int);omega) (by omega)];by_cases e:(i:Int)=p.Ab
   .rw[AW e,e];rfl
   .rw[AR e];rfl
  have hXp:(Gz ⟨h.AQ,h.Now,h.A0+1,put Kt p h.AG,h.AH,h.BB,h.A9⟩ p).AG=put Kt p h.AG:=rfl;generalize Gz ⟨h.AQ,h.Now,h.A0+1,put Kt p h.AG,h.AH,h.BB,h.A9⟩ p=X at *;obtain⟨B,I,Z,G,x5,x6⟩:=hX;dsimp only at B I Z G x5 x6;split
  .rename_i f0;obtain⟨k,hk⟩:=AX f0;have hkl:k<h.AH.length:=by omega
   have hlo:=sa hR hkl;have hsz:size<=J7 h frm:=by
    rcases Int.lt_or_le (J7 h frm) size with c|c
    .exact absurd ⟨f0,c⟩ c7
    .exact c
   refine RH.mk' (by show Dz X.AQ=true;rw[B];exact hR.rules) (by show 0<=X.Now/\X.Now<=1000000;rw[I];exact hR.now) (by show 1<=X.A0/\X.A0<=1000001;rw[Z];omega) (by simp only[JG,Cj,BJ];rw[G,B];exact hR.Ds) (by show QZ X.AQ X.Now X.A0 X.AG;rw[B,I,Z,hXp];exact hPR) ?_
    (by simp only[JG,Cj,BJ];rw[G,x5];exact hR.todo) (by simp only[JG,Cj,BJ];rw[G,x6];exact hR.Fk) (by show (X.A9.length:Int)=X.AQ.Cu;rw[x6,B];exact hR.PE)
   intro i hi;have H:i<h.AH.length:=by simp only[JG,Cj,BJ]at hi;rw[G]at hi;exact hi
   have g:=hx i H;unfold JG;rw[Ij f0 (by omega) (by omega)];show Vw X.AQ X.AG X.Now i _;rw[B,I,hXp];refine Rs.full (Rs.perm (ps:=put Kt p h.AG) (qs:=p::h.AG) ?_ hu (.refl _) hperm.symm);by_cases e:(i:Int)=frm
   .obtain rfl:i=k:=by omega
    rw[AW e,<-e];have kl:=Fs.1 g.led;have hsame:=hXs i;have hl:Ed ⟨(cbn X i).AY.Total,(cbn X i).AY.Dv+0*size,(cbn X i).AY.FA+0*size,(cbn X i).AY.Fm+0*size,(cbn X i).AY.F8+1*size⟩=true:=by
     rw[Fs];dsimp only;rw[hk,hlo,<-hsame]at hsz;omega
    rw[sT g.led (by omega) (by omega) (by omega) (by omega) (by omega) hl];refine⟨g.row,g.Gr,g.total,by dsimp only;rw[g.held];omega,?_,hl,g.room⟩;dsimp only;rw[IX _ hz,AW (by omega),g.JG];omega
   .rw[AR e];refine⟨g.row,g.Gr,g.total,g.held,?_,g.led,g.room⟩;rw[IX _ hz,AR (by omega),g.JG];omega
  .rename_i f0;refine RH.mk' (by rw[B];exact hR.rules) (by rw[I];exact hR.now) (by rw[Z];omega) (by rw[G,B];exact hR.Ds) (by rw[B,I,Z,hXp];exact hPR) ?_ (by rw[G,x5];exact hR.todo) (by rw[G,x6];exact hR.Fk) (by rw[x6,B];exact hR.PE);intro i hi;have H:i<h.AH.length:=by omega
   have g:=hx i H;rw[B,I,hXp];refine Rs.full (Rs.perm (ps:=put Kt p h.AG) (qs:=p::h.AG) ?_ hu (.refl _) hperm.symm);refine⟨g.row,g.Gr,g.total,g.held,?_,g.led,g.room⟩;rw[IX _ hz,AR (by omega),g.JG];omega
 unfold Mf;dsimp only;generalize hY:(if 0<=frm then JG (Gz ⟨h.AQ,h.Now,w64 (h.A0+1),K8 h.AG (Hv h id cabin frm size tier),h.AH,h.BB,h.A9⟩ (Hv h id cabin frm size tier)) frm size else Gz ⟨h.AQ,h.Now,w64 (h.A0+1),K8 h.AG (Hv h id cabin frm size tier),h.AH,h.BB,h.A9⟩ (Hv h id cabin frm size tier))=Y at *;have hYc:Y.AH.length=h.AH.length:=by rw[<-hY];split<;>simp[JG,Gz,Cj]
 have hYp:Y.AG=put Kt (Hv h id cabin frm size tier) h.AG:=by rw[<-hY,hpput _ rfl];split<;>rfl
 have hYr:Y.AQ=h.AQ:=by rw[<-hY];split<;>rfl
 exact⟨hmain.put (by omega) (by omega),hYr,by show Y.AG.Perm _;rw[hYp];exact hperm,hfresh⟩
theorem AAT(h:AE)(l:List Int)(j:Int):cbn (ET h l) j=cbn h j:=rfl
theorem APi{h:AE}{i:Nat}(hi:i<h.AH.length){j:Int}(a:0<=j):cbn (LQ h i) j=if j=i then ⟨(cbn h i).AY,Dy h.AQ h.AG i h.Now,(cbn h i).By⟩ else cbn h j:=by
 grind[LQ,AAT,Ij]
structure Tk(h g:AE):Prop where
 rules:g.AQ=h.AQ
 now:g.Now=h.Now
 turn:g.A0=h.A0
 Ds:g.AH.length=h.AH.length
 IE:g.AG=h.AG
 Fk:g.A9=h.A9
theorem AEy{h:AE}{i:Nat}:Tk h (LQ h i):=by
 unfold LQ;dsimp only;split
 .exact⟨rfl,rfl,rfl,by simp[ET,Cj],rfl,rfl⟩
 .exact⟨rfl,rfl,rfl,by simp[Cj],rfl,rfl⟩
theorem AI0{h:AE}{i:Nat}(hi:i<h.AH.length)(c:h.AH.length<=1048576)(a:HW h.BB h.AH.length=true):HW (LQ h i).BB h.AH.length=true:=by
 unfold LQ;dsimp only;split
 .exact Yk c a (by omega) (by omega)
 .exact a
theorem th:∀(k i:Nat) {h:AE},i+k=h.AH.length->h.AH.length<=1048576->HW h.BB h.AH.length=true ->
 Tk h (K0 k i h)/\HW (K0 k i h).BB h.AH.length=true/\∀j:Nat,j<h.AH.length->cbn (K0 k i h) j=if i<=j then ⟨(cbn h j).AY,Dy h.AQ h.AG j h.Now,(cbn h j).By⟩ else cbn h j
 |0,i,h,e,c,g=>⟨⟨rfl,rfl,rfl,rfl,rfl,rfl⟩,g,fun j y=>by rw[AR (by omega)];rfl⟩|k+1,i,h,e,c,g=>by
  have hi:i<h.AH.length:=by omega
  have t:=AEy (h:=h) (i:=i);obtain⟨a,q,a3⟩:=th k (i+1) (h:=LQ h i) (by rw[t.Ds];omega) (by rw[t.Ds];exact c) (by rw[t.Ds];exact AI0 hi c g);unfold K0;refine⟨⟨a.rules.trans t.rules,a.now.trans t.now,a.turn.trans t.turn,a.Ds.trans t.Ds,a.IE.trans t.IE,a.Fk.trans t.Fk⟩,by rw[t.Ds]at q;exact q,?_⟩;intro j y;rw[a3 j (by rw[t.Ds];exact y),t.rules,t.IE,t.now,APi hi (by omega)]
  grind
theorem AEE{r:Aa}{p:AU}{now:Int}(h:Dq r p now=true)(a:now<1000000):Dq r p (now+1)=true:=by
 grind[CI,Dq,CA,A2]
theorem APk{h:AE}(hR:RH h)(O:h.Now<1000000):RH (zX h)/\Tk ⟨h.AQ,h.Now+1,h.A0,h.AG,h.AH,h.BB,h.A9⟩ (zX h):=by
 have I:=hR.len;have J:=hR.now;have ew:w64 (h.Now+1)=h.Now+1:=A2 (by omega) (by omega);unfold zX;rw[ew];obtain⟨G,H,a3⟩:=th h.AH.length 0 (h:=⟨h.AQ,h.Now+1,h.A0,h.AG,h.AH,h.BB,h.A9⟩) (by dsimp only;omega) (by dsimp only;omega) hR.todo;refine⟨?_,G⟩;generalize K0 h.AH.length 0 (⟨h.AQ,h.Now+1,h.A0,h.AG,h.AH,h.BB,h.A9⟩:AE)=g at *;obtain⟨a,j,y,q,B,E⟩:=G;dsimp only at a j y q B E H a3;have hP:QZ h.AQ (h.Now+1) h.A0 h.AG:=⟨hR.IE.few,fun p L=>⟨AEE (hR.IE.par p L).1 O,(hR.IE.par p L).2⟩,hR.IE.ids,hR.IE.turns⟩;refine RH.mk' (by rw[a];exact hR.rules) (by rw[j];omega) (by rw[y];exact hR.turn) (by rw[q,a];exact hR.Ds) (by rw[a,j,y,B];exact hP) ?_ (by rw[q];exact H) (by rw[q,E];exact hR.Fk) (by rw[E,a];exact hR.PE);intro i hi;have e:i<h.AH.length:=by omega
 rw[a,j,B,a3 i e,AW (Nat.zero_le _)];have c:=hR.cb e;exact⟨rfl,c.Gr,c.total,c.held,c.JG,c.led,c.room⟩
theorem ADn{l:List Int}{n:Nat}(e:n<=1048576)(h:JX l n=true)(i:Nat){x:Int}(a:-1<=x)(c:x<n):JX (l.set i x) n=true:=by
 grind[JX,CA,A2]
theorem ANv{h:AE}{who:Int}(E:verdict h ⟨7,who,0,0,0,0⟩=0):RH (Ve h who).1/\(Ve h who).1.AQ=h.AQ:=by
 have hR:=GR E;have q:=hR.len;obtain⟨n,y,e,H⟩:=Ra rfl E;dsimp only at e;have eg:h.A9.getD who.toNat 0=h.A9[n]:=by rw[e,Ac,A7,AS y];rfl
 unfold Ve;rw[eg];split
 .rename_i j;have B:0<h.BB.length:=by
   grind
  have G:h.BB.getD 0 0=h.BB[0]:=by rw[A7,AS B];rfl
  have a:=oX.1 hR.todo;have c:=a.1 _ (List.getElem_mem B);rw[A2 (by omega) (by omega)]at c;have hR1:RH (ET h (h.BB.drop 1)):=hR.ET (oX.2 ⟨fun k g=>a.1 k (List.mem_of_mem_drop g),a.2.sublist (List.drop_sublist _ _)⟩);refine⟨hR1.QS ?_ (by rw[BJ];rfl),rfl⟩;rw[G];exact ADn (by show h.AH.length<=_;omega) hR.Fk _ (by omega) (by show _<(h.AH.length:Int);omega)
 .rename_i j;obtain⟨k,g,ek⟩:=hR.job y j;rw[ek];obtain⟨s1,I,J⟩:=Vk hR g;have sl:=s1.len;refine⟨s1.QS ?_ (by rw[BJ]),I.rules⟩;exact ADn (by omega) s1.Fk _ (by omega) (by omega)
theorem AZb{h:AE}(hR:RH h)(q:B3):RH (doF h q).1/\(doF h q).1.AQ=h.AQ:=by
 unfold doF;by_cases O:verdict h q=0
 .rw[AR (not_not_intro O)];by_cases g:q.Kind=1
  .rw[AW g];unfold bk;by_cases a:verdict h ⟨1,q.Id,q.Ab,q.Bu,q.BE,q.DJ⟩=0
   .rw[AR (not_not_intro a)];have:=sR a;exact⟨this.1,this.2.1⟩
   .rw[AW a];exact⟨hR,rfl⟩
  rw[AR g];by_cases j:q.Kind=2
  .rw[AW j];unfold OU;by_cases a:verdict h ⟨2,q.Id,0,0,0,0⟩=0
   .rw[AR (not_not_intro a)];refine⟨uN hR (by have:=(GQ a).2.1 rfl;dsimp only at this;omega),?_⟩;unfold cancelled;dsimp only;split<;>exact(Zb _ _).rules
   .rw[AW a];exact⟨hR,rfl⟩
  rw[AR j];by_cases y:q.Kind=3
  .rw[AW y];unfold bR;by_cases a:verdict h ⟨3,0,q.Ab,0,q.BE,0⟩=0
   .rw[AR (not_not_intro a)];have c:=(GQ a).2.2.1 rfl;dsimp only at c;obtain⟨_,H,Q⟩:=RZ a;obtain⟨k,I⟩:=AX H;have e:k<h.AH.length:=by omega
    have J:=sa hR e;have L:=CA.1 c.2.1;rw[I]at c ⊢;exact⟨ADR hR e (by omega) (by omega),rfl⟩
   .rw[AW a];exact⟨hR,rfl⟩
  rw[AR y];by_cases B:q.Kind=4
  .rw[AW B];unfold OP;by_cases a:verdict h ⟨4,q.Id,0,0,0,0⟩=0
   .rw[AR (not_not_intro a)];have c:=Ti ((GQ a).2.2.2.1 (.inl rfl));refine⟨zu hR c.1 c.2,?_⟩;unfold accepted;dsimp only;split<;>exact(Zb _ _).rules
   .rw[AW a];exact⟨hR,rfl⟩
  rw[AR B];by_cases E:q.Kind=5
  .rw[AW E];unfold MK;by_cases a:verdict h ⟨5,q.Id,0,0,0,0⟩=0
   .rw[AR (not_not_intro a)];have c:=Ti ((GQ a).2.2.2.1 (.inr rfl));exact⟨ADD hR c.1 c.2,(Qn h _).rules⟩
   .rw[AW a];exact⟨hR,rfl⟩
  rw[AR E];by_cases G:q.Kind=6
  .rw[AW G];unfold cJ;by_cases a:verdict h ⟨6,0,0,0,0,0⟩=0
   .rw[AR (not_not_intro a)];have:=APk hR ((GQ a).2.2.2.2 rfl);exact⟨this.1,this.2.rules⟩
   .rw[AW a];exact⟨hR,rfl⟩
  .rw[AR G];unfold Uu;by_cases a:verdict h ⟨7,q.Id,0,0,0,0⟩=0
   .rw[AR (not_not_intro a)];exact ANv a
   .rw[AW a];exact⟨hR,rfl⟩
 grind
theorem ADG:∀(l:List B3) {h:AE},RH h->RH (Ge l h).1/\(Ge l h).1.AQ=h.AQ
 | [],h,hR=>⟨hR,rfl⟩|q::l,h,hR=>by
  have a:=AZb hR q;have c:=ADG l a.1;exact⟨c.1,c.2.trans a.2⟩
theorem Q2{l:List AU}(a:l.length<=1048576)(id:Int):bK l id=some (atF (fun x=>x.Id==id) l 0):=by
 unfold bK AKd
 grind[Qb,AB,AgK,AKc,BP,BG,AgJ,Bb,AV]
theorem HC{h:AE}(a:Bt h)(id:Int):bL h id=some (Fw h id):=by
 unfold bL;rw[Q2 a.CM,AB];rfl
theorem mX{h:AE}{k:Int}(a:0<=k)(c:k<h.AH.length):AXc h k=some (J7 h k):=by
 unfold AXc;rw[Ff a c,AB,AB];rfl
theorem ASr(p:AU)(now:Int):AQY p now=some (AQ2 p now):=by
 unfold AQY Adr AQ2;rw[AV,AV,CX]
theorem IB{l:List Int}(a:l.length<=1048576)(k:Int):Mw l k=some (QP l k):=by
 grind[lim,Mw,AeL,QP,Tn,AB,O6,Bi,AV,B8]
theorem AFU{c:C}{l:List c.D}{k:Nat}(a:k<l.length):ADE c l (k:Int) ((k+1:Nat):Int)=some (l.take k++l.drop (k+1)):=by
 grind[ADE]
theorem ASu{c:C}{l:List c.D}{k:Nat}(a:k<=l.length)(e:l.length<=1048576)(x:c.D):pI c l (k:Int) [x]=some (l.take k++x::l.drop k):=by
 grind[pI,lim]
theorem AZa{l:List AU}{k:Nat}(a:k<l.length):ACV l (k:Int) ((k:Int)+1)=some (l.take k++l.drop (k+1)):=AFU (c:=.st 2) a
theorem AXi{l:List AU}{k:Nat}(a:k<=l.length)(e:l.length<=1048576)(x:AU):AKX l (k:Int) [x]=some (l.take k++x::l.drop k):=ASu (c:=.st 2) a e x
theorem AZY{l:List Au}{k:Nat}(a:k<l.length):AKZ l (k:Int) ((k:Int)+1)=some (l.take k++l.drop (k+1)):=AFU (c:=.st 4) a
theorem AZl{l:List Au}{k:Nat}(a:k<=l.length)(e:l.length<=1048576)(x:Au):AKY l (k:Int) [x]=some (l.take k++x::l.drop k):=ASu (c:=.st 4) a e x
theorem AZZ{l:List BY}{k:Nat}(a:k<l.length):ACU l (k:Int) ((k:Int)+1)=some (l.take k++l.drop (k+1)):=AFU (c:=.st 5) a
theorem O7{l:List AU}(h:l.length<=1048576)(id:Int):XC l id=some (l.eraseP (fun x=>x.Id==id)):=by
 have hlim:lim=268435456:=rfl;unfold XC jX;rw[B8 (by omega),Q2 h,AB,BQ];rcases JJ (fun x:AU=>x.Id==id) l 0 with ⟨a,c,e⟩|⟨k,g,a,c,e,_⟩
 .rw[a,AR (by omega),AV,c]
 .rw[a,Aq,AW (by omega),A2 (by omega) (by omega)];rw[AZa g];erw [AB];rw[AV,c]
theorem VB{l:List Au}(a:l.length<=1048576):Uc l=some l:=by
 unfold Uc;rw[B8 (by unfold lim;omega)]
theorem Uk{l:List Au}(h:l.length<=1048576)(id:Int):ACZ l id=some (l.eraseP (fun x=>x.Id==id),l.any fun x=>x.Id==id):=by
 have hlim:lim=268435456:=rfl;unfold ACZ;rw[VB h,AB,Xm (by omega),AB,BQ];rcases JJ (fun x:Au=>x.Id==id) l 0 with ⟨a,c,e⟩|⟨k,g,a,c,e,_⟩
 .grind
 .rw[a,Aq,AR (by omega),A2 (by omega) (by omega)];rw[AZY g];erw [AB];rw[c,e]
theorem PC{w:Aw}(B:DV w){p:BY}(E:RG p=true):AQh w p=some (UX w p):=by
 have hlim:lim=268435456:=rfl;have c:=(ND E).1.1;unfold AQh;rw[To B,AB,IC B,AB,VV,E,AB,BK,Bi,AV,AV];unfold UX AeN;by_cases j:G2 w=true
 .rw[AW j,AW ⟨j,c⟩,Bool.not_true,Bb];obtain⟨m,H,y⟩:=cK (n:=p.At) c;have a:m<w.Ar.length:=by have:=(EF.1 j).1;omega
  have I:w.Ar[m].length<=1048576:=Nat.le_trans (Lm a) B.2;rw[y,Ac,A7,AS a,Option.getD_some];simp only[BG a,AB];have q:SZ w.Ar[m] p=some (atF (isP p) w.Ar[m] 0):=by
   grind[SZ,Qb,AgP,isP,BP,BG,AB,jP,Bb,AV]
  rw[q,AB,BQ];rcases JJ (isP p) w.Ar[m] 0 with ⟨e,g,h⟩|⟨k,G,e,g,h,_⟩
  .rw[e,AW (by omega),g,h,List.set_getElem_self]
  .rw[e,Aq,AR (by omega),A2 (by omega) (by omega)];rw[AZZ G];erw [AB];rw[B8 ⟨rfl,⟨by omega,by omega⟩,trivial⟩,g,h]
 grind[BP]
theorem P8{l l':BI}{n a b c d:Int}(h:Ed l=true->0<=n->n<=60->l'=⟨l.Total,w64 (l.Dv+w64 (a*n)),w64 (l.FA+w64 (b*n)),w64 (l.Fm+w64 (c*n)),w64 (l.F8+w64 (d*n))⟩) :
 (if Ed l=true then if inB n 0 60=true then if Ed l'=true then some (l',true) else some (l,false) else some (l,false) else some (l,false))=some (l8 l n a b c d):=by
 unfold l8
 grind[inB]
theorem Na{x:Int}(h:-1000<=x/\x<=1000):w64 x=x:=A2 (by omega) (by omega)
theorem pH(l:BI)(n:Int):rQ l n=some (l8 l n 0 0 0 1):=by
 rw[<-P8 (l':=⟨l.Total,l.Dv,l.FA,l.Fm,w64 (l.F8+n)⟩) fun h a c=>by have:=Fs.1 h;congr 1<;>grind[Na]];unfold rQ AQa Ady AQZ
 grind[GO,Fb,AB,AV,Bi]
theorem Me(l:BI)(n:Int):AKl l n=some (l8 l n 0 0 0 (-1)):=by
 rw[<-P8 (l':=⟨l.Total,l.Dv,l.FA,l.Fm,w64 (l.F8-n)⟩) fun h a c=>by have:=Fs.1 h;congr 1<;>grind[Na]];unfold AKl AQj jW AQi
 grind[GO,Fb,AB,AV,Bi]
theorem mU(l:BI)(n:Int):ACm l n=some (l8 l n (-1) 1 0 0):=by
 rw[<-P8 (l':=⟨l.Total,w64 (l.Dv-n),w64 (l.FA+n),l.Fm,l.F8⟩) fun h a c=>by have:=Fs.1 h;congr 1<;>grind[Na]];unfold ACm AKj AeK AKi
 grind[GO,Fb,AB,AV,Bi]
theorem S6(l:BI)(n:Int):rV l n=some (l8 l n 1 (-1) 0 0):=by
 rw[<-P8 (l':=⟨l.Total,w64 (l.Dv+n),w64 (l.FA-n),l.Fm,l.F8⟩) fun h a c=>by have:=Fs.1 h;congr 1<;>grind[Na]];unfold rV rU jS AKk
 grind[GO,Fb,AB,AV,Bi]
theorem mV(l:BI)(n:Int):AQm l n=some (l8 l n 0 (-1) 1 0):=by
 rw[<-P8 (l':=⟨l.Total,l.Dv,w64 (l.FA-n),w64 (l.Fm+n),l.F8⟩) fun h a c=>by have:=Fs.1 h;congr 1<;>grind[Na]];unfold AQm ACf AeQ AQl
 grind[GO,Fb,AB,AV,Bi]
theorem S7(l:BI)(n:Int):rW l n=some (l8 l n 1 0 (-1) 0):=by
 rw[<-P8 (l':=⟨l.Total,w64 (l.Dv+n),l.FA,w64 (l.Fm-n),l.F8⟩) fun h a c=>by have:=Fs.1 h;congr 1<;>grind[Na]];unfold rW AKn AeP ACc
 grind[GO,Fb,AB,AV,Bi]
theorem ATf{α:Type}{lt:α->α->Bool}{q:α->Bool}(a:α):∀{l:List α} (s:Nat),(∀x∈l,q x=!(lt x a))->(atF q l s = -1/\put lt a l=l++[a])\/∃k,k<l.length/\atF q l s=((s+k:Nat):Int)/\put lt a l=l.take k++a::l.drop k
 | [],s,_=>.inl ⟨rfl,rfl⟩|z::l,s,h=>by
  have E:=h z (List.mem_cons_self ..);cases e:lt z a with
  |true=>
   have j:q z=false:=by rw[E,e];rfl
   rcases ATf a (l:=l) (s+1) (fun x B=>h x (As _ B)) with ⟨c,g⟩|⟨k,y,c,g⟩
   .exact .inl ⟨by simp[atF,j,c],by simp[put,e,g]⟩
   .exact .inr ⟨k+1,by simpa using y,by simp only[atF,j,Bool.false_eq_true,if_false,c];omega,by simp[put,e,g]⟩
  |false=>
   grind[atF,put]
theorem O8{l:List AU}(g:l.length<=1048576)(p:AU):rO l p=some (K8 l p):=by
 have hlim:lim=268435456:=rfl;unfold rO iw K8;rw[B8 (by omega),Q2 g,AB,BQ];rcases JJ (fun x:AU=>x.Id==p.Id) l 0 with ⟨j,_,y⟩|⟨k,B,j,_⟩
 .rw[j,AR (by omega),AR (by omega)];have e:AXf l p=some (atF (fun x:AU=>decide (x.Id>p.Id)) l 0):=by
   grind[AXf,Qb,AgE,AXe,BP,BG,AB,AgD,Bb,AV]
  rw[e,AB,BQ,AV,AV];have h:=List.any_eq_false.1 y;rcases ATf (lt:=Kt) (q:=fun x:AU=>decide (x.Id>p.Id)) p (l:=l) 0 (fun x E=>by
   have:=h x E;simp only[beq_iff_eq]at this;unfold Kt;rw[Bool.eq_iff_iff];simp;omega) with ⟨a,c⟩|⟨k,B,a,c⟩
  .have:=AXi (l:=l) (k:=l.length) (Nat.le_refl _) g p;rw[a,AW (by omega),this];erw [AB];rw[c];simp
  .have:=AXi (l:=l) (k:=k) (by omega) g p;rw[a,Aq,AR (by omega),this];erw [AB];rw[c]
 grind[BG,AB]
theorem Ul{l:List Au}(c:l.length<=1048575)(e:Au):rP l e=some (if Kw l=true/\Kw (put ltE e l)=true then (put ltE e l,true) else (l,false)):=by
 have hlim:lim=268435456:=rfl;unfold rP;rw[VB (by omega),AB];have a:∀i:Nat,i<=l.length->Adv l e l i=some (if Kw l=true/\Kw (l.take i++e::l.drop i)=true then (l.take i++e::l.drop i,true) else (l,false)):=by
  intro i hi;have:=AZl (l:=l) (k:=i) hi (by omega) e;unfold Adv Adw;rw[VB (by omega)];rw[AB,this]
  erw [AB]
  rw[AB,this]
  erw [AB]
  grind[Ce,AB,Xn,AV,Bi]
 refine TN (lt:=ltE) (fun m=>some (if Kw l=true/\Kw m=true then (m,true) else (l,false))) (by omega) ?_ ?_
 .grind[Adx,AcO,BP,BG,AB,Sz,AV]
 grind[Adx,AcO,Bb,AV]
theorem ADj{r:Aa}(h:r.AY.length<2 ^ 62)(p:AU)(now:Int):rX r p now=some (El r p now):=by
 unfold rX AcQ El;rw[M9 h,AB];simp only[AV,BK,Bi,bne_iff_ne,ne_eq,beq_iff_eq];by_cases a:Dq r p now=true
 .have g:=E2 a;have j:=CI g.1;have ew:w64 (p.Dh+1)=p.Dh+1:=A2 (by omega) (by omega);rw[ew];by_cases c:p.State=2
  .by_cases e:p.Dh+1=r.CY
   .have:¬p.Dh+1<r.CY:=by omega
    simp[a,c,e];rfl
   grind
  .simp[a,c];rfl
 .simp[a];rfl
end Lv.P
