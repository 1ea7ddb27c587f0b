/- Plain laws about what the program computes. -/
import Derived.Test.YtdmpkjjlnjchkaaGreatPK5
import Derived.Test.YtdmpkjjlnjchkaaGreatKG5
set_option linter.unusedVariables false
set_option linter.unusedSimpArgs false
set_option linter.unusedSectionVars false
open Bool renaming and_eq_true->AF
open Int renaming eq_ofNat_of_zero_le->Ab
open List renaming length_set->BG,mem_cons_of_mem->A3,pairwise_cons->Bc
open Nat renaming zero_add->Av
namespace Lv.P
open Lv Go
theorem Acu{t:List Int}{n:Int}:Jw t n=true↔(∀k∈t,0<=k/\k<=w64 (n-1))/\t.Pairwise fun a b=>a≠b:=by
 grind[WH,Cc,CY,List.mem_iff_getElem,Jw,KD,List.pairwise_iff_getElem]
theorem Acw{t:List Int}{n:Nat}(e:n<=1048576)(h:Jw t n=true){k:Int}(a:0<=k)(c:k<n):Jw (Wo t k) n=true:=by
 grind[Wo,Acu,Ai]
theorem RH.len{h:AD}(hR:RH h):h.AI.length<=4/\h.AI.length=h.AO.AV.length:=by
 have:=CT hR.rules;have:=hR.EG;omega
theorem RH.FJ{h:AD}(hR:RH h){l:List Int}(a:Jw l h.AI.length=true):RH (FJ h l):=⟨hR.rules,hR.now,hR.turn,hR.EG,hR.Ly,hR.cab,a,hR.F4,hR.Wm⟩
theorem RH.put{h:AD}(hR:RH h){k:Int}(a:0<=k)(c:k<h.AI.length):RH (Lv.P.FJ h (Wo h.BC k)):=hR.FJ (Acw (by have:=hR.len;omega) hR.todo a c)
theorem AVP{h:AD}(hR:RH h){k:Nat}(a:k<h.AI.length):K3 h k=(cbn h k).AV.Ep-(cbn h k).AV.E8:=by
 have kl:=H3.1 (hR.cb a).led
 grind[K3,cbn,Ai]
theorem AAZ{h:AD}{id:Int}(a:LW h id=0):0<=Gi h id/\(par h id).State=2:=by
 unfold LW at a;by_cases c:Gi h id<0
 .grind
 .rw[if_neg c]at a;by_cases e:(h.AG.getD (Gi h id).toNat AFo).State=2
  .exact⟨by omega,e⟩
  grind
theorem Uo{h:AD}{q:BX}(a:verdict h q=0):IL h q=0/\LR q=true:=by
 grind[verdict,IL]
theorem ANA{h:AD}{q:BX}(c:inB q.Kind 1 7=true)(e:LR q=true)(a:IL h q=0):(q.Kind=1->iw h q=0)/\(q.Kind=2->¬Gi h q.Id<0) /\
 (q.Kind=3->q.Aa<h.AI.length/\inB q.A2 1 60=true/\q.A2<=K3 h q.Aa)/\(q.Kind=4\/q.Kind=5->LW h q.Id=0)/\(q.Kind=6->h.Now<1000000):=by
 unfold IL at a;rw[c,e]at a;simp only[Bool.true_eq_false,if_false]at a;refine⟨fun k=>?_,fun k=>?_,fun k=>?_,fun k=>?_,fun k=>?_⟩
 .rw[if_pos k]at a;exact a
 .grind
 .grind
 .grind
 grind
theorem AeA{q:BX}(h:LR q=true):inB q.Kind 1 7=true:=by
 grind[LR,CY]
theorem TO{h:AD}{q:BX}(a:verdict h q=0):(q.Kind=1->iw h q=0)/\(q.Kind=2->¬Gi h q.Id<0) /\
 (q.Kind=3->q.Aa<h.AI.length/\inB q.A2 1 60=true/\q.A2<=K3 h q.Aa)/\(q.Kind=4\/q.Kind=5->LW h q.Id=0)/\(q.Kind=6->h.Now<1000000):=
 ANA (h:=h) (AeA (Uo a).2) (Uo a).2 (Uo a).1
theorem Agt:∀{ps:List AK},(∀p∈ps,0<=p.Aa/\p.Aa<4)->(ps.length:Int)=DQ ps 0+DQ ps 1+DQ ps 2+DQ ps 3
 | [],_=>rfl|p::ps,h=>by
  have c:=Agt (ps:=ps) fun q a=>h q (A3 _ a)
  grind[List.mem_cons_self,JT,List.length_cons]
theorem AX5{ps:List AK}{c:Int}(h:∀p∈ps,p.Aa≠c):DQ ps c=0:=by
 induction ps with
 |nil=>rfl|cons p ps a=>
  grind[JT,List.mem_cons_self,List.mem_cons_of_mem]
theorem RH.cnt{h:AD}(hR:RH h)(c:Int):DQ h.AG c<=h.AO.Room:=by
 have a:=hR.len;have j:=CT hR.rules;by_cases e:0<=c/\c<h.AI.length
 .obtain⟨k,rfl⟩:=Ab e.1;exact(hR.cb (by omega)).room
 .rw[AX5 fun p g=>?_]
  .omega
  .have:=FM (hR.Ly.par p g).1;omega
theorem AVM{h:AD}{id cabin frm size tier:Int}(hv:verdict h ⟨1,id,cabin,frm,size,tier⟩=0):RH (Of h id cabin frm size tier)/\(Of h id cabin frm size tier).AO=h.AO/\(Of h id cabin frm size tier).AG.Perm (IN h id cabin frm size tier::h.AG)/\∀p∈h.AG,p.Id≠id:=by
 have hR:=Hg hv;have hlen:=hR.len;have hr:=CT hR.rules;have O:=hR.now;have hturn:=hR.turn;have j:=(TO hv).1 rfl;have ha:=(Uo hv).2;unfold LR at ha;rw[if_pos rfl]at ha;simp only[AF,Wk,CY]at ha;obtain⟨_,ha2,ha3,ha4,ha5⟩:=ha;unfold iw at j;dsimp only at j;by_cases c1:(h.AI.length:Int)<=cabin\/(h.AI.length:Int)<=frm\/frm=cabin
 .rw[if_pos c1]at j;cases j
 rw[if_neg c1]at j;by_cases c2:inB size 1 h.AO.A2=false
 .rw[if_pos c2]at j;cases j
 rw[if_neg c2]at j;by_cases c3:h.AO.CJ<=tier
 .rw[if_pos c3]at j;cases j
 rw[if_neg c3]at j;by_cases c4:inB id 1 999=false
 .rw[if_pos c4]at j;cases j
 rw[if_neg c4]at j;by_cases L:0<=Gi h id
 .rw[if_pos L]at j;cases j
 rw[if_neg L]at j;by_cases c6:h.AO.Room<=DQ h.AG cabin
 .rw[if_pos c6]at j;cases j
 rw[if_neg c6]at j;by_cases c7:0<=frm/\K3 h frm<size
 .rw[if_pos c7]at j;cases j
 rw[if_neg c7]at j;by_cases c8:1000000<h.Ap
 .rw[if_pos c8]at j;cases j
 have J:=CY.1 (by simpa using c2:inB size 1 h.AO.A2=true);have c4':=CY.1 (by simpa using c4:inB id 1 999=true);have hfresh:∀p∈h.AG,p.Id≠id:=fun p Q e=>L (by have:=(hR.AFH Q).1;rw[e]at this;exact this)
 have hpput:∀p:AK,p.Id=id->MK h.AG p=put Lw p h.AG:=by
  intro p Q;unfold MK;unfold Gi at L;rw[Q,if_neg L]
 have ew:w64 (h.Ap+1)=h.Ap+1:=Ai (by omega) (by omega);have S:D9 h.AO ⟨id,cabin,frm,size,tier,h.Now,h.Ap,1,0,0⟩ h.Now=true:=by
  unfold D9;simp only[AF,CY,Bool.or_eq_true,beq_iff_eq,Bool.not_eq_true',beq_eq_false_iff_ne];have e1:w64 ((h.AO.AV.length:Int)-1)=(h.AO.AV.length:Int)-1:=Ai (by omega) (by omega);have e2:w64 (h.AO.CJ-1)=h.AO.CJ-1:=Ai (by omega) (by omega);have e3:w64 (h.AO.CL-1)=h.AO.CL-1:=Ai (by omega) (by omega);have e4:w64 (h.Now+h.AO.Rest)=h.Now+h.AO.Rest:=Ai (by omega) (by omega);rw[e1,e2,e3,e4];refine⟨hR.rules,O,c4',by omega,by omega,by omega,J,by omega,by omega,by omega,by omega,.inl ⟨trivial,by omega⟩⟩
 have hperm:(put Lw (IN h id cabin frm size tier) h.AG).Perm (IN h id cabin frm size tier::h.AG):=jK _ _;have hpn:∀q:AK,q∈IN h id cabin frm size tier::h.AG->q=IN h id cabin frm size tier\/q∈h.AG:=fun q E=>List.mem_cons.1 E
 have hPR:Wh h.AO h.Now (h.Ap+1) (put Lw (IN h id cabin frm size tier) h.AG):=by
  refine⟨?_,?_,?_,?_⟩
  .rw[Ff];have h4:=Agt (ps:=h.AG) fun p Q=>by have:=FM (hR.Ly.par p Q).1;omega
   have r0:=hR.cnt 0;have r1:=hR.cnt 1;have r2:=hR.cnt 2;have r3:=hR.cnt 3;rcases(show cabin=0\/cabin=1\/cabin=2\/cabin=3 by omega) with e|e|e|e<;>rw[e]at c6<;>omega
  .intro q E;rcases hpn q (hperm.subset E) with rfl|E
   .exact⟨S,by show h.Ap<h.Ap+1;omega⟩
   .have:=hR.Ly.par q E;exact⟨this.1,by omega⟩
  .have hd:WN Lw (IN h id cabin frm size tier::h.AG):=by
    unfold WN;rw[Bc];refine⟨fun q E=>?_,hR.Ly.ids.imp fun h=>.inl (by unfold Lw;rw[decide_eq_true_iff];exact h)⟩;have:=hfresh q E;unfold Lw;rw[decide_eq_true_iff,decide_eq_true_iff];show id<q.Id\/q.Id<id;omega
   have hs:DX Lw h.AG=h.AG:=UB yP (hR.Ly.ids.imp fun h=>by unfold Lw;rw[decide_eq_true_iff];exact h);have:=N5 yP hd;rw[Hc,hs]at this;exact this.imp fun h=>by unfold Lw at h;simpa using h
  .rw[hperm.pairwise_iff (fun {a b} h=>by rw[ANU];exact h),Bc];refine⟨fun q E=>?_,hR.Ly.turns⟩;have h1:=hR.Ly.par q E;have h2:=FM h1.1;unfold I4 IN;simp only[Bool.or_eq_false_iff,beq_eq_false_iff_ne,Bool.and_eq_false_iff,decide_eq_false_iff_not];refine⟨by omega,.inl (by omega),.inr (by omega)⟩
 have hu:=hPR.uni;have hz:1<=(IN h id cabin frm size tier).A2/\(IN h id cabin frm size tier).A2<=6:=⟨J.1,by show size<=6;omega⟩;have hmain:RH (if 0<=frm then K6 (HC ⟨h.AO,h.Now,w64 (h.Ap+1),MK h.AG (IN h id cabin frm size tier),h.AI,h.BC,h.A8⟩ (IN h id cabin frm size tier)) frm size else HC ⟨h.AO,h.Now,w64 (h.Ap+1),MK h.AG (IN h id cabin frm size tier),h.AI,h.BC,h.A8⟩ (IN h id cabin frm size tier)):=by
  rw[hpput _ rfl,ew];generalize hP:IN h id cabin frm size tier=p at *;have q1:p.Aa=cabin:=by rw[<-hP];rfl
  have q2:p.Bl=frm:=by rw[<-hP];rfl
  have q3:p.A2=size:=by rw[<-hP];rfl
  have q4:p.State=1:=by rw[<-hP];rfl
  have q5:D9 h.AO p h.Now=true:=by rw[<-hP];exact S
  have hx:∀i:Nat,i<h.AI.length->Wf h.AO (put Lw p h.AG) h.AG h.Now i (cbn (HC ⟨h.AO,h.Now,h.Ap+1,put Lw p h.AG,h.AI,h.BC,h.A8⟩ p) i):=by
   intro i hi;unfold HC;rw[LZ (by omega) (by show p.Aa<(h.AI.length:Int);omega) (by omega)];have y:=hR.cb hi;refine Wf.perm ?_ (hu.perm hperm) hperm.symm (.refl _);by_cases e:(i:Int)=p.Aa
   .rw[if_pos e,<-e];refine⟨?_,?_,y.total,?_,y.K6,y.led,?_⟩
    .dsimp only;rw[ND _ q5 q4,if_pos e.symm,U6 q5 q4];show put ltE _ (cbn h i).Row=_;rw[y.row]
    .dsimp only;rw[UW _ (by omega)];exact y.Hp
    .dsimp only;rw[T8 _ (by omega)];exact y.held
    .rw[JT,if_pos e.symm];have:(i:Int)=cabin:=by omega
     rw[this];omega
   .rw[if_neg e];refine⟨?_,?_,y.total,?_,y.K6,y.led,?_⟩
    .rw[ND _ q5 q4,if_neg (Ne.symm e)];exact y.row
    .rw[UW _ (by omega)];exact y.Hp
    .rw[T8 _ (by omega)];exact y.held
    .rw[JT,if_neg (Ne.symm e),Int.zero_add];exact y.room
  have hXl:(HC ⟨h.AO,h.Now,h.Ap+1,put Lw p h.AG,h.AI,h.BC,h.A8⟩ p).AI.length=h.AI.length:=by simp[HC,C7]
  have hX:Kept (⟨h.AO,h.Now,h.Ap+1,put Lw p h.AG,h.AI,h.BC,h.A8⟩:AD) (HC ⟨h.AO,h.Now,h.Ap+1,put Lw p h.AG,h.AI,h.BC,h.A8⟩ p):=⟨rfl,rfl,rfl,hXl,rfl,rfl⟩;have hXs:∀i:Nat,(cbn (HC ⟨h.AO,h.Now,h.Ap+1,put Lw p h.AG,h.AI,h.BC,h.A8⟩ p) i).AV=(cbn h i).AV:=by
   intro i;unfold HC;rw[LZ (by omega) (by show p.Aa<(h.AI.length:Int);omega) (by omega)];by_cases e:(i:Int)=p.Aa
   .rw[if_pos e,e];rfl
   .rw[if_neg e];rfl
  have hXp:(HC ⟨h.AO,h.Now,h.Ap+1,put Lw p h.AG,h.AI,h.BC,h.A8⟩ p).AG=put Lw p h.AG:=rfl;generalize HC ⟨h.AO,h.Now,h.Ap+1,put Lw p h.AG,h.AI,h.BC,h.A8⟩ p=X at *;obtain⟨B,I,Z,G,x5,x6⟩:=hX;dsimp only at B I Z G x5 x6;split
  .rename_i f0;obtain⟨k,hk⟩:=Ab f0;have hkl:k<h.AI.length:=by omega
   have hlo:=AVP hR hkl;have hsz:size<=K3 h frm:=by
    rcases Int.lt_or_le (K3 h frm) size with c|c
    .exact absurd ⟨f0,c⟩ c7
    .exact c
   refine RH.mk' (by show Dp X.AO=true;rw[B];exact hR.rules) (by show 0<=X.Now/\X.Now<=1000000;rw[I];exact hR.now) (by show 1<=X.Ap/\X.Ap<=1000001;rw[Z];omega) (by simp only[K6,C7,BG];rw[G,B];exact hR.EG) (by show Wh X.AO X.Now X.Ap X.AG;rw[B,I,Z,hXp];exact hPR) ?_
    (by simp only[K6,C7,BG];rw[G,x5];exact hR.todo) (by simp only[K6,C7,BG];rw[G,x6];exact hR.F4) (by show (X.A8.length:Int)=X.AO.Cs;rw[x6,B];exact hR.Wm)
   intro i hi;have H:i<h.AI.length:=by simp only[K6,C7,BG]at hi;rw[G]at hi;exact hi
   have g:=hx i H;unfold K6;rw[LZ f0 (by omega) (by omega)];show jz X.AO X.AG X.Now i _;rw[B,I,hXp];refine Wf.full (Wf.perm (ps:=put Lw p h.AG) (qs:=p::h.AG) ?_ hu (.refl _) hperm.symm);by_cases e:(i:Int)=frm
   .obtain rfl:i=k:=by omega
    rw[if_pos e,<-e];have kl:=H3.1 g.led;have hsame:=hXs i;have hl:Eh ⟨(cbn X i).AV.Total,(cbn X i).AV.DT+0*size,(cbn X i).AV.EH+0*size,(cbn X i).AV.Ep+0*size,(cbn X i).AV.E8+1*size⟩=true:=by
     rw[H3];dsimp only;rw[hk,hlo,<-hsame]at hsz;omega
    rw[ATr g.led (by omega) (by omega) (by omega) (by omega) (by omega) hl];refine⟨g.row,g.Hp,g.total,by dsimp only;rw[g.held];omega,?_,hl,g.room⟩;dsimp only;rw[J5 _ hz,if_pos (by omega),g.K6];omega
   .rw[if_neg e];refine⟨g.row,g.Hp,g.total,g.held,?_,g.led,g.room⟩;rw[J5 _ hz,if_neg (by omega),g.K6];omega
  .rename_i f0;refine RH.mk' (by rw[B];exact hR.rules) (by rw[I];exact hR.now) (by rw[Z];omega) (by rw[G,B];exact hR.EG) (by rw[B,I,Z,hXp];exact hPR) ?_ (by rw[G,x5];exact hR.todo) (by rw[G,x6];exact hR.F4) (by rw[x6,B];exact hR.Wm);intro i hi;have H:i<h.AI.length:=by omega
   have g:=hx i H;rw[B,I,hXp];refine Wf.full (Wf.perm (ps:=put Lw p h.AG) (qs:=p::h.AG) ?_ hu (.refl _) hperm.symm);refine⟨g.row,g.Hp,g.total,g.held,?_,g.led,g.room⟩;rw[J5 _ hz,if_neg (by omega),g.K6];omega
 unfold Of;dsimp only;generalize hY:(if 0<=frm then K6 (HC ⟨h.AO,h.Now,w64 (h.Ap+1),MK h.AG (IN h id cabin frm size tier),h.AI,h.BC,h.A8⟩ (IN h id cabin frm size tier)) frm size else HC ⟨h.AO,h.Now,w64 (h.Ap+1),MK h.AG (IN h id cabin frm size tier),h.AI,h.BC,h.A8⟩ (IN h id cabin frm size tier))=Y at *;have hYc:Y.AI.length=h.AI.length:=by rw[<-hY];split<;>simp[K6,HC,C7]
 have hYp:Y.AG=put Lw (IN h id cabin frm size tier) h.AG:=by rw[<-hY,hpput _ rfl];split<;>rfl
 have hYr:Y.AO=h.AO:=by rw[<-hY];split<;>rfl
 exact⟨hmain.put (by omega) (by omega),hYr,by show Y.AG.Perm _;rw[hYp];exact hperm,hfresh⟩
theorem AX3(h:AD)(l:List Int)(j:Int):cbn (FJ h l) j=cbn h j:=rfl
structure Tk(h g:AD):Prop where
 rules:g.AO=h.AO
 now:g.Now=h.Now
 turn:g.Ap=h.Ap
 EG:g.AI.length=h.AI.length
 Ly:g.AG=h.AG
 F4:g.A8=h.A8
theorem Acg{h:AD}{i:Nat}:Tk h (Ul h i):=by
 unfold Ul;dsimp only;split
 .exact⟨rfl,rfl,rfl,by simp[FJ,C7],rfl,rfl⟩
 .exact⟨rfl,rfl,rfl,by simp[C7],rfl,rfl⟩
theorem Vk{l:List AK}(a:l.length<=1048576)(id:Int):AA5 l id=some (atF (fun x=>x.Id==id) l 0):=by
 unfold AA5 AIQ
 grind[Uw,AB,AtA,AIN,BH,A7,AwX,BN,AR]
theorem HN{h:AD}(a:Bp h)(id:Int):AA6 h id=some (Gi h id):=by
 unfold AA6;rw[Vk a.CS,AB];rfl
theorem xz{h:AD}{k:Int}(a:0<=k)(c:k<h.AI.length):AIR h k=some (K3 h k):=by
 unfold AIR;rw[Fg a c,AB,AB];rfl
theorem AZ3(p:AK)(now:Int):fV p now=some (AYs p now):=by
 unfold fV BKM AYs;rw[AR,AR,Cv]
theorem Ik{l:List Int}(a:l.length<=1048576)(k:Int):AYN l k=some (Wo l k):=by
 grind[lim,AYN,BKR,Wo,eM,AB,S7,BZ,AR,B9]
theorem ANW{c:C}{l:List c.D}{k:Nat}(a:k<l.length):ALK c l (k:Int) ((k+1:Nat):Int)=some (l.take k++l.drop (k+1)):=by
 grind[ALK]
theorem AZ5{c:C}{l:List c.D}{k:Nat}(a:k<=l.length)(e:l.length<=1048576)(x:c.D):AAH c l (k:Int) [x]=some (l.take k++x::l.drop k):=by
 grind[AAH,lim]
theorem Ag1{l:List AK}{k:Nat}(a:k<l.length):nF l (k:Int) ((k:Int)+1)=some (l.take k++l.drop (k+1)):=ANW (c:=.st 2) a
theorem Ae9{l:List AK}{k:Nat}(a:k<=l.length)(e:l.length<=1048576)(x:AK):AQg l (k:Int) [x]=some (l.take k++x::l.drop k):=AZ5 (c:=.st 2) a e x
theorem Agz{l:List Ad}{k:Nat}(a:k<l.length):AII l (k:Int) ((k:Int)+1)=some (l.take k++l.drop (k+1)):=ANW (c:=.st 4) a
theorem AhB{l:List Ad}{k:Nat}(a:k<=l.length)(e:l.length<=1048576)(x:Ad):AQh l (k:Int) [x]=some (l.take k++x::l.drop k):=AZ5 (c:=.st 4) a e x
theorem Ag0{l:List A6}{k:Nat}(a:k<l.length):rr l (k:Int) ((k:Int)+1)=some (l.take k++l.drop (k+1)):=ANW (c:=.st 5) a
theorem S8{l:List AK}(h:l.length<=1048576)(id:Int):AQv l id=some (l.eraseP (fun x=>x.Id==id)):=by
 have hlim:lim=268435456:=rfl;unfold AQv BKK;rw[B9 (by omega),Vk h,AB,BA];rcases Jz (fun x:AK=>x.Id==id) l 0 with ⟨a,c,e⟩|⟨k,g,a,c,e,_⟩
 .rw[a,if_neg (by omega),AR,c]
 .rw[a,Av,if_pos (by omega),Ai (by omega) (by omega)];rw[Ag1 g];erw [AB];rw[AR,c]
theorem cM{l:List Ad}(a:l.length<=1048576):AQY l=some l:=by
 unfold AQY;rw[B9 (by unfold lim;omega)]
theorem bf{l:List Ad}(h:l.length<=1048576)(id:Int):AQ3 l id=some (l.eraseP (fun x=>x.Id==id),l.any fun x=>x.Id==id):=by
 have hlim:lim=268435456:=rfl;unfold AQ3;rw[cM h,AB,ig (by omega),AB,BA];rcases Jz (fun x:Ad=>x.Id==id) l 0 with ⟨a,c,e⟩|⟨k,g,a,c,e,_⟩
 .grind
 .rw[a,Av,if_neg (by omega),Ai (by omega) (by omega)];rw[Agz g];erw [AB];rw[c,e]
theorem TC{w:An}(B:C1 w){p:A6}(E:V1 p=true):AQ5 w p=some (bM w p):=by
 have hlim:lim=268435456:=rfl;have c:=(PH E).1.1;unfold AQ5;rw[aH B,AB,Il B,AB,dP,E,AB,BI,BZ,AR,AR];unfold bM BKS;by_cases j:HE w=true
 .rw[if_pos j,if_pos ⟨j,c⟩,Bool.not_true,BN];obtain⟨m,H,y⟩:=oB (n:=p.At) c;have a:m<w.Ak.length:=by have:=(Du.1 j).1;omega
  have I:w.Ak[m].length<=1048576:=Nat.le_trans (I0 a) B.2;rw[y,Int.toNat_natCast,List.getD_eq_getElem?_getD,List.getElem?_eq_getElem a,Option.getD_some];simp only[A7 a,AB];have q:AQ4 w.Ak[m] p=some (atF (isP p) w.Ak[m] 0):=by
   grind[AQ4,Uw,fh,isP,BH,A7,AB,AIo,BN,AR]
  rw[q,AB,BA];rcases Jz (isP p) w.Ak[m] 0 with ⟨e,g,h⟩|⟨k,G,e,g,h,_⟩
  .rw[e,if_pos (by omega),g,h,List.set_getElem_self]
  .rw[e,Av,if_neg (by omega),Ai (by omega) (by omega)];rw[Ag0 G];erw [AB];rw[B9 ⟨rfl,⟨by omega,by omega⟩,trivial⟩,g,h]
 grind[BH]
theorem UK{l l':A9}{n a b c d:Int}(h:Eh l=true->0<=n->n<=60->l'=⟨l.Total,w64 (l.DT+w64 (a*n)),w64 (l.EH+w64 (b*n)),w64 (l.Ep+w64 (c*n)),w64 (l.E8+w64 (d*n))⟩) :
 (if Eh l=true then if inB n 0 60=true then if Eh l'=true then some (l',true) else some (l,false) else some (l,false) else some (l,false))=some (l8 l n a b c d):=by
 unfold l8
 grind[inB]
theorem Pk{x:Int}(h:-1000<=x/\x<=1000):w64 x=x:=Ai (by omega) (by omega)
theorem AAG(l:A9)(n:Int):sO l n=some (l8 l n 0 0 0 1):=by
 rw[<-UK (l':=⟨l.Total,l.DT,l.EH,l.Ep,w64 (l.E8+n)⟩) fun h a c=>by have:=H3.1 h;congr 1<;>grind[Pk]];unfold sO AQ1 BKQ AA8
 grind[GZ,Fs,AB,AR,BZ]
theorem Oe(l:A9)(n:Int):rl l n=some (l8 l n 0 0 0 (-1)):=by
 rw[<-UK (l':=⟨l.Total,l.DT,l.EH,l.Ep,w64 (l.E8-n)⟩) fun h a c=>by have:=H3.1 h;congr 1<;>grind[Pk]];unfold rl AQu BKJ HB
 grind[GZ,Fs,AB,AR,BZ]
theorem xw(l:A9)(n:Int):sx l n=some (l8 l n (-1) 1 0 0):=by
 rw[<-UK (l':=⟨l.Total,w64 (l.DT-n),w64 (l.EH+n),l.Ep,l.E8⟩) fun h a c=>by have:=H3.1 h;congr 1<;>grind[Pk]];unfold sx ARK Aj6 ARJ
 grind[GZ,Fs,AB,AR,BZ]
theorem ZQ(l:A9)(n:Int):sS l n=some (l8 l n 1 (-1) 0 0):=by
 rw[<-UK (l':=⟨l.Total,w64 (l.DT+n),w64 (l.EH-n),l.Ep,l.E8⟩) fun h a c=>by have:=H3.1 h;congr 1<;>grind[Pk]];unfold sS AIy BKT AQ6
 grind[GZ,Fs,AB,AR,BZ]
theorem xx(l:A9)(n:Int):ARA l n=some (l8 l n 0 (-1) 1 0):=by
 rw[<-UK (l':=⟨l.Total,l.DT,w64 (l.EH-n),w64 (l.Ep+n),l.E8⟩) fun h a c=>by have:=H3.1 h;congr 1<;>grind[Pk]];unfold ARA AQz As9 AQy
 grind[GZ,Fs,AB,AR,BZ]
theorem ZR(l:A9)(n:Int):AA4 l n=some (l8 l n 1 0 (-1) 0):=by
 rw[<-UK (l':=⟨l.Total,w64 (l.DT+n),l.EH,w64 (l.Ep-n),l.E8⟩) fun h a c=>by have:=H3.1 h;congr 1<;>grind[Pk]];unfold AA4 Lf BKL AQw
 grind[GZ,Fs,AB,AR,BZ]
theorem Aau{α:Type}{lt:α->α->Bool}{q:α->Bool}(a:α):∀{l:List α} (s:Nat),(∀x∈l,q x=!(lt x a))->(atF q l s = -1/\put lt a l=l++[a])\/∃k,k<l.length/\atF q l s=((s+k:Nat):Int)/\put lt a l=l.take k++a::l.drop k
 | [],s,_=>.inl ⟨rfl,rfl⟩|z::l,s,h=>by
  have E:=h z (List.mem_cons_self ..);cases e:lt z a with
  |true=>
   have j:q z=false:=by rw[E,e];rfl
   rcases Aau a (l:=l) (s+1) (fun x B=>h x (A3 _ B)) with ⟨c,g⟩|⟨k,y,c,g⟩
   .exact .inl ⟨by simp[atF,j,c],by simp[put,e,g]⟩
   .exact .inr ⟨k+1,by simpa using y,by simp only[atF,j,Bool.false_eq_true,if_false,c];omega,by simp[put,e,g]⟩
  |false=>
   grind[atF,put]
theorem S9{l:List AK}(g:l.length<=1048576)(p:AK):AYG l p=some (MK l p):=by
 have hlim:lim=268435456:=rfl;unfold AYG BKP MK;rw[B9 (by omega),Vk g,AB,BA];rcases Jz (fun x:AK=>x.Id==p.Id) l 0 with ⟨j,_,y⟩|⟨k,B,j,_⟩
 .rw[j,if_neg (by omega),if_neg (by omega)];have e:AA7 l p=some (atF (fun x:AK=>decide (x.Id>p.Id)) l 0):=by
   grind[AA7,Uw,BA4,AIX,BH,A7,AB,BCh,BN,AR]
  rw[e,AB,BA,AR,AR];have h:=List.any_eq_false.1 y;rcases Aau (lt:=Lw) (q:=fun x:AK=>decide (x.Id>p.Id)) p (l:=l) 0 (fun x E=>by
   have:=h x E;simp only[beq_iff_eq]at this;unfold Lw;rw[Bool.eq_iff_iff];simp;omega) with ⟨a,c⟩|⟨k,B,a,c⟩
  .have:=Ae9 (l:=l) (k:=l.length) (Nat.le_refl _) g p;rw[a,if_pos (by omega),this];erw [AB];rw[c];simp
  .have:=Ae9 (l:=l) (k:=k) (by omega) g p;rw[a,Av,if_neg (by omega),this];erw [AB];rw[c]
 grind[A7,AB]
theorem bg{l:List Ad}(c:l.length<=1048575)(e:Ad):AQ0 l e=some (if MC l=true/\MC (put ltE e l)=true then (put ltE e l,true) else (l,false)):=by
 have hlim:lim=268435456:=rfl;unfold AQ0;rw[cM (by omega),AB];have a:∀i:Nat,i<=l.length->A84 l e l i=some (if MC l=true/\MC (l.take i++e::l.drop i)=true then (l.take i++e::l.drop i,true) else (l,false)):=by
  intro i hi;have:=AhB (l:=l) (k:=i) hi (by omega) e;unfold A84 Ain;rw[cM (by omega)];rw[AB,this]
  erw [AB]
  rw[AB,this]
  erw [AB]
  grind[Cw,AB,ij,AR,BZ]
 refine Zq (lt:=ltE) (fun m=>some (if MC l=true/\MC m=true then (m,true) else (l,false))) (by omega) ?_ ?_
 .grind[Ajo,Aim,BH,A7,AB,ZM,AR]
 grind[Ajo,Aim,BN,AR]
theorem ALj{r:AZ}(h:r.AV.length<2 ^ 62)(p:AK)(now:Int):ARB r p now=some (Eg r p now):=by
 unfold ARB AtL Eg;rw[PD h,AB];simp only[AR,BI,BZ,bne_iff_ne,ne_eq,beq_iff_eq];by_cases a:D9 r p now=true
 .have g:=FM a;have j:=CT g.1;have ew:w64 (p.Cu+1)=p.Cu+1:=Ai (by omega) (by omega);rw[ew];by_cases c:p.State=2
  .by_cases e:p.Cu+1=r.CL
   .have:¬p.Cu+1<r.CL:=by omega
    simp[a,c,e];rfl
   grind
  .simp[a,c];rfl
 .simp[a];rfl
end Lv.P
