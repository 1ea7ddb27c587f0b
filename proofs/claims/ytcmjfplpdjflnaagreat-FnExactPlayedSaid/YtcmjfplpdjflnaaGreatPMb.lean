/- Plain laws about what the program computes. -/
import Derived.Test.YtcmjfplpdjflnaaGreatPKb
import Derived.Test.YtcmjfplpdjflnaaGreatKGb
set_option linter.unusedVariables false
set_option linter.unusedSimpArgs false
set_option linter.unusedSectionVars false
open Bool renaming and_eq_true->AF
open Int renaming eq_ofNat_of_zero_le->As
open List renaming length_set->Ba,mem_cons_of_mem->Av,pairwise_cons->BU
open Nat renaming zero_add->Ar
namespace Lv.P
open Lv Go
theorem AU9{t:List Int}{n:Int}:Ig t n=true↔(∀k∈t,0<=k/\k<=w64 (n-1))/\t.Pairwise fun a b=>a≠b:=by
 grind[SC,CS,CQ,List.mem_iff_getElem,Ig,Jo,List.pairwise_iff_getElem]
theorem AVB{t:List Int}{n:Nat}(e:n<=1048576)(h:Ig t n=true){k:Int}(a:0<=k)(c:k<n):Ig (Qp t k) n=true:=by
 grind[Qp,AU9,Ah]
theorem RH.len{h:AE}(hR:RH h):h.AH.length<=4/\h.AH.length=h.AQ.AW.length:=by
 have:=CM hR.rules;have:=hR.EU;omega
theorem RH.El{h:AE}(hR:RH h){l:List Int}(a:Ig l h.AH.length=true):RH (El h l):=⟨hR.rules,hR.now,hR.turn,hR.EU,hR.KC,hR.cab,a,hR.GM,hR.Rq⟩
theorem RH.put{h:AE}(hR:RH h){k:Int}(a:0<=k)(c:k<h.AH.length):RH (Lv.P.El h (Qp h.BF k)):=hR.El (AVB (by have:=hR.len;omega) hR.todo a c)
theorem AK7{h:AE}(hR:RH h){k:Nat}(a:k<h.AH.length):JW h k=(cbn h k).AW.FY-(cbn h k).AW.Fx:=by
 have kl:=HH.1 (hR.cb a).led
 grind[JW,cbn,Ah]
theorem lL{h:AE}{id:Int}(a:Jw h id=0):0<=F4 h id/\(par h id).State=2:=by
 unfold Jw at a;by_cases c:F4 h id<0
 .grind
 .rw[AU c]at a;by_cases e:(h.AG.getD (F4 h id).toNat tk).State=2
  .exact⟨by omega,e⟩
  grind
theorem PS{h:AE}{q:Bp}(a:verdict h q=0):HT h q=0/\KN q=true:=by
 grind[verdict,HT]
theorem ACk{h:AE}{q:Bp}(c:inB q.Kind 1 7=true)(e:KN q=true)(a:HT h q=0):(q.Kind=1->WE h q=0)/\(q.Kind=2->¬F4 h q.Id<0) /\
 (q.Kind=3->q.AY<h.AH.length/\inB q.BA 1 60=true/\q.BA<=JW h q.AY)/\(q.Kind=4\/q.Kind=5->Jw h q.Id=0)/\(q.Kind=6->h.Now<1000000):=by
 unfold HT at a;rw[c,e]at a;simp only[Bool.true_eq_false,if_false]at a;refine⟨fun k=>?_,fun k=>?_,fun k=>?_,fun k=>?_,fun k=>?_⟩
 .rw[AX k]at a;exact a
 .grind
 .grind
 .grind
 grind
theorem AWQ{q:Bp}(h:KN q=true):inB q.Kind 1 7=true:=by
 grind[KN,CQ]
theorem OJ{h:AE}{q:Bp}(a:verdict h q=0):(q.Kind=1->WE h q=0)/\(q.Kind=2->¬F4 h q.Id<0) /\
 (q.Kind=3->q.AY<h.AH.length/\inB q.BA 1 60=true/\q.BA<=JW h q.AY)/\(q.Kind=4\/q.Kind=5->Jw h q.Id=0)/\(q.Kind=6->h.Now<1000000):=
 ACk (h:=h) (AWQ (PS a).2) (PS a).2 (PS a).1
theorem AZI:∀{ps:List AN},(∀p∈ps,0<=p.AY/\p.AY<4)->(ps.length:Int)=DF ps 0+DF ps 1+DF ps 2+DF ps 3
 | [],_=>rfl|p::ps,h=>by
  have c:=AZI (ps:=ps) fun q a=>h q (Av _ a)
  grind[List.mem_cons_self,IT,List.length_cons]
theorem ANe{ps:List AN}{c:Int}(h:∀p∈ps,p.AY≠c):DF ps c=0:=by
 induction ps with
 |nil=>rfl|cons p ps a=>
  grind[IT,List.mem_cons_self,List.mem_cons_of_mem]
theorem RH.cnt{h:AE}(hR:RH h)(c:Int):DF h.AG c<=h.AQ.Room:=by
 have a:=hR.len;have j:=CM hR.rules;by_cases e:0<=c/\c<h.AH.length
 .obtain⟨k,rfl⟩:=As e.1;exact(hR.cb (by omega)).room
 .rw[ANe fun p g=>?_]
  .omega
  .have:=E6 (hR.KC.par p g).1;omega
theorem AK5{h:AE}{id cabin frm size tier:Int}(hv:verdict h ⟨1,id,cabin,frm,size,tier⟩=0):RH (Lg h id cabin frm size tier)/\(Lg h id cabin frm size tier).AQ=h.AQ/\(Lg h id cabin frm size tier).AG.Perm (HU h id cabin frm size tier::h.AG)/\∀p∈h.AG,p.Id≠id:=by
 have hR:=Gy hv;have hlen:=hR.len;have hr:=CM hR.rules;have O:=hR.now;have hturn:=hR.turn;have j:=(OJ hv).1 rfl;have ha:=(PS hv).2;unfold KN at ha;rw[AX rfl]at ha;simp only[AF,Ql,CQ]at ha;obtain⟨_,ha2,ha3,ha4,ha5⟩:=ha;unfold WE at j;dsimp only at j;by_cases c1:(h.AH.length:Int)<=cabin\/(h.AH.length:Int)<=frm\/frm=cabin
 .rw[AX c1]at j;cases j
 rw[AU c1]at j;by_cases c2:inB size 1 h.AQ.BA=false
 .rw[AX c2]at j;cases j
 rw[AU c2]at j;by_cases c3:h.AQ.Cb<=tier
 .rw[AX c3]at j;cases j
 rw[AU c3]at j;by_cases c4:inB id 1 999=false
 .rw[AX c4]at j;cases j
 rw[AU c4]at j;by_cases L:0<=F4 h id
 .rw[AX L]at j;cases j
 rw[AU L]at j;by_cases c6:h.AQ.Room<=DF h.AG cabin
 .rw[AX c6]at j;cases j
 rw[AU c6]at j;by_cases c7:0<=frm/\JW h frm<size
 .rw[AX c7]at j;cases j
 rw[AU c7]at j;by_cases c8:1000000<h.Az
 .rw[AX c8]at j;cases j
 have J:=CQ.1 (by simpa using c2:inB size 1 h.AQ.BA=true);have c4':=CQ.1 (by simpa using c4:inB id 1 999=true);have hfresh:∀p∈h.AG,p.Id≠id:=fun p Q e=>L (by have:=(hR.su Q).1;rw[e]at this;exact this)
 have hpput:∀p:AN,p.Id=id->KO h.AG p=put KA p h.AG:=by
  intro p Q;unfold KO;unfold F4 at L;rw[Q,AU L]
 have ew:w64 (h.Az+1)=h.Az+1:=Ah (by omega) (by omega);have S:Dp h.AQ ⟨id,cabin,frm,size,tier,h.Now,h.Az,1,0,0⟩ h.Now=true:=by
  unfold Dp;simp only[AF,CQ,Bool.or_eq_true,beq_iff_eq,Bool.not_eq_true',beq_eq_false_iff_ne];have e1:w64 ((h.AQ.AW.length:Int)-1)=(h.AQ.AW.length:Int)-1:=Ah (by omega) (by omega);have e2:w64 (h.AQ.Cb-1)=h.AQ.Cb-1:=Ah (by omega) (by omega);have e3:w64 (h.AQ.Ca-1)=h.AQ.Ca-1:=Ah (by omega) (by omega);have e4:w64 (h.Now+h.AQ.Rest)=h.Now+h.AQ.Rest:=Ah (by omega) (by omega);rw[e1,e2,e3,e4];refine⟨hR.rules,O,c4',by omega,by omega,by omega,J,by omega,by omega,by omega,by omega,.inl ⟨trivial,by omega⟩⟩
 have hperm:(put KA (HU h id cabin frm size tier) h.AG).Perm (HU h id cabin frm size tier::h.AG):=WU _ _;have hpn:∀q:AN,q∈HU h id cabin frm size tier::h.AG->q=HU h id cabin frm size tier\/q∈h.AG:=fun q E=>List.mem_cons.1 E
 have hPR:Qi h.AQ h.Now (h.Az+1) (put KA (HU h id cabin frm size tier) h.AG):=by
  refine⟨?_,?_,?_,?_⟩
  .rw[FX];have h4:=AZI (ps:=h.AG) fun p Q=>by have:=E6 (hR.KC.par p Q).1;omega
   have r0:=hR.cnt 0;have r1:=hR.cnt 1;have r2:=hR.cnt 2;have r3:=hR.cnt 3;rcases(show cabin=0\/cabin=1\/cabin=2\/cabin=3 by omega) with e|e|e|e<;>rw[e]at c6<;>omega
  .intro q E;rcases hpn q (hperm.subset E) with rfl|E
   .exact⟨S,by show h.Az<h.Az+1;omega⟩
   .have:=hR.KC.par q E;exact⟨this.1,by omega⟩
  .have hd:QX KA (HU h id cabin frm size tier::h.AG):=by
    unfold QX;rw[BU];refine⟨fun q E=>?_,hR.KC.ids.imp fun h=>.inl (by unfold KA;rw[decide_eq_true_iff];exact h)⟩;have:=hfresh q E;unfold KA;rw[decide_eq_true_iff,decide_eq_true_iff];show id<q.Id\/q.Id<id;omega
   have hs:DK KA h.AG=h.AG:=Ow iy (hR.KC.ids.imp fun h=>by unfold KA;rw[decide_eq_true_iff];exact h);have:=LV iy hd;rw[Gv,hs]at this;exact this.imp fun h=>by unfold KA at h;simpa using h
  .rw[hperm.pairwise_iff (fun {a b} h=>by rw[AC3];exact h),BU];refine⟨fun q E=>?_,hR.KC.turns⟩;have h1:=hR.KC.par q E;have h2:=E6 h1.1;unfold H3 HU;simp only[Bool.or_eq_false_iff,beq_eq_false_iff_ne,Bool.and_eq_false_iff,decide_eq_false_iff_not];refine⟨by omega,.inl (by omega),.inr (by omega)⟩
 have hu:=hPR.uni;have hz:1<=(HU h id cabin frm size tier).BA/\(HU h id cabin frm size tier).BA<=6:=⟨J.1,by show size<=6;omega⟩;have hmain:RH (if 0<=frm then JY (GR ⟨h.AQ,h.Now,w64 (h.Az+1),KO h.AG (HU h id cabin frm size tier),h.AH,h.BF,h.BC⟩ (HU h id cabin frm size tier)) frm size else GR ⟨h.AQ,h.Now,w64 (h.Az+1),KO h.AG (HU h id cabin frm size tier),h.AH,h.BF,h.BC⟩ (HU h id cabin frm size tier)):=by
  rw[hpput _ rfl,ew];generalize hP:HU h id cabin frm size tier=p at *;have q1:p.AY=cabin:=by rw[<-hP];rfl
  have q2:p.Bi=frm:=by rw[<-hP];rfl
  have q3:p.BA=size:=by rw[<-hP];rfl
  have q4:p.State=1:=by rw[<-hP];rfl
  have q5:Dp h.AQ p h.Now=true:=by rw[<-hP];exact S
  have hx:∀i:Nat,i<h.AH.length->Qh h.AQ (put KA p h.AG) h.AG h.Now i (cbn (GR ⟨h.AQ,h.Now,h.Az+1,put KA p h.AG,h.AH,h.BF,h.BC⟩ p) i):=by
   intro i hi;unfold GR;rw[Jz (by omega) (by show p.AY<(h.AH.length:Int);omega) (by omega)];have y:=hR.cb hi;refine Qh.perm ?_ (hu.perm hperm) hperm.symm (.refl _);by_cases e:(i:Int)=p.AY
   .rw[AX e,<-e];refine⟨?_,?_,y.total,?_,y.JY,y.led,?_⟩
    .dsimp only;rw[K1 _ q5 q4,AX e.symm,Pm q5 q4];show put ltE _ (cbn h i).Row=_;rw[y.row]
    .dsimp only;rw[PE _ (by omega)];exact y.G6
    .dsimp only;rw[Ot _ (by omega)];exact y.held
    .rw[IT,AX e.symm];have:(i:Int)=cabin:=by omega
     rw[this];omega
   .rw[AU e];refine⟨?_,?_,y.total,?_,y.JY,y.led,?_⟩
    .rw[K1 _ q5 q4,AU (Ne.symm e)];exact y.row
    .rw[PE _ (by omega)];exact y.G6
    .rw[Ot _ (by omega)];exact y.held
    .rw[IT,AU (Ne.symm e),Int.zero_add];exact y.room
  have hXl:(GR ⟨h.AQ,h.Now,h.Az+1,put KA p h.AG,h.AH,h.BF,h.BC⟩ p).AH.length=h.AH.length:=by simp[GR,Cu]
  have hX:Kept (⟨h.AQ,h.Now,h.Az+1,put KA p h.AG,h.AH,h.BF,h.BC⟩:AE) (GR ⟨h.AQ,h.Now,h.Az+1,put KA p h.AG,h.AH,h.BF,h.BC⟩ p):=⟨rfl,rfl,rfl,hXl,rfl,rfl⟩;have hXs:∀i:Nat,(cbn (GR ⟨h.AQ,h.Now,h.Az+1,put KA p h.AG,h.AH,h.BF,h.BC⟩ p) i).AW=(cbn h i).AW:=by
   intro i;unfold GR;rw[Jz (by omega) (by show p.AY<(h.AH.length:Int);omega) (by omega)];by_cases e:(i:Int)=p.AY
   .rw[AX e,e];rfl
   .rw[AU e];rfl
  have hXp:(GR ⟨h.AQ,h.Now,h.Az+1,put KA p h.AG,h.AH,h.BF,h.BC⟩ p).AG=put KA p h.AG:=rfl;generalize GR ⟨h.AQ,h.Now,h.Az+1,put KA p h.AG,h.AH,h.BF,h.BC⟩ p=X at *;obtain⟨B,I,Z,G,x5,x6⟩:=hX;dsimp only at B I Z G x5 x6;split
  .rename_i f0;obtain⟨k,hk⟩:=As f0;have hkl:k<h.AH.length:=by omega
   have hlo:=AK7 hR hkl;have hsz:size<=JW h frm:=by
    rcases Int.lt_or_le (JW h frm) size with c|c
    .exact absurd ⟨f0,c⟩ c7
    .exact c
   refine RH.mk' (by show D4 X.AQ=true;rw[B];exact hR.rules) (by show 0<=X.Now/\X.Now<=1000000;rw[I];exact hR.now) (by show 1<=X.Az/\X.Az<=1000001;rw[Z];omega) (by simp only[JY,Cu,Ba];rw[G,B];exact hR.EU) (by show Qi X.AQ X.Now X.Az X.AG;rw[B,I,Z,hXp];exact hPR) ?_
    (by simp only[JY,Cu,Ba];rw[G,x5];exact hR.todo) (by simp only[JY,Cu,Ba];rw[G,x6];exact hR.GM) (by show (X.BC.length:Int)=X.AQ.Cx;rw[x6,B];exact hR.Rq)
   intro i hi;have H:i<h.AH.length:=by simp only[JY,Cu,Ba]at hi;rw[G]at hi;exact hi
   have g:=hx i H;unfold JY;rw[Jz f0 (by omega) (by omega)];show W6 X.AQ X.AG X.Now i _;rw[B,I,hXp];refine Qh.full (Qh.perm (ps:=put KA p h.AG) (qs:=p::h.AG) ?_ hu (.refl _) hperm.symm);by_cases e:(i:Int)=frm
   .obtain rfl:i=k:=by omega
    rw[AX e,<-e];have kl:=HH.1 g.led;have hsame:=hXs i;have hl:Et ⟨(cbn X i).AW.Total,(cbn X i).AW.Db+0*size,(cbn X i).AW.Ee+0*size,(cbn X i).AW.FY+0*size,(cbn X i).AW.Fx+1*size⟩=true:=by
     rw[HH];dsimp only;rw[hk,hlo,<-hsame]at hsz;omega
    rw[AJT g.led (by omega) (by omega) (by omega) (by omega) (by omega) hl];refine⟨g.row,g.G6,g.total,by dsimp only;rw[g.held];omega,?_,hl,g.room⟩;dsimp only;rw[Is _ hz,AX (by omega),g.JY];omega
   .rw[AU e];refine⟨g.row,g.G6,g.total,g.held,?_,g.led,g.room⟩;rw[Is _ hz,AU (by omega),g.JY];omega
  .rename_i f0;refine RH.mk' (by rw[B];exact hR.rules) (by rw[I];exact hR.now) (by rw[Z];omega) (by rw[G,B];exact hR.EU) (by rw[B,I,Z,hXp];exact hPR) ?_ (by rw[G,x5];exact hR.todo) (by rw[G,x6];exact hR.GM) (by rw[x6,B];exact hR.Rq);intro i hi;have H:i<h.AH.length:=by omega
   have g:=hx i H;rw[B,I,hXp];refine Qh.full (Qh.perm (ps:=put KA p h.AG) (qs:=p::h.AG) ?_ hu (.refl _) hperm.symm);refine⟨g.row,g.G6,g.total,g.held,?_,g.led,g.room⟩;rw[Is _ hz,AU (by omega),g.JY];omega
 unfold Lg;dsimp only;generalize hY:(if 0<=frm then JY (GR ⟨h.AQ,h.Now,w64 (h.Az+1),KO h.AG (HU h id cabin frm size tier),h.AH,h.BF,h.BC⟩ (HU h id cabin frm size tier)) frm size else GR ⟨h.AQ,h.Now,w64 (h.Az+1),KO h.AG (HU h id cabin frm size tier),h.AH,h.BF,h.BC⟩ (HU h id cabin frm size tier))=Y at *;have hYc:Y.AH.length=h.AH.length:=by rw[<-hY];split<;>simp[JY,GR,Cu]
 have hYp:Y.AG=put KA (HU h id cabin frm size tier) h.AG:=by rw[<-hY,hpput _ rfl];split<;>rfl
 have hYr:Y.AQ=h.AQ:=by rw[<-hY];split<;>rfl
 exact⟨hmain.put (by omega) (by omega),hYr,by show Y.AG.Perm _;rw[hYp];exact hperm,hfresh⟩
theorem ANc(h:AE)(l:List Int)(j:Int):cbn (El h l) j=cbn h j:=rfl
structure Tk(h g:AE):Prop where
 rules:g.AQ=h.AQ
 now:g.Now=h.Now
 turn:g.Az=h.Az
 EU:g.AH.length=h.AH.length
 KC:g.AG=h.AG
 GM:g.BC=h.BC
theorem AU0{h:AE}{i:Nat}:Tk h (PQ h i):=by
 unfold PQ;dsimp only;split
 .exact⟨rfl,rfl,rfl,by simp[El,Cu],rfl,rfl⟩
 .exact⟨rfl,rfl,rfl,by simp[Cu],rfl,rfl⟩
theorem P5{l:List AN}(a:l.length<=1048576)(id:Int):mj l id=some (atF (fun x=>x.Id==id) l 0):=by
 unfold mj AN0
 grind[Pc,AB,zh,ANz,BK,BJ,zg,BL,AV]
theorem Gj{h:AE}(a:B0 h)(id:Int):L0 h id=some (F4 h id):=by
 unfold L0;rw[P5 a.CP,AB];rfl
theorem iZ{h:AE}{k:Int}(a:0<=k)(c:k<h.AH.length):ml h k=some (JW h k):=by
 unfold ml;rw[FG a c,AB,AB];rfl
theorem ASV(p:AN)(now:Int):zx p now=some (AOR p now):=by
 unfold zx fN AOR;rw[AV,AV,Cp]
theorem Hj{l:List Int}(a:l.length<=1048576)(k:Int):Ve l k=some (Qp l k):=by
 grind[lim,Ve,fW,Qp,SL,AB,N5,B7,AV,B8]
theorem AC8{c:C}{l:List c.D}{k:Nat}(a:k<l.length):AAs c l (k:Int) ((k+1:Nat):Int)=some (l.take k++l.drop (k+1)):=by
 grind[AAs]
theorem ASY{c:C}{l:List c.D}{k:Nat}(a:k<=l.length)(e:l.length<=1048576)(x:c.D):kq c l (k:Int) [x]=some (l.take k++x::l.drop k):=by
 grind[kq,lim]
theorem AZQ{l:List AN}{k:Nat}(a:k<l.length):AXM l (k:Int) ((k:Int)+1)=some (l.take k++l.drop (k+1)):=AC8 (c:=.st 2) a
theorem AXc{l:List AN}{k:Nat}(a:k<=l.length)(e:l.length<=1048576)(x:AN):AXN l (k:Int) [x]=some (l.take k++x::l.drop k):=ASY (c:=.st 2) a e x
theorem AZO{l:List Af}{k:Nat}(a:k<l.length):AXK l (k:Int) ((k:Int)+1)=some (l.take k++l.drop (k+1)):=AC8 (c:=.st 4) a
theorem AZY{l:List Af}{k:Nat}(a:k<=l.length)(e:l.length<=1048576)(x:Af):AN3 l (k:Int) [x]=some (l.take k++x::l.drop k):=ASY (c:=.st 4) a e x
theorem AZP{l:List BH}{k:Nat}(a:k<l.length):AXL l (k:Int) ((k:Int)+1)=some (l.take k++l.drop (k+1)):=AC8 (c:=.st 5) a
theorem N6{l:List AN}(h:l.length<=1048576)(id:Int):Vf l id=some (l.eraseP (fun x=>x.Id==id)):=by
 have hlim:lim=268435456:=rfl;unfold Vf fe;rw[B8 (by omega),P5 h,AB,BQ];rcases Ik (fun x:AN=>x.Id==id) l 0 with ⟨a,c,e⟩|⟨k,g,a,c,e,_⟩
 .rw[a,AU (by omega),AV,c]
 .rw[a,Ar,AX (by omega),Ah (by omega) (by omega)];rw[AZQ g];erw [AB];rw[AV,c]
theorem Ti{l:List Af}(a:l.length<=1048576):VI l=some l:=by
 unfold VI;rw[B8 (by unfold lim;omega)]
theorem TJ{l:List Af}(h:l.length<=1048576)(id:Int):z6 l id=some (l.eraseP (fun x=>x.Id==id),l.any fun x=>x.Id==id):=by
 have hlim:lim=268435456:=rfl;unfold z6;rw[Ti h,AB,V7 (by omega),AB,BQ];rcases Ik (fun x:Af=>x.Id==id) l 0 with ⟨a,c,e⟩|⟨k,g,a,c,e,_⟩
 .grind
 .rw[a,Ar,AU (by omega),Ah (by omega) (by omega)];rw[AZO g];erw [AB];rw[c,e]
theorem N9{w:A0}(B:DW w){p:BH}(E:QG p=true):mu w p=some (S6 w p):=by
 have hlim:lim=268435456:=rfl;have c:=(MS E).1.1;unfold mu;rw[SM B,AB,J6 B,AB,T4,E,AB,BB,B7,AV,AV];unfold S6 fZ;by_cases j:H5 w=true
 .rw[AX j,AX ⟨j,c⟩,Bool.not_true,BL];obtain⟨m,H,y⟩:=Zm (n:=p.At) c;have a:m<w.Ao.length:=by have:=(Dr.1 j).1;omega
  have I:w.Ao[m].length<=1048576:=Nat.le_trans (Ir a) B.2;rw[y,Int.toNat_natCast,List.getD_eq_getElem?_getD,List.getElem?_eq_getElem a,Option.getD_some];simp only[BJ a,AB];have q:AIE w.Ao[m] p=some (atF (isP p) w.Ao[m] 0):=by
   grind[AIE,Pc,z8,isP,BK,BJ,AB,z7,BL,AV]
  rw[q,AB,BQ];rcases Ik (isP p) w.Ao[m] 0 with ⟨e,g,h⟩|⟨k,G,e,g,h,_⟩
  .rw[e,AX (by omega),g,h,List.set_getElem_self]
  .rw[e,Ar,AU (by omega),Ah (by omega) (by omega)];rw[AZP G];erw [AB];rw[B8 ⟨rfl,⟨by omega,by omega⟩,trivial⟩,g,h]
 grind[BK]
theorem O2{l l':BE}{n a b c d:Int}(h:Et l=true->0<=n->n<=60->l'=⟨l.Total,w64 (l.Db+w64 (a*n)),w64 (l.Ee+w64 (b*n)),w64 (l.FY+w64 (c*n)),w64 (l.Fx+w64 (d*n))⟩) :
 (if Et l=true then if inB n 0 60=true then if Et l'=true then some (l',true) else some (l,false) else some (l,false) else some (l,false))=some (l8 l n a b c d):=by
 unfold l8
 grind[inB]
theorem Mn{x:Int}(h:-1000<=x/\x<=1000):w64 x=x:=Ah (by omega) (by omega)
theorem ko(l:BE)(n:Int):AIC l n=some (l8 l n 0 0 0 1):=by
 rw[<-O2 (l':=⟨l.Total,l.Db,l.Ee,l.FY,w64 (l.Fx+n)⟩) fun h a c=>by have:=HH.1 h;congr 1<;>grind[Mn]];unfold AIC AN9 fV AN8
 grind[Ft,FD,AB,AV,B7]
theorem Lf(l:BE)(n:Int):mw l n=some (l8 l n 0 0 0 (-1)):=by
 rw[<-O2 (l':=⟨l.Total,l.Db,l.Ee,l.FY,w64 (l.Fx-n)⟩) fun h a c=>by have:=HH.1 h;congr 1<;>grind[Mn]];unfold mw AOD fc AOC
 grind[Ft,FD,AB,AV,B7]
theorem iW(l:BE)(n:Int):AIS l n=some (l8 l n (-1) 1 0 0):=by
 rw[<-O2 (l':=⟨l.Total,w64 (l.Db-n),w64 (l.Ee+n),l.FY,l.Fx⟩) fun h a c=>by have:=HH.1 h;congr 1<;>grind[Mn]];unfold AIS AOJ gM AOI
 grind[Ft,FD,AB,AV,B7]
theorem Re(l:BE)(n:Int):AAA l n=some (l8 l n 1 (-1) 0 0):=by
 rw[<-O2 (l':=⟨l.Total,w64 (l.Db+n),w64 (l.Ee-n),l.FY,l.Fx⟩) fun h a c=>by have:=HH.1 h;congr 1<;>grind[Mn]];unfold AAA AOB fb AOA
 grind[Ft,FD,AB,AV,B7]
theorem iX(l:BE)(n:Int):AH3 l n=some (l8 l n 0 (-1) 1 0):=by
 rw[<-O2 (l':=⟨l.Total,l.Db,w64 (l.Ee-n),w64 (l.FY+n),l.Fx⟩) fun h a c=>by have:=HH.1 h;congr 1<;>grind[Mn]];unfold AH3 AN5 fG AN4
 grind[Ft,FD,AB,AV,B7]
theorem Rf(l:BE)(n:Int):AAB l n=some (l8 l n 1 0 (-1) 0):=by
 rw[<-O2 (l':=⟨l.Total,w64 (l.Db+n),l.Ee,w64 (l.FY-n),l.Fx⟩) fun h a c=>by have:=HH.1 h;congr 1<;>grind[Mn]];unfold AAB AOF fj AOE
 grind[Ft,FD,AB,AV,B7]
theorem ATL{α:Type}{lt:α->α->Bool}{q:α->Bool}(a:α):∀{l:List α} (s:Nat),(∀x∈l,q x=!(lt x a))->(atF q l s = -1/\put lt a l=l++[a])\/∃k,k<l.length/\atF q l s=((s+k:Nat):Int)/\put lt a l=l.take k++a::l.drop k
 | [],s,_=>.inl ⟨rfl,rfl⟩|z::l,s,h=>by
  have E:=h z (List.mem_cons_self ..);cases e:lt z a with
  |true=>
   have j:q z=false:=by rw[E,e];rfl
   rcases ATL a (l:=l) (s+1) (fun x B=>h x (Av _ B)) with ⟨c,g⟩|⟨k,y,c,g⟩
   .exact .inl ⟨by simp[atF,j,c],by simp[put,e,g]⟩
   .exact .inr ⟨k+1,by simpa using y,by simp only[atF,j,Bool.false_eq_true,if_false,c];omega,by simp[put,e,g]⟩
  |false=>
   grind[atF,put]
theorem N7{l:List AN}(g:l.length<=1048576)(p:AN):mq l p=some (KO l p):=by
 have hlim:lim=268435456:=rfl;unfold mq fR KO;rw[B8 (by omega),P5 g,AB,BQ];rcases Ik (fun x:AN=>x.Id==p.Id) l 0 with ⟨j,_,y⟩|⟨k,B,j,_⟩
 .rw[j,AU (by omega),AU (by omega)];have e:AIB l p=some (atF (fun x:AN=>decide (x.Id>p.Id)) l 0):=by
   grind[AIB,Pc,z5,AN7,BK,BJ,AB,zy,BL,AV]
  rw[e,AB,BQ,AV,AV];have h:=List.any_eq_false.1 y;rcases ATL (lt:=KA) (q:=fun x:AN=>decide (x.Id>p.Id)) p (l:=l) 0 (fun x E=>by
   have:=h x E;simp only[beq_iff_eq]at this;unfold KA;rw[Bool.eq_iff_iff];simp;omega) with ⟨a,c⟩|⟨k,B,a,c⟩
  .have:=AXc (l:=l) (k:=l.length) (Nat.le_refl _) g p;rw[a,AX (by omega),this];erw [AB];rw[c];simp
  .have:=AXc (l:=l) (k:=k) (by omega) g p;rw[a,Ar,AU (by omega),this];erw [AB];rw[c]
 grind[BJ,AB]
theorem TK{l:List Af}(c:l.length<=1048575)(e:Af):mr l e=some (if KF l=true/\KF (put ltE e l)=true then (put ltE e l,true) else (l,false)):=by
 have hlim:lim=268435456:=rfl;unfold mr;rw[Ti (by omega),AB];have a:∀i:Nat,i<=l.length->fS l e l i=some (if KF l=true/\KF (l.take i++e::l.drop i)=true then (l.take i++e::l.drop i,true) else (l,false)):=by
  intro i hi;have:=AZY (l:=l) (k:=i) hi (by omega) e;unfold fS fT;rw[Ti (by omega)];rw[AB,this]
  erw [AB]
  rw[AB,this]
  erw [AB]
  grind[Ce,AB,V8,AV,B7]
 refine Rv (lt:=ltE) (fun m=>some (if KF l=true/\KF m=true then (m,true) else (l,false))) (by omega) ?_ ?_
 .grind[fU,Vd,BK,BJ,AB,Ra,AV]
 grind[fU,Vd,BL,AV]
theorem ABN{r:Aa}(h:r.AW.length<2 ^ 62)(p:AN)(now:Int):AH5 r p now=some (EH r p now):=by
 unfold AH5 Vb EH;rw[MP h,AB];simp only[AV,BB,B7,bne_iff_ne,ne_eq,beq_iff_eq];by_cases a:Dp r p now=true
 .have g:=E6 a;have j:=CM g.1;have ew:w64 (p.DH+1)=p.DH+1:=Ah (by omega) (by omega);rw[ew];by_cases c:p.State=2
  .by_cases e:p.DH+1=r.Ca
   .have:¬p.DH+1<r.Ca:=by omega
    simp[a,c,e];rfl
   grind
  .simp[a,c];rfl
 .simp[a];rfl
end Lv.P
