/- Plain laws about what the program computes. -/
import Derived.Test.YtcmjfplpdjflnaaGreatPJ
noncomputable section
set_option linter.unusedVariables false
set_option linter.unusedSimpArgs false
set_option linter.unusedSectionVars false
open Bool renaming and_eq_true->AE
open Int renaming toNat_natCast->Aa,zero_add->G3
open List renaming getD_eq_getElem?_getD->BP,getElem?_eq_getElem->AV,getElem_mem->Ao,length_append->AP,length_cons->AJ,length_filterMap_le->CG,length_nil->AS,length_set->BZ,mem_cons->Ar,mem_cons_self->Bc
open Nat renaming le_trans->A1,lt_or_ge->Ab
namespace Lv.P
open Lv Go
structure QT(r:Ae)(ps qs:List AM)(now:Int)(i:Nat)(c:AX):Prop where
 row:c.Row=Dp r ps i now
 G0:c.Bq=wOf (Fo ps i)
 total:c.AZ.Total=r.AZ.getD i 0
 held:c.AZ.EZ=II ps i
 JN:c.AZ.Fa=Ik qs i
 led:FE c.AZ=true
 room:DG ps i<=r.Room
theorem QT.full{r:Ae}{ps:List AM}{now:Int}{i:Nat}{c:AX}(h:QT r ps ps now i c):XC r ps now i c:=⟨h.row,h.G0,h.total,h.held,h.JN,h.led,h.room⟩
theorem XC.half{r:Ae}{ps:List AM}{now:Int}{i:Nat}{c:AX}(h:XC r ps now i c):QT r ps ps now i c:=⟨h.row,h.G0,h.total,h.held,h.JN,h.led,h.room⟩
theorem QT.perm{r:Ae}{ps qs a e:List AM}{now:Int}{i:Nat}{c:AX}(h:QT r ps qs now i c)(q:Uni ps)(g:ps.Perm a)(j:qs.Perm e):QT r a e now i c:=
 ⟨by rw[h.row,ACG q g],by rw[h.G0,T9 g],h.total,by rw[h.held,AFA g],by rw[h.JN,AGX j],h.led,by rw[<-Qj g];exact h.room⟩
theorem Jr{h:AF}{k j:Int}{c:AX}(a:0<=k)(e:k<h.AH.length)(g:0<=j):cbn (Cu h k c) j=if j=k then c else cbn h j:=by
 grind[cbn,Cu]
theorem AG5{h:AF}{i:Nat}(hi:i<h.AH.length):cbn h i=h.AH[i]:=by
 unfold cbn;rw[Aa,BP,AV hi];rfl
theorem RH.cb{h:AF}(hR:RH h){i:Nat}(hi:i<h.AH.length):XC h.AQ h.AG h.Now i (cbn h i):=by
 rw[AG5 hi];exact hR.cab i hi
theorem RH.mk'{h:AF}(rules:EO h.AQ=true)(now:0<=h.Now/\h.Now<=1000000)(turn:1<=h.Ay/\h.Ay<=1000001)(EN:h.AH.length=h.AQ.AZ.length)(J2:QU h.AQ h.Now h.Ay h.AG)
 (cab:∀i:Nat,i<h.AH.length->XC h.AQ h.AG h.Now i (cbn h i)) (todo:IQ h.BE h.AH.length=true) (F5:L7 h.BC h.AH.length=true) (Rb:(h.BC.length:Int)=h.AQ.C3):RH h:=
 ⟨rules,now,turn,EN,J2,fun i hi=>by rw[<-AG5 hi];exact cab i hi,todo,F5,Rb⟩
structure One(h:AF)(id:Int)(p:AM)(rest:List AM):Prop where
 perm:h.AG.Perm (p::rest)
 sub:rest.Sublist h.AG
 okp:Dn h.AQ p h.Now=true
 pid:p.Id=id
 mem:p∈h.AG
 ne:∀q∈rest,q.Id≠id
 set:∀q:AM,q.Id=id->∃l,KF h.AG q=l/\l.Perm (q::rest)/\(q.Ay=p.Ay->q.Since=p.Since->Dn h.AQ q h.Now=true->QU h.AQ h.Now h.Ay l)
 cut:h.AG.eraseP (fun x=>x.Id==id)=rest
theorem RH.one{h:AF}(hR:RH h){id:Int}(G:0<=Fv h id):One h id (par h id) (h.AG.eraseP fun x=>x.Id==id):=by
 obtain⟨k,c,e,a,g,j⟩:=AZp G;have y:h.AG[k]∈h.AG:=Ao c;have B:h.AG.Perm (par h id::h.AG.eraseP fun x=>x.Id==id):=by rw[a];exact ADa c j
 refine⟨B,List.eraseP_sublist,by rw[a];exact(hR.J2.par _ y).1,g,by rw[a];exact y,?_,?_,rfl⟩
 .have:=(hR.J2.uni.perm B).id
  grind[List.pairwise_cons]
 .intro q E;refine⟨h.AG.set k q,?_,set_perm c j q,?_⟩
  .unfold KF;unfold Fv at e;rw[E,e,AW (by omega),Aa]
  .intro H I J;refine hR.J2.set c ?_ ?_ ?_ J
   .rw[<-a,g,E]
   .rw[<-a,H]
   .rw[<-a,I]
theorem One.size{h:AF}{id:Int}{p:AM}{rest:List AM}(ho:One h id p rest):(1<=p.BB/\p.BB<=6)/\(0<=p.AY/\p.AY<h.AQ.AZ.length)/\(-1<=p.Bk/\p.Bk<h.AQ.AZ.length)/\p.Bk≠p.AY:=by
 have a:=E3 ho.okp;have c:=CR a.1;omega
def AYi(h:AF)(p:AM)(rest:List AM)(g:AF):Prop:=∀i:Nat,i<h.AH.length->QT h.AQ rest (p::rest) h.Now i (cbn g i)
theorem ALm{r:Ae}{p:AM}{rest:List AM}{now:Int}{i:Nat}(G:1<=p.BB/\p.BB<=6)(q:p.AY≠i){c:AX}(h:XC r (p::rest) now i c):QT r rest (p::rest) now i c:=by
 have y:Ks r i now p=none:=by
  grind[Ks]
 have B:Lg i p=none:=by
  grind[Lg]
 have E:WA i p=0:=by unfold WA;simp[q]
 have a:=h.row;have e:=h.G0;have g:=h.held;have j:=h.room;rw[Rj,y]at a;rw[T8,B]at e;rw[M3,E,G3]at g;rw[IF,AT q,G3]at j;exact⟨a,e,h.total,g,h.JN,h.led,j⟩
section
variable{h:AF}(hR:RH h){id:Int}{p:AM}{rest:List AM}(ho:One h id p rest)
include hR ho
theorem One.cab{i:Nat}(hi:i<h.AH.length):XC h.AQ (p::rest) h.Now i (cbn h i):=((hR.cb hi).half.perm hR.J2.uni ho.perm ho.perm).full
theorem One.uni:Uni (p::rest):=hR.J2.uni.perm ho.perm
theorem One.room{i:Nat}(hi:i<h.AH.length):DG (p::rest) i<=10:=by
 have:=(ho.cab hR hi).room;have:=CR hR.rules;omega
theorem One.pins{i:Nat}(hi:i<h.AH.length):OB (Fo (p::rest) i):=by
 rw[<-T9 ho.perm];exact Wb hR.J2 (by rw[Qj ho.perm];exact ho.room hR hi)
theorem tk(y:p.State=2){a c:Int}(Q:a=0/\c=1\/a=1/\c=0) :
 AYi h p rest (Cu h p.AY ⟨(l8 (cbn h p.AY).AZ p.BB a (-1) c 0).1,(cbn h p.AY).Row,(Sl (cbn h p.AY).Bq ⟨p.Cq,p.Id⟩).1⟩):=by
 intro i hi;obtain⟨H,O,z3,z4⟩:=ho.size;have S:=hR.EN;rw[Jr O.1 (by omega) (by omega)];by_cases e:(i:Int)=p.AY
 .rw[AW e,<-e];have g:=ho.cab hR hi;have q:=ho.pins hR hi;have B:=g.row;have E:=g.G0;have J:=g.held;have L:=g.room;have G:=g.led;rw[UB _ _ _ (by omega)]at B;rw[SV _ y,AW e.symm]at E q;rw[YE _ y H,AW e.symm]at J;rw[IF,AW e.symm]at L;have I:=ABT rest i;have kl:=HB.1 G;have j:FE ⟨(cbn h i).AZ.Total,(cbn h i).AZ.DY+a*p.BB,(cbn h i).AZ.EZ+(-1)*p.BB,(cbn h i).AZ.FM+c*p.BB,(cbn h i).AZ.Fa+0*p.BB⟩=true:=by
   grind[HB]
  rw[AJy G (by omega) (by omega) (by omega) (by omega) (by omega) j,E,AXl q];refine⟨B,rfl,g.total,?_,?_,j,?_⟩
  .dsimp only;omega
  .dsimp only;rw[g.JN];omega
  .omega
 .rw[AT e];exact ALm H (Ne.symm e) (ho.cab hR hi)
theorem AWu{g:AF}(L:AYi h p rest g)(c:g.AQ=h.AQ)(B:g.Now=h.Now)(G:g.Ay=h.Ay)(X:g.AG=h.AG)(j:g.AH.length=h.AH.length)
 (J:IQ g.BE h.AH.length=true) (H:g.BC=h.BC):RH (gone g p):=by
 obtain⟨S,Z,z3,z4⟩:=ho.size;have Q:=hR.EN;have E:g.AG.eraseP (fun x=>x.Id==p.Id)=rest:=by rw[X,ho.pid,ho.cut]
 have q:QU h.AQ h.Now h.Ay rest:=hR.J2.sub ho.sub;unfold gone;dsimp only;rw[E];split
 .rename_i I;refine RH.mk' (by show EO g.AQ=true;rw[c];exact hR.rules) (by show 0<=g.Now/\_;rw[B];exact hR.now) (by show 1<=g.Ay/\_;rw[G];exact hR.turn) (by simp[Cu,j,c,Q]) (by show QU g.AQ g.Now g.Ay rest;rw[c,B,G];exact q) ?_
   (by simpa[Cu,j] using J) (by simpa[Cu,j,H] using hR.F5) (by show (g.BC.length:Int)=g.AQ.C3;rw[H,c];exact hR.Rb)
  intro i hi;have y:i<h.AH.length:=by simpa[Cu,j] using hi
  rw[Jr I (by show p.Bk<(g.AH.length:Int);omega) (by omega)];show XC g.AQ rest g.Now i _;rw[c,B];have a:=L i y;have k:=a.JN;rw[IZ _ S]at k;by_cases e:(i:Int)=p.Bk
  .rw[AW e,<-e];rw[AW e.symm]at k;have kl:=HB.1 a.led;have Y:=AVd rest i;have O:FE ⟨(cbn g i).AZ.Total,(cbn g i).AZ.DY+0*p.BB,(cbn g i).AZ.EZ+0*p.BB,(cbn g i).AZ.FM+0*p.BB,(cbn g i).AZ.Fa+(-1)*p.BB⟩=true:=by
    rw[HB];dsimp only;omega
   rw[AJy a.led (by omega) (by omega) (by omega) (by omega) (by omega) O];refine⟨a.row,a.G0,a.total,?_,?_,O,a.room⟩
   .dsimp only;rw[a.held];omega
   .dsimp only;omega
  .rw[AT e];rw[AT (Ne.symm e),G3]at k;exact⟨a.row,a.G0,a.total,a.held,k,a.led,a.room⟩
 .rename_i I;refine RH.mk' (by show EO g.AQ=true;rw[c];exact hR.rules) (by show 0<=g.Now/\_;rw[B];exact hR.now) (by show 1<=g.Ay/\_;rw[G];exact hR.turn) (by show g.AH.length=g.AQ.AZ.length;rw[j,c,Q]) (by show QU g.AQ g.Now g.Ay rest;rw[c,B,G];exact q) ?_
   (by show IQ g.BE g.AH.length=true;rw[j];exact J) (by show L7 g.BC g.AH.length=true;rw[j,H];exact hR.F5) (by show (g.BC.length:Int)=g.AQ.C3;rw[H,c];exact hR.Rb)
  intro i hi;have y:i<h.AH.length:=by rw[<-j];exact hi
  show XC g.AQ rest g.Now i (cbn g i);rw[c,B];have a:=L i y;have k:=a.JN;rw[IZ _ S,AT (by omega),G3]at k;exact⟨a.row,a.G0,a.total,a.held,k,a.led,a.room⟩
theorem iY(hs:p.State=2):RH (Hw h p):=by
 obtain⟨Q,z2,z3,z4⟩:=ho.size;have Z:=hR.EN;have L:AYi h p rest (dropped h p):=tk hR ho hs (.inr ⟨rfl,rfl⟩);have c:(dropped h p).AH.length=h.AH.length:=by simp[dropped,Cu]
 unfold Hw;split
 .rename_i Y;have j:=Y;unfold EG at j;by_cases E:Dn h.AQ p h.Now=true/\p.State=2/\w64 (p.DB+1)<h.AQ.Cd
  .have hk:=E3 ho.okp;have hr:=CR hR.rules;have hq:(EG h.AQ p h.Now).1=⟨p.Id,p.AY,p.Bk,p.BB,p.Cv,p.Since,p.Ay,1,w64 (h.Now+h.AQ.Rest),w64 (p.DB+1)⟩:=by unfold EG;rw[AW E]
   rw[hq];have ew:w64 (h.Now+h.AQ.Rest)=h.Now+h.AQ.Rest:=Aq (by omega) (by omega);have ea:w64 (p.DB+1)=p.DB+1:=Aq (by omega) (by omega);rw[ew,ea];have G:=E.2.2;rw[ea]at G;have g:Dn h.AQ ⟨p.Id,p.AY,p.Bk,p.BB,p.Cv,p.Since,p.Ay,1,h.Now+h.AQ.Rest,p.DB+1⟩ h.Now=true:=by
    grind[Dn,CQ,Aq]
   obtain⟨l,S,B,X⟩:=ho.set ⟨p.Id,p.AY,p.Bk,p.BB,p.Cv,p.Since,p.Ay,1,h.Now+h.AQ.Rest,p.DB+1⟩ ho.pid;rw[S];have J:=X rfl rfl g;generalize hQ:(⟨p.Id,p.AY,p.Bk,p.BB,p.Cv,p.Since,p.Ay,1,h.Now+h.AQ.Rest,p.DB+1⟩:AM)=q at *;have q1:q.AY=p.AY:=by rw[<-hQ]
   have q2:q.Bk=p.Bk:=by rw[<-hQ]
   have O:q.BB=p.BB:=by rw[<-hQ]
   have H:q.State=1:=by rw[<-hQ]
   unfold GM;refine RH.mk' hR.rules hR.now hR.turn (by show ((dropped h p).AH.set _ _).length=_;rw[BZ,c];exact Z) J ?_ (by show IQ h.BE (((dropped h p).AH.set _ _).length:Nat)=true;rw[BZ,c];exact hR.todo) (by show L7 h.BC (((dropped h p).AH.set _ _).length:Nat)=true;rw[BZ,c];exact hR.F5) hR.Rb;intro i hi;have y:i<h.AH.length:=by have:i<((dropped h p).AH.set q.AY.toNat _).length:=hi;rw[BZ,c]at this;exact this
   rw[Jr (by rw[q1];exact z2.1) (by rw[q1];show p.AY<((dropped h p).AH.length:Int);omega) (by omega)];show XC h.AQ l h.Now i (if _ then (⟨(cbn (dropped h p) q.AY).AZ,put ltE (EX h.AQ q h.Now).1 (cbn (dropped h p) q.AY).Row,(cbn (dropped h p) q.AY).Bq⟩:AX) else cbn (dropped h p) i);have a:=L i y;have hu:=J.uni;have t1:Ik (p::rest) i=Ik (q::rest) i:=by rw[IZ _ Q,IZ _ (by rw[O];exact Q),q2,O]
   have I:DG (q::rest) i<=h.AQ.Room:=by
    have:=(ho.cab hR y).room;rw[IF]at this ⊢;rw[q1];exact this
   refine QT.full (QT.perm ?_ (hu.perm B) B.symm B.symm);by_cases e:(i:Int)=q.AY
   .rw[AW e,<-e];refine⟨?_,?_,a.total,?_,by dsimp only;rw[a.JN,t1],a.led,I⟩
    .dsimp only;rw[Kt _ g H,AW e.symm,Pb g H,a.row]
    .dsimp only;rw[O2 _ (by omega),a.G0]
    .dsimp only;rw[Oh _ (by omega),a.held]
   .rw[AT e];refine⟨?_,?_,a.total,?_,by rw[a.JN,t1],a.led,I⟩
    .rw[Kt _ g H,AT (Ne.symm e),a.row]
    .rw[O2 _ (by omega),a.G0]
    .rw[Oh _ (by omega),a.held]
  .rw[AT E]at j;cases j
 .exact AWu hR ho L rfl rfl rfl rfl c hR.todo rfl
end
def Zi(p:AM)(now:Int):Bool:=p.State==1&&decide (p.Cq>now)
def kj(h:AF):List Int:=h.AG.filterMap fun p=>if Zi p h.Now=true then some p.Id else none
def ABI(free:Int)(skip:List Int)(e:Ad):Bool:=decide (e.BB<=free)&&!(skip.any fun y=>y==e.Id)
def TC(h:AF)(k:Int):Int:=atF (ABI (cbn h k).AZ.DY (kj h)) (cbn h k).Row 0
def AWh:Ad:=⟨0,0,0,0⟩
def EV(h:AF)(k:Int):Int:=if TC h k<0 then 0 else ((cbn h k).Row.getD (TC h k).toNat AWh).Id
theorem uq(p:AM)(now:Int):AIS p now=some (Zi p now):=by
 unfold AIS fV Zi;rw[AU,AU,Cr]
theorem lz{l:List Ad}(c:l.length<=1048576){skip:List Int}(e:skip.length<=1048576)(free:Int):AIT l free skip=some (atF (ABI free skip) l 0):=by
 unfold AIT;refine PR (by omega) ?_ ?_
 .intro L i h;unfold fY fW ABI;rw[B6 h,BL];simp only[BG h,AB,UF (show skip.length<2 ^ 62 by omega),AU];by_cases a:l[i].BB<=free
  .simp only[a,decide_true,BL,Bool.true_and]
  .simp only[a,decide_false,BO,Bool.false_and]
 grind[fY,AAK,BO,AU]
theorem qG{l:List Ad}{p:Ad->Bool}(a:¬atF p l 0<0):at? l (atF p l 0)=some (l.getD (atF p l 0).toNat AWh)/\∃c:(atF p l 0).toNat<l.length,p l[(atF p l 0).toNat]=true/\l.getD (atF p l 0).toNat AWh=l[(atF p l 0).toNat]:=by
 grind[IU,BG]
theorem uz{h:AF}(a:By h){k:Int}(e:0<=k)(g:k<h.AH.length):AAL h k=some (EV h k):=by
 have hlim:lim=268435456:=rfl;have c:=a.CN;have q:(kj h).length<=1048576:=A1 (CG _ _) c;have j:=(a.Dw _ (TV e g)).1;unfold AAL;rw[collect (l:=h.AG) (fun p=>if Zi p h.Now=true then some p.Id else none) (fb h k) c ?_ ?_]
 .grind[fb,cbn,FF,AB,kj,lz,TC,EV,BH,qG]
 .grind[fc,fZ,BG,AB,uq,CJ,AU,B4]
 grind[fc,BO,AU]
def AZj(h:AF)(p:AM):AM:=⟨p.Id,p.AY,p.Bk,p.BB,p.Cv,p.Since,p.Ay,2,w64 (h.Now+h.AQ.B0),p.DB⟩
def H2(h:AF)(k id:Int):AF:=
 Cu (NL h (KF h.AG (AZj h (par h id)))) k ⟨(l8 (cbn h k).AZ (par h id).BB (-1) 1 0 0).1,(cbn h k).Row.eraseP (fun x=>x.Id==id),(PJ (cbn h k).Bq ⟨w64 (h.Now+h.AQ.B0),id⟩).1⟩
theorem jm{h:AF}(hR:RH h){k:Nat}(O:k<h.AH.length)(g:EV h k≠0):0<=Fv h (EV h k)/\(par h (EV h k)).State=1/\(par h (EV h k)).AY=k/\(par h (EV h k)).BB<=(cbn h k).AZ.DY/\Zi (par h (EV h k)) h.Now=false:=by
 unfold EV at g ⊢;by_cases j:TC h k<0
 .rw[AW j]at g;exact absurd rfl g
 .rw[AT j]at g ⊢;obtain⟨_,c,H,I⟩:=qG j;have J:=hR.cb O;have q:(cbn h k).Row.getD (TC h k).toNat AWh=(cbn h k).Row[(TC h k).toNat]'c:=I;rw[q];have Q:(cbn h k).Row[(TC h k).toNat]'c∈Dp h.AQ h.AG k h.Now:=by rw[<-J.row];exact Ao _
  obtain⟨p,S,L⟩:=P7 Q;obtain⟨G,X,Y,Z⟩:=Jd L;have a:ABI (cbn h k).AZ.DY (kj h) ((cbn h k).Row[(TC h k).toNat]'c)=true:=H;unfold ABI at a;rw[AE,decide_eq_true_iff]at a;generalize (cbn h k).Row[(TC h k).toNat]'c=e at *;subst G;dsimp only at a ⊢;have B:0<=Fv h p.Id:=by
   grind[Fv,IU]
  have ho:=hR.one B;have E:par h p.Id=p:=by
   rcases Ar.1 (ho.perm.subset S) with y|y
   .exact y.symm
   .exact absurd rfl (ho.ne p y)
  rw[E]
  grind[kj]
theorem AFg{h:AF}(hR:RH h){k:Nat}(hk:k<h.AH.length){id:Int}{rest:List AM}(ho:One h id (par h id) rest)(hs:(par h id).State=1)(g:(par h id).AY=k)(hf:(par h id).BB<=(cbn h k).AZ.DY):RH (H2 h k id):=by
 obtain⟨H,z2,z3,z4⟩:=ho.size;have hn:=hR.EN;have hr:=CR hR.rules;have Y:=hR.now;have ew:w64 (h.Now+h.AQ.B0)=h.Now+h.AQ.B0:=Aq (by omega) (by omega);unfold H2;generalize hP:par h id=p at *;have hq:AZj h p=⟨p.Id,p.AY,p.Bk,p.BB,p.Cv,p.Since,p.Ay,2,h.Now+h.AQ.B0,p.DB⟩:=by unfold AZj;rw[ew]
 rw[hq,ew];have O:Dn h.AQ ⟨p.Id,p.AY,p.Bk,p.BB,p.Cv,p.Since,p.Ay,2,h.Now+h.AQ.B0,p.DB⟩ h.Now=true:=by
  have:=ho.okp
  grind[Dn,CQ]
 obtain⟨l,e1,c,e3⟩:=ho.set ⟨p.Id,p.AY,p.Bk,p.BB,p.Cv,p.Since,p.Ay,2,h.Now+h.AQ.B0,p.DB⟩ ho.pid;rw[e1];have J:=e3 rfl rfl O;have q5:(⟨h.Now+h.AQ.B0,id⟩:A7)=⟨(⟨p.Id,p.AY,p.Bk,p.BB,p.Cv,p.Since,p.Ay,2,h.Now+h.AQ.B0,p.DB⟩:AM).Cq,(⟨p.Id,p.AY,p.Bk,p.BB,p.Cv,p.Since,p.Ay,2,h.Now+h.AQ.B0,p.DB⟩:AM).Id⟩:=by rw[<-ho.pid]
 rw[q5];generalize hQ:(⟨p.Id,p.AY,p.Bk,p.BB,p.Cv,p.Since,p.Ay,2,h.Now+h.AQ.B0,p.DB⟩:AM)=q at *;have q1:q.AY=p.AY:=by rw[<-hQ]
 have q2:q.Bk=p.Bk:=by rw[<-hQ]
 have B:q.BB=p.BB:=by rw[<-hQ]
 have E:q.State=2:=by rw[<-hQ]
 have hu:=J.uni;refine RH.mk' hR.rules hR.now hR.turn (by show (h.AH.set _ _).length=_;rw[BZ];exact hn) J ?_ (by show IQ h.BE ((h.AH.set _ _).length:Nat)=true;rw[BZ];exact hR.todo) (by show L7 h.BC ((h.AH.set _ _).length:Nat)=true;rw[BZ];exact hR.F5) hR.Rb;intro i hi;have L:i<h.AH.length:=by have:i<(h.AH.set (k:Int).toNat _).length:=hi;rw[BZ]at this;exact this
 rw[Jr (by omega) (by show (k:Int)<(h.AH.length:Int);omega) (by omega)];show XC h.AQ l h.Now i (if (i:Int)=k then (⟨_,_,_⟩:AX) else cbn h i);have a:=ho.cab hR L;have t1:Ik (p::rest) i=Ik (q::rest) i:=by rw[IZ _ H,IZ _ (by rw[B];exact H),q2,B]
 have S:DG (q::rest) i<=h.AQ.Room:=by
  have:=a.room;rw[IF]at this ⊢;rw[q1];exact this
 refine QT.full (QT.perm ?_ (hu.perm c) c.symm c.symm);have G:=a.row;have Q:=a.G0;have Z:=a.held;rw[Kt _ ho.okp hs]at G;rw[O2 _ (by omega)]at Q;rw[Oh _ (by omega)]at Z;by_cases e:(i:Int)=k
 .obtain rfl:i=k:=by omega
  rw[AW rfl];have j:OB (Fo (q::rest) (i:Int)):=by
   rw[<-T9 c];exact Wb J (by rw[Qj c];omega)
  rw[SV _ E,AW (by rw[q1,g])]at j;have kl:=HB.1 a.led;have hnn:=ABT rest i;have X:FE ⟨(cbn h i).AZ.Total,(cbn h i).AZ.DY+(-1)*p.BB,(cbn h i).AZ.EZ+1*p.BB,(cbn h i).AZ.FM+0*p.BB,(cbn h i).AZ.Fa+0*p.BB⟩=true:=by
   rw[HB];dsimp only;omega
  rw[AJy a.led (by omega) (by omega) (by omega) (by omega) (by omega) X,Q,AXm j];refine⟨?_,?_,a.total,?_,?_,X,S⟩
  .dsimp only;rw[G,AW g,UB _ _ _ (by omega)];refine SJ (by simpa using ho.pid) fun x hx=>?_
   obtain⟨y,hy,he⟩:=P7 hx;obtain⟨rfl,_⟩:=Jd he;simpa using ho.ne y hy
  .dsimp only;rw[SV _ E,AW (by rw[q1,g])]
  .dsimp only;rw[YE _ E (by rw[B];exact H),AW (by rw[q1,g]),B];omega
  .dsimp only;rw[a.JN,t1];omega
 .rw[AT e];have I:¬q.AY=i:=by rw[q1,g];omega
  rw[AT (by rw[<-q1];exact I)]at G;refine⟨by rw[G,UB _ _ _ (by omega)],by rw[Q,SV _ E,AT I],a.total,by rw[Z,YE _ E (by rw[B];exact H),AT I];omega,by rw[a.JN,t1],a.led,S⟩
theorem RH.sm{h:AF}(hR:RH h):Sm 1000 h:=by
 have G:=CR hR.rules;have E:=hR.EN;have B:=hR.Rb;refine⟨by omega,by have:=hR.J2.few;omega,by omega,?_,by have:=AVi (by omega) hR.todo;omega,by omega⟩;intro c e;obtain⟨i,hi,rfl⟩:=List.mem_iff_getElem.1 e;have a:=hR.cab i hi;have j:=a.room;have y:=P6 h.AQ h.AG i h.Now;have g:=Wb hR.J2 (c:=i) (by omega);have q:=lT g;refine⟨by rw[a.row];omega,by rw[a.G0,ae];omega,by rw[a.G0];have:=q.few;omega⟩
theorem RH.fit{h:AF}(hR:RH h):By h:=hR.sm.fit (by omega)
theorem RH.tJ{h:AF}(hR:RH h){q:AM}(e:q∈h.AG):0<=Fv h q.Id/\par h q.Id=q:=by
 have a:0<=Fv h q.Id:=by
  grind[Fv,IU]
 have ho:=hR.one a;refine⟨a,?_⟩;rcases Ar.1 (ho.perm.subset e) with c|c
 .exact c.symm
 .exact absurd rfl (ho.ne q c)
structure Kept(h g:AF):Prop where
 rules:g.AQ=h.AQ
 now:g.Now=h.Now
 turn:g.Ay=h.Ay
 EN:g.AH.length=h.AH.length
 todo:g.BE=h.BE
 F5:g.BC=h.BC
theorem Kept.refl(h:AF):Kept h h:=⟨rfl,rfl,rfl,rfl,rfl,rfl⟩
theorem Kept.trans{a b c:AF}(h:Kept a b)(g:Kept b c):Kept a c:=⟨g.rules.trans h.rules,g.now.trans h.now,g.turn.trans h.turn,g.EN.trans h.EN,g.todo.trans h.todo,g.F5.trans h.F5⟩
theorem ALD(h:AF)(p:AM):Kept h (gone h p):=by
 unfold gone;dsimp only;split
 .exact⟨rfl,rfl,rfl,by simp[Cu],rfl,rfl⟩
 .exact⟨rfl,rfl,rfl,rfl,rfl,rfl⟩
theorem qY(h:AF)(p:AM):Kept h (dropped h p):=⟨rfl,rfl,rfl,by simp[dropped,Cu],rfl,rfl⟩
theorem iZ(h:AF)(p:AM):Kept h (Hw h p):=by
 unfold Hw;split
 .exact⟨rfl,rfl,rfl,by simp[GM,NL,dropped,Cu],rfl,rfl⟩
 .exact(qY h p).trans (ALD _ _)
theorem Pz(h:AF)(k id:Int):Kept h (H2 h k id):=⟨rfl,rfl,rfl,by simp[H2,NL,Cu],rfl,rfl⟩
theorem ALA{h:AF}{id:Int}{p:AM}{rest:List AM}(ho:One h id p rest){q:AM}(c:q∈rest):q∈(Hw h p).AG:=by
 unfold Hw;split
 .rename_i a;have e:(EG h.AQ p h.Now).1.Id=id:=by
   unfold EG at a ⊢;split at a
   .rename_i g;rw[AW g];exact ho.pid
   .cases a
  obtain⟨l,j,y,_⟩:=ho.set _ e;show q∈KF h.AG (EG h.AQ p h.Now).1
  grind
 .have:(gone (dropped h p) p).AG=rest:=by
   rw[<-ho.cut,<-ho.pid];unfold gone;dsimp only;split<;>rfl
  rw[this];exact c
def SK:List Int->AF->AF| [],g=>g|id::l,g=>SK l (Hw g (par g id))
def AKi(g:AF)(l:List Int):Prop:=l.Nodup/\∀id∈l,0<=Fv g id/\(par g id).State=2
theorem Td{g:AF}(hR:RH g){id:Int}{l:List Int}(hO:AKi g (id::l)):RH (Hw g (par g id))/\AKi (Hw g (par g id)) l/\Kept g (Hw g (par g id)):=by
 obtain⟨c,B⟩:=hO;rw[List.nodup_cons]at c;obtain⟨G,H⟩:=B id (Bc ..);have ho:=hR.one G;have hR':=iY hR ho H;refine⟨hR',⟨c.2,?_⟩,iZ _ _⟩;intro j E;obtain⟨I,L⟩:=B j (List.mem_cons_of_mem _ E);have y:j≠id:=fun e=>c.1 (e▸E)
 have a:=hR.one I;have J:par g j∈g.AG.eraseP (fun x=>x.Id==id):=by
  rcases Ar.1 (ho.perm.subset a.mem) with q|q
  .exact absurd (by rw[<-a.pid,<-ho.pid,q]) y
  .exact q
 have:=hR'.tJ (ALA ho J);rw[a.pid]at this
 grind
theorem Pc:∀{l:List Int} {g:AF},RH g->AKi g l->RH (SK l g)/\Kept g (SK l g)
 | [],g,hR,_=>⟨hR,Kept.refl g⟩|id::l,g,hR,hO=>by
  obtain⟨a,c,e⟩:=Td hR hO;obtain⟨j,q⟩:=Pc a c;exact⟨j,e.trans q⟩
def V2(h:AF)(k:Int):AF:=SK (iU (cbn h k).Bq h.Now) h
theorem Q9{h:AF}(hR:RH h){k:Nat}(I:k<h.AH.length):AKi h (iU (cbn h k).Bq h.Now)/\(iU (cbn h k).Bq h.Now).length<=10:=by
 have E:=hR.cb I;have X:=CR hR.rules;have q:=Wb hR.J2 (c:=k) (by have:=E.room;omega);have e:iU (cbn h k).Bq h.Now=(Fo h.AG k).filterMap fun p=>if p.At<=h.Now then some p.Id else none:=by
  unfold iU;rw[E.G0,AC5 q]
 rw[e];refine⟨⟨?_,?_⟩,A1 (CG _ _) q.few⟩
 .show List.Pairwise _ _;rw[List.pairwise_filterMap];refine q.ids.imp ?_;intro a b L x g y Q;split at g<;>split at Q<;>simp_all
 .intro id j;obtain⟨pin,J,g⟩:=List.mem_filterMap.1 j;split at g
  .obtain⟨p,B,O⟩:=ou J;obtain⟨rfl,S,_⟩:=SW O;cases g;obtain⟨G,H⟩:=hR.tJ B;exact⟨G,by rw[H];exact S⟩
  .cases g
theorem AZq{h:AF}(hR:RH h){id:Int}(a:0<=Fv h id):0<=(par h id).AY/\(par h id).AY<h.AH.length/\(par h id).Bk<h.AH.length:=by
 have:=(hR.one a).size;have:=hR.EN;omega
theorem PS{h:AF}{id:Int}(a:0<=Fv h id):at? h.AG (Fv h id)=some (par h id):=XG a (P4 a).1
theorem kz{h:AF}(hR:RH h){k:Nat}(q:k<h.AH.length):AIR h k=some (V2 h k):=by
 obtain⟨hO,E⟩:=Q9 hR q;unfold AIR V2;rw[ACq hR.fit (by omega) (by omega),AB];generalize iU (cbn h k).Bq h.Now=D at *;refine(DA (F:=fU D) (n:=D.length) (fun i (v:AF)=>((i:Int),v)) (fun i v=>RH v/\AKi v (D.drop i)) (fun i v=>some (SK (D.drop i) v)) (by omega) ?_ (v:=h) ⟨hR,hO⟩);rintro L i v ⟨e,ho⟩ hi y;unfold fU AAJ;dsimp only;rcases Ab i D.length with a|j
 .rw[DR a]at ho ⊢;have g:=ho.2 D[i] (Bc ..);have c:=AZq e g.1;obtain⟨s1,B,_⟩:=Td e ho;simp only[B6 a,BL,BG a,AB,Gi e.fit,PS g.1,TO (show 1000+2<=1048576 by omega) e.sm c.1 c.2.1 c.2.2,Bp a (show D.length<2 ^ 63 by omega)];exact y _ ⟨s1,B⟩ a
 .obtain rfl:i=D.length:=by omega
  rw[C5,BO,AU,List.drop_length];rfl
theorem AB1{h:AF}(hR:RH h){k:Nat}(e:k<h.AH.length){id:Int}{rest:List AM}(ho:One h id (par h id) rest)(g:(par h id).State=1)(a:(par h id).AY=k):(cbn (H2 h k id) k).Row.length+1=(cbn h k).Row.length:=by
 unfold H2;rw[Jr (by omega) (by show (k:Int)<(h.AH.length:Int);omega) (by omega),AW rfl];dsimp only;have:=(ho.cab hR e).row;rw[Kt _ ho.okp g,AW a]at this;rw[this,SJ (by simpa using ho.pid) fun x j=>?_,FR];obtain⟨y,q,c⟩:=P7 j;obtain⟨rfl,_⟩:=Jd c;simpa using ho.ne y q
theorem mC{h:AF}(hR:RH h){k:Nat}(g:k<h.AH.length):AIm h k=some (if EV h k=0 then (h,0) else (H2 h k (EV h k),EV h k))/\(EV h k=0->AIn h k=some ((),0)):=by
 have a:=hR.fit;unfold AIm AIn;rw[uz a (by omega) (by omega),AB,AB,CJ,CJ];by_cases c:EV h k=0
 .grind
 .refine⟨?_,fun h=>absurd h c⟩;obtain⟨j,q,y,B,E⟩:=jm hR g c;have e:=a.Dw _ (TV (k:=(k:Int)) (by omega) (by omega));rw[AT (by simpa using c),AT c];simp only[Gi a,AB,PS j,Fl,N6 a.CN,show at? h.AH (k:Int)=some (cbn h k) from FF (by omega) (by omega),kv,TI e.1,TM e.2];rfl
def NF(k:Int):Nat->AF->List Int->AF×List Int|0,h,a=>(h,a)|n+1,h,a=>if EV h k=0 then (h,a) else NF k n (H2 h k (EV h k)) (a++[EV h k])
theorem AKR{k:Int}{h:AF}(c:EV h k=0)(a:List Int):∀n,NF k n h a=(h,a)|0=>rfl|n+1=>by unfold NF;rw[AW c]
theorem T4{h:AF}(hR:RH h){k:Nat}(a:k<h.AH.length)(j:EV h k≠0):RH (H2 h k (EV h k))/\(cbn (H2 h k (EV h k)) k).Row.length+1=(cbn h k).Row.length:=by
 obtain⟨c,e,g,q,y⟩:=jm hR a j;exact⟨AFg hR a (hR.one c) e g q,AB1 hR a (hR.one c) e g⟩
theorem ACd{k:Nat}:∀(n:Nat) {h:AF} (a:List Int),RH h->k<h.AH.length->RH (NF k n h a).1/\Kept h (NF k n h a).1/\(NF k n h a).2.length<=a.length+n
 |0,h,a,hR,_=>⟨hR,Kept.refl h,by unfold NF;simp⟩|n+1,h,a,hR,e=>by
  unfold NF;split
  .exact⟨hR,Kept.refl h,by simp⟩
  .rename_i B;have y:=T4 hR e B;have c:=Pz h k (EV h k);obtain⟨g,j,q⟩:=ACd n (a++[EV h k]) y.1 (by rw[c.EN];exact e);refine⟨g,c.trans j,?_⟩;rw[AP,List.length_singleton]at q;omega
def JF(h:AF)(k:Int):AF×List Int:=NF k 10 (V2 h k) []
theorem aa{h:AF}(hR:RH h){k:Nat}(c:k<h.AH.length):(cbn h k).Row.length<=10:=by
 have a:=hR.cb c;have j:=CR hR.rules;have e:=P6 h.AQ h.AG k h.Now;have g:=a.room;rw[a.row];omega
theorem ABx{h:AF}{k:Int}(a:EV h k≠0):0<(cbn h k).Row.length:=by
 unfold EV at a;split at a
 .exact absurd rfl a
 .rename_i c;obtain⟨_,e,_⟩:=qG c;omega
theorem AVH{h:AF}(hR:RH h){k:Nat}(y:k<h.AH.length):A3 (Vi k) big ([],h)=some (NF k 10 h []):=by
 have hlim:lim=268435456:=rfl;refine YU (F:=Vi k) (fun x=>some (NF k (10-x.1.length) x.2 x.1)) (fun x=>RH x.2/\k<x.2.AH.length/\x.1.length+(cbn x.2 k).Row.length<=10) (fun x=>(cbn x.2 k).Row.length) ?_ (x:=([],h)) ⟨hR,y,by have:=aa hR y;simpa using this⟩ (by have:=aa hR y;show (cbn h k).Row.length<_;omega);rintro L ⟨a,g⟩ ⟨q,c,e⟩ E;dsimp only at q c e E ⊢;unfold Vi;dsimp only;obtain⟨H,I⟩:=mC q c;rw[H,AB];by_cases j:EV g k=0
 .grind[AB,AKR,BL,AYY]
 .obtain⟨s1,J⟩:=T4 q c j;have B:=ABx j;rw[AT j];dsimp only;have G:(EV g k==0)=false:=by simpa using j
  rw[G,BO,B4 (by simp only[AJ,AS];omega),E (a++[EV g k],H2 g k (EV g k)) ⟨s1,by rw[(Pz g k _).EN];exact c,by simp only[AP,AJ,AS];omega⟩ (by dsimp only;omega),AYZ];congr 1;rw[show 10-a.length=(10-(a++[EV g k]).length)+1 by simp only[AP,AJ,AS];omega]
  conv=>rhs;unfold NF
  rw[AT j]
theorem ka{h:AF}(hR:RH h){k:Nat}(c:k<h.AH.length):RH (JF h k).1/\Kept h (JF h k).1/\(JF h k).2.length<=10:=by
 obtain⟨g,a⟩:=Pc hR (Q9 hR c).1;obtain⟨s1,j,e⟩:=ACd (k:=k) 10 [] g (by rw[a.EN];exact c);exact⟨s1,a.trans j,by simp only[AS,Nat.zero_add]at e;exact e⟩
theorem ANU{h:AF}(hR:RH h){k:Nat}(c:k<h.AH.length):AIo h k=some (JF h k):=by
 have a:=hR.fit;have j:=a.EN;obtain⟨e,g⟩:=Pc hR (Q9 hR c).1;unfold AIo AOf fQ;rw[HF a,AB,IW a,JY.2 hR,AB,BL,GL,AB,AU,AB,Aq (by omega) (by omega),CQ.2 (by omega),BK,BL,kz hR c,AB];exact AVH e (by rw[g.EN];exact c)
theorem Gt{h:AF}{q:Bo}(a:verdict h q=0):RH h:=by
 grind[verdict,JY]
theorem W8{h:AF}{q:Bo}(E:q.Kind=7)(a:verdict h q=0):∃n:Nat,∃e:n<h.BC.length,q.Id=(n:Int)/\¬(h.BC[n]<0/\h.BE.length=0):=by
 have hR:=Gt a;unfold verdict at a;rw[AW (JY.2 hR)]at a;unfold HL at a;split at a
 .cases a
 .split at a
  .cases a
  .rename_i y;have c:KE q=true:=by simpa using y
   have hi:0<=q.Id:=by
    unfold KE at c;rw[AT (by omega),AW (by omega)]at c;simp only[AE,QX,CQ]at c;exact c.1.1
   rw[AT (by omega),AT (by omega),AT (by omega),AT (by omega),AT (by omega)]at a
   try rw[AW E]at a
   by_cases g:h.AQ.C3<=q.Id
   .rw[AW g]at a;cases a
   .rw[AT g]at a;obtain⟨n,e⟩:=Int.eq_ofNat_of_zero_le hi;have j:n<h.BC.length:=by have:=hR.Rb;omega
    refine⟨n,j,e,?_⟩;rw[e,Aa,BP,AV j,Option.getD_some]at a;intro B;rw[AW B]at a;cases a
def AC7(h:AF)(l:List Int):AF:=⟨h.AQ,h.Now,h.Ay,h.AG,h.AH,h.BE,l⟩
def uG(h:AF)(who:Int):AF×List Int:=
 if h.BC.getD who.toNat 0<0 then (AC7 (El h (h.BE.drop 1)) (h.BC.set who.toNat (h.BE.getD 0 0)),[])
 else (AC7 (JF h (h.BC.getD who.toNat 0)).1 ((JF h (h.BC.getD who.toNat 0)).1.BC.set who.toNat (-1)),(JF h (h.BC.getD who.toNat 0)).2)
def Wa(h:AF)(who:Int):AF×Int×List Int:=
 if verdict h ⟨7,who,0,0,0,0⟩≠0 then (h,verdict h ⟨7,who,0,0,0,0⟩,[]) else ((uG h who).1,0,(uG h who).2)
theorem RH.job{h:AF}(hR:RH h){n:Nat}(a:n<h.BC.length)(c:¬h.BC[n]<0):∃k:Nat,k<h.AH.length/\h.BC[n]=(k:Int):=by
 have:=List.all_eq_true.1 hR.F5 _ (Ao a);have e:=hR.fit.EN
 grind[CQ,Aq,Int.eq_ofNat_of_zero_le]
theorem ANT{h:AF}(c:By h)(who:Int):AIp h who=some (Wa h who)/\By (Wa h who).1/\(Wa h who).2.2.length<=10:=by
 have hlim:lim=268435456:=rfl;unfold AIp Wa;rw[HF c,AB,Gj c,AB];simp only[CJ,bne_iff_ne,ne_eq];by_cases q:verdict h ⟨7,who,0,0,0,0⟩=0
 .rw[AT (not_not_intro q),AT (not_not_intro q)];have hR:=Gt q;obtain⟨n,j,e,E⟩:=W8 rfl q;dsimp only at e;subst e;have eg:h.BC.getD n 0=h.BC[n]:=by rw[BP,AV j];rfl
  unfold uG;rw[BG j,AB,Aa,eg];simp only[decide_eq_true_eq];by_cases g:h.BC[n]<0
  .rw[AW g,AW g];have I:0<h.BE.length:=by
    rcases Nat.eq_zero_or_pos h.BE.length with y|y
    .exact absurd ⟨g,y⟩ E
    .exact y
   have J:h.BE.getD 0 0=h.BE[0]:=by rw[BP,AV I];rfl
   have G:=c.todo;have L:(List.drop (Int.toNat 1) h.BE).length<=h.BE.length:=by rw[List.length_drop];omega
   rw[UX,AV I,AB,AB,AB,B4 ⟨by omega,by omega⟩,B4 (by omega),J];exact⟨rfl,⟨c.Dr,c.CN,c.EN,c.Dw,A1 L G,by show (h.BC.set _ _).length<=_;rw[BZ];exact c.F5⟩,by simp⟩
  .rw[AT g,AT g];obtain⟨k,H,ek⟩:=hR.job j g;obtain⟨s1,O,Q⟩:=ka hR H;rw[ek,ANU hR H,AB];have B:n<(JF h k).1.BC.length:=by rw[O.F5];exact j
   rw[BG B,AB,AB];have a:=s1.fit;exact⟨rfl,⟨a.Dr,a.CN,a.EN,a.Dw,a.todo,by show ((JF h k).1.BC.set _ _).length<=_;rw[BZ];exact a.F5⟩,Q⟩
 grind
def doF(h:AF)(q:Bo):AF×Bf:=
 if verdict h q≠0 then (h,⟨verdict h q,[]⟩)
 else if q.Kind=1 then ((jV h q.Id q.AY q.Bk q.BB q.Cv).1,⟨(jV h q.Id q.AY q.Bk q.BB q.Cv).2,[]⟩)
 else if q.Kind=2 then ((PV h q.Id).1,⟨(PV h q.Id).2,[]⟩)
 else if q.Kind=3 then ((ig h q.AY q.BB).1,⟨(ig h q.AY q.BB).2,[]⟩)
 else if q.Kind=4 then ((PO h q.Id).1,⟨(PO h q.Id).2,[]⟩)
 else if q.Kind=5 then ((Mv h q.Id).1,⟨(Mv h q.Id).2,[]⟩)
 else if q.Kind=6 then ((lK h).1,⟨(lK h).2,[]⟩)
 else ((Wa h q.Id).1,⟨(Wa h q.Id).2.1,(Wa h q.Id).2.2⟩)
theorem ue{h:AF}(E:By h)(q:Bo):ZK h q=some (doF h q)/\By (doF h q).1/\(doF h q).2.Ids.length<=10:=by
 unfold ZK doF LG;rw[HF E,AB,Gj E,AB];simp only[CJ,bne_iff_ne,ne_eq,beq_iff_eq,AU];by_cases G:verdict h q=0
 .have hR:=Gt G;have a:=hR.sm;have H:=hR.EN;have I:=CR hR.rules;rw[AT (not_not_intro G),AT (not_not_intro G)];by_cases c:q.Kind=1
  .rw[AW c,AW c];have:=ANR (show 1000+3<=1048576 by omega) a q.Id q.AY q.Bk q.BB q.Cv;rw[this.1,AB];exact⟨rfl,this.2.fit (by omega),by simp⟩
  .rw[AT c,AT c];by_cases e:q.Kind=2
   .rw[AW e,AW e];have:=ACm (show 1000+1<=1048576 by omega) a q.Id;rw[this.1,AB];exact⟨rfl,this.2.fit (by omega),by simp⟩
   .rw[AT e,AT e];by_cases g:q.Kind=3
    .rw[AW g,AW g];have:=ko (show 1000+1<=1048576 by omega) a q.AY q.BB;rw[this.1,AB];exact⟨rfl,this.2.fit (by omega),by simp⟩
    .rw[AT g,AT g];by_cases j:q.Kind=4
     .rw[AW j,AW j];have:=ACk (show 1000+1<=1048576 by omega) a q.Id;rw[this.1,AB];exact⟨rfl,this.2.fit (by omega),by simp⟩
     .rw[AT j,AT j];by_cases y:q.Kind=5
      .rw[AW y,AW y];have:=ud (show 1000+3<=1048576 by omega) a q.Id;rw[this.1,AB];exact⟨rfl,this.2.fit (by omega),by simp⟩
      .rw[AT y,AT y];by_cases B:q.Kind=6
       .rw[AW B,AW B];have:=ANX a (show 1000+h.AH.length<=1048576 by omega);rw[this.1,AB];exact⟨rfl,this.2.fit (by omega),by simp⟩
       .rw[AT B,AT B];have:=ANT E q.Id;rw[this.1,AB];exact⟨rfl,this.2.1,this.2.2⟩
 grind
def Ij:List Bo->AF->AF×List Bf| [],h=>(h,[])|q::l,h=>((Ij l (doF h q).1).1,(doF h q).2::(Ij l (doF h q).1).2)
theorem Ob:∀(l:List Bo) {h:AF},By h->By (Ij l h).1/\(Ij l h).2.length=l.length/\∀r∈(Ij l h).2,r.Ids.length<=10
 | [],h,a=>⟨a,rfl,by simp[Ij]⟩|q::l,h,a=>by
  have c:=ue a q;obtain⟨e,g,j⟩:=Ob l c.2.1
  grind[Ij]
theorem UD{h:AF}(q:By h){l:List Bo}(G:l.length<=1048576):gD h l=some (Ij l h):=by
 have hlim:lim=268435456:=rfl;unfold gD;rw[HF q,AB];refine(DA (F:=gF l) (n:=l.length) (fun i (v:List Bf×AF)=>(v.1,(i:Int),v.2)) (fun i v=>By v.2/\v.1.length=i) (fun i v=>some ((Ij (l.drop i) v.2).1,v.1++(Ij (l.drop i) v.2).2)) (by omega) ?_ (v:=([],h)) ⟨q,rfl⟩).trans ?_
 .rintro L i ⟨a,g⟩ ⟨y,e⟩ hi B;dsimp only at y e B ⊢;unfold gF AAU;dsimp only;rcases Ab i l.length with c|E
  .have j:=ue y l[i];rw[DR c];simp only[B6 c,BL,BG c,AB,j.1,Hf,vI,Bp c (show l.length<2 ^ 63 by omega)];rw[B4 (by simp only[AJ,AS];omega)];have:=B (a++[(doF g l[i]).2],(doF g l[i]).1) ⟨j.2.1,by simp[e]⟩ c;dsimp only at this;rw[this];simp only[Ij,List.append_assoc,List.singleton_append]
  .grind[BO,AU,Ij]
 .simp
end Lv.P
