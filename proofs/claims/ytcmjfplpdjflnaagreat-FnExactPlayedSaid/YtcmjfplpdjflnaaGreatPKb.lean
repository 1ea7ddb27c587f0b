/- Plain laws about what the program computes. -/
import Derived.Test.YtcmjfplpdjflnaaGreatPJb
noncomputable section
set_option linter.unusedVariables false
set_option linter.unusedSimpArgs false
set_option linter.unusedSectionVars false
open Bool renaming and_eq_true->AF
open Int renaming toNat_natCast->Ad,zero_add->G9
open List renaming getD_eq_getElem?_getD->BO,getElem?_eq_getElem->AT,getElem_mem->Au,length_append->AP,length_cons->AI,length_filterMap_le->CI,length_nil->AR,length_set->Ba,mem_cons->Ap,mem_cons_self->Bc
open Nat renaming le_trans->Aw,lt_or_ge->AZ
namespace Lv.P
open Lv Go
structure Qh(r:Aa)(ps qs:List AN)(now:Int)(i:Nat)(c:Ab):Prop where
 row:c.Row=Dq r ps i now
 G6:c.Bq=wOf (Fu ps i)
 total:c.AW.Total=r.AW.getD i 0
 held:c.AW.Ee=IY ps i
 JY:c.AW.Fx=I1 qs i
 led:Et c.AW=true
 room:DF ps i<=r.Room
theorem Qh.full{r:Aa}{ps:List AN}{now:Int}{i:Nat}{c:Ab}(h:Qh r ps ps now i c):W6 r ps now i c:=⟨h.row,h.G6,h.total,h.held,h.JY,h.led,h.room⟩
theorem W6.half{r:Aa}{ps:List AN}{now:Int}{i:Nat}{c:Ab}(h:W6 r ps now i c):Qh r ps ps now i c:=⟨h.row,h.G6,h.total,h.held,h.JY,h.led,h.room⟩
theorem Qh.perm{r:Aa}{ps qs a e:List AN}{now:Int}{i:Nat}{c:Ab}(h:Qh r ps qs now i c)(q:Uni ps)(g:ps.Perm a)(j:qs.Perm e):Qh r a e now i c:=
 ⟨by rw[h.row,ABy q g],by rw[h.G6,UD g],h.total,by rw[h.held,AEb g],by rw[h.JY,AFo j],h.led,by rw[<-Qx g];exact h.room⟩
theorem Jz{h:AE}{k j:Int}{c:Ab}(a:0<=k)(e:k<h.AH.length)(g:0<=j):cbn (Cu h k c) j=if j=k then c else cbn h j:=by
 grind[cbn,Cu]
theorem AGH{h:AE}{i:Nat}(hi:i<h.AH.length):cbn h i=h.AH[i]:=by
 unfold cbn;rw[Ad,BO,AT hi];rfl
theorem RH.cb{h:AE}(hR:RH h){i:Nat}(hi:i<h.AH.length):W6 h.AQ h.AG h.Now i (cbn h i):=by
 rw[AGH hi];exact hR.cab i hi
theorem RH.mk'{h:AE}(rules:D4 h.AQ=true)(now:0<=h.Now/\h.Now<=1000000)(turn:1<=h.Az/\h.Az<=1000001)(EU:h.AH.length=h.AQ.AW.length)(KC:Qi h.AQ h.Now h.Az h.AG)
 (cab:∀i:Nat,i<h.AH.length->W6 h.AQ h.AG h.Now i (cbn h i)) (todo:Ig h.BF h.AH.length=true) (GM:MF h.BC h.AH.length=true) (Rq:(h.BC.length:Int)=h.AQ.Cx):RH h:=
 ⟨rules,now,turn,EU,KC,fun i hi=>by rw[<-AGH hi];exact cab i hi,todo,GM,Rq⟩
structure One(h:AE)(id:Int)(p:AN)(rest:List AN):Prop where
 perm:h.AG.Perm (p::rest)
 sub:rest.Sublist h.AG
 okp:Dp h.AQ p h.Now=true
 pid:p.Id=id
 mem:p∈h.AG
 ne:∀q∈rest,q.Id≠id
 set:∀q:AN,q.Id=id->∃l,KO h.AG q=l/\l.Perm (q::rest)/\(q.Az=p.Az->q.Since=p.Since->Dp h.AQ q h.Now=true->Qi h.AQ h.Now h.Az l)
 cut:h.AG.eraseP (fun x=>x.Id==id)=rest
theorem RH.one{h:AE}(hR:RH h){id:Int}(G:0<=F4 h id):One h id (par h id) (h.AG.eraseP fun x=>x.Id==id):=by
 obtain⟨k,c,e,a,g,j⟩:=AYo G;have y:h.AG[k]∈h.AG:=Au c;have B:h.AG.Perm (par h id::h.AG.eraseP fun x=>x.Id==id):=by rw[a];exact ADH c j
 refine⟨B,List.eraseP_sublist,by rw[a];exact(hR.KC.par _ y).1,g,by rw[a];exact y,?_,?_,rfl⟩
 .have:=(hR.KC.uni.perm B).id
  grind[List.pairwise_cons]
 .intro q E;refine⟨h.AG.set k q,?_,set_perm c j q,?_⟩
  .unfold KO;unfold F4 at e;rw[E,e,AX (by omega),Ad]
  .intro H I J;refine hR.KC.set c ?_ ?_ ?_ J
   .rw[<-a,g,E]
   .rw[<-a,H]
   .rw[<-a,I]
theorem One.size{h:AE}{id:Int}{p:AN}{rest:List AN}(ho:One h id p rest):(1<=p.BA/\p.BA<=6)/\(0<=p.AY/\p.AY<h.AQ.AW.length)/\(-1<=p.Bi/\p.Bi<h.AQ.AW.length)/\p.Bi≠p.AY:=by
 have a:=E6 ho.okp;have c:=CM a.1;omega
def AXp(h:AE)(p:AN)(rest:List AN)(g:AE):Prop:=∀i:Nat,i<h.AH.length->Qh h.AQ rest (p::rest) h.Now i (cbn g i)
theorem ALO{r:Aa}{p:AN}{rest:List AN}{now:Int}{i:Nat}(G:1<=p.BA/\p.BA<=6)(q:p.AY≠i){c:Ab}(h:W6 r (p::rest) now i c):Qh r rest (p::rest) now i c:=by
 have y:K0 r i now p=none:=by
  grind[K0]
 have B:Lm i p=none:=by
  grind[Lm]
 have E:V4 i p=0:=by unfold V4;simp[q]
 have a:=h.row;have e:=h.G6;have g:=h.held;have j:=h.room;rw[Rx,y]at a;rw[UC,B]at e;rw[M9,E,G9]at g;rw[IT,AU q,G9]at j;exact⟨a,e,h.total,g,h.JY,h.led,j⟩
section
variable{h:AE}(hR:RH h){id:Int}{p:AN}{rest:List AN}(ho:One h id p rest)
include hR ho
theorem One.cab{i:Nat}(hi:i<h.AH.length):W6 h.AQ (p::rest) h.Now i (cbn h i):=((hR.cb hi).half.perm hR.KC.uni ho.perm ho.perm).full
theorem One.uni:Uni (p::rest):=hR.KC.uni.perm ho.perm
theorem One.room{i:Nat}(hi:i<h.AH.length):DF (p::rest) i<=10:=by
 have:=(ho.cab hR hi).room;have:=CM hR.rules;omega
theorem One.pins{i:Nat}(hi:i<h.AH.length):OL (Fu (p::rest) i):=by
 rw[<-UD ho.perm];exact WS hR.KC (by rw[Qx ho.perm];exact ho.room hR hi)
theorem tN(y:p.State=2){a c:Int}(Q:a=0/\c=1\/a=1/\c=0) :
 AXp h p rest (Cu h p.AY ⟨(l8 (cbn h p.AY).AW p.BA a (-1) c 0).1,(cbn h p.AY).Row,(S6 (cbn h p.AY).Bq ⟨p.Cq,p.Id⟩).1⟩):=by
 intro i hi;obtain⟨H,O,z3,z4⟩:=ho.size;have S:=hR.EU;rw[Jz O.1 (by omega) (by omega)];by_cases e:(i:Int)=p.AY
 .rw[AX e,<-e];have g:=ho.cab hR hi;have q:=ho.pins hR hi;have B:=g.row;have E:=g.G6;have J:=g.held;have L:=g.room;have G:=g.led;rw[UF _ _ _ (by omega)]at B;rw[Sk _ y,AX e.symm]at E q;rw[YC _ y H,AX e.symm]at J;rw[IT,AX e.symm]at L;have I:=ABB rest i;have kl:=HH.1 G;have j:Et ⟨(cbn h i).AW.Total,(cbn h i).AW.Db+a*p.BA,(cbn h i).AW.Ee+(-1)*p.BA,(cbn h i).AW.FY+c*p.BA,(cbn h i).AW.Fx+0*p.BA⟩=true:=by
   grind[HH]
  rw[AJT G (by omega) (by omega) (by omega) (by omega) (by omega) j,E,AW9 q];refine⟨B,rfl,g.total,?_,?_,j,?_⟩
  .dsimp only;omega
  .dsimp only;rw[g.JY];omega
  .omega
 .rw[AU e];exact ALO H (Ne.symm e) (ho.cab hR hi)
theorem AWI{g:AE}(L:AXp h p rest g)(c:g.AQ=h.AQ)(B:g.Now=h.Now)(G:g.Az=h.Az)(X:g.AG=h.AG)(j:g.AH.length=h.AH.length)
 (J:Ig g.BF h.AH.length=true) (H:g.BC=h.BC):RH (gone g p):=by
 obtain⟨S,Z,z3,z4⟩:=ho.size;have Q:=hR.EU;have E:g.AG.eraseP (fun x=>x.Id==p.Id)=rest:=by rw[X,ho.pid,ho.cut]
 have q:Qi h.AQ h.Now h.Az rest:=hR.KC.sub ho.sub;unfold gone;dsimp only;rw[E];split
 .rename_i I;refine RH.mk' (by show D4 g.AQ=true;rw[c];exact hR.rules) (by show 0<=g.Now/\_;rw[B];exact hR.now) (by show 1<=g.Az/\_;rw[G];exact hR.turn) (by simp[Cu,j,c,Q]) (by show Qi g.AQ g.Now g.Az rest;rw[c,B,G];exact q) ?_
   (by simpa[Cu,j] using J) (by simpa[Cu,j,H] using hR.GM) (by show (g.BC.length:Int)=g.AQ.Cx;rw[H,c];exact hR.Rq)
  intro i hi;have y:i<h.AH.length:=by simpa[Cu,j] using hi
  rw[Jz I (by show p.Bi<(g.AH.length:Int);omega) (by omega)];show W6 g.AQ rest g.Now i _;rw[c,B];have a:=L i y;have k:=a.JY;rw[Is _ S]at k;by_cases e:(i:Int)=p.Bi
  .rw[AX e,<-e];rw[AX e.symm]at k;have kl:=HH.1 a.led;have Y:=AU3 rest i;have O:Et ⟨(cbn g i).AW.Total,(cbn g i).AW.Db+0*p.BA,(cbn g i).AW.Ee+0*p.BA,(cbn g i).AW.FY+0*p.BA,(cbn g i).AW.Fx+(-1)*p.BA⟩=true:=by
    rw[HH];dsimp only;omega
   rw[AJT a.led (by omega) (by omega) (by omega) (by omega) (by omega) O];refine⟨a.row,a.G6,a.total,?_,?_,O,a.room⟩
   .dsimp only;rw[a.held];omega
   .dsimp only;omega
  .rw[AU e];rw[AU (Ne.symm e),G9]at k;exact⟨a.row,a.G6,a.total,a.held,k,a.led,a.room⟩
 .rename_i I;refine RH.mk' (by show D4 g.AQ=true;rw[c];exact hR.rules) (by show 0<=g.Now/\_;rw[B];exact hR.now) (by show 1<=g.Az/\_;rw[G];exact hR.turn) (by show g.AH.length=g.AQ.AW.length;rw[j,c,Q]) (by show Qi g.AQ g.Now g.Az rest;rw[c,B,G];exact q) ?_
   (by show Ig g.BF g.AH.length=true;rw[j];exact J) (by show MF g.BC g.AH.length=true;rw[j,H];exact hR.GM) (by show (g.BC.length:Int)=g.AQ.Cx;rw[H,c];exact hR.Rq)
  intro i hi;have y:i<h.AH.length:=by rw[<-j];exact hi
  show W6 g.AQ rest g.Now i (cbn g i);rw[c,B];have a:=L i y;have k:=a.JY;rw[Is _ S,AU (by omega),G9]at k;exact⟨a.row,a.G6,a.total,a.held,k,a.led,a.room⟩
theorem gv(hs:p.State=2):RH (IA h p):=by
 obtain⟨Q,z2,z3,z4⟩:=ho.size;have Z:=hR.EU;have L:AXp h p rest (dropped h p):=tN hR ho hs (.inr ⟨rfl,rfl⟩);have c:(dropped h p).AH.length=h.AH.length:=by simp[dropped,Cu]
 unfold IA;split
 .rename_i Y;have j:=Y;unfold EH at j;by_cases E:Dp h.AQ p h.Now=true/\p.State=2/\w64 (p.DH+1)<h.AQ.Ca
  .have hk:=E6 ho.okp;have hr:=CM hR.rules;have hq:(EH h.AQ p h.Now).1=⟨p.Id,p.AY,p.Bi,p.BA,p.Co,p.Since,p.Az,1,w64 (h.Now+h.AQ.Rest),w64 (p.DH+1)⟩:=by unfold EH;rw[AX E]
   rw[hq];have ew:w64 (h.Now+h.AQ.Rest)=h.Now+h.AQ.Rest:=Ah (by omega) (by omega);have ea:w64 (p.DH+1)=p.DH+1:=Ah (by omega) (by omega);rw[ew,ea];have G:=E.2.2;rw[ea]at G;have g:Dp h.AQ ⟨p.Id,p.AY,p.Bi,p.BA,p.Co,p.Since,p.Az,1,h.Now+h.AQ.Rest,p.DH+1⟩ h.Now=true:=by
    grind[Dp,CQ,Ah]
   obtain⟨l,S,B,X⟩:=ho.set ⟨p.Id,p.AY,p.Bi,p.BA,p.Co,p.Since,p.Az,1,h.Now+h.AQ.Rest,p.DH+1⟩ ho.pid;rw[S];have J:=X rfl rfl g;generalize hQ:(⟨p.Id,p.AY,p.Bi,p.BA,p.Co,p.Since,p.Az,1,h.Now+h.AQ.Rest,p.DH+1⟩:AN)=q at *;have q1:q.AY=p.AY:=by rw[<-hQ]
   have q2:q.Bi=p.Bi:=by rw[<-hQ]
   have O:q.BA=p.BA:=by rw[<-hQ]
   have H:q.State=1:=by rw[<-hQ]
   unfold GR;refine RH.mk' hR.rules hR.now hR.turn (by show ((dropped h p).AH.set _ _).length=_;rw[Ba,c];exact Z) J ?_ (by show Ig h.BF (((dropped h p).AH.set _ _).length:Nat)=true;rw[Ba,c];exact hR.todo) (by show MF h.BC (((dropped h p).AH.set _ _).length:Nat)=true;rw[Ba,c];exact hR.GM) hR.Rq;intro i hi;have y:i<h.AH.length:=by have:i<((dropped h p).AH.set q.AY.toNat _).length:=hi;rw[Ba,c]at this;exact this
   rw[Jz (by rw[q1];exact z2.1) (by rw[q1];show p.AY<((dropped h p).AH.length:Int);omega) (by omega)];show W6 h.AQ l h.Now i (if _ then (⟨(cbn (dropped h p) q.AY).AW,put ltE (EX h.AQ q h.Now).1 (cbn (dropped h p) q.AY).Row,(cbn (dropped h p) q.AY).Bq⟩:Ab) else cbn (dropped h p) i);have a:=L i y;have hu:=J.uni;have t1:I1 (p::rest) i=I1 (q::rest) i:=by rw[Is _ Q,Is _ (by rw[O];exact Q),q2,O]
   have I:DF (q::rest) i<=h.AQ.Room:=by
    have:=(ho.cab hR y).room;rw[IT]at this ⊢;rw[q1];exact this
   refine Qh.full (Qh.perm ?_ (hu.perm B) B.symm B.symm);by_cases e:(i:Int)=q.AY
   .rw[AX e,<-e];refine⟨?_,?_,a.total,?_,by dsimp only;rw[a.JY,t1],a.led,I⟩
    .dsimp only;rw[K1 _ g H,AX e.symm,Pm g H,a.row]
    .dsimp only;rw[PE _ (by omega),a.G6]
    .dsimp only;rw[Ot _ (by omega),a.held]
   .rw[AU e];refine⟨?_,?_,a.total,?_,by rw[a.JY,t1],a.led,I⟩
    .rw[K1 _ g H,AU (Ne.symm e),a.row]
    .rw[PE _ (by omega),a.G6]
    .rw[Ot _ (by omega),a.held]
  .rw[AU E]at j;cases j
 .exact AWI hR ho L rfl rfl rfl rfl c hR.todo rfl
end
def ZY(p:AN)(now:Int):Bool:=p.State==1&&decide (p.Cq>now)
def jt(h:AE):List Int:=h.AG.filterMap fun p=>if ZY p h.Now=true then some p.Id else none
def AA2(free:Int)(skip:List Int)(e:Af):Bool:=decide (e.BA<=free)&&!(skip.any fun y=>y==e.Id)
def TQ(h:AE)(k:Int):Int:=atF (AA2 (cbn h k).AW.Db (jt h)) (cbn h k).Row 0
def AV5:Af:=⟨0,0,0,0⟩
def EV(h:AE)(k:Int):Int:=if TQ h k<0 then 0 else ((cbn h k).Row.getD (TQ h k).toNat AV5).Id
theorem uV(p:AN)(now:Int):AHx p now=some (ZY p now):=by
 unfold AHx eo ZY;rw[AV,AV,Cp]
theorem kx{l:List Af}(c:l.length<=1048576){skip:List Int}(e:skip.length<=1048576)(free:Int):AHy l free skip=some (atF (AA2 free skip) l 0):=by
 unfold AHy;refine Pc (by omega) ?_ ?_
 .intro L i h;unfold fA eu AA2;rw[B4 h,BK];simp only[BJ h,AB,UJ (show skip.length<2 ^ 62 by omega),AV];by_cases a:l[i].BA<=free
  .simp only[a,decide_true,BK,Bool.true_and]
  .simp only[a,decide_false,BL,Bool.false_and]
 grind[fA,zn,BL,AV]
theorem pC{l:List Af}{p:Af->Bool}(a:¬atF p l 0<0):at? l (atF p l 0)=some (l.getD (atF p l 0).toNat AV5)/\∃c:(atF p l 0).toNat<l.length,p l[(atF p l 0).toNat]=true/\l.getD (atF p l 0).toNat AV5=l[(atF p l 0).toNat]:=by
 grind[Ik,BJ]
theorem ub{h:AE}(a:B0 h){k:Int}(e:0<=k)(g:k<h.AH.length):zp h k=some (EV h k):=by
 have hlim:lim=268435456:=rfl;have c:=a.CP;have q:(jt h).length<=1048576:=Aw (CI _ _) c;have j:=(a.D1 _ (Tg e g)).1;unfold zp;rw[collect (l:=h.AG) (fun p=>if ZY p h.Now=true then some p.Id else none) (fC h k) c ?_ ?_]
 .grind[fC,cbn,FG,AB,jt,kx,TQ,EV,BQ,pC]
 .grind[fD,fB,BJ,AB,uV,B7,AV,B8]
 grind[fD,BL,AV]
def AYi(h:AE)(p:AN):AN:=⟨p.Id,p.AY,p.Bi,p.BA,p.Co,p.Since,p.Az,2,w64 (h.Now+h.AQ.B1),p.DH⟩
def IE(h:AE)(k id:Int):AE:=
 Cu (NS h (KO h.AG (AYi h (par h id)))) k ⟨(l8 (cbn h k).AW (par h id).BA (-1) 1 0 0).1,(cbn h k).Row.eraseP (fun x=>x.Id==id),(PU (cbn h k).Bq ⟨w64 (h.Now+h.AQ.B1),id⟩).1⟩
theorem jE{h:AE}(hR:RH h){k:Nat}(O:k<h.AH.length)(g:EV h k≠0):0<=F4 h (EV h k)/\(par h (EV h k)).State=1/\(par h (EV h k)).AY=k/\(par h (EV h k)).BA<=(cbn h k).AW.Db/\ZY (par h (EV h k)) h.Now=false:=by
 unfold EV at g ⊢;by_cases j:TQ h k<0
 .rw[AX j]at g;exact absurd rfl g
 .rw[AU j]at g ⊢;obtain⟨_,c,H,I⟩:=pC j;have J:=hR.cb O;have q:(cbn h k).Row.getD (TQ h k).toNat AV5=(cbn h k).Row[(TQ h k).toNat]'c:=I;rw[q];have Q:(cbn h k).Row[(TQ h k).toNat]'c∈Dq h.AQ h.AG k h.Now:=by rw[<-J.row];exact Au _
  obtain⟨p,S,L⟩:=QL Q;obtain⟨G,X,Y,Z⟩:=Jn L;have a:AA2 (cbn h k).AW.Db (jt h) ((cbn h k).Row[(TQ h k).toNat]'c)=true:=H;unfold AA2 at a;rw[AF,decide_eq_true_iff]at a;generalize (cbn h k).Row[(TQ h k).toNat]'c=e at *;subst G;dsimp only at a ⊢;have B:0<=F4 h p.Id:=by
   grind[F4,Ik]
  have ho:=hR.one B;have E:par h p.Id=p:=by
   rcases Ap.1 (ho.perm.subset S) with y|y
   .exact y.symm
   .exact absurd rfl (ho.ne p y)
  rw[E]
  grind[jt]
theorem AFC{h:AE}(hR:RH h){k:Nat}(hk:k<h.AH.length){id:Int}{rest:List AN}(ho:One h id (par h id) rest)(hs:(par h id).State=1)(g:(par h id).AY=k)(hf:(par h id).BA<=(cbn h k).AW.Db):RH (IE h k id):=by
 obtain⟨H,z2,z3,z4⟩:=ho.size;have hn:=hR.EU;have hr:=CM hR.rules;have Y:=hR.now;have ew:w64 (h.Now+h.AQ.B1)=h.Now+h.AQ.B1:=Ah (by omega) (by omega);unfold IE;generalize hP:par h id=p at *;have hq:AYi h p=⟨p.Id,p.AY,p.Bi,p.BA,p.Co,p.Since,p.Az,2,h.Now+h.AQ.B1,p.DH⟩:=by unfold AYi;rw[ew]
 rw[hq,ew];have O:Dp h.AQ ⟨p.Id,p.AY,p.Bi,p.BA,p.Co,p.Since,p.Az,2,h.Now+h.AQ.B1,p.DH⟩ h.Now=true:=by
  have:=ho.okp
  grind[Dp,CQ]
 obtain⟨l,e1,c,e3⟩:=ho.set ⟨p.Id,p.AY,p.Bi,p.BA,p.Co,p.Since,p.Az,2,h.Now+h.AQ.B1,p.DH⟩ ho.pid;rw[e1];have J:=e3 rfl rfl O;have q5:(⟨h.Now+h.AQ.B1,id⟩:BH)=⟨(⟨p.Id,p.AY,p.Bi,p.BA,p.Co,p.Since,p.Az,2,h.Now+h.AQ.B1,p.DH⟩:AN).Cq,(⟨p.Id,p.AY,p.Bi,p.BA,p.Co,p.Since,p.Az,2,h.Now+h.AQ.B1,p.DH⟩:AN).Id⟩:=by rw[<-ho.pid]
 rw[q5];generalize hQ:(⟨p.Id,p.AY,p.Bi,p.BA,p.Co,p.Since,p.Az,2,h.Now+h.AQ.B1,p.DH⟩:AN)=q at *;have q1:q.AY=p.AY:=by rw[<-hQ]
 have q2:q.Bi=p.Bi:=by rw[<-hQ]
 have B:q.BA=p.BA:=by rw[<-hQ]
 have E:q.State=2:=by rw[<-hQ]
 have hu:=J.uni;refine RH.mk' hR.rules hR.now hR.turn (by show (h.AH.set _ _).length=_;rw[Ba];exact hn) J ?_ (by show Ig h.BF ((h.AH.set _ _).length:Nat)=true;rw[Ba];exact hR.todo) (by show MF h.BC ((h.AH.set _ _).length:Nat)=true;rw[Ba];exact hR.GM) hR.Rq;intro i hi;have L:i<h.AH.length:=by have:i<(h.AH.set (k:Int).toNat _).length:=hi;rw[Ba]at this;exact this
 rw[Jz (by omega) (by show (k:Int)<(h.AH.length:Int);omega) (by omega)];show W6 h.AQ l h.Now i (if (i:Int)=k then (⟨_,_,_⟩:Ab) else cbn h i);have a:=ho.cab hR L;have t1:I1 (p::rest) i=I1 (q::rest) i:=by rw[Is _ H,Is _ (by rw[B];exact H),q2,B]
 have S:DF (q::rest) i<=h.AQ.Room:=by
  have:=a.room;rw[IT]at this ⊢;rw[q1];exact this
 refine Qh.full (Qh.perm ?_ (hu.perm c) c.symm c.symm);have G:=a.row;have Q:=a.G6;have Z:=a.held;rw[K1 _ ho.okp hs]at G;rw[PE _ (by omega)]at Q;rw[Ot _ (by omega)]at Z;by_cases e:(i:Int)=k
 .obtain rfl:i=k:=by omega
  rw[AX rfl];have j:OL (Fu (q::rest) (i:Int)):=by
   rw[<-UD c];exact WS J (by rw[Qx c];omega)
  rw[Sk _ E,AX (by rw[q1,g])]at j;have kl:=HH.1 a.led;have hnn:=ABB rest i;have X:Et ⟨(cbn h i).AW.Total,(cbn h i).AW.Db+(-1)*p.BA,(cbn h i).AW.Ee+1*p.BA,(cbn h i).AW.FY+0*p.BA,(cbn h i).AW.Fx+0*p.BA⟩=true:=by
   rw[HH];dsimp only;omega
  rw[AJT a.led (by omega) (by omega) (by omega) (by omega) (by omega) X,Q,AXA j];refine⟨?_,?_,a.total,?_,?_,X,S⟩
  .dsimp only;rw[G,AX g,UF _ _ _ (by omega)];refine SX (by simpa using ho.pid) fun x hx=>?_
   obtain⟨y,hy,he⟩:=QL hx;obtain⟨rfl,_⟩:=Jn he;simpa using ho.ne y hy
  .dsimp only;rw[Sk _ E,AX (by rw[q1,g])]
  .dsimp only;rw[YC _ E (by rw[B];exact H),AX (by rw[q1,g]),B];omega
  .dsimp only;rw[a.JY,t1];omega
 .rw[AU e];have I:¬q.AY=i:=by rw[q1,g];omega
  rw[AU (by rw[<-q1];exact I)]at G;refine⟨by rw[G,UF _ _ _ (by omega)],by rw[Q,Sk _ E,AU I],a.total,by rw[Z,YC _ E (by rw[B];exact H),AU I];omega,by rw[a.JY,t1],a.led,S⟩
theorem RH.sm{h:AE}(hR:RH h):Sm 1000 h:=by
 have G:=CM hR.rules;have E:=hR.EU;have B:=hR.Rq;refine⟨by omega,by have:=hR.KC.few;omega,by omega,?_,by have:=AU8 (by omega) hR.todo;omega,by omega⟩;intro c e;obtain⟨i,hi,rfl⟩:=List.mem_iff_getElem.1 e;have a:=hR.cab i hi;have j:=a.room;have y:=QK h.AQ h.AG i h.Now;have g:=WS hR.KC (c:=i) (by omega);have q:=kU g;refine⟨by rw[a.row];omega,by rw[a.G6,aa];omega,by rw[a.G6];have:=q.few;omega⟩
theorem RH.fit{h:AE}(hR:RH h):B0 h:=hR.sm.fit (by omega)
theorem RH.su{h:AE}(hR:RH h){q:AN}(e:q∈h.AG):0<=F4 h q.Id/\par h q.Id=q:=by
 have a:0<=F4 h q.Id:=by
  grind[F4,Ik]
 have ho:=hR.one a;refine⟨a,?_⟩;rcases Ap.1 (ho.perm.subset e) with c|c
 .exact c.symm
 .exact absurd rfl (ho.ne q c)
structure Kept(h g:AE):Prop where
 rules:g.AQ=h.AQ
 now:g.Now=h.Now
 turn:g.Az=h.Az
 EU:g.AH.length=h.AH.length
 todo:g.BF=h.BF
 GM:g.BC=h.BC
theorem Kept.refl(h:AE):Kept h h:=⟨rfl,rfl,rfl,rfl,rfl,rfl⟩
theorem Kept.trans{a b c:AE}(h:Kept a b)(g:Kept b c):Kept a c:=⟨g.rules.trans h.rules,g.now.trans h.now,g.turn.trans h.turn,g.EU.trans h.EU,g.todo.trans h.todo,g.GM.trans h.GM⟩
theorem AKq(h:AE)(p:AN):Kept h (gone h p):=by
 unfold gone;dsimp only;split
 .exact⟨rfl,rfl,rfl,by simp[Cu],rfl,rfl⟩
 .exact⟨rfl,rfl,rfl,rfl,rfl,rfl⟩
theorem qI(h:AE)(p:AN):Kept h (dropped h p):=⟨rfl,rfl,rfl,by simp[dropped,Cu],rfl,rfl⟩
theorem gw(h:AE)(p:AN):Kept h (IA h p):=by
 unfold IA;split
 .exact⟨rfl,rfl,rfl,by simp[GR,NS,dropped,Cu],rfl,rfl⟩
 .exact(qI h p).trans (AKq _ _)
theorem QD(h:AE)(k id:Int):Kept h (IE h k id):=⟨rfl,rfl,rfl,by simp[IE,NS,Cu],rfl,rfl⟩
theorem AKn{h:AE}{id:Int}{p:AN}{rest:List AN}(ho:One h id p rest){q:AN}(c:q∈rest):q∈(IA h p).AG:=by
 unfold IA;split
 .rename_i a;have e:(EH h.AQ p h.Now).1.Id=id:=by
   unfold EH at a ⊢;split at a
   .rename_i g;rw[AX g];exact ho.pid
   .cases a
  obtain⟨l,j,y,_⟩:=ho.set _ e;show q∈KO h.AG (EH h.AQ p h.Now).1
  grind
 .have:(gone (dropped h p) p).AG=rest:=by
   rw[<-ho.cut,<-ho.pid];unfold gone;dsimp only;split<;>rfl
  rw[this];exact c
def SY:List Int->AE->AE| [],g=>g|id::l,g=>SY l (IA g (par g id))
def AKE(g:AE)(l:List Int):Prop:=l.Nodup/\∀id∈l,0<=F4 g id/\(par g id).State=2
theorem Tp{g:AE}(hR:RH g){id:Int}{l:List Int}(hO:AKE g (id::l)):RH (IA g (par g id))/\AKE (IA g (par g id)) l/\Kept g (IA g (par g id)):=by
 obtain⟨c,B⟩:=hO;rw[List.nodup_cons]at c;obtain⟨G,H⟩:=B id (Bc ..);have ho:=hR.one G;have hR':=gv hR ho H;refine⟨hR',⟨c.2,?_⟩,gw _ _⟩;intro j E;obtain⟨I,L⟩:=B j (List.mem_cons_of_mem _ E);have y:j≠id:=fun e=>c.1 (e▸E)
 have a:=hR.one I;have J:par g j∈g.AG.eraseP (fun x=>x.Id==id):=by
  rcases Ap.1 (ho.perm.subset a.mem) with q|q
  .exact absurd (by rw[<-a.pid,<-ho.pid,q]) y
  .exact q
 have:=hR'.su (AKn ho J);rw[a.pid]at this
 grind
theorem Pn:∀{l:List Int} {g:AE},RH g->AKE g l->RH (SY l g)/\Kept g (SY l g)
 | [],g,hR,_=>⟨hR,Kept.refl g⟩|id::l,g,hR,hO=>by
  obtain⟨a,c,e⟩:=Tp hR hO;obtain⟨j,q⟩:=Pn a c;exact⟨j,e.trans q⟩
def Vw(h:AE)(k:Int):AE:=SY (gm (cbn h k).Bq h.Now) h
theorem RN{h:AE}(hR:RH h){k:Nat}(I:k<h.AH.length):AKE h (gm (cbn h k).Bq h.Now)/\(gm (cbn h k).Bq h.Now).length<=10:=by
 have E:=hR.cb I;have X:=CM hR.rules;have q:=WS hR.KC (c:=k) (by have:=E.room;omega);have e:gm (cbn h k).Bq h.Now=(Fu h.AG k).filterMap fun p=>if p.At<=h.Now then some p.Id else none:=by
  unfold gm;rw[E.G6,ACl q]
 rw[e];refine⟨⟨?_,?_⟩,Aw (CI _ _) q.few⟩
 .show List.Pairwise _ _;rw[List.pairwise_filterMap];refine q.ids.imp ?_;intro a b L x g y Q;split at g<;>split at Q<;>simp_all
 .intro id j;obtain⟨pin,J,g⟩:=List.mem_filterMap.1 j;split at g
  .obtain⟨p,B,O⟩:=nh J;obtain⟨rfl,S,_⟩:=Sl O;cases g;obtain⟨G,H⟩:=hR.su B;exact⟨G,by rw[H];exact S⟩
  .cases g
theorem AYp{h:AE}(hR:RH h){id:Int}(a:0<=F4 h id):0<=(par h id).AY/\(par h id).AY<h.AH.length/\(par h id).Bi<h.AH.length:=by
 have:=(hR.one a).size;have:=hR.EU;omega
theorem Pd{h:AE}{id:Int}(a:0<=F4 h id):at? h.AG (F4 h id)=some (par h id):=XA a (QI a).1
theorem j8{h:AE}(hR:RH h){k:Nat}(q:k<h.AH.length):AHw h k=some (Vw h k):=by
 obtain⟨hO,E⟩:=RN hR q;unfold AHw Vw;rw[ACX hR.fit (by omega) (by omega),AB];generalize gm (cbn h k).Bq h.Now=D at *;refine(C1 (F:=eZ D) (n:=D.length) (fun i (v:AE)=>((i:Int),v)) (fun i v=>RH v/\AKE v (D.drop i)) (fun i v=>some (SY (D.drop i) v)) (by omega) ?_ (v:=h) ⟨hR,hO⟩);rintro L i v ⟨e,ho⟩ hi y;unfold eZ zm;dsimp only;rcases AZ i D.length with a|j
 .rw[DR a]at ho ⊢;have g:=ho.2 D[i] (Bc ..);have c:=AYp e g.1;obtain⟨s1,B,_⟩:=Tp e ho;simp only[B4 a,BK,BJ a,AB,Gq e.fit,Pd g.1,TZ (show 1000+2<=1048576 by omega) e.sm c.1 c.2.1 c.2.2,Bt a (show D.length<2 ^ 63 by omega)];exact y _ ⟨s1,B⟩ a
 .obtain rfl:i=D.length:=by omega
  rw[C0,BL,AV,List.drop_length];rfl
theorem ABl{h:AE}(hR:RH h){k:Nat}(e:k<h.AH.length){id:Int}{rest:List AN}(ho:One h id (par h id) rest)(g:(par h id).State=1)(a:(par h id).AY=k):(cbn (IE h k id) k).Row.length+1=(cbn h k).Row.length:=by
 unfold IE;rw[Jz (by omega) (by show (k:Int)<(h.AH.length:Int);omega) (by omega),AX rfl];dsimp only;have:=(ho.cab hR e).row;rw[K1 _ ho.okp g,AX a]at this;rw[this,SX (by simpa using ho.pid) fun x j=>?_,FX];obtain⟨y,q,c⟩:=QL j;obtain⟨rfl,_⟩:=Jn c;simpa using ho.ne y q
theorem lB{h:AE}(hR:RH h){k:Nat}(g:k<h.AH.length):AHz h k=some (if EV h k=0 then (h,0) else (IE h k (EV h k),EV h k))/\(EV h k=0->AH0 h k=some ((),0)):=by
 have a:=hR.fit;unfold AHz AH0;rw[ub a (by omega) (by omega),AB,AB,B7,B7];by_cases c:EV h k=0
 .grind
 .refine⟨?_,fun h=>absurd h c⟩;obtain⟨j,q,y,B,E⟩:=jE hR g c;have e:=a.D1 _ (Tg (k:=(k:Int)) (by omega) (by omega));rw[AU (by simpa using c),AU c];simp only[Gq a,AB,Pd j,Fq,OG a.CP,show at? h.AH (k:Int)=some (cbn h k) from FG (by omega) (by omega),j5,TU e.1,TX e.2];rfl
def NM(k:Int):Nat->AE->List Int->AE×List Int|0,h,a=>(h,a)|n+1,h,a=>if EV h k=0 then (h,a) else NM k n (IE h k (EV h k)) (a++[EV h k])
theorem AJw{k:Int}{h:AE}(c:EV h k=0)(a:List Int):∀n,NM k n h a=(h,a)|0=>rfl|n+1=>by unfold NM;rw[AX c]
theorem T8{h:AE}(hR:RH h){k:Nat}(a:k<h.AH.length)(j:EV h k≠0):RH (IE h k (EV h k))/\(cbn (IE h k (EV h k)) k).Row.length+1=(cbn h k).Row.length:=by
 obtain⟨c,e,g,q,y⟩:=jE hR a j;exact⟨AFC hR a (hR.one c) e g q,ABl hR a (hR.one c) e g⟩
theorem ACJ{k:Nat}:∀(n:Nat) {h:AE} (a:List Int),RH h->k<h.AH.length->RH (NM k n h a).1/\Kept h (NM k n h a).1/\(NM k n h a).2.length<=a.length+n
 |0,h,a,hR,_=>⟨hR,Kept.refl h,by unfold NM;simp⟩|n+1,h,a,hR,e=>by
  unfold NM;split
  .exact⟨hR,Kept.refl h,by simp⟩
  .rename_i B;have y:=T8 hR e B;have c:=QD h k (EV h k);obtain⟨g,j,q⟩:=ACJ n (a++[EV h k]) y.1 (by rw[c.EU];exact e);refine⟨g,c.trans j,?_⟩;rw[AP,List.length_singleton]at q;omega
def JQ(h:AE)(k:Int):AE×List Int:=NM k 10 (Vw h k) []
theorem aZ{h:AE}(hR:RH h){k:Nat}(c:k<h.AH.length):(cbn h k).Row.length<=10:=by
 have a:=hR.cb c;have j:=CM hR.rules;have e:=QK h.AQ h.AG k h.Now;have g:=a.room;rw[a.row];omega
theorem ABh{h:AE}{k:Int}(a:EV h k≠0):0<(cbn h k).Row.length:=by
 unfold EV at a;split at a
 .exact absurd rfl a
 .rename_i c;obtain⟨_,e,_⟩:=pC c;omega
theorem AUh{h:AE}(hR:RH h){k:Nat}(y:k<h.AH.length):A3 (Va k) big ([],h)=some (NM k 10 h []):=by
 have hlim:lim=268435456:=rfl;refine YS (F:=Va k) (fun x=>some (NM k (10-x.1.length) x.2 x.1)) (fun x=>RH x.2/\k<x.2.AH.length/\x.1.length+(cbn x.2 k).Row.length<=10) (fun x=>(cbn x.2 k).Row.length) ?_ (x:=([],h)) ⟨hR,y,by have:=aZ hR y;simpa using this⟩ (by have:=aZ hR y;show (cbn h k).Row.length<_;omega);rintro L ⟨a,g⟩ ⟨q,c,e⟩ E;dsimp only at q c e E ⊢;unfold Va;dsimp only;obtain⟨H,I⟩:=lB q c;rw[H,AB];by_cases j:EV g k=0
 .grind[AB,AJw,BK,AXf]
 .obtain⟨s1,J⟩:=T8 q c j;have B:=ABh j;rw[AU j];dsimp only;have G:(EV g k==0)=false:=by simpa using j
  rw[G,BL,B8 (by simp only[AI,AR];omega),E (a++[EV g k],IE g k (EV g k)) ⟨s1,by rw[(QD g k _).EU];exact c,by simp only[AP,AI,AR];omega⟩ (by dsimp only;omega),AXg];congr 1;rw[show 10-a.length=(10-(a++[EV g k]).length)+1 by simp only[AP,AI,AR];omega]
  conv=>rhs;unfold NM
  rw[AU j]
theorem jm{h:AE}(hR:RH h){k:Nat}(c:k<h.AH.length):RH (JQ h k).1/\Kept h (JQ h k).1/\(JQ h k).2.length<=10:=by
 obtain⟨g,a⟩:=Pn hR (RN hR c).1;obtain⟨s1,j,e⟩:=ACJ (k:=k) 10 [] g (by rw[a.EU];exact c);exact⟨s1,a.trans j,by simp only[AR,Nat.zero_add]at e;exact e⟩
theorem AM0{h:AE}(hR:RH h){k:Nat}(c:k<h.AH.length):AH1 h k=some (JQ h k):=by
 have a:=hR.fit;have j:=a.EU;obtain⟨e,g⟩:=Pn hR (RN hR c).1;unfold AH1 AN2 eV;rw[HN a,AB,Io a,Ji.2 hR,AB,BK,GB,AB,AV,AB,Ah (by omega) (by omega),CQ.2 (by omega),BB,BK,j8 hR c,AB];exact AUh e (by rw[g.EU];exact c)
theorem Gy{h:AE}{q:Bp}(a:verdict h q=0):RH h:=by
 grind[verdict,Ji]
theorem Wz{h:AE}{q:Bp}(E:q.Kind=7)(a:verdict h q=0):∃n:Nat,∃e:n<h.BC.length,q.Id=(n:Int)/\¬(h.BC[n]<0/\h.BF.length=0):=by
 have hR:=Gy a;unfold verdict at a;rw[AX (Ji.2 hR)]at a;unfold HT at a;split at a
 .cases a
 .split at a
  .cases a
  .rename_i y;have c:KN q=true:=by simpa using y
   have hi:0<=q.Id:=by
    unfold KN at c;rw[AU (by omega),AX (by omega)]at c;simp only[AF,Ql,CQ]at c;exact c.1.1
   rw[AU (by omega),AU (by omega),AU (by omega),AU (by omega),AU (by omega)]at a
   try rw[AX E]at a
   by_cases g:h.AQ.Cx<=q.Id
   .rw[AX g]at a;cases a
   .rw[AU g]at a;obtain⟨n,e⟩:=Int.eq_ofNat_of_zero_le hi;have j:n<h.BC.length:=by have:=hR.Rq;omega
    refine⟨n,j,e,?_⟩;rw[e,Ad,BO,AT j,Option.getD_some]at a;intro B;rw[AX B]at a;cases a
def ACn(h:AE)(l:List Int):AE:=⟨h.AQ,h.Now,h.Az,h.AG,h.AH,h.BF,l⟩
def tl(h:AE)(who:Int):AE×List Int:=
 if h.BC.getD who.toNat 0<0 then (ACn (El h (h.BF.drop 1)) (h.BC.set who.toNat (h.BF.getD 0 0)),[])
 else (ACn (JQ h (h.BC.getD who.toNat 0)).1 ((JQ h (h.BC.getD who.toNat 0)).1.BC.set who.toNat (-1)),(JQ h (h.BC.getD who.toNat 0)).2)
def WR(h:AE)(who:Int):AE×Int×List Int:=
 if verdict h ⟨7,who,0,0,0,0⟩≠0 then (h,verdict h ⟨7,who,0,0,0,0⟩,[]) else ((tl h who).1,0,(tl h who).2)
theorem RH.job{h:AE}(hR:RH h){n:Nat}(a:n<h.BC.length)(c:¬h.BC[n]<0):∃k:Nat,k<h.AH.length/\h.BC[n]=(k:Int):=by
 have:=List.all_eq_true.1 hR.GM _ (Au a);have e:=hR.fit.EU
 grind[CQ,Ah,Int.eq_ofNat_of_zero_le]
theorem AMz{h:AE}(c:B0 h)(who:Int):AH2 h who=some (WR h who)/\B0 (WR h who).1/\(WR h who).2.2.length<=10:=by
 have hlim:lim=268435456:=rfl;unfold AH2 WR;rw[HN c,AB,Gr c,AB];simp only[B7,bne_iff_ne,ne_eq];by_cases q:verdict h ⟨7,who,0,0,0,0⟩=0
 .rw[AU (not_not_intro q),AU (not_not_intro q)];have hR:=Gy q;obtain⟨n,j,e,E⟩:=Wz rfl q;dsimp only at e;subst e;have eg:h.BC.getD n 0=h.BC[n]:=by rw[BO,AT j];rfl
  unfold tl;rw[BJ j,AB,Ad,eg];simp only[decide_eq_true_eq];by_cases g:h.BC[n]<0
  .rw[AX g,AX g];have I:0<h.BF.length:=by
    rcases Nat.eq_zero_or_pos h.BF.length with y|y
    .exact absurd ⟨g,y⟩ E
    .exact y
   have J:h.BF.getD 0 0=h.BF[0]:=by rw[BO,AT I];rfl
   have G:=c.todo;have L:(List.drop (Int.toNat 1) h.BF).length<=h.BF.length:=by rw[List.length_drop];omega
   rw[Ub,AT I,AB,AB,AB,B8 ⟨by omega,by omega⟩,B8 (by omega),J];exact⟨rfl,⟨c.Dw,c.CP,c.EU,c.D1,Aw L G,by show (h.BC.set _ _).length<=_;rw[Ba];exact c.GM⟩,by simp⟩
  .rw[AU g,AU g];obtain⟨k,H,ek⟩:=hR.job j g;obtain⟨s1,O,Q⟩:=jm hR H;rw[ek,AM0 hR H,AB];have B:n<(JQ h k).1.BC.length:=by rw[O.GM];exact j
   rw[BJ B,AB,AB];have a:=s1.fit;exact⟨rfl,⟨a.Dw,a.CP,a.EU,a.D1,a.todo,by show ((JQ h k).1.BC.set _ _).length<=_;rw[Ba];exact a.GM⟩,Q⟩
 grind
def doF(h:AE)(q:Bp):AE×Bz:=
 if verdict h q≠0 then (h,⟨verdict h q,[]⟩)
 else if q.Kind=1 then ((ig h q.Id q.AY q.Bi q.BA q.Co).1,⟨(ig h q.Id q.AY q.Bi q.BA q.Co).2,[]⟩)
 else if q.Kind=2 then ((Pf h q.Id).1,⟨(Pf h q.Id).2,[]⟩)
 else if q.Kind=3 then ((hH h q.AY q.BA).1,⟨(hH h q.AY q.BA).2,[]⟩)
 else if q.Kind=4 then ((PY h q.Id).1,⟨(PY h q.Id).2,[]⟩)
 else if q.Kind=5 then ((M1 h q.Id).1,⟨(M1 h q.Id).2,[]⟩)
 else if q.Kind=6 then ((kK h).1,⟨(kK h).2,[]⟩)
 else ((WR h q.Id).1,⟨(WR h q.Id).2.1,(WR h q.Id).2.2⟩)
theorem uN{h:AE}(E:B0 h)(q:Bp):ZC h q=some (doF h q)/\B0 (doF h q).1/\(doF h q).2.Ids.length<=10:=by
 unfold ZC doF LM;rw[HN E,AB,Gr E,AB];simp only[B7,bne_iff_ne,ne_eq,beq_iff_eq,AV];by_cases G:verdict h q=0
 .have hR:=Gy G;have a:=hR.sm;have H:=hR.EU;have I:=CM hR.rules;rw[AU (not_not_intro G),AU (not_not_intro G)];by_cases c:q.Kind=1
  .rw[AX c,AX c];have:=AMx (show 1000+3<=1048576 by omega) a q.Id q.AY q.Bi q.BA q.Co;rw[this.1,AB];exact⟨rfl,this.2.fit (by omega),by simp⟩
  .rw[AU c,AU c];by_cases e:q.Kind=2
   .rw[AX e,AX e];have:=ACT (show 1000+1<=1048576 by omega) a q.Id;rw[this.1,AB];exact⟨rfl,this.2.fit (by omega),by simp⟩
   .rw[AU e,AU e];by_cases g:q.Kind=3
    .rw[AX g,AX g];have:=jw (show 1000+1<=1048576 by omega) a q.AY q.BA;rw[this.1,AB];exact⟨rfl,this.2.fit (by omega),by simp⟩
    .rw[AU g,AU g];by_cases j:q.Kind=4
     .rw[AX j,AX j];have:=ACR (show 1000+1<=1048576 by omega) a q.Id;rw[this.1,AB];exact⟨rfl,this.2.fit (by omega),by simp⟩
     .rw[AU j,AU j];by_cases y:q.Kind=5
      .rw[AX y,AX y];have:=uM (show 1000+3<=1048576 by omega) a q.Id;rw[this.1,AB];exact⟨rfl,this.2.fit (by omega),by simp⟩
      .rw[AU y,AU y];by_cases B:q.Kind=6
       .rw[AX B,AX B];have:=AM2 a (show 1000+h.AH.length<=1048576 by omega);rw[this.1,AB];exact⟨rfl,this.2.fit (by omega),by simp⟩
       .rw[AU B,AU B];have:=AMz E q.Id;rw[this.1,AB];exact⟨rfl,this.2.1,this.2.2⟩
 grind
def I0:List Bp->AE->AE×List Bz| [],h=>(h,[])|q::l,h=>((I0 l (doF h q).1).1,(doF h q).2::(I0 l (doF h q).1).2)
theorem Kh:∀(l:List Bp) {h:AE},B0 h->B0 (I0 l h).1/\(I0 l h).2.length=l.length/\∀r∈(I0 l h).2,r.Ids.length<=10
 | [],h,a=>⟨a,rfl,by simp[I0]⟩|q::l,h,a=>by
  have c:=uN a q;obtain⟨e,g,j⟩:=Kh l c.2.1
  grind[I0]
theorem UH{h:AE}(q:B0 h){l:List Bp}(G:l.length<=1048576):fE h l=some (I0 l h):=by
 have hlim:lim=268435456:=rfl;unfold fE;rw[HN q,AB];refine(C1 (F:=fF l) (n:=l.length) (fun i (v:List Bz×AE)=>(v.1,(i:Int),v.2)) (fun i v=>B0 v.2/\v.1.length=i) (fun i v=>some ((I0 (l.drop i) v.2).1,v.1++(I0 (l.drop i) v.2).2)) (by omega) ?_ (v:=([],h)) ⟨q,rfl⟩).trans ?_
 .rintro L i ⟨a,g⟩ ⟨y,e⟩ hi B;dsimp only at y e B ⊢;unfold fF zr;dsimp only;rcases AZ i l.length with c|E
  .have j:=uN y l[i];rw[DR c];simp only[B4 c,BK,BJ c,AB,j.1,Hm,uk,Bt c (show l.length<2 ^ 63 by omega)];rw[B8 (by simp only[AI,AR];omega)];have:=B (a++[(doF g l[i]).2],(doF g l[i]).1) ⟨j.2.1,by simp[e]⟩ c;dsimp only at this;rw[this];simp only[I0,List.append_assoc,List.singleton_append]
  .grind[BL,AV,I0]
 .simp
end Lv.P
