/- Plain laws about what the program computes. -/
import Derived.Test.YtcmjfplpdjflnaaGreatPIc
noncomputable section
set_option linter.unusedVariables false
set_option linter.unusedSimpArgs false
set_option linter.unusedSectionVars false
open Bool renaming and_eq_true->AF
open Int renaming toNat_natCast->Ah,zero_add->HW
open List renaming getD_eq_getElem?_getD->BQ,getElem?_eq_getElem->AW,getElem_mem->As,length_append->AK,length_cons->AH,length_filterMap_le->Bv,length_nil->AN,length_set->A8,mem_cons->Ag,mem_cons_self->Be
open Nat renaming le_trans->Aw,lt_or_ge->AV
namespace Lv.P
open Lv Go
structure Rs(r:Ab)(ps qs:List AQ)(now:Int)(i:Nat)(c:Ae):Prop where
 row:c.Row=Dw r ps i now
 HS:c.By=wOf (F9 ps i)
 total:c.AY.Total=r.AY.getD i 0
 held:c.AY.Eg=I5 ps i
 KE:c.AY.Fw=JU qs i
 led:FL c.AY=true
 room:DO ps i<=r.Room
theorem Rs.full{r:Ab}{ps:List AQ}{now:Int}{i:Nat}{c:Ae}(h:Rs r ps ps now i c):YX r ps now i c:=⟨h.row,h.HS,h.total,h.held,h.KE,h.led,h.room⟩
theorem YX.half{r:Ab}{ps:List AQ}{now:Int}{i:Nat}{c:Ae}(h:YX r ps now i c):Rs r ps ps now i c:=⟨h.row,h.HS,h.total,h.held,h.KE,h.led,h.room⟩
theorem Rs.perm{r:Ab}{ps qs a e:List AQ}{now:Int}{i:Nat}{c:Ae}(h:Rs r ps qs now i c)(q:Uni ps)(g:ps.Perm a)(j:qs.Perm e):Rs r a e now i c:=
 ⟨by rw[h.row,ACV q g],by rw[h.HS,VU g],h.total,by rw[h.held,AE5 g],by rw[h.KE,AGD j],h.led,by rw[<-SE g];exact h.room⟩
theorem Kh{h:AE}{k j:Int}{c:Ae}(a:0<=k)(e:k<h.AI.length)(g:0<=j):cbn (Cy h k c) j=if j=k then c else cbn h j:=by
 grind[cbn,Cy]
theorem AGj{h:AE}{i:Nat}(hi:i<h.AI.length):cbn h i=h.AI[i]:=by
 unfold cbn;rw[Ah,BQ,AW hi];rfl
theorem RH.cb{h:AE}(hR:RH h){i:Nat}(hi:i<h.AI.length):YX h.AS h.AG h.Now i (cbn h i):=by
 rw[AGj hi];exact hR.cab i hi
theorem RH.mk'{h:AE}(rules:D7 h.AS=true)(now:0<=h.Now/\h.Now<=1000000)(turn:1<=h.Av/\h.Av<=1000001)(EL:h.AI.length=h.AS.AY.length)(Ks:Ru h.AS h.Now h.Av h.AG)
 (cab:∀i:Nat,i<h.AI.length->YX h.AS h.AG h.Now i (cbn h i)) (todo:JD h.BA h.AI.length=true) (GV:M4 h.A4 h.AI.length=true) (R3:(h.A4.length:Int)=h.AS.C5):RH h:=
 ⟨rules,now,turn,EL,Ks,fun i hi=>by rw[<-AGj hi];exact cab i hi,todo,GV,R3⟩
structure One(h:AE)(id:Int)(p:AQ)(rest:List AQ):Prop where
 perm:h.AG.Perm (p::rest)
 sub:rest.Sublist h.AG
 okp:D6 h.AS p h.Now=true
 pid:p.Id=id
 mem:p∈h.AG
 ne:∀q∈rest,q.Id≠id
 set:∀q:AQ,q.Id=id->∃l,K3 h.AG q=l/\l.Perm (q::rest)/\(q.Av=p.Av->q.Since=p.Since->D6 h.AS q h.Now=true->Ru h.AS h.Now h.Av l)
 cut:h.AG.eraseP (fun x=>x.Id==id)=rest
theorem RH.one{h:AE}(hR:RH h){id:Int}(G:0<=GX h id):One h id (par h id) (h.AG.eraseP fun x=>x.Id==id):=by
 obtain⟨k,c,e,a,g,j⟩:=AXW G;have y:h.AG[k]∈h.AG:=As c;have B:h.AG.Perm (par h id::h.AG.eraseP fun x=>x.Id==id):=by rw[a];exact ADq c j
 refine⟨B,List.eraseP_sublist,by rw[a];exact(hR.Ks.par _ y).1,g,by rw[a];exact y,?_,?_,rfl⟩
 .have:=(hR.Ks.uni.perm B).id
  grind[List.pairwise_cons]
 .intro q E;refine⟨h.AG.set k q,?_,set_perm c j q,?_⟩
  .unfold K3;unfold GX at e;rw[E,e,AX (by omega),Ah]
  .intro H I J;refine hR.Ks.set c ?_ ?_ ?_ J
   .rw[<-a,g,E]
   .rw[<-a,H]
   .rw[<-a,I]
theorem One.size{h:AE}{id:Int}{p:AQ}{rest:List AQ}(ho:One h id p rest):(1<=p.BC/\p.BC<=6)/\(0<=p.Aa/\p.Aa<h.AS.AY.length)/\(-1<=p.Bl/\p.Bl<h.AS.AY.length)/\p.Bl≠p.Aa:=by
 have a:=FG ho.okp;have c:=CK a.1;omega
def AWY(h:AE)(p:AQ)(rest:List AQ)(g:AE):Prop:=∀i:Nat,i<h.AI.length->Rs h.AS rest (p::rest) h.Now i (cbn g i)
theorem AKu{r:Ab}{p:AQ}{rest:List AQ}{now:Int}{i:Nat}(G:1<=p.BC/\p.BC<=6)(q:p.Aa≠i){c:Ae}(h:YX r (p::rest) now i c):Rs r rest (p::rest) now i c:=by
 have y:K4 r i now p=none:=by
  grind[K4]
 have B:MO i p=none:=by
  grind[MO]
 have E:XQ i p=0:=by unfold XQ;simp[q]
 have a:=h.row;have e:=h.HS;have g:=h.held;have j:=h.room;rw[TN,y]at a;rw[VT,B]at e;rw[N4,E,HW]at g;rw[I0,AU q,HW]at j;exact⟨a,e,h.total,g,h.KE,h.led,j⟩
section
variable{h:AE}(hR:RH h){id:Int}{p:AQ}{rest:List AQ}(ho:One h id p rest)
include hR ho
theorem One.cab{i:Nat}(hi:i<h.AI.length):YX h.AS (p::rest) h.Now i (cbn h i):=((hR.cb hi).half.perm hR.Ks.uni ho.perm ho.perm).full
theorem One.uni:Uni (p::rest):=hR.Ks.uni.perm ho.perm
theorem One.room{i:Nat}(hi:i<h.AI.length):DO (p::rest) i<=10:=by
 have:=(ho.cab hR hi).room;have:=CK hR.rules;omega
theorem One.pins{i:Nat}(hi:i<h.AI.length):PU (F9 (p::rest) i):=by
 rw[<-VU ho.perm];exact Xn hR.Ks (by rw[SE ho.perm];exact ho.room hR hi)
theorem wA(y:p.State=2){a c:Int}(Q:a=0/\c=1\/a=1/\c=0) :
 AWY h p rest (Cy h p.Aa ⟨(l8 (cbn h p.Aa).AY p.BC a (-1) c 0).1,(cbn h p.Aa).Row,(UN (cbn h p.Aa).By ⟨p.Ci,p.Id⟩).1⟩):=by
 intro i hi;obtain⟨H,O,z3,z4⟩:=ho.size;have S:=hR.EL;rw[Kh O.1 (by omega) (by omega)];by_cases e:(i:Int)=p.Aa
 .rw[AX e,<-e];have g:=ho.cab hR hi;have q:=ho.pins hR hi;have B:=g.row;have E:=g.HS;have J:=g.held;have L:=g.room;have G:=g.led;rw[VX _ _ _ (by omega)]at B;rw[T6 _ y,AX e.symm]at E q;rw[ZP _ y H,AX e.symm]at J;rw[I0,AX e.symm]at L;have I:=ABt rest i;have kl:=Hg.1 G;have j:FL ⟨(cbn h i).AY.Total,(cbn h i).AY.Dh+a*p.BC,(cbn h i).AY.Eg+(-1)*p.BC,(cbn h i).AY.Ff+c*p.BC,(cbn h i).AY.Fw+0*p.BC⟩=true:=by
   grind[Hg]
  rw[AJB G (by omega) (by omega) (by omega) (by omega) (by omega) j,E,AVx q];refine⟨B,rfl,g.total,?_,?_,j,?_⟩
  .dsimp only;omega
  .dsimp only;rw[g.KE];omega
  .omega
 .rw[AU e];exact AKu H (Ne.symm e) (ho.cab hR hi)
theorem AU2{g:AE}(L:AWY h p rest g)(c:g.AS=h.AS)(B:g.Now=h.Now)(G:g.Av=h.Av)(X:g.AG=h.AG)(j:g.AI.length=h.AI.length)
 (J:JD g.BA h.AI.length=true) (H:g.A4=h.A4):RH (gone g p):=by
 obtain⟨S,Z,z3,z4⟩:=ho.size;have Q:=hR.EL;have E:g.AG.eraseP (fun x=>x.Id==p.Id)=rest:=by rw[X,ho.pid,ho.cut]
 have q:Ru h.AS h.Now h.Av rest:=hR.Ks.sub ho.sub;unfold gone;dsimp only;rw[E];split
 .rename_i I;refine RH.mk' (by show D7 g.AS=true;rw[c];exact hR.rules) (by show 0<=g.Now/\_;rw[B];exact hR.now) (by show 1<=g.Av/\_;rw[G];exact hR.turn) (by simp[Cy,j,c,Q]) (by show Ru g.AS g.Now g.Av rest;rw[c,B,G];exact q) ?_
   (by simpa[Cy,j] using J) (by simpa[Cy,j,H] using hR.GV) (by show (g.A4.length:Int)=g.AS.C5;rw[H,c];exact hR.R3)
  intro i hi;have y:i<h.AI.length:=by simpa[Cy,j] using hi
  rw[Kh I (by show p.Bl<(g.AI.length:Int);omega) (by omega)];show YX g.AS rest g.Now i _;rw[c,B];have a:=L i y;have k:=a.KE;rw[JK _ S]at k;by_cases e:(i:Int)=p.Bl
  .rw[AX e,<-e];rw[AX e.symm]at k;have kl:=Hg.1 a.led;have Y:=ATt rest i;have O:FL ⟨(cbn g i).AY.Total,(cbn g i).AY.Dh+0*p.BC,(cbn g i).AY.Eg+0*p.BC,(cbn g i).AY.Ff+0*p.BC,(cbn g i).AY.Fw+(-1)*p.BC⟩=true:=by
    rw[Hg];dsimp only;omega
   rw[AJB a.led (by omega) (by omega) (by omega) (by omega) (by omega) O];refine⟨a.row,a.HS,a.total,?_,?_,O,a.room⟩
   .dsimp only;rw[a.held];omega
   .dsimp only;omega
  .rw[AU e];rw[AU (Ne.symm e),HW]at k;exact⟨a.row,a.HS,a.total,a.held,k,a.led,a.room⟩
 .rename_i I;refine RH.mk' (by show D7 g.AS=true;rw[c];exact hR.rules) (by show 0<=g.Now/\_;rw[B];exact hR.now) (by show 1<=g.Av/\_;rw[G];exact hR.turn) (by show g.AI.length=g.AS.AY.length;rw[j,c,Q]) (by show Ru g.AS g.Now g.Av rest;rw[c,B,G];exact q) ?_
   (by show JD g.BA g.AI.length=true;rw[j];exact J) (by show M4 g.A4 g.AI.length=true;rw[j,H];exact hR.GV) (by show (g.A4.length:Int)=g.AS.C5;rw[H,c];exact hR.R3)
  intro i hi;have y:i<h.AI.length:=by rw[<-j];exact hi
  show YX g.AS rest g.Now i (cbn g i);rw[c,B];have a:=L i y;have k:=a.KE;rw[JK _ S,AU (by omega),HW]at k;exact⟨a.row,a.HS,a.total,a.held,k,a.led,a.room⟩
theorem ju(hs:p.State=2):RH (Ih h p):=by
 obtain⟨Q,z2,z3,z4⟩:=ho.size;have Z:=hR.EL;have L:AWY h p rest (dropped h p):=wA hR ho hs (.inr ⟨rfl,rfl⟩);have c:(dropped h p).AI.length=h.AI.length:=by simp[dropped,Cy]
 unfold Ih;split
 .rename_i Y;have j:=Y;unfold Ec at j;by_cases E:D6 h.AS p h.Now=true/\p.State=2/\w64 (p.C0+1)<h.AS.Cb
  .have hk:=FG ho.okp;have hr:=CK hR.rules;have hq:(Ec h.AS p h.Now).1=⟨p.Id,p.Aa,p.Bl,p.BC,p.Cs,p.Since,p.Av,1,w64 (h.Now+h.AS.Rest),w64 (p.C0+1)⟩:=by unfold Ec;rw[AX E]
   rw[hq];have ew:w64 (h.Now+h.AS.Rest)=h.Now+h.AS.Rest:=A6 (by omega) (by omega);have ea:w64 (p.C0+1)=p.C0+1:=A6 (by omega) (by omega);rw[ew,ea];have G:=E.2.2;rw[ea]at G;have g:D6 h.AS ⟨p.Id,p.Aa,p.Bl,p.BC,p.Cs,p.Since,p.Av,1,h.Now+h.AS.Rest,p.C0+1⟩ h.Now=true:=by
    grind[D6,CP,A6]
   obtain⟨l,S,B,X⟩:=ho.set ⟨p.Id,p.Aa,p.Bl,p.BC,p.Cs,p.Since,p.Av,1,h.Now+h.AS.Rest,p.C0+1⟩ ho.pid;rw[S];have J:=X rfl rfl g;generalize hQ:(⟨p.Id,p.Aa,p.Bl,p.BC,p.Cs,p.Since,p.Av,1,h.Now+h.AS.Rest,p.C0+1⟩:AQ)=q at *;have q1:q.Aa=p.Aa:=by rw[<-hQ]
   have q2:q.Bl=p.Bl:=by rw[<-hQ]
   have O:q.BC=p.BC:=by rw[<-hQ]
   have H:q.State=1:=by rw[<-hQ]
   unfold Gs;refine RH.mk' hR.rules hR.now hR.turn (by show ((dropped h p).AI.set _ _).length=_;rw[A8,c];exact Z) J ?_ (by show JD h.BA (((dropped h p).AI.set _ _).length:Nat)=true;rw[A8,c];exact hR.todo) (by show M4 h.A4 (((dropped h p).AI.set _ _).length:Nat)=true;rw[A8,c];exact hR.GV) hR.R3;intro i hi;have y:i<h.AI.length:=by have:i<((dropped h p).AI.set q.Aa.toNat _).length:=hi;rw[A8,c]at this;exact this
   rw[Kh (by rw[q1];exact z2.1) (by rw[q1];show p.Aa<((dropped h p).AI.length:Int);omega) (by omega)];show YX h.AS l h.Now i (if _ then (⟨(cbn (dropped h p) q.Aa).AY,put ltE (Ew h.AS q h.Now).1 (cbn (dropped h p) q.Aa).Row,(cbn (dropped h p) q.Aa).By⟩:Ae) else cbn (dropped h p) i);have a:=L i y;have hu:=J.uni;have t1:JU (p::rest) i=JU (q::rest) i:=by rw[JK _ Q,JK _ (by rw[O];exact Q),q2,O]
   have I:DO (q::rest) i<=h.AS.Room:=by
    have:=(ho.cab hR y).room;rw[I0]at this ⊢;rw[q1];exact this
   refine Rs.full (Rs.perm ?_ (hu.perm B) B.symm B.symm);by_cases e:(i:Int)=q.Aa
   .rw[AX e,<-e];refine⟨?_,?_,a.total,?_,by dsimp only;rw[a.KE,t1],a.led,I⟩
    .dsimp only;rw[Ld _ g H,AX e.symm,Qn g H,a.row]
    .dsimp only;rw[QL _ (by omega),a.HS]
    .dsimp only;rw[P3 _ (by omega),a.held]
   .rw[AU e];refine⟨?_,?_,a.total,?_,by rw[a.KE,t1],a.led,I⟩
    .rw[Ld _ g H,AU (Ne.symm e),a.row]
    .rw[QL _ (by omega),a.HS]
    .rw[P3 _ (by omega),a.held]
  .rw[AU E]at j;cases j
 .exact AU2 hR ho L rfl rfl rfl rfl c hR.todo rfl
end
def bI(p:AQ)(now:Int):Bool:=p.State==1&&decide (p.Ci>now)
def mP(h:AE):List Int:=h.AG.filterMap fun p=>if bI p h.Now=true then some p.Id else none
def ABi(free:Int)(skip:List Int)(e:Ai):Bool:=decide (e.BC<=free)&&!(skip.any fun y=>y==e.Id)
def Uk(h:AE)(k:Int):Int:=atF (ABi (cbn h k).AY.Dh (mP h)) (cbn h k).Row 0
def AUq:Ai:=⟨0,0,0,0⟩
def Es(h:AE)(k:Int):Int:=if Uk h k<0 then 0 else ((cbn h k).Row.getD (Uk h k).toNat AUq).Id
theorem xW(p:AQ)(now:Int):AHv p now=some (bI p now):=by
 unfold AHv iT bI;rw[AR,AR,Cf]
theorem nP{l:List Ai}(c:l.length<=1048576){skip:List Int}(e:skip.length<=1048576)(free:Int):AHw l free skip=some (atF (ABi free skip) l 0):=by
 unfold AHw;refine Qd (by omega) ?_ ?_
 .intro L i h;unfold iV iU ABi;rw[B7 h,BJ];simp only[BH h,AB,RW (show skip.length<2 ^ 62 by omega),AR];by_cases a:l[i].BC<=free
  .simp only[a,decide_true,BJ,Bool.true_and]
  .simp only[a,decide_false,BT,Bool.false_and]
 grind[iV,AAz,BT,AR]
theorem sD{l:List Ai}{p:Ai->Bool}(a:¬atF p l 0<0):at? l (atF p l 0)=some (l.getD (atF p l 0).toNat AUq)/\∃c:(atF p l 0).toNat<l.length,p l[(atF p l 0).toNat]=true/\l.getD (atF p l 0).toNat AUq=l[(atF p l 0).toNat]:=by
 grind[JG,BH]
theorem xb{h:AE}(a:Bk h){k:Int}(e:0<=k)(g:k<h.AI.length):AA0 h k=some (Es h k):=by
 have hlim:lim=268435456:=rfl;have c:=a.CJ;have q:(mP h).length<=1048576:=Aw (Bv _ _) c;have j:=(a.Dq _ (U0 e g)).1;unfold AA0;rw[collect (l:=h.AG) (fun p=>if bI p h.Now=true then some p.Id else none) (iX h k) c ?_ ?_]
 .grind[iX,cbn,Fj,AB,mP,nP,Uk,Es,BL,sD]
 .grind[iY,iW,BH,AB,xW,Bn,AR,B6]
 grind[iY,BT,AR]
def AXQ(h:AE)(p:AQ):AQ:=⟨p.Id,p.Aa,p.Bl,p.BC,p.Cs,p.Since,p.Av,2,w64 (h.Now+h.AS.B3),p.C0⟩
def Il(h:AE)(k id:Int):AE:=
 Cy (OM h (K3 h.AG (AXQ h (par h id)))) k ⟨(l8 (cbn h k).AY (par h id).BC (-1) 1 0 0).1,(cbn h k).Row.eraseP (fun x=>x.Id==id),(NR (cbn h k).By ⟨w64 (h.Now+h.AS.B3),id⟩).1⟩
theorem lL{h:AE}(hR:RH h){k:Nat}(O:k<h.AI.length)(g:Es h k≠0):0<=GX h (Es h k)/\(par h (Es h k)).State=1/\(par h (Es h k)).Aa=k/\(par h (Es h k)).BC<=(cbn h k).AY.Dh/\bI (par h (Es h k)) h.Now=false:=by
 unfold Es at g ⊢;by_cases j:Uk h k<0
 .rw[AX j]at g;exact absurd rfl g
 .rw[AU j]at g ⊢;obtain⟨_,c,H,I⟩:=sD j;have J:=hR.cb O;have q:(cbn h k).Row.getD (Uk h k).toNat AUq=(cbn h k).Row[(Uk h k).toNat]'c:=I;rw[q];have Q:(cbn h k).Row[(Uk h k).toNat]'c∈Dw h.AS h.AG k h.Now:=by rw[<-J.row];exact As _
  obtain⟨p,S,L⟩:=RL Q;obtain⟨G,X,Y,Z⟩:=KU L;have a:ABi (cbn h k).AY.Dh (mP h) ((cbn h k).Row[(Uk h k).toNat]'c)=true:=H;unfold ABi at a;rw[AF,decide_eq_true_iff]at a;generalize (cbn h k).Row[(Uk h k).toNat]'c=e at *;subst G;dsimp only at a ⊢;have B:0<=GX h p.Id:=by
   grind[GX,JG]
  have ho:=hR.one B;have E:par h p.Id=p:=by
   rcases Ag.1 (ho.perm.subset S) with y|y
   .exact y.symm
   .exact absurd rfl (ho.ne p y)
  rw[E]
  grind[mP]
theorem AFW{h:AE}(hR:RH h){k:Nat}(hk:k<h.AI.length){id:Int}{rest:List AQ}(ho:One h id (par h id) rest)(hs:(par h id).State=1)(g:(par h id).Aa=k)(hf:(par h id).BC<=(cbn h k).AY.Dh):RH (Il h k id):=by
 obtain⟨H,z2,z3,z4⟩:=ho.size;have hn:=hR.EL;have hr:=CK hR.rules;have Y:=hR.now;have ew:w64 (h.Now+h.AS.B3)=h.Now+h.AS.B3:=A6 (by omega) (by omega);unfold Il;generalize hP:par h id=p at *;have hq:AXQ h p=⟨p.Id,p.Aa,p.Bl,p.BC,p.Cs,p.Since,p.Av,2,h.Now+h.AS.B3,p.C0⟩:=by unfold AXQ;rw[ew]
 rw[hq,ew];have O:D6 h.AS ⟨p.Id,p.Aa,p.Bl,p.BC,p.Cs,p.Since,p.Av,2,h.Now+h.AS.B3,p.C0⟩ h.Now=true:=by
  have:=ho.okp
  grind[D6,CP]
 obtain⟨l,e1,c,e3⟩:=ho.set ⟨p.Id,p.Aa,p.Bl,p.BC,p.Cs,p.Since,p.Av,2,h.Now+h.AS.B3,p.C0⟩ ho.pid;rw[e1];have J:=e3 rfl rfl O;have q5:(⟨h.Now+h.AS.B3,id⟩:BO)=⟨(⟨p.Id,p.Aa,p.Bl,p.BC,p.Cs,p.Since,p.Av,2,h.Now+h.AS.B3,p.C0⟩:AQ).Ci,(⟨p.Id,p.Aa,p.Bl,p.BC,p.Cs,p.Since,p.Av,2,h.Now+h.AS.B3,p.C0⟩:AQ).Id⟩:=by rw[<-ho.pid]
 rw[q5];generalize hQ:(⟨p.Id,p.Aa,p.Bl,p.BC,p.Cs,p.Since,p.Av,2,h.Now+h.AS.B3,p.C0⟩:AQ)=q at *;have q1:q.Aa=p.Aa:=by rw[<-hQ]
 have q2:q.Bl=p.Bl:=by rw[<-hQ]
 have B:q.BC=p.BC:=by rw[<-hQ]
 have E:q.State=2:=by rw[<-hQ]
 have hu:=J.uni;refine RH.mk' hR.rules hR.now hR.turn (by show (h.AI.set _ _).length=_;rw[A8];exact hn) J ?_ (by show JD h.BA ((h.AI.set _ _).length:Nat)=true;rw[A8];exact hR.todo) (by show M4 h.A4 ((h.AI.set _ _).length:Nat)=true;rw[A8];exact hR.GV) hR.R3;intro i hi;have L:i<h.AI.length:=by have:i<(h.AI.set (k:Int).toNat _).length:=hi;rw[A8]at this;exact this
 rw[Kh (by omega) (by show (k:Int)<(h.AI.length:Int);omega) (by omega)];show YX h.AS l h.Now i (if (i:Int)=k then (⟨_,_,_⟩:Ae) else cbn h i);have a:=ho.cab hR L;have t1:JU (p::rest) i=JU (q::rest) i:=by rw[JK _ H,JK _ (by rw[B];exact H),q2,B]
 have S:DO (q::rest) i<=h.AS.Room:=by
  have:=a.room;rw[I0]at this ⊢;rw[q1];exact this
 refine Rs.full (Rs.perm ?_ (hu.perm c) c.symm c.symm);have G:=a.row;have Q:=a.HS;have Z:=a.held;rw[Ld _ ho.okp hs]at G;rw[QL _ (by omega)]at Q;rw[P3 _ (by omega)]at Z;by_cases e:(i:Int)=k
 .obtain rfl:i=k:=by omega
  rw[AX rfl];have j:PU (F9 (q::rest) (i:Int)):=by
   rw[<-VU c];exact Xn J (by rw[SE c];omega)
  rw[T6 _ E,AX (by rw[q1,g])]at j;have kl:=Hg.1 a.led;have hnn:=ABt rest i;have X:FL ⟨(cbn h i).AY.Total,(cbn h i).AY.Dh+(-1)*p.BC,(cbn h i).AY.Eg+1*p.BC,(cbn h i).AY.Ff+0*p.BC,(cbn h i).AY.Fw+0*p.BC⟩=true:=by
   rw[Hg];dsimp only;omega
  rw[AJB a.led (by omega) (by omega) (by omega) (by omega) (by omega) X,Q,AVy j];refine⟨?_,?_,a.total,?_,?_,X,S⟩
  .dsimp only;rw[G,AX g,VX _ _ _ (by omega)];refine Ts (by simpa using ho.pid) fun x hx=>?_
   obtain⟨y,hy,he⟩:=RL hx;obtain⟨rfl,_⟩:=KU he;simpa using ho.ne y hy
  .dsimp only;rw[T6 _ E,AX (by rw[q1,g])]
  .dsimp only;rw[ZP _ E (by rw[B];exact H),AX (by rw[q1,g]),B];omega
  .dsimp only;rw[a.KE,t1];omega
 .rw[AU e];have I:¬q.Aa=i:=by rw[q1,g];omega
  rw[AU (by rw[<-q1];exact I)]at G;refine⟨by rw[G,VX _ _ _ (by omega)],by rw[Q,T6 _ E,AU I],a.total,by rw[Z,ZP _ E (by rw[B];exact H),AU I];omega,by rw[a.KE,t1],a.led,S⟩
theorem RH.sm{h:AE}(hR:RH h):Sm 1000 h:=by
 have G:=CK hR.rules;have E:=hR.EL;have B:=hR.R3;refine⟨by omega,by have:=hR.Ks.few;omega,by omega,?_,by have:=AT2 (by omega) hR.todo;omega,by omega⟩;intro c e;obtain⟨i,hi,rfl⟩:=List.mem_iff_getElem.1 e;have a:=hR.cab i hi;have j:=a.room;have y:=RJ h.AS h.AG i h.Now;have g:=Xn hR.Ks (c:=i) (by omega);have q:=m0 g;refine⟨by rw[a.row];omega,by rw[a.HS,dC];omega,by rw[a.HS];have:=q.few;omega⟩
theorem RH.fit{h:AE}(hR:RH h):Bk h:=hR.sm.fit (by omega)
theorem RH.vV{h:AE}(hR:RH h){q:AQ}(e:q∈h.AG):0<=GX h q.Id/\par h q.Id=q:=by
 have a:0<=GX h q.Id:=by
  grind[GX,JG]
 have ho:=hR.one a;refine⟨a,?_⟩;rcases Ag.1 (ho.perm.subset e) with c|c
 .exact c.symm
 .exact absurd rfl (ho.ne q c)
structure Kept(h g:AE):Prop where
 rules:g.AS=h.AS
 now:g.Now=h.Now
 turn:g.Av=h.Av
 EL:g.AI.length=h.AI.length
 todo:g.BA=h.BA
 GV:g.A4=h.A4
theorem Kept.refl(h:AE):Kept h h:=⟨rfl,rfl,rfl,rfl,rfl,rfl⟩
theorem Kept.trans{a b c:AE}(h:Kept a b)(g:Kept b c):Kept a c:=⟨g.rules.trans h.rules,g.now.trans h.now,g.turn.trans h.turn,g.EL.trans h.EL,g.todo.trans h.todo,g.GV.trans h.GV⟩
theorem AKM(h:AE)(p:AQ):Kept h (gone h p):=by
 unfold gone;dsimp only;split
 .exact⟨rfl,rfl,rfl,by simp[Cy],rfl,rfl⟩
 .exact⟨rfl,rfl,rfl,rfl,rfl,rfl⟩
theorem tK(h:AE)(p:AQ):Kept h (dropped h p):=⟨rfl,rfl,rfl,by simp[dropped,Cy],rfl,rfl⟩
theorem jv(h:AE)(p:AQ):Kept h (Ih h p):=by
 unfold Ih;split
 .exact⟨rfl,rfl,rfl,by simp[Gs,OM,dropped,Cy],rfl,rfl⟩
 .exact(tK h p).trans (AKM _ _)
theorem RB(h:AE)(k id:Int):Kept h (Il h k id):=⟨rfl,rfl,rfl,by simp[Il,OM,Cy],rfl,rfl⟩
theorem AKJ{h:AE}{id:Int}{p:AQ}{rest:List AQ}(ho:One h id p rest){q:AQ}(c:q∈rest):q∈(Ih h p).AG:=by
 unfold Ih;split
 .rename_i a;have e:(Ec h.AS p h.Now).1.Id=id:=by
   unfold Ec at a ⊢;split at a
   .rename_i g;rw[AX g];exact ho.pid
   .cases a
  obtain⟨l,j,y,_⟩:=ho.set _ e;show q∈K3 h.AG (Ec h.AS p h.Now).1
  grind
 .have:(gone (dropped h p) p).AG=rest:=by
   rw[<-ho.cut,<-ho.pid];unfold gone;dsimp only;split<;>rfl
  rw[this];exact c
def Tt:List Int->AE->AE| [],g=>g|id::l,g=>Tt l (Ih g (par g id))
def AJv(g:AE)(l:List Int):Prop:=l.Nodup/\∀id∈l,0<=GX g id/\(par g id).State=2
theorem U8{g:AE}(hR:RH g){id:Int}{l:List Int}(hO:AJv g (id::l)):RH (Ih g (par g id))/\AJv (Ih g (par g id)) l/\Kept g (Ih g (par g id)):=by
 obtain⟨c,B⟩:=hO;rw[List.nodup_cons]at c;obtain⟨G,H⟩:=B id (Be ..);have ho:=hR.one G;have hR':=ju hR ho H;refine⟨hR',⟨c.2,?_⟩,jv _ _⟩;intro j E;obtain⟨I,L⟩:=B j (List.mem_cons_of_mem _ E);have y:j≠id:=fun e=>c.1 (e▸E)
 have a:=hR.one I;have J:par g j∈g.AG.eraseP (fun x=>x.Id==id):=by
  rcases Ag.1 (ho.perm.subset a.mem) with q|q
  .exact absurd (by rw[<-a.pid,<-ho.pid,q]) y
  .exact q
 have:=hR'.vV (AKJ ho J);rw[a.pid]at this
 grind
theorem Qo:∀{l:List Int} {g:AE},RH g->AJv g l->RH (Tt l g)/\Kept g (Tt l g)
 | [],g,hR,_=>⟨hR,Kept.refl g⟩|id::l,g,hR,hO=>by
  obtain⟨a,c,e⟩:=U8 hR hO;obtain⟨j,q⟩:=Qo a c;exact⟨j,e.trans q⟩
def XI(h:AE)(k:Int):AE:=Tt (jo (cbn h k).By h.Now) h
theorem Sn{h:AE}(hR:RH h){k:Nat}(I:k<h.AI.length):AJv h (jo (cbn h k).By h.Now)/\(jo (cbn h k).By h.Now).length<=10:=by
 have E:=hR.cb I;have X:=CK hR.rules;have q:=Xn hR.Ks (c:=k) (by have:=E.room;omega);have e:jo (cbn h k).By h.Now=(F9 h.AG k).filterMap fun p=>if p.At<=h.Now then some p.Id else none:=by
  unfold jo;rw[E.HS,ADM q]
 rw[e];refine⟨⟨?_,?_⟩,Aw (Bv _ _) q.few⟩
 .show List.Pairwise _ _;rw[List.pairwise_filterMap];refine q.ids.imp ?_;intro a b L x g y Q;split at g<;>split at Q<;>simp_all
 .intro id j;obtain⟨pin,J,g⟩:=List.mem_filterMap.1 j;split at g
  .obtain⟨p,B,O⟩:=qT J;obtain⟨rfl,S,_⟩:=T7 O;cases g;obtain⟨G,H⟩:=hR.vV B;exact⟨G,by rw[H];exact S⟩
  .cases g
theorem AXX{h:AE}(hR:RH h){id:Int}(a:0<=GX h id):0<=(par h id).Aa/\(par h id).Aa<h.AI.length/\(par h id).Bl<h.AI.length:=by
 have:=(hR.one a).size;have:=hR.EL;omega
theorem Qe{h:AE}{id:Int}(a:0<=GX h id):at? h.AG (GX h id)=some (par h id):=Yb a (RG a).1
theorem mb{h:AE}(hR:RH h){k:Nat}(q:k<h.AI.length):AHu h k=some (XI h k):=by
 obtain⟨hO,E⟩:=Sn hR q;unfold AHu XI;rw[AC4 hR.fit (by omega) (by omega),AB];generalize jo (cbn h k).By h.Now=D at *;refine(C9 (F:=iS D) (n:=D.length) (fun i (v:AE)=>((i:Int),v)) (fun i v=>RH v/\AJv v (D.drop i)) (fun i v=>some (Tt (D.drop i) v)) (by omega) ?_ (v:=h) ⟨hR,hO⟩);rintro L i v ⟨e,ho⟩ hi y;unfold iS AAy;dsimp only;rcases AV i D.length with a|j
 .rw[Dc a]at ho ⊢;have g:=ho.2 D[i] (Be ..);have c:=AXX e g.1;obtain⟨s1,B,_⟩:=U8 e ho;simp only[B7 a,BJ,BH a,AB,HA e.fit,Qe g.1,Ut (show 1000+2<=1048576 by omega) e.sm c.1 c.2.1 c.2.2,Bg a (show D.length<2 ^ 63 by omega)];exact y _ ⟨s1,B⟩ a
 .obtain rfl:i=D.length:=by omega
  rw[Cl,BT,AR,List.drop_length];rfl
theorem ACI{h:AE}(hR:RH h){k:Nat}(e:k<h.AI.length){id:Int}{rest:List AQ}(ho:One h id (par h id) rest)(g:(par h id).State=1)(a:(par h id).Aa=k):(cbn (Il h k id) k).Row.length+1=(cbn h k).Row.length:=by
 unfold Il;rw[Kh (by omega) (by show (k:Int)<(h.AI.length:Int);omega) (by omega),AX rfl];dsimp only;have:=(ho.cab hR e).row;rw[Ld _ ho.okp g,AX a]at this;rw[this,Ts (by simpa using ho.pid) fun x j=>?_,Fi];obtain⟨y,q,c⟩:=RL j;obtain⟨rfl,_⟩:=KU c;simpa using ho.ne y q
theorem nS{h:AE}(hR:RH h){k:Nat}(g:k<h.AI.length):AHd h k=some (if Es h k=0 then (h,0) else (Il h k (Es h k),Es h k))/\(Es h k=0->AHe h k=some ((),0)):=by
 have a:=hR.fit;unfold AHd AHe;rw[xb a (by omega) (by omega),AB,AB,Bn,Bn];by_cases c:Es h k=0
 .grind
 .refine⟨?_,fun h=>absurd h c⟩;obtain⟨j,q,y,B,E⟩:=lL hR g c;have e:=a.Dq _ (U0 (k:=(k:Int)) (by omega) (by omega));rw[AU (by simpa using c),AU c];simp only[HA a,AB,Qe j,Ee,PN a.CJ,show at? h.AI (k:Int)=some (cbn h k) from Fj (by omega) (by omega),mY,Uo e.1,Lq e.2];rfl
def OF(k:Int):Nat->AE->List Int->AE×List Int|0,h,a=>(h,a)|n+1,h,a=>if Es h k=0 then (h,a) else OF k n (Il h k (Es h k)) (a++[Es h k])
theorem AJe{k:Int}{h:AE}(c:Es h k=0)(a:List Int):∀n,OF k n h a=(h,a)|0=>rfl|n+1=>by unfold OF;rw[AX c]
theorem VP{h:AE}(hR:RH h){k:Nat}(a:k<h.AI.length)(j:Es h k≠0):RH (Il h k (Es h k))/\(cbn (Il h k (Es h k)) k).Row.length+1=(cbn h k).Row.length:=by
 obtain⟨c,e,g,q,y⟩:=lL hR a j;exact⟨AFW hR a (hR.one c) e g q,ACI hR a (hR.one c) e g⟩
theorem ACq{k:Nat}:∀(n:Nat) {h:AE} (a:List Int),RH h->k<h.AI.length->RH (OF k n h a).1/\Kept h (OF k n h a).1/\(OF k n h a).2.length<=a.length+n
 |0,h,a,hR,_=>⟨hR,Kept.refl h,by unfold OF;simp⟩|n+1,h,a,hR,e=>by
  unfold OF;split
  .exact⟨hR,Kept.refl h,by simp⟩
  .rename_i B;have y:=VP hR e B;have c:=RB h k (Es h k);obtain⟨g,j,q⟩:=ACq n (a++[Es h k]) y.1 (by rw[c.EL];exact e);refine⟨g,c.trans j,?_⟩;rw[AK,List.length_singleton]at q;omega
def J3(h:AE)(k:Int):AE×List Int:=OF k 10 (XI h k) []
theorem cw{h:AE}(hR:RH h){k:Nat}(c:k<h.AI.length):(cbn h k).Row.length<=10:=by
 have a:=hR.cb c;have j:=CK hR.rules;have e:=RJ h.AS h.AG k h.Now;have g:=a.room;rw[a.row];omega
theorem ACE{h:AE}{k:Int}(a:Es h k≠0):0<(cbn h k).Row.length:=by
 unfold Es at a;split at a
 .exact absurd rfl a
 .rename_i c;obtain⟨_,e,_⟩:=sD c;omega
theorem ATW{h:AE}(hR:RH h){k:Nat}(y:k<h.AI.length):BB (Ws k) big ([],h)=some (OF k 10 h []):=by
 have hlim:lim=268435456:=rfl;refine Zd (F:=Ws k) (fun x=>some (OF k (10-x.1.length) x.2 x.1)) (fun x=>RH x.2/\k<x.2.AI.length/\x.1.length+(cbn x.2 k).Row.length<=10) (fun x=>(cbn x.2 k).Row.length) ?_ (x:=([],h)) ⟨hR,y,by have:=cw hR y;simpa using this⟩ (by have:=cw hR y;show (cbn h k).Row.length<_;omega);rintro L ⟨a,g⟩ ⟨q,c,e⟩ E;dsimp only at q c e E ⊢;unfold Ws;dsimp only;obtain⟨H,I⟩:=nS q c;rw[H,AB];by_cases j:Es g k=0
 .grind[AB,AJe,BJ,AWO]
 .obtain⟨s1,J⟩:=VP q c j;have B:=ACE j;rw[AU j];dsimp only;have G:(Es g k==0)=false:=by simpa using j
  rw[G,BT,B6 (by simp only[AH,AN];omega),E (a++[Es g k],Il g k (Es g k)) ⟨s1,by rw[(RB g k _).EL];exact c,by simp only[AK,AH,AN];omega⟩ (by dsimp only;omega),AWP];congr 1;rw[show 10-a.length=(10-(a++[Es g k]).length)+1 by simp only[AK,AH,AN];omega]
  conv=>rhs;unfold OF
  rw[AU j]
theorem mL{h:AE}(hR:RH h){k:Nat}(c:k<h.AI.length):RH (J3 h k).1/\Kept h (J3 h k).1/\(J3 h k).2.length<=10:=by
 obtain⟨g,a⟩:=Qo hR (Sn hR c).1;obtain⟨s1,j,e⟩:=ACq (k:=k) 10 [] g (by rw[a.EL];exact c);exact⟨s1,a.trans j,by simp only[AN,Nat.zero_add]at e;exact e⟩
theorem AMW{h:AE}(hR:RH h){k:Nat}(c:k<h.AI.length):AHf h k=some (J3 h k):=by
 have a:=hR.fit;have j:=a.EL;obtain⟨e,g⟩:=Qo hR (Sn hR c).1;unfold AHf ANW iO;rw[Hl a,AB,GK a,IV.2 hR,AB,BJ,GN,AB,AR,AB,A6 (by omega) (by omega),CP.2 (by omega),BP,BJ,mb hR c,AB];exact ATW e (by rw[g.EL];exact c)
theorem HM{h:AE}{q:B1}(a:verdict h q=0):RH h:=by
 grind[verdict,IV]
theorem YU{h:AE}{q:B1}(E:q.Kind=7)(a:verdict h q=0):∃n:Nat,∃e:n<h.A4.length,q.Id=(n:Int)/\¬(h.A4[n]<0/\h.BA.length=0):=by
 have hR:=HM a;unfold verdict at a;rw[AX (IV.2 hR)]at a;unfold Hu at a;split at a
 .cases a
 .split at a
  .cases a
  .rename_i y;have c:KZ q=true:=by simpa using y
   have hi:0<=q.Id:=by
    unfold KZ at c;rw[AU (by omega),AX (by omega)]at c;simp only[AF,Ry,CP]at c;exact c.1.1
   rw[AU (by omega),AU (by omega),AU (by omega),AU (by omega),AU (by omega)]at a
   try rw[AX E]at a
   by_cases g:h.AS.C5<=q.Id
   .rw[AX g]at a;cases a
   .rw[AU g]at a;obtain⟨n,e⟩:=Int.eq_ofNat_of_zero_le hi;have j:n<h.A4.length:=by have:=hR.R3;omega
    refine⟨n,j,e,?_⟩;rw[e,Ah,BQ,AW j,Option.getD_some]at a;intro B;rw[AX B]at a;cases a
def ADO(h:AE)(l:List Int):AE:=⟨h.AS,h.Now,h.Av,h.AG,h.AI,h.BA,l⟩
def wy(h:AE)(who:Int):AE×List Int:=
 if h.A4.getD who.toNat 0<0 then (ADO (FA h (h.BA.drop 1)) (h.A4.set who.toNat (h.BA.getD 0 0)),[])
 else (ADO (J3 h (h.A4.getD who.toNat 0)).1 ((J3 h (h.A4.getD who.toNat 0)).1.A4.set who.toNat (-1)),(J3 h (h.A4.getD who.toNat 0)).2)
def Xm(h:AE)(who:Int):AE×Int×List Int:=
 if verdict h ⟨7,who,0,0,0,0⟩≠0 then (h,verdict h ⟨7,who,0,0,0,0⟩,[]) else ((wy h who).1,0,(wy h who).2)
theorem RH.job{h:AE}(hR:RH h){n:Nat}(a:n<h.A4.length)(c:¬h.A4[n]<0):∃k:Nat,k<h.AI.length/\h.A4[n]=(k:Int):=by
 have:=List.all_eq_true.1 hR.GV _ (As a);have e:=hR.fit.EL
 grind[CP,A6,Int.eq_ofNat_of_zero_le]
theorem AMV{h:AE}(c:Bk h)(who:Int):AHg h who=some (Xm h who)/\Bk (Xm h who).1/\(Xm h who).2.2.length<=10:=by
 have hlim:lim=268435456:=rfl;unfold AHg Xm;rw[Hl c,AB,HC c,AB];simp only[Bn,bne_iff_ne,ne_eq];by_cases q:verdict h ⟨7,who,0,0,0,0⟩=0
 .rw[AU (not_not_intro q),AU (not_not_intro q)];have hR:=HM q;obtain⟨n,j,e,E⟩:=YU rfl q;dsimp only at e;subst e;have eg:h.A4.getD n 0=h.A4[n]:=by rw[BQ,AW j];rfl
  unfold wy;rw[BH j,AB,Ah,eg];simp only[decide_eq_true_eq];by_cases g:h.A4[n]<0
  .rw[AX g,AX g];have I:0<h.BA.length:=by
    rcases Nat.eq_zero_or_pos h.BA.length with y|y
    .exact absurd ⟨g,y⟩ E
    .exact y
   have J:h.BA.getD 0 0=h.BA[0]:=by rw[BQ,AW I];rfl
   have G:=c.todo;have L:(List.drop (Int.toNat 1) h.BA).length<=h.BA.length:=by rw[List.length_drop];omega
   rw[Vt,AW I,AB,AB,AB,B6 ⟨by omega,by omega⟩,B6 (by omega),J];exact⟨rfl,⟨c.Dj,c.CJ,c.EL,c.Dq,Aw L G,by show (h.A4.set _ _).length<=_;rw[A8];exact c.GV⟩,by simp⟩
  .rw[AU g,AU g];obtain⟨k,H,ek⟩:=hR.job j g;obtain⟨s1,O,Q⟩:=mL hR H;rw[ek,AMW hR H,AB];have B:n<(J3 h k).1.A4.length:=by rw[O.GV];exact j
   rw[BH B,AB,AB];have a:=s1.fit;exact⟨rfl,⟨a.Dj,a.CJ,a.EL,a.Dq,a.todo,by show ((J3 h k).1.A4.set _ _).length<=_;rw[A8];exact a.GV⟩,Q⟩
 grind
def doF(h:AE)(q:B1):AE×C6:=
 if verdict h q≠0 then (h,⟨verdict h q,[]⟩)
 else if q.Kind=1 then ((kr h q.Id q.Aa q.Bl q.BC q.Cs).1,⟨(kr h q.Id q.Aa q.Bl q.BC q.Cs).2,[]⟩)
 else if q.Kind=2 then ((Qh h q.Id).1,⟨(Qh h q.Id).2,[]⟩)
 else if q.Kind=3 then ((j6 h q.Aa q.BC).1,⟨(j6 h q.Aa q.BC).2,[]⟩)
 else if q.Kind=4 then ((Qb h q.Id).1,⟨(Qb h q.Id).2,[]⟩)
 else if q.Kind=5 then ((Nx h q.Id).1,⟨(Nx h q.Id).2,[]⟩)
 else if q.Kind=6 then ((mn h).1,⟨(mn h).2,[]⟩)
 else ((Xm h q.Id).1,⟨(Xm h q.Id).2.1,(Xm h q.Id).2.2⟩)
theorem xQ{h:AE}(E:Bk h)(q:B1):aY h q=some (doF h q)/\Bk (doF h q).1/\(doF h q).2.Ids.length<=10:=by
 unfold aY doF MG;rw[Hl E,AB,HC E,AB];simp only[Bn,bne_iff_ne,ne_eq,beq_iff_eq,AR];by_cases G:verdict h q=0
 .have hR:=HM G;have a:=hR.sm;have H:=hR.EL;have I:=CK hR.rules;rw[AU (not_not_intro G),AU (not_not_intro G)];by_cases c:q.Kind=1
  .rw[AX c,AX c];have:=AMT (show 1000+3<=1048576 by omega) a q.Id q.Aa q.Bl q.BC q.Cs;rw[this.1,AB];exact⟨rfl,this.2.fit (by omega),by simp⟩
  .rw[AU c,AU c];by_cases e:q.Kind=2
   .rw[AX e,AX e];have:=AC0 (show 1000+1<=1048576 by omega) a q.Id;rw[this.1,AB];exact⟨rfl,this.2.fit (by omega),by simp⟩
   .rw[AU e,AU e];by_cases g:q.Kind=3
    .rw[AX g,AX g];have:=mR (show 1000+1<=1048576 by omega) a q.Aa q.BC;rw[this.1,AB];exact⟨rfl,this.2.fit (by omega),by simp⟩
    .rw[AU g,AU g];by_cases j:q.Kind=4
     .rw[AX j,AX j];have:=ACy (show 1000+1<=1048576 by omega) a q.Id;rw[this.1,AB];exact⟨rfl,this.2.fit (by omega),by simp⟩
     .rw[AU j,AU j];by_cases y:q.Kind=5
      .rw[AX y,AX y];have:=xP (show 1000+3<=1048576 by omega) a q.Id;rw[this.1,AB];exact⟨rfl,this.2.fit (by omega),by simp⟩
      .rw[AU y,AU y];by_cases B:q.Kind=6
       .rw[AX B,AX B];have:=AMX a (show 1000+h.AI.length<=1048576 by omega);rw[this.1,AB];exact⟨rfl,this.2.fit (by omega),by simp⟩
       .rw[AU B,AU B];have:=AMV E q.Id;rw[this.1,AB];exact⟨rfl,this.2.1,this.2.2⟩
 grind
def IQ:List B1->AE->AE×List C6| [],h=>(h,[])|q::l,h=>((IQ l (doF h q).1).1,(doF h q).2::(IQ l (doF h q).1).2)
theorem NV:∀(l:List B1) {h:AE},Bk h->Bk (IQ l h).1/\(IQ l h).2.length=l.length/\∀r∈(IQ l h).2,r.Ids.length<=10
 | [],h,a=>⟨a,rfl,by simp[IQ]⟩|q::l,h,a=>by
  have c:=xQ a q;obtain⟨e,g,j⟩:=NV l c.2.1
  grind[IQ]
theorem RO{h:AE}(q:Bk h){l:List B1}(G:l.length<=1048576):pJ h l=some (IQ l h):=by
 have hlim:lim=268435456:=rfl;unfold pJ;rw[Hl q,AB];refine(C9 (F:=iG l) (n:=l.length) (fun i (v:List C6×AE)=>(v.1,(i:Int),v.2)) (fun i v=>Bk v.2/\v.1.length=i) (fun i v=>some ((IQ (l.drop i) v.2).1,v.1++(IQ (l.drop i) v.2).2)) (by omega) ?_ (v:=([],h)) ⟨q,rfl⟩).trans ?_
 .rintro L i ⟨a,g⟩ ⟨y,e⟩ hi B;dsimp only at y e B ⊢;unfold iG AAs;dsimp only;rcases AV i l.length with c|E
  .have j:=xQ y l[i];rw[Dc c];simp only[B7 c,BJ,BH c,AB,j.1,Kz,xl,Bg c (show l.length<2 ^ 63 by omega)];rw[B6 (by simp only[AH,AN];omega)];have:=B (a++[(doF g l[i]).2],(doF g l[i]).1) ⟨j.2.1,by simp[e]⟩ c;dsimp only at this;rw[this];simp only[IQ,List.append_assoc,List.singleton_append]
  .grind[BT,AR,IQ]
 .simp
end Lv.P
