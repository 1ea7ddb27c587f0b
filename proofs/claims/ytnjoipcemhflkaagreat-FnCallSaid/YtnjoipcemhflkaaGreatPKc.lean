/- Plain laws about what the program computes. -/
import Derived.Test.YtnjoipcemhflkaaGreatPJc
noncomputable section
set_option linter.unusedVariables false
set_option linter.unusedSimpArgs false
set_option linter.unusedSectionVars false
open Bool renaming and_eq_true->AF
open Int renaming toNat_natCast->Ac,zero_add->Gw
open List renaming getD_eq_getElem?_getD->A0,getElem?_eq_getElem->AU,getElem_mem->BC,length_append->AN,length_cons->AI,length_filterMap_le->Bh,length_nil->AP,length_set->Am,mem_cons->Ak,mem_cons_self->BQ
open Nat renaming le_trans->Ar,lt_or_ge->AV
namespace Lv.P
open Lv Go
structure Rc(r:Aa)(ps qs:List AQ)(now:Int)(i:Nat)(c:Ad):Prop where
 row:c.Row=DM r ps i now
 F4:c.Bl=wOf (FO ps i)
 total:c.AW.Total=r.AW.getD i 0
 held:c.AW.ER=Im ps i
 Is:c.AW.FP=JC qs i
 led:EW c.AW=true
 room:C2 ps i<=r.Room
theorem Rc.full{r:Aa}{ps:List AQ}{now:Int}{i:Nat}{c:Ad}(h:Rc r ps ps now i c):VL r ps now i c:=⟨h.row,h.F4,h.total,h.held,h.Is,h.led,h.room⟩
theorem VL.half{r:Aa}{ps:List AQ}{now:Int}{i:Nat}{c:Ad}(h:VL r ps now i c):Rc r ps ps now i c:=⟨h.row,h.F4,h.total,h.held,h.Is,h.led,h.room⟩
theorem Rc.perm{r:Aa}{ps qs a e:List AQ}{now:Int}{i:Nat}{c:Ad}(h:Rc r ps qs now i c)(q:Uni ps)(g:ps.Perm a)(j:qs.Perm e):Rc r a e now i c:=
 ⟨by rw[h.row,zR q g],by rw[h.F4,U4 g],h.total,by rw[h.held,AB9 g],by rw[h.Is,ADB j],h.led,by rw[<-Rs g];exact h.room⟩
theorem ID{h:AE}{k j:Int}{c:Ad}(a:0<=k)(e:k<h.AH.length)(g:0<=j):cbn (CS h k c) j=if j=k then c else cbn h j:=by
 grind[cbn,CS]
theorem ADh{h:AE}{i:Nat}(hi:i<h.AH.length):cbn h i=h.AH[i]:=by
 unfold cbn;rw[Ac,A0,AU hi];rfl
theorem RH.cb{h:AE}(hR:RH h){i:Nat}(hi:i<h.AH.length):VL h.AR h.AG h.Now i (cbn h i):=by
 rw[ADh hi];exact hR.cab i hi
theorem RH.mk'{h:AE}(rules:Dd h.AR=true)(now:0<=h.Now/\h.Now<=1000000)(turn:1<=h.As/\h.As<=1000001)(De:h.AH.length=h.AR.AW.length)(Hk:QP h.AR h.Now h.As h.AG)
 (cab:∀i:Nat,i<h.AH.length->VL h.AR h.AG h.Now i (cbn h i)) (todo:Gr h.Az h.AH.length=true) (E8:JW h.Ay h.AH.length=true) (P1:(h.Ay.length:Int)=h.AR.Cr):RH h:=
 ⟨rules,now,turn,De,Hk,fun i hi=>by rw[<-ADh hi];exact cab i hi,todo,E8,P1⟩
structure One(h:AE)(id:Int)(p:AQ)(rest:List AQ):Prop where
 perm:h.AG.Perm (p::rest)
 sub:rest.Sublist h.AG
 okp:DL h.AR p h.Now=true
 pid:p.Id=id
 mem:p∈h.AG
 ne:∀q∈rest,q.Id≠id
 set:∀q:AQ,q.Id=id->∃l,Kw h.AG q=l/\l.Perm (q::rest)/\(q.As=p.As->q.Since=p.Since->DL h.AR q h.Now=true->QP h.AR h.Now h.As l)
 cut:h.AG.eraseP (fun x=>x.Id==id)=rest
theorem RH.one{h:AE}(hR:RH h){id:Int}(G:0<=FI h id):One h id (par h id) (h.AG.eraseP fun x=>x.Id==id):=by
 obtain⟨k,c,e,a,g,j⟩:=ATa G;have y:h.AG[k]∈h.AG:=BC c;have B:h.AG.Perm (par h id::h.AG.eraseP fun x=>x.Id==id):=by rw[a];exact AA1 c j
 refine⟨B,List.eraseP_sublist,by rw[a];exact(hR.Hk.par _ y).1,g,by rw[a];exact y,?_,?_,rfl⟩
 .have:=(hR.Hk.uni.perm B).id
  grind[List.pairwise_cons]
 .intro q E;refine⟨h.AG.set k q,?_,set_perm c j q,?_⟩
  .unfold Kw;unfold FI at e;rw[E,e,if_pos (by omega),Ac]
  .intro H I J;refine hR.Hk.set c ?_ ?_ ?_ J
   .rw[<-a,g,E]
   .rw[<-a,H]
   .rw[<-a,I]
theorem One.size{h:AE}{id:Int}{p:AQ}{rest:List AQ}(ho:One h id p rest):(1<=p.A5/\p.A5<=6)/\(0<=p.AX/\p.AX<h.AR.AW.length)/\(-1<=p.BY/\p.BY<h.AR.AW.length)/\p.BY≠p.AX:=by
 have a:=Ed ho.okp;have c:=B2 a.1;omega
def AJS(h:AE)(p:AQ)(rest:List AQ)(g:AE):Prop:=∀i:Nat,i<h.AH.length->Rc h.AR rest (p::rest) h.Now i (cbn g i)
theorem mh{r:Aa}{p:AQ}{rest:List AQ}{now:Int}{i:Nat}(G:1<=p.A5/\p.A5<=6)(q:p.AX≠i){c:Ad}(h:VL r (p::rest) now i c):Rc r rest (p::rest) now i c:=by
 have y:Kx r i now p=none:=by
  grind[Kx]
 have B:MH i p=none:=by
  grind[MH]
 have E:Wl i p=0:=by unfold Wl;simp[q]
 have a:=h.row;have e:=h.F4;have g:=h.held;have j:=h.room;rw[Sp,y]at a;rw[U3,B]at e;rw[Nz,E,Gw]at g;rw[HW,if_neg q,Gw]at j;exact⟨a,e,h.total,g,h.Is,h.led,j⟩
section
variable{h:AE}(hR:RH h){id:Int}{p:AQ}{rest:List AQ}(ho:One h id p rest)
include hR ho
theorem One.cab{i:Nat}(hi:i<h.AH.length):VL h.AR (p::rest) h.Now i (cbn h i):=((hR.cb hi).half.perm hR.Hk.uni ho.perm ho.perm).full
theorem One.uni:Uni (p::rest):=hR.Hk.uni.perm ho.perm
theorem One.room{i:Nat}(hi:i<h.AH.length):C2 (p::rest) i<=10:=by
 have:=(ho.cab hR hi).room;have:=B2 hR.rules;omega
theorem One.pins{i:Nat}(hi:i<h.AH.length):PI (FO (p::rest) i):=by
 rw[<-U4 ho.perm];exact W4 hR.Hk (by rw[Rs ho.perm];exact ho.room hR hi)
theorem Q2(y:p.State=2){a c:Int}(Q:a=0/\c=1\/a=1/\c=0) :
 AJS h p rest (CS h p.AX ⟨(l8 (cbn h p.AX).AW p.A5 a (-1) c 0).1,(cbn h p.AX).Row,(Tz (cbn h p.AX).Bl ⟨p.CW,p.Id⟩).1⟩):=by
 intro i hi;obtain⟨H,O,z3,z4⟩:=ho.size;have S:=hR.De;rw[ID O.1 (by omega) (by omega)];by_cases e:(i:Int)=p.AX
 .rw[if_pos e,<-e];have g:=ho.cab hR hi;have q:=ho.pins hR hi;have B:=g.row;have E:=g.F4;have J:=g.held;have L:=g.room;have G:=g.led;rw[U6 _ _ _ (by omega)]at B;rw[Th _ y,if_pos e.symm]at E q;rw[YS _ y H,if_pos e.symm]at J;rw[HW,if_pos e.symm]at L;have I:=yi rest i;have kl:=FD.1 G;have j:EW ⟨(cbn h i).AW.Total,(cbn h i).AW.DP+a*p.A5,(cbn h i).AW.ER+(-1)*p.A5,(cbn h i).AW.E6+c*p.A5,(cbn h i).AW.FP+0*p.A5⟩=true:=by
   grind[FD]
  rw[mS G (by omega) (by omega) (by omega) (by omega) (by omega) j,E,AR4 q];refine⟨B,rfl,g.total,?_,?_,j,?_⟩
  .dsimp only;omega
  .dsimp only;rw[g.Is];omega
  .omega
 .rw[if_neg e];exact mh H (Ne.symm e) (ho.cab hR hi)
theorem ADE(E:p.State=1):AJS h p rest (TC h p.AX id):=by
 intro i hi;obtain⟨I,J,z3,z4⟩:=ho.size;have L:=hR.De;unfold TC;rw[ID J.1 (by omega) (by omega)];by_cases e:(i:Int)=p.AX
 .rw[if_pos e,<-e];have a:=ho.cab hR hi;have c:=a.row;have g:=a.F4;have j:=a.held;have H:=a.room;rw[Ju _ ho.okp E,if_pos e.symm]at c;rw[NS _ (by omega)]at g;rw[NP _ (by omega)]at j;rw[HW,if_pos e.symm]at H;refine⟨?_,g,a.total,j,a.Is,a.led,by omega⟩;dsimp only;rw[c];refine Pl (by simpa using ho.pid) fun x G=>?_
  obtain⟨q,B,y⟩:=N5 G;obtain⟨rfl,_⟩:=Iz y;simpa using ho.ne q B
 .rw[if_neg e];exact mh I (Ne.symm e) (ho.cab hR hi)
theorem aZ{g:AE}(L:AJS h p rest g)(c:g.AR=h.AR)(B:g.Now=h.Now)(G:g.As=h.As)(X:g.AG=h.AG)(j:g.AH.length=h.AH.length)
 (J:Gr g.Az h.AH.length=true) (H:g.Ay=h.Ay):RH (gone g p):=by
 obtain⟨S,Z,z3,z4⟩:=ho.size;have Q:=hR.De;have E:g.AG.eraseP (fun x=>x.Id==p.Id)=rest:=by rw[X,ho.pid,ho.cut]
 have q:QP h.AR h.Now h.As rest:=hR.Hk.sub ho.sub;unfold gone;dsimp only;rw[E];split
 .rename_i I;refine RH.mk' (by show Dd g.AR=true;rw[c];exact hR.rules) (by show 0<=g.Now/\_;rw[B];exact hR.now) (by show 1<=g.As/\_;rw[G];exact hR.turn) (by simp[CS,j,c,Q]) (by show QP g.AR g.Now g.As rest;rw[c,B,G];exact q) ?_
   (by simpa[CS,j] using J) (by simpa[CS,j,H] using hR.E8) (by show (g.Ay.length:Int)=g.AR.Cr;rw[H,c];exact hR.P1)
  intro i hi;have y:i<h.AH.length:=by simpa[CS,j] using hi
  rw[ID I (by show p.BY<(g.AH.length:Int);omega) (by omega)];show VL g.AR rest g.Now i _;rw[c,B];have a:=L i y;have k:=a.Is;rw[H0 _ S]at k;by_cases e:(i:Int)=p.BY
  .rw[if_pos e,<-e];rw[if_pos e.symm]at k;have kl:=FD.1 a.led;have Y:=AAL rest i;have O:EW ⟨(cbn g i).AW.Total,(cbn g i).AW.DP+0*p.A5,(cbn g i).AW.ER+0*p.A5,(cbn g i).AW.E6+0*p.A5,(cbn g i).AW.FP+(-1)*p.A5⟩=true:=by
    rw[FD];dsimp only;omega
   rw[mS a.led (by omega) (by omega) (by omega) (by omega) (by omega) O];refine⟨a.row,a.F4,a.total,?_,?_,O,a.room⟩
   .dsimp only;rw[a.held];omega
   .dsimp only;omega
  .rw[if_neg e];rw[if_neg (Ne.symm e),Gw]at k;exact⟨a.row,a.F4,a.total,a.held,k,a.led,a.room⟩
 .rename_i I;refine RH.mk' (by show Dd g.AR=true;rw[c];exact hR.rules) (by show 0<=g.Now/\_;rw[B];exact hR.now) (by show 1<=g.As/\_;rw[G];exact hR.turn) (by show g.AH.length=g.AR.AW.length;rw[j,c,Q]) (by show QP g.AR g.Now g.As rest;rw[c,B,G];exact q) ?_
   (by show Gr g.Az g.AH.length=true;rw[j];exact J) (by show JW g.Ay g.AH.length=true;rw[j,H];exact hR.E8) (by show (g.Ay.length:Int)=g.AR.Cr;rw[H,c];exact hR.P1)
  intro i hi;have y:i<h.AH.length:=by rw[<-j];exact hi
  show VL g.AR rest g.Now i (cbn g i);rw[c,B];have a:=L i y;have k:=a.Is;rw[H0 _ S,if_neg (by omega),Gw]at k;exact⟨a.row,a.F4,a.total,a.held,k,a.led,a.room⟩
theorem Wc(hs:p.State=2):RH (IG h p):=by
 obtain⟨Q,z2,z3,z4⟩:=ho.size;have Z:=hR.De;have L:AJS h p rest (dropped h p):=Q2 hR ho hs (.inr ⟨rfl,rfl⟩);have c:(dropped h p).AH.length=h.AH.length:=by simp[dropped,CS]
 unfold IG;split
 .rename_i Y;have j:=Y;unfold D4 at j;by_cases E:DL h.AR p h.Now=true/\p.State=2/\w64 (p.Cn+1)<h.AR.CP
  .have hk:=Ed ho.okp;have hr:=B2 hR.rules;have hq:(D4 h.AR p h.Now).1=⟨p.Id,p.AX,p.BY,p.A5,p.Ci,p.Since,p.As,1,w64 (h.Now+h.AR.Rest),w64 (p.Cn+1)⟩:=by unfold D4;rw[if_pos E]
   rw[hq];have ew:w64 (h.Now+h.AR.Rest)=h.Now+h.AR.Rest:=A4 (by omega) (by omega);have ea:w64 (p.Cn+1)=p.Cn+1:=A4 (by omega) (by omega);rw[ew,ea];have G:=E.2.2;rw[ea]at G;have g:DL h.AR ⟨p.Id,p.AX,p.BY,p.A5,p.Ci,p.Since,p.As,1,h.Now+h.AR.Rest,p.Cn+1⟩ h.Now=true:=by
    grind[DL,B8,A4]
   obtain⟨l,S,B,X⟩:=ho.set ⟨p.Id,p.AX,p.BY,p.A5,p.Ci,p.Since,p.As,1,h.Now+h.AR.Rest,p.Cn+1⟩ ho.pid;rw[S];have J:=X rfl rfl g;generalize hQ:(⟨p.Id,p.AX,p.BY,p.A5,p.Ci,p.Since,p.As,1,h.Now+h.AR.Rest,p.Cn+1⟩:AQ)=q at *;have q1:q.AX=p.AX:=by rw[<-hQ]
   have q2:q.BY=p.BY:=by rw[<-hQ]
   have O:q.A5=p.A5:=by rw[<-hQ]
   have H:q.State=1:=by rw[<-hQ]
   unfold GD;refine RH.mk' hR.rules hR.now hR.turn (by show ((dropped h p).AH.set _ _).length=_;rw[Am,c];exact Z) J ?_ (by show Gr h.Az (((dropped h p).AH.set _ _).length:Nat)=true;rw[Am,c];exact hR.todo) (by show JW h.Ay (((dropped h p).AH.set _ _).length:Nat)=true;rw[Am,c];exact hR.E8) hR.P1;intro i hi;have y:i<h.AH.length:=by have:i<((dropped h p).AH.set q.AX.toNat _).length:=hi;rw[Am,c]at this;exact this
   rw[ID (by rw[q1];exact z2.1) (by rw[q1];show p.AX<((dropped h p).AH.length:Int);omega) (by omega)];show VL h.AR l h.Now i (if _ then (⟨(cbn (dropped h p) q.AX).AW,put ltE (EL h.AR q h.Now).1 (cbn (dropped h p) q.AX).Row,(cbn (dropped h p) q.AX).Bl⟩:Ad) else cbn (dropped h p) i);have a:=L i y;have hu:=J.uni;have t1:JC (p::rest) i=JC (q::rest) i:=by rw[H0 _ Q,H0 _ (by rw[O];exact Q),q2,O]
   have I:C2 (q::rest) i<=h.AR.Room:=by
    have:=(ho.cab hR y).room;rw[HW]at this ⊢;rw[q1];exact this
   refine Rc.full (Rc.perm ?_ (hu.perm B) B.symm B.symm);by_cases e:(i:Int)=q.AX
   .rw[if_pos e,<-e];refine⟨?_,?_,a.total,?_,by dsimp only;rw[a.Is,t1],a.led,I⟩
    .dsimp only;rw[Ju _ g H,if_pos e.symm,Qg g H,a.row]
    .dsimp only;rw[NS _ (by omega),a.F4]
    .dsimp only;rw[NP _ (by omega),a.held]
   .rw[if_neg e];refine⟨?_,?_,a.total,?_,by rw[a.Is,t1],a.led,I⟩
    .rw[Ju _ g H,if_neg (Ne.symm e),a.row]
    .rw[NS _ (by omega),a.F4]
    .rw[NP _ (by omega),a.held]
  .rw[if_neg E]at j;cases j
 .exact aZ hR ho L rfl rfl rfl rfl c hR.todo rfl
end
def Zm(p:AQ)(now:Int):Bool:=p.State==1&&decide (p.CW>now)
def jI(h:AE):List Int:=h.AG.filterMap fun p=>if Zm p h.Now=true then some p.Id else none
def yU(free:Int)(skip:List Int)(e:Ae):Bool:=decide (e.A5<=free)&&!(skip.any fun y=>y==e.Id)
def UG(h:AE)(k:Int):Int:=atF (yU (cbn h k).AW.DP (jI h)) (cbn h k).Row 0
def AQ2:Ae:=⟨0,0,0,0⟩
def EJ(h:AE)(k:Int):Int:=if UG h k<0 then 0 else ((cbn h k).Row.getD (UG h k).toNat AQ2).Id
theorem tC(p:AQ)(now:Int):AEb p now=some (Zm p now):=by
 unfold AEb eG Zm;rw[AT,AT,Cf]
theorem kG{l:List Ae}(c:l.length<=1048576){skip:List Int}(e:skip.length<=1048576)(free:Int):AEw l free skip=some (atF (yU free skip) l 0):=by
 unfold AEw;refine QR (by omega) ?_ ?_
 .intro L i h;unfold fA eu yU;rw[Bw h,BP];simp only[A9 h,AB,RG (show skip.length<2 ^ 62 by omega),AT];by_cases a:l[i].A5<=free
  .simp only[a,decide_true,BP,Bool.true_and]
  .simp only[a,decide_false,BS,Bool.false_and]
 grind[fA,xY,BS,AT]
theorem nq{l:List Ae}{p:Ae->Bool}(a:¬atF p l 0<0):at? l (atF p l 0)=some (l.getD (atF p l 0).toNat AQ2)/\∃c:(atF p l 0).toNat<l.length,p l[(atF p l 0).toNat]=true/\l.getD (atF p l 0).toNat AQ2=l[(atF p l 0).toNat]:=by
 grind[Iw,A9]
theorem tJ{h:AE}(a:Bf h){k:Int}(e:0<=k)(g:k<h.AH.length):xZ h k=some (EJ h k):=by
 have hlim:lim=268435456:=rfl;have c:=a.B4;have q:(jI h).length<=1048576:=Ar (Bh _ _) c;have j:=(a.Dk _ (UX e g)).1;unfold xZ;rw[collect (l:=h.AG) (fun p=>if Zm p h.Now=true then some p.Id else none) (fC h k) c ?_ ?_]
 .grind[fC,cbn,Ez,AB,jI,kG,UG,EJ,BJ,nq]
 .grind[fD,fB,A9,AB,tC,Bb,AT,Bt]
 grind[fD,BS,AT]
def ATU(h:AE)(p:AQ):AQ:=⟨p.Id,p.AX,p.BY,p.A5,p.Ci,p.Since,p.As,2,w64 (h.Now+h.AR.Bq),p.Cn⟩
def IK(h:AE)(k id:Int):AE:=
 CS (OI h (Kw h.AG (ATU h (par h id)))) k ⟨(l8 (cbn h k).AW (par h id).A5 (-1) 1 0 0).1,(cbn h k).Row.eraseP (fun x=>x.Id==id),(NK (cbn h k).Bl ⟨w64 (h.Now+h.AR.Bq),id⟩).1⟩
theorem iP{h:AE}(hR:RH h){k:Nat}(O:k<h.AH.length)(g:EJ h k≠0):0<=FI h (EJ h k)/\(par h (EJ h k)).State=1/\(par h (EJ h k)).AX=k/\(par h (EJ h k)).A5<=(cbn h k).AW.DP/\Zm (par h (EJ h k)) h.Now=false:=by
 unfold EJ at g ⊢;by_cases j:UG h k<0
 .rw[if_pos j]at g;exact absurd rfl g
 .rw[if_neg j]at g ⊢;obtain⟨_,c,H,I⟩:=nq j;have J:=hR.cb O;have q:(cbn h k).Row.getD (UG h k).toNat AQ2=(cbn h k).Row[(UG h k).toNat]'c:=I;rw[q];have Q:(cbn h k).Row[(UG h k).toNat]'c∈DM h.AR h.AG k h.Now:=by rw[<-J.row];exact BC _
  obtain⟨p,S,L⟩:=N5 Q;obtain⟨G,X,Y,Z⟩:=Iz L;have a:yU (cbn h k).AW.DP (jI h) ((cbn h k).Row[(UG h k).toNat]'c)=true:=H;unfold yU at a;rw[AF,decide_eq_true_iff]at a;generalize (cbn h k).Row[(UG h k).toNat]'c=e at *;subst G;dsimp only at a ⊢;have B:0<=FI h p.Id:=by
   grind[FI,Iw]
  have ho:=hR.one B;have E:par h p.Id=p:=by
   rcases Ak.1 (ho.perm.subset S) with y|y
   .exact y.symm
   .exact absurd rfl (ho.ne p y)
  rw[E]
  grind[jI]
theorem ACY{h:AE}(hR:RH h){k:Nat}(hk:k<h.AH.length){id:Int}{rest:List AQ}(ho:One h id (par h id) rest)(hs:(par h id).State=1)(g:(par h id).AX=k)(hf:(par h id).A5<=(cbn h k).AW.DP):RH (IK h k id):=by
 obtain⟨H,z2,z3,z4⟩:=ho.size;have hn:=hR.De;have hr:=B2 hR.rules;have Y:=hR.now;have ew:w64 (h.Now+h.AR.Bq)=h.Now+h.AR.Bq:=A4 (by omega) (by omega);unfold IK;generalize hP:par h id=p at *;have hq:ATU h p=⟨p.Id,p.AX,p.BY,p.A5,p.Ci,p.Since,p.As,2,h.Now+h.AR.Bq,p.Cn⟩:=by unfold ATU;rw[ew]
 rw[hq,ew];have O:DL h.AR ⟨p.Id,p.AX,p.BY,p.A5,p.Ci,p.Since,p.As,2,h.Now+h.AR.Bq,p.Cn⟩ h.Now=true:=by
  have:=ho.okp
  grind[DL,B8]
 obtain⟨l,e1,c,e3⟩:=ho.set ⟨p.Id,p.AX,p.BY,p.A5,p.Ci,p.Since,p.As,2,h.Now+h.AR.Bq,p.Cn⟩ ho.pid;rw[e1];have J:=e3 rfl rfl O;have q5:(⟨h.Now+h.AR.Bq,id⟩:BB)=⟨(⟨p.Id,p.AX,p.BY,p.A5,p.Ci,p.Since,p.As,2,h.Now+h.AR.Bq,p.Cn⟩:AQ).CW,(⟨p.Id,p.AX,p.BY,p.A5,p.Ci,p.Since,p.As,2,h.Now+h.AR.Bq,p.Cn⟩:AQ).Id⟩:=by rw[<-ho.pid]
 rw[q5];generalize hQ:(⟨p.Id,p.AX,p.BY,p.A5,p.Ci,p.Since,p.As,2,h.Now+h.AR.Bq,p.Cn⟩:AQ)=q at *;have q1:q.AX=p.AX:=by rw[<-hQ]
 have q2:q.BY=p.BY:=by rw[<-hQ]
 have B:q.A5=p.A5:=by rw[<-hQ]
 have E:q.State=2:=by rw[<-hQ]
 have hu:=J.uni;refine RH.mk' hR.rules hR.now hR.turn (by show (h.AH.set _ _).length=_;rw[Am];exact hn) J ?_ (by show Gr h.Az ((h.AH.set _ _).length:Nat)=true;rw[Am];exact hR.todo) (by show JW h.Ay ((h.AH.set _ _).length:Nat)=true;rw[Am];exact hR.E8) hR.P1;intro i hi;have L:i<h.AH.length:=by have:i<(h.AH.set (k:Int).toNat _).length:=hi;rw[Am]at this;exact this
 rw[ID (by omega) (by show (k:Int)<(h.AH.length:Int);omega) (by omega)];show VL h.AR l h.Now i (if (i:Int)=k then (⟨_,_,_⟩:Ad) else cbn h i);have a:=ho.cab hR L;have t1:JC (p::rest) i=JC (q::rest) i:=by rw[H0 _ H,H0 _ (by rw[B];exact H),q2,B]
 have S:C2 (q::rest) i<=h.AR.Room:=by
  have:=a.room;rw[HW]at this ⊢;rw[q1];exact this
 refine Rc.full (Rc.perm ?_ (hu.perm c) c.symm c.symm);have G:=a.row;have Q:=a.F4;have Z:=a.held;rw[Ju _ ho.okp hs]at G;rw[NS _ (by omega)]at Q;rw[NP _ (by omega)]at Z;by_cases e:(i:Int)=k
 .obtain rfl:i=k:=by omega
  rw[if_pos rfl];have j:PI (FO (q::rest) (i:Int)):=by
   rw[<-U4 c];exact W4 J (by rw[Rs c];omega)
  rw[Th _ E,if_pos (by rw[q1,g])]at j;have kl:=FD.1 a.led;have hnn:=yi rest i;have X:EW ⟨(cbn h i).AW.Total,(cbn h i).AW.DP+(-1)*p.A5,(cbn h i).AW.ER+1*p.A5,(cbn h i).AW.E6+0*p.A5,(cbn h i).AW.FP+0*p.A5⟩=true:=by
   rw[FD];dsimp only;omega
  rw[mS a.led (by omega) (by omega) (by omega) (by omega) (by omega) X,Q,AR5 j];refine⟨?_,?_,a.total,?_,?_,X,S⟩
  .dsimp only;rw[G,if_pos g,U6 _ _ _ (by omega)];refine Pl (by simpa using ho.pid) fun x hx=>?_
   obtain⟨y,hy,he⟩:=N5 hx;obtain⟨rfl,_⟩:=Iz he;simpa using ho.ne y hy
  .dsimp only;rw[Th _ E,if_pos (by rw[q1,g])]
  .dsimp only;rw[YS _ E (by rw[B];exact H),if_pos (by rw[q1,g]),B];omega
  .dsimp only;rw[a.Is,t1];omega
 .rw[if_neg e];have I:¬q.AX=i:=by rw[q1,g];omega
  rw[if_neg (by rw[<-q1];exact I)]at G;refine⟨by rw[G,U6 _ _ _ (by omega)],by rw[Q,Th _ E,if_neg I],a.total,by rw[Z,YS _ E (by rw[B];exact H),if_neg I];omega,by rw[a.Is,t1],a.led,S⟩
theorem RH.sm{h:AE}(hR:RH h):Sm 1000 h:=by
 have G:=B2 hR.rules;have E:=hR.De;have B:=hR.P1;refine⟨by omega,by have:=hR.Hk.few;omega,by omega,?_,by have:=AQG (by omega) hR.todo;omega,by omega⟩;intro c e;obtain⟨i,hi,rfl⟩:=List.mem_iff_getElem.1 e;have a:=hR.cab i hi;have j:=a.room;have y:=RB h.AR h.AG i h.Now;have g:=W4 hR.Hk (c:=i) (by omega);have q:=ji g;refine⟨by rw[a.row];omega,by rw[a.F4,av];omega,by rw[a.F4];have:=q.few;omega⟩
theorem RH.fit{h:AE}(hR:RH h):Bf h:=hR.sm.fit (by omega)
theorem RH.rX{h:AE}(hR:RH h){q:AQ}(e:q∈h.AG):0<=FI h q.Id/\par h q.Id=q:=by
 have a:0<=FI h q.Id:=by
  grind[FI,Iw]
 have ho:=hR.one a;refine⟨a,?_⟩;rcases Ak.1 (ho.perm.subset e) with c|c
 .exact c.symm
 .exact absurd rfl (ho.ne q c)
structure Kept(h g:AE):Prop where
 rules:g.AR=h.AR
 now:g.Now=h.Now
 turn:g.As=h.As
 De:g.AH.length=h.AH.length
 todo:g.Az=h.Az
 E8:g.Ay=h.Ay
theorem Kept.refl(h:AE):Kept h h:=⟨rfl,rfl,rfl,rfl,rfl,rfl⟩
theorem Kept.trans{a b c:AE}(h:Kept a b)(g:Kept b c):Kept a c:=⟨g.rules.trans h.rules,g.now.trans h.now,g.turn.trans h.turn,g.De.trans h.De,g.todo.trans h.todo,g.E8.trans h.E8⟩
theorem YK(h:AE)(p:AQ):Kept h (gone h p):=by
 unfold gone;dsimp only;split
 .exact⟨rfl,rfl,rfl,by simp[CS],rfl,rfl⟩
 .exact⟨rfl,rfl,rfl,rfl,rfl,rfl⟩
theorem pB(h:AE)(p:AQ):Kept h (dropped h p):=⟨rfl,rfl,rfl,by simp[dropped,CS],rfl,rfl⟩
theorem Qi(h:AE)(p:AQ):Kept h (IG h p):=by
 unfold IG;split
 .exact⟨rfl,rfl,rfl,by simp[GD,OI,dropped,CS],rfl,rfl⟩
 .exact(pB h p).trans (YK _ _)
theorem Q3(h:AE)(k id:Int):Kept h (IK h k id):=⟨rfl,rfl,rfl,by simp[IK,OI,CS],rfl,rfl⟩
theorem AHB{h:AE}{id:Int}{p:AQ}{rest:List AQ}(ho:One h id p rest){q:AQ}(c:q∈rest):q∈(IG h p).AG:=by
 unfold IG;split
 .rename_i a;have e:(D4 h.AR p h.Now).1.Id=id:=by
   unfold D4 at a ⊢;split at a
   .rename_i g;rw[if_pos g];exact ho.pid
   .cases a
  obtain⟨l,j,y,_⟩:=ho.set _ e;show q∈Kw h.AG (D4 h.AR p h.Now).1
  grind
 .have:(gone (dropped h p) p).AG=rest:=by
   rw[<-ho.cut,<-ho.pid];unfold gone;dsimp only;split<;>rfl
  rw[this];exact c
def TW:List Int->AE->AE| [],g=>g|id::l,g=>TW l (IG g (par g id))
def AGn(g:AE)(l:List Int):Prop:=l.Nodup/\∀id∈l,0<=FI g id/\(par g id).State=2
theorem Ue{g:AE}(hR:RH g){id:Int}{l:List Int}(hO:AGn g (id::l)):RH (IG g (par g id))/\AGn (IG g (par g id)) l/\Kept g (IG g (par g id)):=by
 obtain⟨c,B⟩:=hO;rw[List.nodup_cons]at c;obtain⟨G,H⟩:=B id (BQ ..);have ho:=hR.one G;have hR':=Wc hR ho H;refine⟨hR',⟨c.2,?_⟩,Qi _ _⟩;intro j E;obtain⟨I,L⟩:=B j (List.mem_cons_of_mem _ E);have y:j≠id:=fun e=>c.1 (e▸E)
 have a:=hR.one I;have J:par g j∈g.AG.eraseP (fun x=>x.Id==id):=by
  rcases Ak.1 (ho.perm.subset a.mem) with q|q
  .exact absurd (by rw[<-a.pid,<-ho.pid,q]) y
  .exact q
 have:=hR'.rX (AHB ho J);rw[a.pid]at this
 grind
theorem Qh:∀{l:List Int} {g:AE},RH g->AGn g l->RH (TW l g)/\Kept g (TW l g)
 | [],g,hR,_=>⟨hR,Kept.refl g⟩|id::l,g,hR,hO=>by
  obtain⟨a,c,e⟩:=Ue hR hO;obtain⟨j,q⟩:=Qh a c;exact⟨j,e.trans q⟩
def Wb(h:AE)(k:Int):AE:=TW (gB (cbn h k).Bl h.Now) h
theorem SJ{h:AE}(hR:RH h){k:Nat}(I:k<h.AH.length):AGn h (gB (cbn h k).Bl h.Now)/\(gB (cbn h k).Bl h.Now).length<=10:=by
 have E:=hR.cb I;have X:=B2 hR.rules;have q:=W4 hR.Hk (c:=k) (by have:=E.room;omega);have e:gB (cbn h k).Bl h.Now=(FO h.AG k).filterMap fun p=>if p.At<=h.Now then some p.Id else none:=by
  unfold gB;rw[E.F4,AAY q]
 rw[e];refine⟨⟨?_,?_⟩,Ar (Bh _ _) q.few⟩
 .show List.Pairwise _ _;rw[List.pairwise_filterMap];refine q.ids.imp ?_;intro a b L x g y Q;split at g<;>split at Q<;>simp_all
 .intro id j;obtain⟨pin,J,g⟩:=List.mem_filterMap.1 j;split at g
  .obtain⟨p,B,O⟩:=mc J;obtain⟨rfl,S,_⟩:=Ti O;cases g;obtain⟨G,H⟩:=hR.rX B;exact⟨G,by rw[H];exact S⟩
  .cases g
theorem ATb{h:AE}(hR:RH h){id:Int}(a:0<=FI h id):0<=(par h id).AX/\(par h id).AX<h.AH.length/\(par h id).BY<h.AH.length:=by
 have:=(hR.one a).size;have:=hR.De;omega
theorem QS{h:AE}{id:Int}(a:0<=FI h id):at? h.AG (FI h id)=some (par h id):=Xe a (Q9 a).1
theorem jT{h:AE}(hR:RH h){k:Nat}(q:k<h.AH.length):AEa h k=some (Wb h k):=by
 obtain⟨hO,E⟩:=SJ hR q;unfold AEa Wb;rw[AAC hR.fit (by omega) (by omega),AB];generalize gB (cbn h k).Bl h.Now=D at *;refine(DE (F:=eF D) (n:=D.length) (fun i (v:AE)=>((i:Int),v)) (fun i v=>RH v/\AGn v (D.drop i)) (fun i v=>some (TW (D.drop i) v)) (by omega) ?_ (v:=h) ⟨hR,hO⟩);rintro L i v ⟨e,ho⟩ hi y;unfold eF xO;dsimp only;rcases AV i D.length with a|j
 .rw[Dw a]at ho ⊢;have g:=ho.2 D[i] (BQ ..);have c:=ATb e g.1;obtain⟨s1,B,_⟩:=Ue e ho;simp only[Bw a,BP,A9 a,AB,Ga e.fit,QS g.1,UP (show 1000+2<=1048576 by omega) e.sm c.1 c.2.1 c.2.2,BX a (show D.length<2 ^ 63 by omega)];exact y _ ⟨s1,B⟩ a
 .obtain rfl:i=D.length:=by omega
  rw[Cc,BS,AT,List.drop_length];rfl
theorem zE{h:AE}(hR:RH h){k:Nat}(e:k<h.AH.length){id:Int}{rest:List AQ}(ho:One h id (par h id) rest)(g:(par h id).State=1)(a:(par h id).AX=k):(cbn (IK h k id) k).Row.length+1=(cbn h k).Row.length:=by
 unfold IK;rw[ID (by omega) (by show (k:Int)<(h.AH.length:Int);omega) (by omega),if_pos rfl];dsimp only;have:=(ho.cab hR e).row;rw[Ju _ ho.okp g,if_pos a]at this;rw[this,Pl (by simpa using ho.pid) fun x j=>?_,Ey];obtain⟨y,q,c⟩:=N5 j;obtain⟨rfl,_⟩:=Iz c;simpa using ho.ne y q
theorem kK{h:AE}(hR:RH h){k:Nat}(g:k<h.AH.length):AEx h k=some (if EJ h k=0 then (h,0) else (IK h k (EJ h k),EJ h k))/\(EJ h k=0->AEy h k=some ((),0)):=by
 have a:=hR.fit;unfold AEx AEy;rw[tJ a (by omega) (by omega),AB,AB,Bb,Bb];by_cases c:EJ h k=0
 .grind
 .refine⟨?_,fun h=>absurd h c⟩;obtain⟨j,q,y,B,E⟩:=iP hR g c;have e:=a.Dk _ (UX (k:=(k:Int)) (by omega) (by omega));rw[if_neg (by simpa using c),if_neg c];simp only[Ga a,AB,QS j,D7,PF a.B4,show at? h.AH (k:Int)=some (cbn h k) from Ez (by omega) (by omega),jQ,UL e.1,Lh e.2];rfl
def OB(k:Int):Nat->AE->List Int->AE×List Int|0,h,a=>(h,a)|n+1,h,a=>if EJ h k=0 then (h,a) else OB k n (IK h k (EJ h k)) (a++[EJ h k])
theorem AGX{k:Int}{h:AE}(c:EJ h k=0)(a:List Int):∀n,OB k n h a=(h,a)|0=>rfl|n+1=>by unfold OB;rw[if_pos c]
theorem U0{h:AE}(hR:RH h){k:Nat}(a:k<h.AH.length)(j:EJ h k≠0):RH (IK h k (EJ h k))/\(cbn (IK h k (EJ h k)) k).Row.length+1=(cbn h k).Row.length:=by
 obtain⟨c,e,g,q,y⟩:=iP hR a j;exact⟨ACY hR a (hR.one c) e g q,zE hR a (hR.one c) e g⟩
theorem zm{k:Nat}:∀(n:Nat) {h:AE} (a:List Int),RH h->k<h.AH.length->RH (OB k n h a).1/\Kept h (OB k n h a).1/\(OB k n h a).2.length<=a.length+n
 |0,h,a,hR,_=>⟨hR,Kept.refl h,by unfold OB;simp⟩|n+1,h,a,hR,e=>by
  unfold OB;split
  .exact⟨hR,Kept.refl h,by simp⟩
  .rename_i B;have y:=U0 hR e B;have c:=Q3 h k (EJ h k);obtain⟨g,j,q⟩:=zm n (a++[EJ h k]) y.1 (by rw[c.De];exact e);refine⟨g,c.trans j,?_⟩;rw[AN,List.length_singleton]at q;omega
def Jh(h:AE)(k:Int):AE×List Int:=OB k 10 (Wb h k) []
theorem au{h:AE}(hR:RH h){k:Nat}(c:k<h.AH.length):(cbn h k).Row.length<=10:=by
 have a:=hR.cb c;have j:=B2 hR.rules;have e:=RB h.AR h.AG k h.Now;have g:=a.room;rw[a.row];omega
theorem zA{h:AE}{k:Int}(a:EJ h k≠0):0<(cbn h k).Row.length:=by
 unfold EJ at a;split at a
 .exact absurd rfl a
 .rename_i c;obtain⟨_,e,_⟩:=nq c;omega
theorem APo{h:AE}(hR:RH h){k:Nat}(y:k<h.AH.length):A7 (WQ k) big ([],h)=some (OB k 10 h []):=by
 have hlim:lim=268435456:=rfl;refine Ye (F:=WQ k) (fun x=>some (OB k (10-x.1.length) x.2 x.1)) (fun x=>RH x.2/\k<x.2.AH.length/\x.1.length+(cbn x.2 k).Row.length<=10) (fun x=>(cbn x.2 k).Row.length) ?_ (x:=([],h)) ⟨hR,y,by have:=au hR y;simpa using this⟩ (by have:=au hR y;show (cbn h k).Row.length<_;omega);rintro L ⟨a,g⟩ ⟨q,c,e⟩ E;dsimp only at q c e E ⊢;unfold WQ;dsimp only;obtain⟨H,I⟩:=kK q c;rw[H,AB];by_cases j:EJ g k=0
 .grind[AB,AGX,BP,ASU]
 .obtain⟨s1,J⟩:=U0 q c j;have B:=zA j;rw[if_neg j];dsimp only;have G:(EJ g k==0)=false:=by simpa using j
  rw[G,BS,Bt (by simp only[AI,AP];omega),E (a++[EJ g k],IK g k (EJ g k)) ⟨s1,by rw[(Q3 g k _).De];exact c,by simp only[AN,AI,AP];omega⟩ (by dsimp only;omega),ASV];congr 1;rw[show 10-a.length=(10-(a++[EJ g k]).length)+1 by simp only[AN,AI,AP];omega]
  conv=>rhs;unfold OB
  rw[if_neg j]
theorem U9{h:AE}(hR:RH h){k:Nat}(c:k<h.AH.length):RH (Jh h k).1/\Kept h (Jh h k).1/\(Jh h k).2.length<=10:=by
 obtain⟨g,a⟩:=Qh hR (SJ hR c).1;obtain⟨s1,j,e⟩:=zm (k:=k) 10 [] g (by rw[a.De];exact c);exact⟨s1,a.trans j,by simp only[AP,Nat.zero_add]at e;exact e⟩
theorem AJD{h:AE}(hR:RH h){k:Nat}(c:k<h.AH.length):AEz h k=some (Jh h k):=by
 have a:=hR.fit;have j:=a.De;obtain⟨e,g⟩:=Qh hR (SJ hR c).1;unfold AEz AJ5 eB;rw[HB a,AB,Hm a,Hz.2 hR,AB,BP,GC,AB,AT,AB,A4 (by omega) (by omega),B8.2 (by omega),BN,BP,jT hR c,AB];exact APo e (by rw[g.De];exact c)
theorem Fg{h:AE}{q:B9}(a:verdict h q=0):RH h:=by
 grind[verdict,Hz]
theorem RO{h:AE}{q:B9}(E:q.Kind=7)(a:verdict h q=0):∃n:Nat,∃e:n<h.Ay.length,q.Id=(n:Int)/\¬(h.Ay[n]<0/\h.Az.length=0):=by
 have hR:=Fg a;unfold verdict at a;rw[if_pos (Hz.2 hR)]at a;unfold HJ at a;split at a
 .cases a
 .split at a
  .cases a
  .rename_i y;have c:KC q=true:=by simpa using y
   have hi:0<=q.Id:=by
    unfold KC at c;rw[if_neg (by omega),if_pos (by omega)]at c;simp only[AF,Rh,B8]at c;exact c.1.1
   rw[if_neg (by omega),if_neg (by omega),if_neg (by omega),if_neg (by omega),if_neg (by omega)]at a
   try rw[if_pos E]at a
   by_cases g:h.AR.Cr<=q.Id
   .rw[if_pos g]at a;cases a
   .rw[if_neg g]at a;obtain⟨n,e⟩:=Int.eq_ofNat_of_zero_le hi;have j:n<h.Ay.length:=by have:=hR.P1;omega
    refine⟨n,j,e,?_⟩;rw[e,Ac,A0,AU j,Option.getD_some]at a;intro B;rw[if_pos B]at a;cases a
def QL(h:AE)(l:List Int):AE:=⟨h.AR,h.Now,h.As,h.AG,h.AH,h.Az,l⟩
def U2(h:AE)(who:Int):AE×List Int:=
 if h.Ay.getD who.toNat 0<0 then (QL (Dm h (h.Az.drop 1)) (h.Ay.set who.toNat (h.Az.getD 0 0)),[])
 else (QL (Jh h (h.Ay.getD who.toNat 0)).1 ((Jh h (h.Ay.getD who.toNat 0)).1.Ay.set who.toNat (-1)),(Jh h (h.Ay.getD who.toNat 0)).2)
def UI(h:AE)(who:Int):AE×Int×List Int:=
 if verdict h ⟨7,who,0,0,0,0⟩≠0 then (h,verdict h ⟨7,who,0,0,0,0⟩,[]) else ((U2 h who).1,0,(U2 h who).2)
theorem RH.job{h:AE}(hR:RH h){n:Nat}(a:n<h.Ay.length)(c:¬h.Ay[n]<0):∃k:Nat,k<h.AH.length/\h.Ay[n]=(k:Int):=by
 have:=List.all_eq_true.1 hR.E8 _ (BC a);have e:=hR.fit.De
 grind[B8,A4,Int.eq_ofNat_of_zero_le]
theorem AJC{h:AE}(c:Bf h)(who:Int):AE0 h who=some (UI h who)/\Bf (UI h who).1/\(UI h who).2.2.length<=10:=by
 have hlim:lim=268435456:=rfl;unfold AE0 UI;rw[HB c,AB,Gb c,AB];simp only[Bb,bne_iff_ne,ne_eq];by_cases q:verdict h ⟨7,who,0,0,0,0⟩=0
 .rw[if_neg (not_not_intro q),if_neg (not_not_intro q)];have hR:=Fg q;obtain⟨n,j,e,E⟩:=RO rfl q;dsimp only at e;subst e;have eg:h.Ay.getD n 0=h.Ay[n]:=by rw[A0,AU j];rfl
  unfold U2;rw[A9 j,AB,Ac,eg];simp only[decide_eq_true_eq];by_cases g:h.Ay[n]<0
  .rw[if_pos g,if_pos g];have I:0<h.Az.length:=by
    rcases Nat.eq_zero_or_pos h.Az.length with y|y
    .exact absurd ⟨g,y⟩ E
    .exact y
   have J:h.Az.getD 0 0=h.Az[0]:=by rw[A0,AU I];rfl
   have G:=c.todo;have L:(List.drop (Int.toNat 1) h.Az).length<=h.Az.length:=by rw[List.length_drop];omega
   rw[uC,AU I,AB,AB,AB,Bt ⟨by omega,by omega⟩,Bt (by omega),J];exact⟨rfl,⟨c.Df,c.B4,c.De,c.Dk,Ar L G,by show (h.Ay.set _ _).length<=_;rw[Am];exact c.E8⟩,by simp⟩
  .rw[if_neg g,if_neg g];obtain⟨k,H,ek⟩:=hR.job j g;obtain⟨s1,O,Q⟩:=U9 hR H;rw[ek,AJD hR H,AB];have B:n<(Jh h k).1.Ay.length:=by rw[O.E8];exact j
   rw[A9 B,AB,AB];have a:=s1.fit;exact⟨rfl,⟨a.Df,a.B4,a.De,a.Dk,a.todo,by show ((Jh h k).1.Ay.set _ _).length<=_;rw[Am];exact a.E8⟩,Q⟩
 grind
def doF(h:AE)(q:B9):AE×Ca:=
 if verdict h q≠0 then (h,⟨verdict h q,[]⟩)
 else if q.Kind=1 then ((Ze h q.Id q.AX q.BY q.A5 q.Ci).1,⟨(Ze h q.Id q.AX q.BY q.A5 q.Ci).2,[]⟩)
 else if q.Kind=2 then ((OR h q.Id).1,⟨(OR h q.Id).2,[]⟩)
 else if q.Kind=3 then ((ZR h q.AX q.A5).1,⟨(ZR h q.AX q.A5).2,[]⟩)
 else if q.Kind=4 then ((OL h q.Id).1,⟨(OL h q.Id).2,[]⟩)
 else if q.Kind=5 then ((MC h q.Id).1,⟨(MC h q.Id).2,[]⟩)
 else if q.Kind=6 then ((Zu h).1,⟨(Zu h).2,[]⟩)
 else ((UI h q.Id).1,⟨(UI h q.Id).2.1,(UI h q.Id).2.2⟩)
theorem s5{h:AE}(E:Bf h)(q:B9):ZN h q=some (doF h q)/\Bf (doF h q).1/\(doF h q).2.Ids.length<=10:=by
 unfold ZN doF Lx;rw[HB E,AB,Gb E,AB];simp only[Bb,bne_iff_ne,ne_eq,beq_iff_eq,AT];by_cases G:verdict h q=0
 .have hR:=Fg G;have a:=hR.sm;have H:=hR.De;have I:=B2 hR.rules;rw[if_neg (not_not_intro G),if_neg (not_not_intro G)];by_cases c:q.Kind=1
  .rw[if_pos c,if_pos c];have:=AJB (show 1000+3<=1048576 by omega) a q.Id q.AX q.BY q.A5 q.Ci;rw[this.1,AB];exact⟨rfl,this.2.fit (by omega),by simp⟩
  .rw[if_neg c,if_neg c];by_cases e:q.Kind=2
   .rw[if_pos e,if_pos e];have:=zy (show 1000+1<=1048576 by omega) a q.Id;rw[this.1,AB];exact⟨rfl,this.2.fit (by omega),by simp⟩
   .rw[if_neg e,if_neg e];by_cases g:q.Kind=3
    .rw[if_pos g,if_pos g];have:=jM (show 1000+1<=1048576 by omega) a q.AX q.A5;rw[this.1,AB];exact⟨rfl,this.2.fit (by omega),by simp⟩
    .rw[if_neg g,if_neg g];by_cases j:q.Kind=4
     .rw[if_pos j,if_pos j];have:=zw (show 1000+1<=1048576 by omega) a q.Id;rw[this.1,AB];exact⟨rfl,this.2.fit (by omega),by simp⟩
     .rw[if_neg j,if_neg j];by_cases y:q.Kind=5
      .rw[if_pos y,if_pos y];have:=s4 (show 1000+3<=1048576 by omega) a q.Id;rw[this.1,AB];exact⟨rfl,this.2.fit (by omega),by simp⟩
      .rw[if_neg y,if_neg y];by_cases B:q.Kind=6
       .rw[if_pos B,if_pos B];have:=AJE a (show 1000+h.AH.length<=1048576 by omega);rw[this.1,AB];exact⟨rfl,this.2.fit (by omega),by simp⟩
       .rw[if_neg B,if_neg B];have:=AJC E q.Id;rw[this.1,AB];exact⟨rfl,this.2.1,this.2.2⟩
 grind
def HM:List B9->AE->AE×List Ca| [],h=>(h,[])|q::l,h=>((HM l (doF h q).1).1,(doF h q).2::(HM l (doF h q).1).2)
theorem TV:∀(l:List B9) {h:AE},Bf h->Bf (HM l h).1/\(HM l h).2.length=l.length/\∀r∈(HM l h).2,r.Ids.length<=10
 | [],h,a=>⟨a,rfl,by simp[HM]⟩|q::l,h,a=>by
  have c:=s5 a q;obtain⟨e,g,j⟩:=TV l c.2.1
  grind[HM]
theorem jL{h:AE}(q:Bf h){l:List B9}(G:l.length<=1048576):Ia h l=some (HM l h):=by
 have hlim:lim=268435456:=rfl;unfold Ia;rw[HB q,AB];refine(DE (F:=fE l) (n:=l.length) (fun i (v:List Ca×AE)=>(v.1,(i:Int),v.2)) (fun i v=>Bf v.2/\v.1.length=i) (fun i v=>some ((HM (l.drop i) v.2).1,v.1++(HM (l.drop i) v.2).2)) (by omega) ?_ (v:=([],h)) ⟨q,rfl⟩).trans ?_
 .rintro L i ⟨a,g⟩ ⟨y,e⟩ hi B;dsimp only at y e B ⊢;unfold fE xb;dsimp only;rcases AV i l.length with c|E
  .have j:=s5 y l[i];rw[Dw c];simp only[Bw c,BP,A9 c,AB,j.1,I2,tX,BX c (show l.length<2 ^ 63 by omega)];rw[Bt (by simp only[AI,AP];omega)];have:=B (a++[(doF g l[i]).2],(doF g l[i]).1) ⟨j.2.1,by simp[e]⟩ c;dsimp only at this;rw[this];simp only[HM,List.append_assoc,List.singleton_append]
  .grind[BS,AT,HM]
 .simp
end Lv.P
