/- Plain laws about what the program computes. -/
import Derived.Test.YtnjoipcemhflkaaGreatPJb
noncomputable section
set_option linter.unusedVariables false
set_option linter.unusedSimpArgs false
set_option linter.unusedSectionVars false
open Bool renaming and_eq_true->AF
open Int renaming toNat_natCast->Ac,zero_add->Ha
open List renaming getD_eq_getElem?_getD->A7,getElem?_eq_getElem->AS,getElem_mem->Ah,length_append->AK,length_cons->AI,length_filterMap_le->CK,length_nil->AP,length_set->BJ,mem_cons->Ag,mem_cons_self->Bg
open Nat renaming le_trans->Av,lt_or_ge->AZ
namespace Lv.P
open Lv Go
structure Rs(r:Aa)(ps qs:List AU)(now:Int)(i:Nat)(c:Ae):Prop where
 row:c.Row=Dy r ps i now
 Gr:c.By=wOf (GP ps i)
 total:c.AY.Total=r.AY.getD i 0
 held:c.AY.FA=JA ps i
 JG:c.AY.F8=Ja qs i
 led:Ed c.AY=true
 room:DS ps i<=r.Room
theorem Rs.full{r:Aa}{ps:List AU}{now:Int}{i:Nat}{c:Ae}(h:Rs r ps ps now i c):Vw r ps now i c:=⟨h.row,h.Gr,h.total,h.held,h.JG,h.led,h.room⟩
theorem Vw.half{r:Aa}{ps:List AU}{now:Int}{i:Nat}{c:Ae}(h:Vw r ps now i c):Rs r ps ps now i c:=⟨h.row,h.Gr,h.total,h.held,h.JG,h.led,h.room⟩
theorem Rs.perm{r:Aa}{ps qs a e:List AU}{now:Int}{i:Nat}{c:Ae}(h:Rs r ps qs now i c)(q:Uni ps)(g:ps.Perm a)(j:qs.Perm e):Rs r a e now i c:=
 ⟨by rw[h.row,AEK q g],by rw[h.Gr,Vg g],h.total,by rw[h.held,AHg g],by rw[h.JG,AI1 j],h.led,by rw[<-SC g];exact h.room⟩
theorem Ij{h:AE}{k j:Int}{c:Ae}(a:0<=k)(e:k<h.AH.length)(g:0<=j):cbn (Cj h k c) j=if j=k then c else cbn h j:=by
 grind[cbn,Cj]
theorem AJV{h:AE}{i:Nat}(hi:i<h.AH.length):cbn h i=h.AH[i]:=by
 unfold cbn;rw[Ac,A7,AS hi];rfl
theorem RH.cb{h:AE}(hR:RH h){i:Nat}(hi:i<h.AH.length):Vw h.AQ h.AG h.Now i (cbn h i):=by
 rw[AJV hi];exact hR.cab i hi
theorem RH.mk'{h:AE}(rules:Dz h.AQ=true)(now:0<=h.Now/\h.Now<=1000000)(turn:1<=h.A0/\h.A0<=1000001)(Ds:h.AH.length=h.AQ.AY.length)(IE:QZ h.AQ h.Now h.A0 h.AG)
 (cab:∀i:Nat,i<h.AH.length->Vw h.AQ h.AG h.Now i (cbn h i)) (todo:HW h.BB h.AH.length=true) (Fk:JX h.A9 h.AH.length=true) (PE:(h.A9.length:Int)=h.AQ.Cu):RH h:=
 ⟨rules,now,turn,Ds,IE,fun i hi=>by rw[<-AJV hi];exact cab i hi,todo,Fk,PE⟩
structure One(h:AE)(id:Int)(p:AU)(rest:List AU):Prop where
 perm:h.AG.Perm (p::rest)
 sub:rest.Sublist h.AG
 okp:Dq h.AQ p h.Now=true
 pid:p.Id=id
 mem:p∈h.AG
 ne:∀q∈rest,q.Id≠id
 set:∀q:AU,q.Id=id->∃l,K8 h.AG q=l/\l.Perm (q::rest)/\(q.A0=p.A0->q.Since=p.Since->Dq h.AQ q h.Now=true->QZ h.AQ h.Now h.A0 l)
 cut:h.AG.eraseP (fun x=>x.Id==id)=rest
theorem RH.one{h:AE}(hR:RH h){id:Int}(G:0<=Fw h id):One h id (par h id) (h.AG.eraseP fun x=>x.Id==id):=by
 obtain⟨k,c,e,a,g,j⟩:=AY2 G;have y:h.AG[k]∈h.AG:=Ah c;have B:h.AG.Perm (par h id::h.AG.eraseP fun x=>x.Id==id):=by rw[a];exact AFW c j
 refine⟨B,List.eraseP_sublist,by rw[a];exact(hR.IE.par _ y).1,g,by rw[a];exact y,?_,?_,rfl⟩
 .have:=(hR.IE.uni.perm B).id
  grind[List.pairwise_cons]
 .intro q E;refine⟨h.AG.set k q,?_,set_perm c j q,?_⟩
  .unfold K8;unfold Fw at e;rw[E,e,AW (by omega),Ac]
  .intro H I J;refine hR.IE.set c ?_ ?_ ?_ J
   .rw[<-a,g,E]
   .rw[<-a,H]
   .rw[<-a,I]
theorem One.size{h:AE}{id:Int}{p:AU}{rest:List AU}(ho:One h id p rest):(1<=p.BE/\p.BE<=6)/\(0<=p.Ab/\p.Ab<h.AQ.AY.length)/\(-1<=p.Bu/\p.Bu<h.AQ.AY.length)/\p.Bu≠p.Ab:=by
 have a:=E2 ho.okp;have c:=CI a.1;omega
def APp(h:AE)(p:AU)(rest:List AU)(g:AE):Prop:=∀i:Nat,i<h.AH.length->Rs h.AQ rest (p::rest) h.Now i (cbn g i)
theorem sy{r:Aa}{p:AU}{rest:List AU}{now:Int}{i:Nat}(G:1<=p.BE/\p.BE<=6)(q:p.Ab≠i){c:Ae}(h:Vw r (p::rest) now i c):Rs r rest (p::rest) now i c:=by
 have y:Lf r i now p=none:=by
  grind[Lf]
 have B:Mj i p=none:=by
  grind[Mj]
 have E:Xj i p=0:=by unfold Xj;simp[q]
 have a:=h.row;have e:=h.Gr;have g:=h.held;have j:=h.room;rw[TO,y]at a;rw[Vf,B]at e;rw[N1,E,Ha]at g;rw[H5,AR q,Ha]at j;exact⟨a,e,h.total,g,h.JG,h.led,j⟩
section
variable{h:AE}(hR:RH h){id:Int}{p:AU}{rest:List AU}(ho:One h id p rest)
include hR ho
theorem One.cab{i:Nat}(hi:i<h.AH.length):Vw h.AQ (p::rest) h.Now i (cbn h i):=((hR.cb hi).half.perm hR.IE.uni ho.perm ho.perm).full
theorem One.uni:Uni (p::rest):=hR.IE.uni.perm ho.perm
theorem One.room{i:Nat}(hi:i<h.AH.length):DS (p::rest) i<=10:=by
 have:=(ho.cab hR hi).room;have:=CI hR.rules;omega
theorem One.pins{i:Nat}(hi:i<h.AH.length):PS (GP (p::rest) i):=by
 rw[<-Vg ho.perm];exact YE hR.IE (by rw[SC ho.perm];exact ho.room hR hi)
theorem RC(y:p.State=2){a c:Int}(Q:a=0/\c=1\/a=1/\c=0) :
 APp h p rest (Cj h p.Ab ⟨(l8 (cbn h p.Ab).AY p.BE a (-1) c 0).1,(cbn h p.Ab).Row,(UX (cbn h p.Ab).By ⟨p.C7,p.Id⟩).1⟩):=by
 intro i hi;obtain⟨H,O,z3,z4⟩:=ho.size;have S:=hR.Ds;rw[Ij O.1 (by omega) (by omega)];by_cases e:(i:Int)=p.Ab
 .rw[AW e,<-e];have g:=ho.cab hR hi;have q:=ho.pins hR hi;have B:=g.row;have E:=g.Gr;have J:=g.held;have L:=g.room;have G:=g.led;rw[Vi _ _ _ (by omega)]at B;rw[UD _ y,AW e.symm]at E q;rw[Zt _ y H,AW e.symm]at J;rw[H5,AW e.symm]at L;have I:=ADc rest i;have kl:=Fs.1 G;have j:Ed ⟨(cbn h i).AY.Total,(cbn h i).AY.Dv+a*p.BE,(cbn h i).AY.FA+(-1)*p.BE,(cbn h i).AY.Fm+c*p.BE,(cbn h i).AY.F8+0*p.BE⟩=true:=by
   grind[Fs]
  rw[sT G (by omega) (by omega) (by omega) (by omega) (by omega) j,E,AXR q];refine⟨B,rfl,g.total,?_,?_,j,?_⟩
  .dsimp only;omega
  .dsimp only;rw[g.JG];omega
  .omega
 .rw[AR e];exact sy H (Ne.symm e) (ho.cab hR hi)
theorem AI3(E:p.State=1):APp h p rest (Te h p.Ab id):=by
 intro i hi;obtain⟨I,J,z3,z4⟩:=ho.size;have L:=hR.Ds;unfold Te;rw[Ij J.1 (by omega) (by omega)];by_cases e:(i:Int)=p.Ab
 .rw[AW e,<-e];have a:=ho.cab hR hi;have c:=a.row;have g:=a.Gr;have j:=a.held;have H:=a.room;rw[J9 _ ho.okp E,AW e.symm]at c;rw[NV _ (by omega)]at g;rw[NQ _ (by omega)]at j;rw[H5,AW e.symm]at H;refine⟨?_,g,a.total,j,a.JG,a.led,by omega⟩;dsimp only;rw[c];refine Pv (by simpa using ho.pid) fun x G=>?_
  obtain⟨q,B,y⟩:=N7 G;obtain⟨rfl,_⟩:=JO y;simpa using ho.ne q B
 .rw[AR e];exact sy I (Ne.symm e) (ho.cab hR hi)
theorem dZ{g:AE}(L:APp h p rest g)(c:g.AQ=h.AQ)(B:g.Now=h.Now)(G:g.A0=h.A0)(X:g.AG=h.AG)(j:g.AH.length=h.AH.length)
 (J:HW g.BB h.AH.length=true) (H:g.A9=h.A9):RH (gone g p):=by
 obtain⟨S,Z,z3,z4⟩:=ho.size;have Q:=hR.Ds;have E:g.AG.eraseP (fun x=>x.Id==p.Id)=rest:=by rw[X,ho.pid,ho.cut]
 have q:QZ h.AQ h.Now h.A0 rest:=hR.IE.sub ho.sub;unfold gone;dsimp only;rw[E];split
 .rename_i I;refine RH.mk' (by show Dz g.AQ=true;rw[c];exact hR.rules) (by show 0<=g.Now/\_;rw[B];exact hR.now) (by show 1<=g.A0/\_;rw[G];exact hR.turn) (by simp[Cj,j,c,Q]) (by show QZ g.AQ g.Now g.A0 rest;rw[c,B,G];exact q) ?_
   (by simpa[Cj,j] using J) (by simpa[Cj,j,H] using hR.Fk) (by show (g.A9.length:Int)=g.AQ.Cu;rw[H,c];exact hR.PE)
  intro i hi;have y:i<h.AH.length:=by simpa[Cj,j] using hi
  rw[Ij I (by show p.Bu<(g.AH.length:Int);omega) (by omega)];show Vw g.AQ rest g.Now i _;rw[c,B];have a:=L i y;have k:=a.JG;rw[IX _ S]at k;by_cases e:(i:Int)=p.Bu
  .rw[AW e,<-e];rw[AW e.symm]at k;have kl:=Fs.1 a.led;have Y:=AE0 rest i;have O:Ed ⟨(cbn g i).AY.Total,(cbn g i).AY.Dv+0*p.BE,(cbn g i).AY.FA+0*p.BE,(cbn g i).AY.Fm+0*p.BE,(cbn g i).AY.F8+(-1)*p.BE⟩=true:=by
    rw[Fs];dsimp only;omega
   rw[sT a.led (by omega) (by omega) (by omega) (by omega) (by omega) O];refine⟨a.row,a.Gr,a.total,?_,?_,O,a.room⟩
   .dsimp only;rw[a.held];omega
   .dsimp only;omega
  .rw[AR e];rw[AR (Ne.symm e),Ha]at k;exact⟨a.row,a.Gr,a.total,a.held,k,a.led,a.room⟩
 .rename_i I;refine RH.mk' (by show Dz g.AQ=true;rw[c];exact hR.rules) (by show 0<=g.Now/\_;rw[B];exact hR.now) (by show 1<=g.A0/\_;rw[G];exact hR.turn) (by show g.AH.length=g.AQ.AY.length;rw[j,c,Q]) (by show QZ g.AQ g.Now g.A0 rest;rw[c,B,G];exact q) ?_
   (by show HW g.BB g.AH.length=true;rw[j];exact J) (by show JX g.A9 g.AH.length=true;rw[j,H];exact hR.Fk) (by show (g.A9.length:Int)=g.AQ.Cu;rw[H,c];exact hR.PE)
  intro i hi;have y:i<h.AH.length:=by rw[<-j];exact hi
  show Vw g.AQ rest g.Now i (cbn g i);rw[c,B];have a:=L i y;have k:=a.JG;rw[IX _ S,AR (by omega),Ha]at k;exact⟨a.row,a.Gr,a.total,a.held,k,a.led,a.room⟩
theorem XZ(hs:p.State=2):RH (Io h p):=by
 obtain⟨Q,z2,z3,z4⟩:=ho.size;have Z:=hR.Ds;have L:APp h p rest (dropped h p):=RC hR ho hs (.inr ⟨rfl,rfl⟩);have c:(dropped h p).AH.length=h.AH.length:=by simp[dropped,Cj]
 unfold Io;split
 .rename_i Y;have j:=Y;unfold El at j;by_cases E:Dq h.AQ p h.Now=true/\p.State=2/\w64 (p.Dh+1)<h.AQ.CY
  .have hk:=E2 ho.okp;have hr:=CI hR.rules;have hq:(El h.AQ p h.Now).1=⟨p.Id,p.Ab,p.Bu,p.BE,p.DJ,p.Since,p.A0,1,w64 (h.Now+h.AQ.Rest),w64 (p.Dh+1)⟩:=by unfold El;rw[AW E]
   rw[hq];have ew:w64 (h.Now+h.AQ.Rest)=h.Now+h.AQ.Rest:=A2 (by omega) (by omega);have ea:w64 (p.Dh+1)=p.Dh+1:=A2 (by omega) (by omega);rw[ew,ea];have G:=E.2.2;rw[ea]at G;have g:Dq h.AQ ⟨p.Id,p.Ab,p.Bu,p.BE,p.DJ,p.Since,p.A0,1,h.Now+h.AQ.Rest,p.Dh+1⟩ h.Now=true:=by
    grind[Dq,CA,A2]
   obtain⟨l,S,B,X⟩:=ho.set ⟨p.Id,p.Ab,p.Bu,p.BE,p.DJ,p.Since,p.A0,1,h.Now+h.AQ.Rest,p.Dh+1⟩ ho.pid;rw[S];have J:=X rfl rfl g;generalize hQ:(⟨p.Id,p.Ab,p.Bu,p.BE,p.DJ,p.Since,p.A0,1,h.Now+h.AQ.Rest,p.Dh+1⟩:AU)=q at *;have q1:q.Ab=p.Ab:=by rw[<-hQ]
   have q2:q.Bu=p.Bu:=by rw[<-hQ]
   have O:q.BE=p.BE:=by rw[<-hQ]
   have H:q.State=1:=by rw[<-hQ]
   unfold Gz;refine RH.mk' hR.rules hR.now hR.turn (by show ((dropped h p).AH.set _ _).length=_;rw[BJ,c];exact Z) J ?_ (by show HW h.BB (((dropped h p).AH.set _ _).length:Nat)=true;rw[BJ,c];exact hR.todo) (by show JX h.A9 (((dropped h p).AH.set _ _).length:Nat)=true;rw[BJ,c];exact hR.Fk) hR.PE;intro i hi;have y:i<h.AH.length:=by have:i<((dropped h p).AH.set q.Ab.toNat _).length:=hi;rw[BJ,c]at this;exact this
   rw[Ij (by rw[q1];exact z2.1) (by rw[q1];show p.Ab<((dropped h p).AH.length:Int);omega) (by omega)];show Vw h.AQ l h.Now i (if _ then (⟨(cbn (dropped h p) q.Ab).AY,put ltE (E4 h.AQ q h.Now).1 (cbn (dropped h p) q.Ab).Row,(cbn (dropped h p) q.Ab).By⟩:Ae) else cbn (dropped h p) i);have a:=L i y;have hu:=J.uni;have t1:Ja (p::rest) i=Ja (q::rest) i:=by rw[IX _ Q,IX _ (by rw[O];exact Q),q2,O]
   have I:DS (q::rest) i<=h.AQ.Room:=by
    have:=(ho.cab hR y).room;rw[H5]at this ⊢;rw[q1];exact this
   refine Rs.full (Rs.perm ?_ (hu.perm B) B.symm B.symm);by_cases e:(i:Int)=q.Ab
   .rw[AW e,<-e];refine⟨?_,?_,a.total,?_,by dsimp only;rw[a.JG,t1],a.led,I⟩
    .dsimp only;rw[J9 _ g H,AW e.symm,Ql g H,a.row]
    .dsimp only;rw[NV _ (by omega),a.Gr]
    .dsimp only;rw[NQ _ (by omega),a.held]
   .rw[AR e];refine⟨?_,?_,a.total,?_,by rw[a.JG,t1],a.led,I⟩
    .rw[J9 _ g H,AR (Ne.symm e),a.row]
    .rw[NV _ (by omega),a.Gr]
    .rw[NQ _ (by omega),a.held]
  .rw[AR E]at j;cases j
 .exact dZ hR ho L rfl rfl rfl rfl c hR.todo rfl
end
def cA(p:AU)(now:Int):Bool:=p.State==1&&decide (p.C7>now)
def nz(h:AE):List Int:=h.AG.filterMap fun p=>if cA p h.Now=true then some p.Id else none
def ADN(free:Int)(skip:List Int)(e:Au):Bool:=decide (e.BE<=free)&&!(skip.any fun y=>y==e.Id)
def Ur(h:AE)(k:Int):Int:=atF (ADN (cbn h k).AY.Dv (nz h)) (cbn h k).Row 0
def AWS:Au:=⟨0,0,0,0⟩
def E1(h:AE)(k:Int):Int:=if Ur h k<0 then 0 else ((cbn h k).Row.getD (Ur h k).toNat AWS).Id
theorem zK(p:AU)(now:Int):AKR p now=some (cA p now):=by
 unfold AKR Ad4 cA;rw[AV,AV,CX]
theorem pO{l:List Au}(c:l.length<=1048576){skip:List Int}(e:skip.length<=1048576)(free:Int):AKS l free skip=some (atF (ADN free skip) l 0):=by
 unfold AKS;refine Qb (by omega) ?_ ?_
 .intro L i h;unfold Ad6 Ad5 ADN;rw[B9 h,BP];simp only[BG h,AB,Vm (show skip.length<2 ^ 62 by omega),AV];by_cases a:l[i].BE<=free
  .simp only[a,decide_true,BP,Bool.true_and]
  .simp only[a,decide_false,Bb,Bool.false_and]
 grind[Ad6,AgI,Bb,AV]
theorem uH{l:List Au}{p:Au->Bool}(a:¬atF p l 0<0):at? l (atF p l 0)=some (l.getD (atF p l 0).toNat AWS)/\∃c:(atF p l 0).toNat<l.length,p l[(atF p l 0).toNat]=true/\l.getD (atF p l 0).toNat AWS=l[(atF p l 0).toNat]:=by
 grind[JJ,BG]
theorem zP{h:AE}(a:Bt h){k:Int}(e:0<=k)(g:k<h.AH.length):AKT h k=some (E1 h k):=by
 have hlim:lim=268435456:=rfl;have c:=a.CM;have q:(nz h).length<=1048576:=Av (CK _ _) c;have j:=(a.ED _ (U9 e g)).1;unfold AKT;rw[collect (l:=h.AG) (fun p=>if cA p h.Now=true then some p.Id else none) (Ad8 h k) c ?_ ?_]
 .grind[Ad8,cbn,Ff,AB,nz,pO,Ur,E1,BQ,uH]
 .grind[Ad9,Ad7,BG,AB,zK,Bi,AV,B8]
 grind[Ad9,Bb,AV]
def AYw(h:AE)(p:AU):AU:=⟨p.Id,p.Ab,p.Bu,p.BE,p.DJ,p.Since,p.A0,2,w64 (h.Now+h.AQ.Bz),p.Dh⟩
def Is(h:AE)(k id:Int):AE:=
 Cj (OK h (K8 h.AG (AYw h (par h id)))) k ⟨(l8 (cbn h k).AY (par h id).BE (-1) 1 0 0).1,(cbn h k).Row.eraseP (fun x=>x.Id==id),(QV (cbn h k).By ⟨w64 (h.Now+h.AQ.Bz),id⟩).1⟩
theorem m7{h:AE}(hR:RH h){k:Nat}(O:k<h.AH.length)(g:E1 h k≠0):0<=Fw h (E1 h k)/\(par h (E1 h k)).State=1/\(par h (E1 h k)).Ab=k/\(par h (E1 h k)).BE<=(cbn h k).AY.Dv/\cA (par h (E1 h k)) h.Now=false:=by
 unfold E1 at g ⊢;by_cases j:Ur h k<0
 .rw[AW j]at g;exact absurd rfl g
 .rw[AR j]at g ⊢;obtain⟨_,c,H,I⟩:=uH j;have J:=hR.cb O;have q:(cbn h k).Row.getD (Ur h k).toNat AWS=(cbn h k).Row[(Ur h k).toNat]'c:=I;rw[q];have Q:(cbn h k).Row[(Ur h k).toNat]'c∈Dy h.AQ h.AG k h.Now:=by rw[<-J.row];exact Ah _
  obtain⟨p,S,L⟩:=N7 Q;obtain⟨G,X,Y,Z⟩:=JO L;have a:ADN (cbn h k).AY.Dv (nz h) ((cbn h k).Row[(Ur h k).toNat]'c)=true:=H;unfold ADN at a;rw[AF,decide_eq_true_iff]at a;generalize (cbn h k).Row[(Ur h k).toNat]'c=e at *;subst G;dsimp only at a ⊢;have B:0<=Fw h p.Id:=by
   grind[Fw,JJ]
  have ho:=hR.one B;have E:par h p.Id=p:=by
   rcases Ag.1 (ho.perm.subset S) with y|y
   .exact y.symm
   .exact absurd rfl (ho.ne p y)
  rw[E]
  grind[nz]
theorem AIJ{h:AE}(hR:RH h){k:Nat}(hk:k<h.AH.length){id:Int}{rest:List AU}(ho:One h id (par h id) rest)(hs:(par h id).State=1)(g:(par h id).Ab=k)(hf:(par h id).BE<=(cbn h k).AY.Dv):RH (Is h k id):=by
 obtain⟨H,z2,z3,z4⟩:=ho.size;have hn:=hR.Ds;have hr:=CI hR.rules;have Y:=hR.now;have ew:w64 (h.Now+h.AQ.Bz)=h.Now+h.AQ.Bz:=A2 (by omega) (by omega);unfold Is;generalize hP:par h id=p at *;have hq:AYw h p=⟨p.Id,p.Ab,p.Bu,p.BE,p.DJ,p.Since,p.A0,2,h.Now+h.AQ.Bz,p.Dh⟩:=by unfold AYw;rw[ew]
 rw[hq,ew];have O:Dq h.AQ ⟨p.Id,p.Ab,p.Bu,p.BE,p.DJ,p.Since,p.A0,2,h.Now+h.AQ.Bz,p.Dh⟩ h.Now=true:=by
  have:=ho.okp
  grind[Dq,CA]
 obtain⟨l,e1,c,e3⟩:=ho.set ⟨p.Id,p.Ab,p.Bu,p.BE,p.DJ,p.Since,p.A0,2,h.Now+h.AQ.Bz,p.Dh⟩ ho.pid;rw[e1];have J:=e3 rfl rfl O;have q5:(⟨h.Now+h.AQ.Bz,id⟩:BY)=⟨(⟨p.Id,p.Ab,p.Bu,p.BE,p.DJ,p.Since,p.A0,2,h.Now+h.AQ.Bz,p.Dh⟩:AU).C7,(⟨p.Id,p.Ab,p.Bu,p.BE,p.DJ,p.Since,p.A0,2,h.Now+h.AQ.Bz,p.Dh⟩:AU).Id⟩:=by rw[<-ho.pid]
 rw[q5];generalize hQ:(⟨p.Id,p.Ab,p.Bu,p.BE,p.DJ,p.Since,p.A0,2,h.Now+h.AQ.Bz,p.Dh⟩:AU)=q at *;have q1:q.Ab=p.Ab:=by rw[<-hQ]
 have q2:q.Bu=p.Bu:=by rw[<-hQ]
 have B:q.BE=p.BE:=by rw[<-hQ]
 have E:q.State=2:=by rw[<-hQ]
 have hu:=J.uni;refine RH.mk' hR.rules hR.now hR.turn (by show (h.AH.set _ _).length=_;rw[BJ];exact hn) J ?_ (by show HW h.BB ((h.AH.set _ _).length:Nat)=true;rw[BJ];exact hR.todo) (by show JX h.A9 ((h.AH.set _ _).length:Nat)=true;rw[BJ];exact hR.Fk) hR.PE;intro i hi;have L:i<h.AH.length:=by have:i<(h.AH.set (k:Int).toNat _).length:=hi;rw[BJ]at this;exact this
 rw[Ij (by omega) (by show (k:Int)<(h.AH.length:Int);omega) (by omega)];show Vw h.AQ l h.Now i (if (i:Int)=k then (⟨_,_,_⟩:Ae) else cbn h i);have a:=ho.cab hR L;have t1:Ja (p::rest) i=Ja (q::rest) i:=by rw[IX _ H,IX _ (by rw[B];exact H),q2,B]
 have S:DS (q::rest) i<=h.AQ.Room:=by
  have:=a.room;rw[H5]at this ⊢;rw[q1];exact this
 refine Rs.full (Rs.perm ?_ (hu.perm c) c.symm c.symm);have G:=a.row;have Q:=a.Gr;have Z:=a.held;rw[J9 _ ho.okp hs]at G;rw[NV _ (by omega)]at Q;rw[NQ _ (by omega)]at Z;by_cases e:(i:Int)=k
 .obtain rfl:i=k:=by omega
  rw[AW rfl];have j:PS (GP (q::rest) (i:Int)):=by
   rw[<-Vg c];exact YE J (by rw[SC c];omega)
  rw[UD _ E,AW (by rw[q1,g])]at j;have kl:=Fs.1 a.led;have hnn:=ADc rest i;have X:Ed ⟨(cbn h i).AY.Total,(cbn h i).AY.Dv+(-1)*p.BE,(cbn h i).AY.FA+1*p.BE,(cbn h i).AY.Fm+0*p.BE,(cbn h i).AY.F8+0*p.BE⟩=true:=by
   rw[Fs];dsimp only;omega
  rw[sT a.led (by omega) (by omega) (by omega) (by omega) (by omega) X,Q,AXS j];refine⟨?_,?_,a.total,?_,?_,X,S⟩
  .dsimp only;rw[G,AW g,Vi _ _ _ (by omega)];refine Pv (by simpa using ho.pid) fun x hx=>?_
   obtain⟨y,hy,he⟩:=N7 hx;obtain⟨rfl,_⟩:=JO he;simpa using ho.ne y hy
  .dsimp only;rw[UD _ E,AW (by rw[q1,g])]
  .dsimp only;rw[Zt _ E (by rw[B];exact H),AW (by rw[q1,g]),B];omega
  .dsimp only;rw[a.JG,t1];omega
 .rw[AR e];have I:¬q.Ab=i:=by rw[q1,g];omega
  rw[AR (by rw[<-q1];exact I)]at G;refine⟨by rw[G,Vi _ _ _ (by omega)],by rw[Q,UD _ E,AR I],a.total,by rw[Z,Zt _ E (by rw[B];exact H),AR I];omega,by rw[a.JG,t1],a.led,S⟩
theorem RH.sm{h:AE}(hR:RH h):Sm 1000 h:=by
 have G:=CI hR.rules;have E:=hR.Ds;have B:=hR.PE;refine⟨by omega,by have:=hR.IE.few;omega,by omega,?_,by have:=AVc (by omega) hR.todo;omega,by omega⟩;intro c e;obtain⟨i,hi,rfl⟩:=List.mem_iff_getElem.1 e;have a:=hR.cab i hi;have j:=a.room;have y:=RM h.AQ h.AG i h.Now;have g:=YE hR.IE (c:=i) (by omega);have q:=ou g;refine⟨by rw[a.row];omega,by rw[a.Gr,dq];omega,by rw[a.Gr];have:=q.few;omega⟩
theorem RH.fit{h:AE}(hR:RH h):Bt h:=hR.sm.fit (by omega)
theorem RH.yD{h:AE}(hR:RH h){q:AU}(e:q∈h.AG):0<=Fw h q.Id/\par h q.Id=q:=by
 have a:0<=Fw h q.Id:=by
  grind[Fw,JJ]
 have ho:=hR.one a;refine⟨a,?_⟩;rcases Ag.1 (ho.perm.subset e) with c|c
 .exact c.symm
 .exact absurd rfl (ho.ne q c)
structure Kept(h g:AE):Prop where
 rules:g.AQ=h.AQ
 now:g.Now=h.Now
 turn:g.A0=h.A0
 Ds:g.AH.length=h.AH.length
 todo:g.BB=h.BB
 Fk:g.A9=h.A9
theorem Kept.refl(h:AE):Kept h h:=⟨rfl,rfl,rfl,rfl,rfl,rfl⟩
theorem Kept.trans{a b c:AE}(h:Kept a b)(g:Kept b c):Kept a c:=⟨g.rules.trans h.rules,g.now.trans h.now,g.turn.trans h.turn,g.Ds.trans h.Ds,g.todo.trans h.todo,g.Fk.trans h.Fk⟩
theorem Zb(h:AE)(p:AU):Kept h (gone h p):=by
 unfold gone;dsimp only;split
 .exact⟨rfl,rfl,rfl,by simp[Cj],rfl,rfl⟩
 .exact⟨rfl,rfl,rfl,rfl,rfl,rfl⟩
theorem vK(h:AE)(p:AU):Kept h (dropped h p):=⟨rfl,rfl,rfl,by simp[dropped,Cj],rfl,rfl⟩
theorem Qn(h:AE)(p:AU):Kept h (Io h p):=by
 unfold Io;split
 .exact⟨rfl,rfl,rfl,by simp[Gz,OK,dropped,Cj],rfl,rfl⟩
 .exact(vK h p).trans (Zb _ _)
theorem RD(h:AE)(k id:Int):Kept h (Is h k id):=⟨rfl,rfl,rfl,by simp[Is,OK,Cj],rfl,rfl⟩
theorem ANU{h:AE}{id:Int}{p:AU}{rest:List AU}(ho:One h id p rest){q:AU}(c:q∈rest):q∈(Io h p).AG:=by
 unfold Io;split
 .rename_i a;have e:(El h.AQ p h.Now).1.Id=id:=by
   unfold El at a ⊢;split at a
   .rename_i g;rw[AW g];exact ho.pid
   .cases a
  obtain⟨l,j,y,_⟩:=ho.set _ e;show q∈K8 h.AG (El h.AQ p h.Now).1
  grind
 .have:(gone (dropped h p) p).AG=rest:=by
   rw[<-ho.cut,<-ho.pid];unfold gone;dsimp only;split<;>rfl
  rw[this];exact c
def T1:List Int->AE->AE| [],g=>g|id::l,g=>T1 l (Io g (par g id))
def AM2(g:AE)(l:List Int):Prop:=l.Nodup/\∀id∈l,0<=Fw g id/\(par g id).State=2
theorem VI{g:AE}(hR:RH g){id:Int}{l:List Int}(hO:AM2 g (id::l)):RH (Io g (par g id))/\AM2 (Io g (par g id)) l/\Kept g (Io g (par g id)):=by
 obtain⟨c,B⟩:=hO;rw[List.nodup_cons]at c;obtain⟨G,H⟩:=B id (Bg ..);have ho:=hR.one G;have hR':=XZ hR ho H;refine⟨hR',⟨c.2,?_⟩,Qn _ _⟩;intro j E;obtain⟨I,L⟩:=B j (List.mem_cons_of_mem _ E);have y:j≠id:=fun e=>c.1 (e▸E)
 have a:=hR.one I;have J:par g j∈g.AG.eraseP (fun x=>x.Id==id):=by
  rcases Ag.1 (ho.perm.subset a.mem) with q|q
  .exact absurd (by rw[<-a.pid,<-ho.pid,q]) y
  .exact q
 have:=hR'.yD (ANU ho J);rw[a.pid]at this
 grind
theorem Qm:∀{l:List Int} {g:AE},RH g->AM2 g l->RH (T1 l g)/\Kept g (T1 l g)
 | [],g,hR,_=>⟨hR,Kept.refl g⟩|id::l,g,hR,hO=>by
  obtain⟨a,c,e⟩:=VI hR hO;obtain⟨j,q⟩:=Qm a c;exact⟨j,e.trans q⟩
def XY(h:AE)(k:Int):AE:=T1 (kb (cbn h k).By h.Now) h
theorem Sg{h:AE}(hR:RH h){k:Nat}(I:k<h.AH.length):AM2 h (kb (cbn h k).By h.Now)/\(kb (cbn h k).By h.Now).length<=10:=by
 have E:=hR.cb I;have X:=CI hR.rules;have q:=YE hR.IE (c:=k) (by have:=E.room;omega);have e:kb (cbn h k).By h.Now=(GP h.AG k).filterMap fun p=>if p.At<=h.Now then some p.Id else none:=by
  unfold kb;rw[E.Gr,AE7 q]
 rw[e];refine⟨⟨?_,?_⟩,Av (CK _ _) q.few⟩
 .show List.Pairwise _ _;rw[List.pairwise_filterMap];refine q.ids.imp ?_;intro a b L x g y Q;split at g<;>split at Q<;>simp_all
 .intro id j;obtain⟨pin,J,g⟩:=List.mem_filterMap.1 j;split at g
  .obtain⟨p,B,O⟩:=si J;obtain⟨rfl,S,_⟩:=UE O;cases g;obtain⟨G,H⟩:=hR.yD B;exact⟨G,by rw[H];exact S⟩
  .cases g
theorem AY3{h:AE}(hR:RH h){id:Int}(a:0<=Fw h id):0<=(par h id).Ab/\(par h id).Ab<h.AH.length/\(par h id).Bu<h.AH.length:=by
 have:=(hR.one a).size;have:=hR.Ds;omega
theorem Qc{h:AE}{id:Int}(a:0<=Fw h id):at? h.AG (Fw h id)=some (par h id):=Yu a (RJ a).1
theorem oK{h:AE}(hR:RH h){k:Nat}(q:k<h.AH.length):rR h k=some (XY h k):=by
 obtain⟨hO,E⟩:=Sg hR q;unfold rR XY;rw[AEt hR.fit (by omega) (by omega),AB];generalize kb (cbn h k).By h.Now=D at *;refine(C3 (F:=Ad3 D) (n:=D.length) (fun i (v:AE)=>((i:Int),v)) (fun i v=>RH v/\AM2 v (D.drop i)) (fun i v=>some (T1 (D.drop i) v)) (by omega) ?_ (v:=h) ⟨hR,hO⟩);rintro L i v ⟨e,ho⟩ hi y;unfold Ad3 AgH;dsimp only;rcases AZ i D.length with a|j
 .rw[Dg a]at ho ⊢;have g:=ho.2 D[i] (Bg ..);have c:=AY3 e g.1;obtain⟨s1,B,_⟩:=VI e ho;simp only[B9 a,BP,BG a,AB,HI e.fit,Qc g.1,U2 (show 1000+2<=1048576 by omega) e.sm c.1 c.2.1 c.2.2,Bn a (show D.length<2 ^ 63 by omega)];exact y _ ⟨s1,B⟩ a
 .obtain rfl:i=D.length:=by omega
  rw[Cr,Bb,AV,List.drop_length];rfl
theorem AD7{h:AE}(hR:RH h){k:Nat}(e:k<h.AH.length){id:Int}{rest:List AU}(ho:One h id (par h id) rest)(g:(par h id).State=1)(a:(par h id).Ab=k):(cbn (Is h k id) k).Row.length+1=(cbn h k).Row.length:=by
 unfold Is;rw[Ij (by omega) (by show (k:Int)<(h.AH.length:Int);omega) (by omega),AW rfl];dsimp only;have:=(ho.cab hR e).row;rw[J9 _ ho.okp g,AW a]at this;rw[this,Pv (by simpa using ho.pid) fun x j=>?_,Ft];obtain⟨y,q,c⟩:=N7 j;obtain⟨rfl,_⟩:=JO c;simpa using ho.ne y q
theorem pR{h:AE}(hR:RH h){k:Nat}(g:k<h.AH.length):rS h k=some (if E1 h k=0 then (h,0) else (Is h k (E1 h k),E1 h k))/\(E1 h k=0->AKU h k=some ((),0)):=by
 have a:=hR.fit;unfold rS AKU;rw[zP a (by omega) (by omega),AB,AB,Bi,Bi];by_cases c:E1 h k=0
 .grind
 .refine⟨?_,fun h=>absurd h c⟩;obtain⟨j,q,y,B,E⟩:=m7 hR g c;have e:=a.ED _ (U9 (k:=(k:Int)) (by omega) (by omega));rw[AR (by simpa using c),AR c];simp only[HI a,AB,Qc j,GK,PM a.CM,show at? h.AH (k:Int)=some (cbn h k) from Ff (by omega) (by omega),oG,Ux e.1,U0 e.2];rfl
def OD(k:Int):Nat->AE->List Int->AE×List Int|0,h,a=>(h,a)|n+1,h,a=>if E1 h k=0 then (h,a) else OD k n (Is h k (E1 h k)) (a++[E1 h k])
theorem AMl{k:Int}{h:AE}(c:E1 h k=0)(a:List Int):∀n,OD k n h a=(h,a)|0=>rfl|n+1=>by unfold OD;rw[AW c]
theorem Va{h:AE}(hR:RH h){k:Nat}(a:k<h.AH.length)(j:E1 h k≠0):RH (Is h k (E1 h k))/\(cbn (Is h k (E1 h k)) k).Row.length+1=(cbn h k).Row.length:=by
 obtain⟨c,e,g,q,y⟩:=m7 hR a j;exact⟨AIJ hR a (hR.one c) e g q,AD7 hR a (hR.one c) e g⟩
theorem AEf{k:Nat}:∀(n:Nat) {h:AE} (a:List Int),RH h->k<h.AH.length->RH (OD k n h a).1/\Kept h (OD k n h a).1/\(OD k n h a).2.length<=a.length+n
 |0,h,a,hR,_=>⟨hR,Kept.refl h,by unfold OD;simp⟩|n+1,h,a,hR,e=>by
  unfold OD;split
  .exact⟨hR,Kept.refl h,by simp⟩
  .rename_i B;have y:=Va hR e B;have c:=RD h k (E1 h k);obtain⟨g,j,q⟩:=AEf n (a++[E1 h k]) y.1 (by rw[c.Ds];exact e);refine⟨g,c.trans j,?_⟩;rw[AK,List.length_singleton]at q;omega
def Jy(h:AE)(k:Int):AE×List Int:=OD k 10 (XY h k) []
theorem dp{h:AE}(hR:RH h){k:Nat}(c:k<h.AH.length):(cbn h k).Row.length<=10:=by
 have a:=hR.cb c;have j:=CI hR.rules;have e:=RM h.AQ h.AG k h.Now;have g:=a.room;rw[a.row];omega
theorem AD3{h:AE}{k:Int}(a:E1 h k≠0):0<(cbn h k).Row.length:=by
 unfold E1 at a;split at a
 .exact absurd rfl a
 .rename_i c;obtain⟨_,e,_⟩:=uH c;omega
theorem AVD{h:AE}(hR:RH h){k:Nat}(y:k<h.AH.length):BD (W7 k) big ([],h)=some (OD k 10 h []):=by
 have hlim:lim=268435456:=rfl;refine aC (F:=W7 k) (fun x=>some (OD k (10-x.1.length) x.2 x.1)) (fun x=>RH x.2/\k<x.2.AH.length/\x.1.length+(cbn x.2 k).Row.length<=10) (fun x=>(cbn x.2 k).Row.length) ?_ (x:=([],h)) ⟨hR,y,by have:=dp hR y;simpa using this⟩ (by have:=dp hR y;show (cbn h k).Row.length<_;omega);rintro L ⟨a,g⟩ ⟨q,c,e⟩ E;dsimp only at q c e E ⊢;unfold W7;dsimp only;obtain⟨H,I⟩:=pR q c;rw[H,AB];by_cases j:E1 g k=0
 .grind[AB,AMl,BP,AXl]
 .obtain⟨s1,J⟩:=Va q c j;have B:=AD3 j;rw[AR j];dsimp only;have G:(E1 g k==0)=false:=by simpa using j
  rw[G,Bb,B8 (by simp only[AI,AP];omega),E (a++[E1 g k],Is g k (E1 g k)) ⟨s1,by rw[(RD g k _).Ds];exact c,by simp only[AK,AI,AP];omega⟩ (by dsimp only;omega),AXm];congr 1;rw[show 10-a.length=(10-(a++[E1 g k]).length)+1 by simp only[AK,AI,AP];omega]
  conv=>rhs;unfold OD
  rw[AR j]
theorem Vk{h:AE}(hR:RH h){k:Nat}(c:k<h.AH.length):RH (Jy h k).1/\Kept h (Jy h k).1/\(Jy h k).2.length<=10:=by
 obtain⟨g,a⟩:=Qm hR (Sg hR c).1;obtain⟨s1,j,e⟩:=AEf (k:=k) 10 [] g (by rw[a.Ds];exact c);exact⟨s1,a.trans j,by simp only[AP,Nat.zero_add]at e;exact e⟩
theorem APa{h:AE}(hR:RH h){k:Nat}(c:k<h.AH.length):AKV h k=some (Jy h k):=by
 have a:=hR.fit;have j:=a.Ds;obtain⟨e,g⟩:=Qm hR (Sg hR c).1;unfold AKV Uf iy;rw[Hm a,AB,GJ a,GW.2 hR,AB,BP,Gk,AB,AV,AB,A2 (by omega) (by omega),CA.2 (by omega),BK,BP,oK hR c,AB];exact AVD e (by rw[g.Ds];exact c)
theorem GR{h:AE}{q:B3}(a:verdict h q=0):RH h:=by
 grind[verdict,GW]
theorem Ra{h:AE}{q:B3}(E:q.Kind=7)(a:verdict h q=0):∃n:Nat,∃e:n<h.A9.length,q.Id=(n:Int)/\¬(h.A9[n]<0/\h.BB.length=0):=by
 have hR:=GR a;unfold verdict at a;rw[AW (GW.2 hR)]at a;unfold Ht at a;split at a
 .cases a
 .split at a
  .cases a
  .rename_i y;have c:KT q=true:=by simpa using y
   have hi:0<=q.Id:=by
    unfold KT at c;rw[AR (by omega),AW (by omega)]at c;simp only[AF,Rv,CA]at c;exact c.1.1
   rw[AR (by omega),AR (by omega),AR (by omega),AR (by omega),AR (by omega)]at a
   try rw[AW E]at a
   by_cases g:h.AQ.Cu<=q.Id
   .rw[AW g]at a;cases a
   .rw[AR g]at a;obtain⟨n,e⟩:=Int.eq_ofNat_of_zero_le hi;have j:n<h.A9.length:=by have:=hR.PE;omega
    refine⟨n,j,e,?_⟩;rw[e,Ac,A7,AS j,Option.getD_some]at a;intro B;rw[AW B]at a;cases a
def QS(h:AE)(l:List Int):AE:=⟨h.AQ,h.Now,h.A0,h.AG,h.AH,h.BB,l⟩
def Ve(h:AE)(who:Int):AE×List Int:=
 if h.A9.getD who.toNat 0<0 then (QS (ET h (h.BB.drop 1)) (h.A9.set who.toNat (h.BB.getD 0 0)),[])
 else (QS (Jy h (h.A9.getD who.toNat 0)).1 ((Jy h (h.A9.getD who.toNat 0)).1.A9.set who.toNat (-1)),(Jy h (h.A9.getD who.toNat 0)).2)
def Uu(h:AE)(who:Int):AE×Int×List Int:=
 if verdict h ⟨7,who,0,0,0,0⟩≠0 then (h,verdict h ⟨7,who,0,0,0,0⟩,[]) else ((Ve h who).1,0,(Ve h who).2)
theorem RH.job{h:AE}(hR:RH h){n:Nat}(a:n<h.A9.length)(c:¬h.A9[n]<0):∃k:Nat,k<h.AH.length/\h.A9[n]=(k:Int):=by
 have:=List.all_eq_true.1 hR.Fk _ (Ah a);have e:=hR.fit.Ds
 grind[CA,A2,Int.eq_ofNat_of_zero_le]
theorem APZ{h:AE}(c:Bt h)(who:Int):AQc h who=some (Uu h who)/\Bt (Uu h who).1/\(Uu h who).2.2.length<=10:=by
 have hlim:lim=268435456:=rfl;unfold AQc Uu;rw[Hm c,AB,HJ c,AB];simp only[Bi,bne_iff_ne,ne_eq];by_cases q:verdict h ⟨7,who,0,0,0,0⟩=0
 .rw[AR (not_not_intro q),AR (not_not_intro q)];have hR:=GR q;obtain⟨n,j,e,E⟩:=Ra rfl q;dsimp only at e;subst e;have eg:h.A9.getD n 0=h.A9[n]:=by rw[A7,AS j];rfl
  unfold Ve;rw[BG j,AB,Ac,eg];simp only[decide_eq_true_eq];by_cases g:h.A9[n]<0
  .rw[AW g,AW g];have I:0<h.BB.length:=by
    rcases Nat.eq_zero_or_pos h.BB.length with y|y
    .exact absurd ⟨g,y⟩ E
    .exact y
   have J:h.BB.getD 0 0=h.BB[0]:=by rw[A7,AS I];rfl
   have G:=c.todo;have L:(List.drop (Int.toNat 1) h.BB).length<=h.BB.length:=by rw[List.length_drop];omega
   rw[V7,AS I,AB,AB,AB,B8 ⟨by omega,by omega⟩,B8 (by omega),J];exact⟨rfl,⟨c.De,c.CM,c.Ds,c.ED,Av L G,by show (h.A9.set _ _).length<=_;rw[BJ];exact c.Fk⟩,by simp⟩
  .rw[AR g,AR g];obtain⟨k,H,ek⟩:=hR.job j g;obtain⟨s1,O,Q⟩:=Vk hR H;rw[ek,APa hR H,AB];have B:n<(Jy h k).1.A9.length:=by rw[O.Fk];exact j
   rw[BG B,AB,AB];have a:=s1.fit;exact⟨rfl,⟨a.De,a.CM,a.Ds,a.ED,a.todo,by show ((Jy h k).1.A9.set _ _).length<=_;rw[BJ];exact a.Fk⟩,Q⟩
 grind
def doF(h:AE)(q:B3):AE×B6:=
 if verdict h q≠0 then (h,⟨verdict h q,[]⟩)
 else if q.Kind=1 then ((bk h q.Id q.Ab q.Bu q.BE q.DJ).1,⟨(bk h q.Id q.Ab q.Bu q.BE q.DJ).2,[]⟩)
 else if q.Kind=2 then ((OU h q.Id).1,⟨(OU h q.Id).2,[]⟩)
 else if q.Kind=3 then ((bR h q.Ab q.BE).1,⟨(bR h q.Ab q.BE).2,[]⟩)
 else if q.Kind=4 then ((OP h q.Id).1,⟨(OP h q.Id).2,[]⟩)
 else if q.Kind=5 then ((MK h q.Id).1,⟨(MK h q.Id).2,[]⟩)
 else if q.Kind=6 then ((cJ h).1,⟨(cJ h).2,[]⟩)
 else ((Uu h q.Id).1,⟨(Uu h q.Id).2.1,(Uu h q.Id).2.2⟩)
theorem zD{h:AE}(E:Bt h)(q:B3):ACP h q=some (doF h q)/\Bt (doF h q).1/\(doF h q).2.Ids.length<=10:=by
 unfold ACP doF AbQ;rw[Hm E,AB,HJ E,AB];simp only[Bi,bne_iff_ne,ne_eq,beq_iff_eq,AV];by_cases G:verdict h q=0
 .have hR:=GR G;have a:=hR.sm;have H:=hR.Ds;have I:=CI hR.rules;rw[AR (not_not_intro G),AR (not_not_intro G)];by_cases c:q.Kind=1
  .rw[AW c,AW c];have:=APX (show 1000+3<=1048576 by omega) a q.Id q.Ab q.Bu q.BE q.DJ;rw[this.1,AB];exact⟨rfl,this.2.fit (by omega),by simp⟩
  .rw[AR c,AR c];by_cases e:q.Kind=2
   .rw[AW e,AW e];have:=AEp (show 1000+1<=1048576 by omega) a q.Id;rw[this.1,AB];exact⟨rfl,this.2.fit (by omega),by simp⟩
   .rw[AR e,AR e];by_cases g:q.Kind=3
    .rw[AW g,AW g];have:=n8 (show 1000+1<=1048576 by omega) a q.Ab q.BE;rw[this.1,AB];exact⟨rfl,this.2.fit (by omega),by simp⟩
    .rw[AR g,AR g];by_cases j:q.Kind=4
     .rw[AW j,AW j];have:=AEn (show 1000+1<=1048576 by omega) a q.Id;rw[this.1,AB];exact⟨rfl,this.2.fit (by omega),by simp⟩
     .rw[AR j,AR j];by_cases y:q.Kind=5
      .rw[AW y,AW y];have:=zC (show 1000+3<=1048576 by omega) a q.Id;rw[this.1,AB];exact⟨rfl,this.2.fit (by omega),by simp⟩
      .rw[AR y,AR y];by_cases B:q.Kind=6
       .rw[AW B,AW B];have:=APb a (show 1000+h.AH.length<=1048576 by omega);rw[this.1,AB];exact⟨rfl,this.2.fit (by omega),by simp⟩
       .rw[AR B,AR B];have:=APZ E q.Id;rw[this.1,AB];exact⟨rfl,this.2.1,this.2.2⟩
 grind
def Ge:List B3->AE->AE×List B6| [],h=>(h,[])|q::l,h=>((Ge l (doF h q).1).1,(doF h q).2::(Ge l (doF h q).1).2)
theorem KL:∀(l:List B3) {h:AE},Bt h->Bt (Ge l h).1/\(Ge l h).2.length=l.length/\∀r∈(Ge l h).2,r.Ids.length<=10
 | [],h,a=>⟨a,rfl,by simp[Ge]⟩|q::l,h,a=>by
  have c:=zD a q;obtain⟨e,g,j⟩:=KL l c.2.1
  grind[Ge]
theorem RQ{h:AE}(q:Bt h){l:List B3}(G:l.length<=1048576):AKW h l=some (Ge l h):=by
 have hlim:lim=268435456:=rfl;unfold AKW;rw[Hm q,AB];refine(C3 (F:=jB l) (n:=l.length) (fun i (v:List B6×AE)=>(v.1,(i:Int),v.2)) (fun i v=>Bt v.2/\v.1.length=i) (fun i v=>some ((Ge (l.drop i) v.2).1,v.1++(Ge (l.drop i) v.2).2)) (by omega) ?_ (v:=([],h)) ⟨q,rfl⟩).trans ?_
 .rintro L i ⟨a,g⟩ ⟨y,e⟩ hi B;dsimp only at y e B ⊢;unfold jB ACR;dsimp only;rcases AZ i l.length with c|E
  .have j:=zD y l[i];rw[Dg c];simp only[B9 c,BP,BG c,AB,j.1,IJ,zd,Bn c (show l.length<2 ^ 63 by omega)];rw[B8 (by simp only[AI,AP];omega)];have:=B (a++[(doF g l[i]).2],(doF g l[i]).1) ⟨j.2.1,by simp[e]⟩ c;dsimp only at this;rw[this];simp only[Ge,List.append_assoc,List.singleton_append]
  .grind[Bb,AV,Ge]
 .simp
end Lv.P
