/- Plain laws about what the program computes. -/
import Derived.Test.YtdmpkjjlnjchkaaGreatPJ5
noncomputable section
set_option linter.unusedVariables false
set_option linter.unusedSimpArgs false
set_option linter.unusedSectionVars false
open Bool renaming and_eq_true->AF
open Int renaming toNat_natCast->Ac,zero_add->Ht
open List renaming getD_eq_getElem?_getD->BW,getElem?_eq_getElem->AW,getElem_mem->Am,length_append->AM,length_cons->AH,length_filterMap_le->B5,length_nil->AN,length_set->BG,mem_cons->Ag,mem_cons_self->Bm
open Nat renaming le_trans->Au,lt_or_ge->AT
namespace Lv.P
open Lv Go
structure Wf(r:AZ)(ps qs:List AK)(now:Int)(i:Nat)(c:AY):Prop where
 row:c.Row=D3 r ps i now
 Hp:c.Bw=wOf (GJ ps i)
 total:c.AV.Total=r.AV.getD i 0
 held:c.AV.EH=Jk ps i
 K6:c.AV.E8=KE qs i
 led:Eh c.AV=true
 room:DQ ps i<=r.Room
theorem Wf.full{r:AZ}{ps:List AK}{now:Int}{i:Nat}{c:AY}(h:Wf r ps ps now i c):jz r ps now i c:=⟨h.row,h.Hp,h.total,h.held,h.K6,h.led,h.room⟩
theorem jz.half{r:AZ}{ps:List AK}{now:Int}{i:Nat}{c:AY}(h:jz r ps now i c):Wf r ps ps now i c:=⟨h.row,h.Hp,h.total,h.held,h.K6,h.led,h.room⟩
theorem Wf.perm{r:AZ}{ps qs a e:List AK}{now:Int}{i:Nat}{c:AY}(h:Wf r ps qs now i c)(q:Uni ps)(g:ps.Perm a)(j:qs.Perm e):Wf r a e now i c:=
 ⟨by rw[h.row,AMJ q g],by rw[h.Hp,dV g],h.total,by rw[h.held,AOV g],by rw[h.K6,APr j],h.led,by rw[<-Wx g];exact h.room⟩
theorem LZ{h:AD}{k j:Int}{c:AY}(a:0<=k)(e:k<h.AI.length)(g:0<=j):cbn (C7 h k c) j=if j=k then c else cbn h j:=by
 grind[cbn,C7]
theorem AQN{h:AD}{i:Nat}(hi:i<h.AI.length):cbn h i=h.AI[i]:=by
 unfold cbn;rw[Ac,BW,AW hi];rfl
theorem RH.cb{h:AD}(hR:RH h){i:Nat}(hi:i<h.AI.length):jz h.AO h.AG h.Now i (cbn h i):=by
 rw[AQN hi];exact hR.cab i hi
theorem RH.mk'{h:AD}(rules:Dp h.AO=true)(now:0<=h.Now/\h.Now<=1000000)(turn:1<=h.Ap/\h.Ap<=1000001)(EG:h.AI.length=h.AO.AV.length)(Ly:Wh h.AO h.Now h.Ap h.AG)
 (cab:∀i:Nat,i<h.AI.length->jz h.AO h.AG h.Now i (cbn h i)) (todo:Jw h.BC h.AI.length=true) (F4:Nq h.A8 h.AI.length=true) (Wm:(h.A8.length:Int)=h.AO.Cs):RH h:=
 ⟨rules,now,turn,EG,Ly,fun i hi=>by rw[<-AQN hi];exact cab i hi,todo,F4,Wm⟩
structure One(h:AD)(id:Int)(p:AK)(rest:List AK):Prop where
 perm:h.AG.Perm (p::rest)
 sub:rest.Sublist h.AG
 okp:D9 h.AO p h.Now=true
 pid:p.Id=id
 mem:p∈h.AG
 ne:∀q∈rest,q.Id≠id
 set:∀q:AK,q.Id=id->∃l,MK h.AG q=l/\l.Perm (q::rest)/\(q.Ap=p.Ap->q.Since=p.Since->D9 h.AO q h.Now=true->Wh h.AO h.Now h.Ap l)
 cut:h.AG.eraseP (fun x=>x.Id==id)=rest
theorem RH.one{h:AD}(hR:RH h){id:Int}(G:0<=Gi h id):One h id (par h id) (h.AG.eraseP fun x=>x.Id==id):=by
 obtain⟨k,c,e,a,g,j⟩:=AgN G;have y:h.AG[k]∈h.AG:=Am c;have B:h.AG.Perm (par h id::h.AG.eraseP fun x=>x.Id==id):=by rw[a];exact ANd c j
 refine⟨B,List.eraseP_sublist,by rw[a];exact(hR.Ly.par _ y).1,g,by rw[a];exact y,?_,?_,rfl⟩
 .have:=(hR.Ly.uni.perm B).id
  grind[List.pairwise_cons]
 .intro q E;refine⟨h.AG.set k q,?_,set_perm c j q,?_⟩
  .unfold MK;unfold Gi at e;rw[E,e,if_pos (by omega),Ac]
  .intro H I J;refine hR.Ly.set c ?_ ?_ ?_ J
   .rw[<-a,g,E]
   .rw[<-a,H]
   .rw[<-a,I]
theorem One.size{h:AD}{id:Int}{p:AK}{rest:List AK}(ho:One h id p rest):(1<=p.A2/\p.A2<=6)/\(0<=p.Aa/\p.Aa<h.AO.AV.length)/\(-1<=p.Bl/\p.Bl<h.AO.AV.length)/\p.Bl≠p.Aa:=by
 have a:=FM ho.okp;have c:=CT a.1;omega
def AfM(h:AD)(p:AK)(rest:List AK)(g:AD):Prop:=∀i:Nat,i<h.AI.length->Wf h.AO rest (p::rest) h.Now i (cbn g i)
theorem AVe{r:AZ}{p:AK}{rest:List AK}{now:Int}{i:Nat}(G:1<=p.A2/\p.A2<=6)(q:p.Aa≠i){c:AY}(h:jz r (p::rest) now i c):Wf r rest (p::rest) now i c:=by
 have y:ML r i now p=none:=by
  grind[ML]
 have B:Nu i p=none:=by
  grind[Nu]
 have E:iZ i p=0:=by unfold iZ;simp[q]
 have a:=h.row;have e:=h.Hp;have g:=h.held;have j:=h.room;rw[Zr,y]at a;rw[dU,B]at e;rw[Qd,E,Ht]at g;rw[JT,if_neg q,Ht]at j;exact⟨a,e,h.total,g,h.K6,h.led,j⟩
section
variable{h:AD}(hR:RH h){id:Int}{p:AK}{rest:List AK}(ho:One h id p rest)
include hR ho
theorem One.cab{i:Nat}(hi:i<h.AI.length):jz h.AO (p::rest) h.Now i (cbn h i):=((hR.cb hi).half.perm hR.Ly.uni ho.perm ho.perm).full
theorem One.uni:Uni (p::rest):=hR.Ly.uni.perm ho.perm
theorem One.room{i:Nat}(hi:i<h.AI.length):DQ (p::rest) i<=10:=by
 have:=(ho.cab hR hi).room;have:=CT hR.rules;omega
theorem One.pins{i:Nat}(hi:i<h.AI.length):TQ (GJ (p::rest) i):=by
 rw[<-dV ho.perm];exact jI hR.Ly (by rw[Wx ho.perm];exact ho.room hR hi)
theorem AFZ(y:p.State=2){a c:Int}(Q:a=0/\c=1\/a=1/\c=0) :
 AfM h p rest (C7 h p.Aa ⟨(l8 (cbn h p.Aa).AV p.A2 a (-1) c 0).1,(cbn h p.Aa).Row,(bM (cbn h p.Aa).Bw ⟨p.Cf,p.Id⟩).1⟩):=by
 intro i hi;obtain⟨H,O,z3,z4⟩:=ho.size;have S:=hR.EG;rw[LZ O.1 (by omega) (by omega)];by_cases e:(i:Int)=p.Aa
 .rw[if_pos e,<-e];have g:=ho.cab hR hi;have q:=ho.pins hR hi;have B:=g.row;have E:=g.Hp;have J:=g.held;have L:=g.room;have G:=g.led;rw[dX _ _ _ (by omega)]at B;rw[aj _ y,if_pos e.symm]at E q;rw[lg _ y H,if_pos e.symm]at J;rw[JT,if_pos e.symm]at L;have I:=ALb rest i;have kl:=H3.1 G;have j:Eh ⟨(cbn h i).AV.Total,(cbn h i).AV.DT+a*p.A2,(cbn h i).AV.EH+(-1)*p.A2,(cbn h i).AV.Ep+c*p.A2,(cbn h i).AV.E8+0*p.A2⟩=true:=by
   grind[H3]
  rw[ATr G (by omega) (by omega) (by omega) (by omega) (by omega) j,E,Aet q];refine⟨B,rfl,g.total,?_,?_,j,?_⟩
  .dsimp only;omega
  .dsimp only;rw[g.K6];omega
  .omega
 .rw[if_neg e];exact AVe H (Ne.symm e) (ho.cab hR hi)
theorem Ad2{g:AD}(L:AfM h p rest g)(c:g.AO=h.AO)(B:g.Now=h.Now)(G:g.Ap=h.Ap)(X:g.AG=h.AG)(j:g.AI.length=h.AI.length)
 (J:Jw g.BC h.AI.length=true) (H:g.A8=h.A8):RH (gone g p):=by
 obtain⟨S,Z,z3,z4⟩:=ho.size;have Q:=hR.EG;have E:g.AG.eraseP (fun x=>x.Id==p.Id)=rest:=by rw[X,ho.pid,ho.cut]
 have q:Wh h.AO h.Now h.Ap rest:=hR.Ly.sub ho.sub;unfold gone;dsimp only;rw[E];split
 .rename_i I;refine RH.mk' (by show Dp g.AO=true;rw[c];exact hR.rules) (by show 0<=g.Now/\_;rw[B];exact hR.now) (by show 1<=g.Ap/\_;rw[G];exact hR.turn) (by simp[C7,j,c,Q]) (by show Wh g.AO g.Now g.Ap rest;rw[c,B,G];exact q) ?_
   (by simpa[C7,j] using J) (by simpa[C7,j,H] using hR.F4) (by show (g.A8.length:Int)=g.AO.Cs;rw[H,c];exact hR.Wm)
  intro i hi;have y:i<h.AI.length:=by simpa[C7,j] using hi
  rw[LZ I (by show p.Bl<(g.AI.length:Int);omega) (by omega)];show jz g.AO rest g.Now i _;rw[c,B];have a:=L i y;have k:=a.K6;rw[J5 _ S]at k;by_cases e:(i:Int)=p.Bl
  .rw[if_pos e,<-e];rw[if_pos e.symm]at k;have kl:=H3.1 a.led;have Y:=Acj rest i;have O:Eh ⟨(cbn g i).AV.Total,(cbn g i).AV.DT+0*p.A2,(cbn g i).AV.EH+0*p.A2,(cbn g i).AV.Ep+0*p.A2,(cbn g i).AV.E8+(-1)*p.A2⟩=true:=by
    rw[H3];dsimp only;omega
   rw[ATr a.led (by omega) (by omega) (by omega) (by omega) (by omega) O];refine⟨a.row,a.Hp,a.total,?_,?_,O,a.room⟩
   .dsimp only;rw[a.held];omega
   .dsimp only;omega
  .rw[if_neg e];rw[if_neg (Ne.symm e),Ht]at k;exact⟨a.row,a.Hp,a.total,a.held,k,a.led,a.room⟩
 .rename_i I;refine RH.mk' (by show Dp g.AO=true;rw[c];exact hR.rules) (by show 0<=g.Now/\_;rw[B];exact hR.now) (by show 1<=g.Ap/\_;rw[G];exact hR.turn) (by show g.AI.length=g.AO.AV.length;rw[j,c,Q]) (by show Wh g.AO g.Now g.Ap rest;rw[c,B,G];exact q) ?_
   (by show Jw g.BC g.AI.length=true;rw[j];exact J) (by show Nq g.A8 g.AI.length=true;rw[j,H];exact hR.F4) (by show (g.A8.length:Int)=g.AO.Cs;rw[H,c];exact hR.Wm)
  intro i hi;have y:i<h.AI.length:=by rw[<-j];exact hi
  show jz g.AO rest g.Now i (cbn g i);rw[c,B];have a:=L i y;have k:=a.K6;rw[J5 _ S,if_neg (by omega),Ht]at k;exact⟨a.row,a.Hp,a.total,a.held,k,a.led,a.room⟩
theorem w5(hs:p.State=2):RH (JH h p):=by
 obtain⟨Q,z2,z3,z4⟩:=ho.size;have Z:=hR.EG;have L:AfM h p rest (dropped h p):=AFZ hR ho hs (.inr ⟨rfl,rfl⟩);have c:(dropped h p).AI.length=h.AI.length:=by simp[dropped,C7]
 unfold JH;split
 .rename_i Y;have j:=Y;unfold Eg at j;by_cases E:D9 h.AO p h.Now=true/\p.State=2/\w64 (p.Cu+1)<h.AO.CL
  .have hk:=FM ho.okp;have hr:=CT hR.rules;have hq:(Eg h.AO p h.Now).1=⟨p.Id,p.Aa,p.Bl,p.A2,p.Cj,p.Since,p.Ap,1,w64 (h.Now+h.AO.Rest),w64 (p.Cu+1)⟩:=by unfold Eg;rw[if_pos E]
   rw[hq];have ew:w64 (h.Now+h.AO.Rest)=h.Now+h.AO.Rest:=Ai (by omega) (by omega);have ea:w64 (p.Cu+1)=p.Cu+1:=Ai (by omega) (by omega);rw[ew,ea];have G:=E.2.2;rw[ea]at G;have g:D9 h.AO ⟨p.Id,p.Aa,p.Bl,p.A2,p.Cj,p.Since,p.Ap,1,h.Now+h.AO.Rest,p.Cu+1⟩ h.Now=true:=by
    grind[D9,CY,Ai]
   obtain⟨l,S,B,X⟩:=ho.set ⟨p.Id,p.Aa,p.Bl,p.A2,p.Cj,p.Since,p.Ap,1,h.Now+h.AO.Rest,p.Cu+1⟩ ho.pid;rw[S];have J:=X rfl rfl g;generalize hQ:(⟨p.Id,p.Aa,p.Bl,p.A2,p.Cj,p.Since,p.Ap,1,h.Now+h.AO.Rest,p.Cu+1⟩:AK)=q at *;have q1:q.Aa=p.Aa:=by rw[<-hQ]
   have q2:q.Bl=p.Bl:=by rw[<-hQ]
   have O:q.A2=p.A2:=by rw[<-hQ]
   have H:q.State=1:=by rw[<-hQ]
   unfold HC;refine RH.mk' hR.rules hR.now hR.turn (by show ((dropped h p).AI.set _ _).length=_;rw[BG,c];exact Z) J ?_ (by show Jw h.BC (((dropped h p).AI.set _ _).length:Nat)=true;rw[BG,c];exact hR.todo) (by show Nq h.A8 (((dropped h p).AI.set _ _).length:Nat)=true;rw[BG,c];exact hR.F4) hR.Wm;intro i hi;have y:i<h.AI.length:=by have:i<((dropped h p).AI.set q.Aa.toNat _).length:=hi;rw[BG,c]at this;exact this
   rw[LZ (by rw[q1];exact z2.1) (by rw[q1];show p.Aa<((dropped h p).AI.length:Int);omega) (by omega)];show jz h.AO l h.Now i (if _ then (⟨(cbn (dropped h p) q.Aa).AV,put ltE (Ez h.AO q h.Now).1 (cbn (dropped h p) q.Aa).Row,(cbn (dropped h p) q.Aa).Bw⟩:AY) else cbn (dropped h p) i);have a:=L i y;have hu:=J.uni;have t1:KE (p::rest) i=KE (q::rest) i:=by rw[J5 _ Q,J5 _ (by rw[O];exact Q),q2,O]
   have I:DQ (q::rest) i<=h.AO.Room:=by
    have:=(ho.cab hR y).room;rw[JT]at this ⊢;rw[q1];exact this
   refine Wf.full (Wf.perm ?_ (hu.perm B) B.symm B.symm);by_cases e:(i:Int)=q.Aa
   .rw[if_pos e,<-e];refine⟨?_,?_,a.total,?_,by dsimp only;rw[a.K6,t1],a.led,I⟩
    .dsimp only;rw[ND _ g H,if_pos e.symm,U6 g H,a.row]
    .dsimp only;rw[UW _ (by omega),a.Hp]
    .dsimp only;rw[T8 _ (by omega),a.held]
   .rw[if_neg e];refine⟨?_,?_,a.total,?_,by rw[a.K6,t1],a.led,I⟩
    .rw[ND _ g H,if_neg (Ne.symm e),a.row]
    .rw[UW _ (by omega),a.Hp]
    .rw[T8 _ (by omega),a.held]
  .rw[if_neg E]at j;cases j
 .exact Ad2 hR ho L rfl rfl rfl rfl c hR.todo rfl
end
def nw(p:AK)(now:Int):Bool:=p.State==1&&decide (p.Cf>now)
def zJ(h:AD):List Int:=h.AG.filterMap fun p=>if nw p h.Now=true then some p.Id else none
def ALS(free:Int)(skip:List Int)(e:Ad):Bool:=decide (e.A2<=free)&&!(skip.any fun y=>y==e.Id)
def bq(h:AD)(k:Int):Int:=atF (ALS (cbn h k).AV.DT (zJ h)) (cbn h k).Row 0
def Ado:Ad:=⟨0,0,0,0⟩
def Ew(h:AD)(k:Int):Int:=if bq h k<0 then 0 else ((cbn h k).Row.getD (bq h k).toNat Ado).Id
theorem AGI(p:AK)(now:Int):BIa p now=some (nw p now):=by
 unfold BIa BHn nw;rw[AR,AR,Cv]
theorem AAN{l:List Ad}(c:l.length<=1048576){skip:List Int}(e:skip.length<=1048576)(free:Int):BIN l free skip=some (atF (ALS free skip) l 0):=by
 unfold BIN;refine Uw (by omega) ?_ ?_
 .intro L i h;unfold BHM BHL ALS;rw[CC h,BH];simp only[A7 h,AB,WE (show skip.length<2 ^ 62 by omega),AR];by_cases a:l[i].A2<=free
  .simp only[a,decide_true,BH,Bool.true_and]
  .simp only[a,decide_false,BN,Bool.false_and]
 grind[BHM,BIW,BN,AR]
theorem ADb{l:List Ad}{p:Ad->Bool}(a:¬atF p l 0<0):at? l (atF p l 0)=some (l.getD (atF p l 0).toNat Ado)/\∃c:(atF p l 0).toNat<l.length,p l[(atF p l 0).toNat]=true/\l.getD (atF p l 0).toNat Ado=l[(atF p l 0).toNat]:=by
 grind[Jz,A7]
theorem AGN{h:AD}(a:Bp h){k:Int}(e:0<=k)(g:k<h.AI.length):BHy h k=some (Ew h k):=by
 have hlim:lim=268435456:=rfl;have c:=a.CS;have q:(zJ h).length<=1048576:=Au (B5 _ _) c;have j:=(a.De _ (cK e g)).1;unfold BHy;rw[collect (l:=h.AG) (fun p=>if nw p h.Now=true then some p.Id else none) (BH0 h k) c ?_ ?_]
 .grind[BH0,cbn,Fg,AB,zJ,AAN,bq,Ew,BA,ADb]
 .grind[BH1,BHz,A7,AB,AGI,BZ,AR,B9]
 grind[BH1,BN,AR]
def AgH(h:AD)(p:AK):AK:=⟨p.Id,p.Aa,p.Bl,p.A2,p.Cj,p.Since,p.Ap,2,w64 (h.Now+h.AO.Bq),p.Cu⟩
def JL(h:AD)(k id:Int):AD:=
 C7 (RC h (MK h.AG (AgH h (par h id)))) k ⟨(l8 (cbn h k).AV (par h id).A2 (-1) 1 0 0).1,(cbn h k).Row.eraseP (fun x=>x.Id==id),(PU (cbn h k).Bw ⟨w64 (h.Now+h.AO.Bq),id⟩).1⟩
theorem yZ{h:AD}(hR:RH h){k:Nat}(O:k<h.AI.length)(g:Ew h k≠0):0<=Gi h (Ew h k)/\(par h (Ew h k)).State=1/\(par h (Ew h k)).Aa=k/\(par h (Ew h k)).A2<=(cbn h k).AV.DT/\nw (par h (Ew h k)) h.Now=false:=by
 unfold Ew at g ⊢;by_cases j:bq h k<0
 .rw[if_pos j]at g;exact absurd rfl g
 .rw[if_neg j]at g ⊢;obtain⟨_,c,H,I⟩:=ADb j;have J:=hR.cb O;have q:(cbn h k).Row.getD (bq h k).toNat Ado=(cbn h k).Row[(bq h k).toNat]'c:=I;rw[q];have Q:(cbn h k).Row[(bq h k).toNat]'c∈D3 h.AO h.AG k h.Now:=by rw[<-J.row];exact Am _
  obtain⟨p,S,L⟩:=V6 Q;obtain⟨G,X,Y,Z⟩:=LN L;have a:ALS (cbn h k).AV.DT (zJ h) ((cbn h k).Row[(bq h k).toNat]'c)=true:=H;unfold ALS at a;rw[AF,decide_eq_true_iff]at a;generalize (cbn h k).Row[(bq h k).toNat]'c=e at *;subst G;dsimp only at a ⊢;have B:0<=Gi h p.Id:=by
   grind[Gi,Jz]
  have ho:=hR.one B;have E:par h p.Id=p:=by
   rcases Ag.1 (ho.perm.subset S) with y|y
   .exact y.symm
   .exact absurd rfl (ho.ne p y)
  rw[E]
  grind[zJ]
theorem AO2{h:AD}(hR:RH h){k:Nat}(hk:k<h.AI.length){id:Int}{rest:List AK}(ho:One h id (par h id) rest)(hs:(par h id).State=1)(g:(par h id).Aa=k)(hf:(par h id).A2<=(cbn h k).AV.DT):RH (JL h k id):=by
 obtain⟨H,z2,z3,z4⟩:=ho.size;have hn:=hR.EG;have hr:=CT hR.rules;have Y:=hR.now;have ew:w64 (h.Now+h.AO.Bq)=h.Now+h.AO.Bq:=Ai (by omega) (by omega);unfold JL;generalize hP:par h id=p at *;have hq:AgH h p=⟨p.Id,p.Aa,p.Bl,p.A2,p.Cj,p.Since,p.Ap,2,h.Now+h.AO.Bq,p.Cu⟩:=by unfold AgH;rw[ew]
 rw[hq,ew];have O:D9 h.AO ⟨p.Id,p.Aa,p.Bl,p.A2,p.Cj,p.Since,p.Ap,2,h.Now+h.AO.Bq,p.Cu⟩ h.Now=true:=by
  have:=ho.okp
  grind[D9,CY]
 obtain⟨l,e1,c,e3⟩:=ho.set ⟨p.Id,p.Aa,p.Bl,p.A2,p.Cj,p.Since,p.Ap,2,h.Now+h.AO.Bq,p.Cu⟩ ho.pid;rw[e1];have J:=e3 rfl rfl O;have q5:(⟨h.Now+h.AO.Bq,id⟩:A6)=⟨(⟨p.Id,p.Aa,p.Bl,p.A2,p.Cj,p.Since,p.Ap,2,h.Now+h.AO.Bq,p.Cu⟩:AK).Cf,(⟨p.Id,p.Aa,p.Bl,p.A2,p.Cj,p.Since,p.Ap,2,h.Now+h.AO.Bq,p.Cu⟩:AK).Id⟩:=by rw[<-ho.pid]
 rw[q5];generalize hQ:(⟨p.Id,p.Aa,p.Bl,p.A2,p.Cj,p.Since,p.Ap,2,h.Now+h.AO.Bq,p.Cu⟩:AK)=q at *;have q1:q.Aa=p.Aa:=by rw[<-hQ]
 have q2:q.Bl=p.Bl:=by rw[<-hQ]
 have B:q.A2=p.A2:=by rw[<-hQ]
 have E:q.State=2:=by rw[<-hQ]
 have hu:=J.uni;refine RH.mk' hR.rules hR.now hR.turn (by show (h.AI.set _ _).length=_;rw[BG];exact hn) J ?_ (by show Jw h.BC ((h.AI.set _ _).length:Nat)=true;rw[BG];exact hR.todo) (by show Nq h.A8 ((h.AI.set _ _).length:Nat)=true;rw[BG];exact hR.F4) hR.Wm;intro i hi;have L:i<h.AI.length:=by have:i<(h.AI.set (k:Int).toNat _).length:=hi;rw[BG]at this;exact this
 rw[LZ (by omega) (by show (k:Int)<(h.AI.length:Int);omega) (by omega)];show jz h.AO l h.Now i (if (i:Int)=k then (⟨_,_,_⟩:AY) else cbn h i);have a:=ho.cab hR L;have t1:KE (p::rest) i=KE (q::rest) i:=by rw[J5 _ H,J5 _ (by rw[B];exact H),q2,B]
 have S:DQ (q::rest) i<=h.AO.Room:=by
  have:=a.room;rw[JT]at this ⊢;rw[q1];exact this
 refine Wf.full (Wf.perm ?_ (hu.perm c) c.symm c.symm);have G:=a.row;have Q:=a.Hp;have Z:=a.held;rw[ND _ ho.okp hs]at G;rw[UW _ (by omega)]at Q;rw[T8 _ (by omega)]at Z;by_cases e:(i:Int)=k
 .obtain rfl:i=k:=by omega
  rw[if_pos rfl];have j:TQ (GJ (q::rest) (i:Int)):=by
   rw[<-dV c];exact jI J (by rw[Wx c];omega)
  rw[aj _ E,if_pos (by rw[q1,g])]at j;have kl:=H3.1 a.led;have hnn:=ALb rest i;have X:Eh ⟨(cbn h i).AV.Total,(cbn h i).AV.DT+(-1)*p.A2,(cbn h i).AV.EH+1*p.A2,(cbn h i).AV.Ep+0*p.A2,(cbn h i).AV.E8+0*p.A2⟩=true:=by
   rw[H3];dsimp only;omega
  rw[ATr a.led (by omega) (by omega) (by omega) (by omega) (by omega) X,Q,Aeu j];refine⟨?_,?_,a.total,?_,?_,X,S⟩
  .dsimp only;rw[G,if_pos g,dX _ _ _ (by omega)];refine aP (by simpa using ho.pid) fun x hx=>?_
   obtain⟨y,hy,he⟩:=V6 hx;obtain⟨rfl,_⟩:=LN he;simpa using ho.ne y hy
  .dsimp only;rw[aj _ E,if_pos (by rw[q1,g])]
  .dsimp only;rw[lg _ E (by rw[B];exact H),if_pos (by rw[q1,g]),B];omega
  .dsimp only;rw[a.K6,t1];omega
 .rw[if_neg e];have I:¬q.Aa=i:=by rw[q1,g];omega
  rw[if_neg (by rw[<-q1];exact I)]at G;refine⟨by rw[G,dX _ _ _ (by omega)],by rw[Q,aj _ E,if_neg I],a.total,by rw[Z,lg _ E (by rw[B];exact H),if_neg I];omega,by rw[a.K6,t1],a.led,S⟩
theorem RH.sm{h:AD}(hR:RH h):Sm 1000 h:=by
 have G:=CT hR.rules;have E:=hR.EG;have B:=hR.Wm;refine⟨by omega,by have:=hR.Ly.few;omega,by omega,?_,by have:=Acs (by omega) hR.todo;omega,by omega⟩;intro c e;obtain⟨i,hi,rfl⟩:=List.mem_iff_getElem.1 e;have a:=hR.cab i hi;have j:=a.room;have y:=V5 h.AO h.AG i h.Now;have g:=jI hR.Ly (c:=i) (by omega);have q:=zr g;refine⟨by rw[a.row];omega,by rw[a.Hp,pK];omega,by rw[a.Hp];have:=q.few;omega⟩
theorem RH.fit{h:AD}(hR:RH h):Bp h:=hR.sm.fit (by omega)
theorem RH.AFH{h:AD}(hR:RH h){q:AK}(e:q∈h.AG):0<=Gi h q.Id/\par h q.Id=q:=by
 have a:0<=Gi h q.Id:=by
  grind[Gi,Jz]
 have ho:=hR.one a;refine⟨a,?_⟩;rcases Ag.1 (ho.perm.subset e) with c|c
 .exact c.symm
 .exact absurd rfl (ho.ne q c)
structure Kept(h g:AD):Prop where
 rules:g.AO=h.AO
 now:g.Now=h.Now
 turn:g.Ap=h.Ap
 EG:g.AI.length=h.AI.length
 todo:g.BC=h.BC
 F4:g.A8=h.A8
theorem Kept.refl(h:AD):Kept h h:=⟨rfl,rfl,rfl,rfl,rfl,rfl⟩
theorem Kept.trans{a b c:AD}(h:Kept a b)(g:Kept b c):Kept a c:=⟨g.rules.trans h.rules,g.now.trans h.now,g.turn.trans h.turn,g.EG.trans h.EG,g.todo.trans h.todo,g.F4.trans h.F4⟩
theorem AU8(h:AD)(p:AK):Kept h (gone h p):=by
 unfold gone;dsimp only;split
 .exact⟨rfl,rfl,rfl,by simp[C7],rfl,rfl⟩
 .exact⟨rfl,rfl,rfl,rfl,rfl,rfl⟩
theorem ADs(h:AD)(p:AK):Kept h (dropped h p):=⟨rfl,rfl,rfl,by simp[dropped,C7],rfl,rfl⟩
theorem w6(h:AD)(p:AK):Kept h (JH h p):=by
 unfold JH;split
 .exact⟨rfl,rfl,rfl,by simp[HC,RC,dropped,C7],rfl,rfl⟩
 .exact(ADs h p).trans (AU8 _ _)
theorem Vw(h:AD)(k id:Int):Kept h (JL h k id):=⟨rfl,rfl,rfl,by simp[JL,RC,C7],rfl,rfl⟩
theorem AU5{h:AD}{id:Int}{p:AK}{rest:List AK}(ho:One h id p rest){q:AK}(c:q∈rest):q∈(JH h p).AG:=by
 unfold JH;split
 .rename_i a;have e:(Eg h.AO p h.Now).1.Id=id:=by
   unfold Eg at a ⊢;split at a
   .rename_i g;rw[if_pos g];exact ho.pid
   .cases a
  obtain⟨l,j,y,_⟩:=ho.set _ e;show q∈MK h.AG (Eg h.AO p h.Now).1
  grind
 .have:(gone (dropped h p) p).AG=rest:=by
   rw[<-ho.cut,<-ho.pid];unfold gone;dsimp only;split<;>rfl
  rw[this];exact c
def aQ:List Int->AD->AD| [],g=>g|id::l,g=>aQ l (JH g (par g id))
def AUe(g:AD)(l:List Int):Prop:=l.Nodup/\∀id∈l,0<=Gi g id/\(par g id).State=2
theorem cU{g:AD}(hR:RH g){id:Int}{l:List Int}(hO:AUe g (id::l)):RH (JH g (par g id))/\AUe (JH g (par g id)) l/\Kept g (JH g (par g id)):=by
 obtain⟨c,B⟩:=hO;rw[List.nodup_cons]at c;obtain⟨G,H⟩:=B id (Bm ..);have ho:=hR.one G;have hR':=w5 hR ho H;refine⟨hR',⟨c.2,?_⟩,w6 _ _⟩;intro j E;obtain⟨I,L⟩:=B j (List.mem_cons_of_mem _ E);have y:j≠id:=fun e=>c.1 (e▸E)
 have a:=hR.one I;have J:par g j∈g.AG.eraseP (fun x=>x.Id==id):=by
  rcases Ag.1 (ho.perm.subset a.mem) with q|q
  .exact absurd (by rw[<-a.pid,<-ho.pid,q]) y
  .exact q
 have:=hR'.AFH (AU5 ho J);rw[a.pid]at this
 grind
theorem U7:∀{l:List Int} {g:AD},RH g->AUe g l->RH (aQ l g)/\Kept g (aQ l g)
 | [],g,hR,_=>⟨hR,Kept.refl g⟩|id::l,g,hR,hO=>by
  obtain⟨a,c,e⟩:=cU hR hO;obtain⟨j,q⟩:=U7 a c;exact⟨j,e.trans q⟩
def iS(h:AD)(k:Int):AD:=aQ (wg (cbn h k).Bw h.Now) h
theorem Xc{h:AD}(hR:RH h){k:Nat}(I:k<h.AI.length):AUe h (wg (cbn h k).Bw h.Now)/\(wg (cbn h k).Bw h.Now).length<=10:=by
 have E:=hR.cb I;have X:=CT hR.rules;have q:=jI hR.Ly (c:=k) (by have:=E.room;omega);have e:wg (cbn h k).Bw h.Now=(GJ h.AG k).filterMap fun p=>if p.At<=h.Now then some p.Id else none:=by
  unfold wg;rw[E.Hp,ANB q]
 rw[e];refine⟨⟨?_,?_⟩,Au (B5 _ _) q.few⟩
 .show List.Pairwise _ _;rw[List.pairwise_filterMap];refine q.ids.imp ?_;intro a b L x g y Q;split at g<;>split at Q<;>simp_all
 .intro id j;obtain⟨pin,J,g⟩:=List.mem_filterMap.1 j;split at g
  .obtain⟨p,B,O⟩:=ACh J;obtain⟨rfl,S,_⟩:=ak O;cases g;obtain⟨G,H⟩:=hR.AFH B;exact⟨G,by rw[H];exact S⟩
  .cases g
theorem AgO{h:AD}(hR:RH h){id:Int}(a:0<=Gi h id):0<=(par h id).Aa/\(par h id).Aa<h.AI.length/\(par h id).Bl<h.AI.length:=by
 have:=(hR.one a).size;have:=hR.EG;omega
theorem Ux{h:AD}{id:Int}(a:0<=Gi h id):at? h.AG (Gi h id)=some (par h id):=kC a (V3 a).1
theorem zX{h:AD}(hR:RH h){k:Nat}(q:k<h.AI.length):BID h k=some (iS h k):=by
 obtain⟨hO,E⟩:=Xc hR q;unfold BID iS;rw[AMr hR.fit (by omega) (by omega),AB];generalize wg (cbn h k).Bw h.Now=D at *;refine(C6 (F:=BHI D) (n:=D.length) (fun i (v:AD)=>((i:Int),v)) (fun i v=>RH v/\AUe v (D.drop i)) (fun i v=>some (aQ (D.drop i) v)) (by omega) ?_ (v:=h) ⟨hR,hO⟩);rintro L i v ⟨e,ho⟩ hi y;unfold BHI BIT;dsimp only;rcases AT i D.length with a|j
 .rw[DW a]at ho ⊢;have g:=ho.2 D[i] (Bm ..);have c:=AgO e g.1;obtain⟨s1,B,_⟩:=cU e ho;simp only[CC a,BH,A7 a,AB,HR e.fit,Ux g.1,cD (show 1000+2<=1048576 by omega) e.sm c.1 c.2.1 c.2.2,BU a (show D.length<2 ^ 63 by omega)];exact y _ ⟨s1,B⟩ a
 .obtain rfl:i=D.length:=by omega
  rw[Cp,BN,AR,List.drop_length];rfl
theorem AL7{h:AD}(hR:RH h){k:Nat}(e:k<h.AI.length){id:Int}{rest:List AK}(ho:One h id (par h id) rest)(g:(par h id).State=1)(a:(par h id).Aa=k):(cbn (JL h k id) k).Row.length+1=(cbn h k).Row.length:=by
 unfold JL;rw[LZ (by omega) (by show (k:Int)<(h.AI.length:Int);omega) (by omega),if_pos rfl];dsimp only;have:=(ho.cab hR e).row;rw[ND _ ho.okp g,if_pos a]at this;rw[this,aP (by simpa using ho.pid) fun x j=>?_,Ff];obtain⟨y,q,c⟩:=V6 j;obtain⟨rfl,_⟩:=LN c;simpa using ho.ne y q
theorem AAQ{h:AD}(hR:RH h){k:Nat}(g:k<h.AI.length):BIR h k=some (if Ew h k=0 then (h,0) else (JL h k (Ew h k),Ew h k))/\(Ew h k=0->BHe h k=some ((),0)):=by
 have a:=hR.fit;unfold BIR BHe;rw[AGN a (by omega) (by omega),AB,AB,BZ,BZ];by_cases c:Ew h k=0
 .grind
 .refine⟨?_,fun h=>absurd h c⟩;obtain⟨j,q,y,B,E⟩:=yZ hR g c;have e:=a.De _ (cK (k:=(k:Int)) (by omega) (by omega));rw[if_neg (by simpa using c),if_neg c];simp only[HR a,AB,Ux j,Ej,TK a.CS,show at? h.AI (k:Int)=some (cbn h k) from Fg (by omega) (by omega),zU,bz e.1,NR e.2];rfl
def Q3(k:Int):Nat->AD->List Int->AD×List Int|0,h,a=>(h,a)|n+1,h,a=>if Ew h k=0 then (h,a) else Q3 k n (JL h k (Ew h k)) (a++[Ew h k])
theorem AUJ{k:Int}{h:AD}(c:Ew h k=0)(a:List Int):∀n,Q3 k n h a=(h,a)|0=>rfl|n+1=>by unfold Q3;rw[if_pos c]
theorem dS{h:AD}(hR:RH h){k:Nat}(a:k<h.AI.length)(j:Ew h k≠0):RH (JL h k (Ew h k))/\(cbn (JL h k (Ew h k)) k).Row.length+1=(cbn h k).Row.length:=by
 obtain⟨c,e,g,q,y⟩:=yZ hR a j;exact⟨AO2 hR a (hR.one c) e g q,AL7 hR a (hR.one c) e g⟩
theorem AMd{k:Nat}:∀(n:Nat) {h:AD} (a:List Int),RH h->k<h.AI.length->RH (Q3 k n h a).1/\Kept h (Q3 k n h a).1/\(Q3 k n h a).2.length<=a.length+n
 |0,h,a,hR,_=>⟨hR,Kept.refl h,by unfold Q3;simp⟩|n+1,h,a,hR,e=>by
  unfold Q3;split
  .exact⟨hR,Kept.refl h,by simp⟩
  .rename_i B;have y:=dS hR e B;have c:=Vw h k (Ew h k);obtain⟨g,j,q⟩:=AMd n (a++[Ew h k]) y.1 (by rw[c.EG];exact e);refine⟨g,c.trans j,?_⟩;rw[AM,List.length_singleton]at q;omega
def Kk(h:AD)(k:Int):AD×List Int:=Q3 k 10 (iS h k) []
theorem pJ{h:AD}(hR:RH h){k:Nat}(c:k<h.AI.length):(cbn h k).Row.length<=10:=by
 have a:=hR.cb c;have j:=CT hR.rules;have e:=V5 h.AO h.AG k h.Now;have g:=a.room;rw[a.row];omega
theorem AL3{h:AD}{k:Int}(a:Ew h k≠0):0<(cbn h k).Row.length:=by
 unfold Ew at a;split at a
 .exact absurd rfl a
 .rename_i c;obtain⟨_,e,_⟩:=ADb c;omega
theorem AcG{h:AD}(hR:RH h){k:Nat}(y:k<h.AI.length):A4 (BHo k) big ([],h)=some (Q3 k 10 h []):=by
 have hlim:lim=268435456:=rfl;refine mJ (F:=BHo k) (fun x=>some (Q3 k (10-x.1.length) x.2 x.1)) (fun x=>RH x.2/\k<x.2.AI.length/\x.1.length+(cbn x.2 k).Row.length<=10) (fun x=>(cbn x.2 k).Row.length) ?_ (x:=([],h)) ⟨hR,y,by have:=pJ hR y;simpa using this⟩ (by have:=pJ hR y;show (cbn h k).Row.length<_;omega);rintro L ⟨a,g⟩ ⟨q,c,e⟩ E;dsimp only at q c e E ⊢;unfold BHo;dsimp only;obtain⟨H,I⟩:=AAQ q c;rw[H,AB];by_cases j:Ew g k=0
 .grind[AB,AUJ,BH,AfC]
 .obtain⟨s1,J⟩:=dS q c j;have B:=AL3 j;rw[if_neg j];dsimp only;have G:(Ew g k==0)=false:=by simpa using j
  rw[G,BN,B9 (by simp only[AH,AN];omega),E (a++[Ew g k],JL g k (Ew g k)) ⟨s1,by rw[(Vw g k _).EG];exact c,by simp only[AM,AH,AN];omega⟩ (by dsimp only;omega),AfD];congr 1;rw[show 10-a.length=(10-(a++[Ew g k]).length)+1 by simp only[AM,AH,AN];omega]
  conv=>rhs;unfold Q3
  rw[if_neg j]
theorem zF{h:AD}(hR:RH h){k:Nat}(c:k<h.AI.length):RH (Kk h k).1/\Kept h (Kk h k).1/\(Kk h k).2.length<=10:=by
 obtain⟨g,a⟩:=U7 hR (Xc hR c).1;obtain⟨s1,j,e⟩:=AMd (k:=k) 10 [] g (by rw[a.EG];exact c);exact⟨s1,a.trans j,by simp only[AN,Nat.zero_add]at e;exact e⟩
theorem AXE{h:AD}(hR:RH h){k:Nat}(c:k<h.AI.length):BJc h k=some (Kk h k):=by
 have a:=hR.fit;have j:=a.EG;obtain⟨e,g⟩:=U7 hR (Xc hR c).1;unfold BJc BJm BIS;rw[H9 a,AB,GW a,IF.2 hR,AB,BH,Gv,AB,AR,AB,Ai (by omega) (by omega),CY.2 (by omega),BI,BH,zX hR c,AB];exact AcG e (by rw[g.EG];exact c)
theorem Hg{h:AD}{q:BX}(a:verdict h q=0):RH h:=by
 grind[verdict,IF]
theorem jw{h:AD}{q:BX}(E:q.Kind=7)(a:verdict h q=0):∃n:Nat,∃e:n<h.A8.length,q.Id=(n:Int)/\¬(h.A8[n]<0/\h.BC.length=0):=by
 have hR:=Hg a;unfold verdict at a;rw[if_pos (IF.2 hR)]at a;unfold IL at a;split at a
 .cases a
 .split at a
  .cases a
  .rename_i y;have c:LR q=true:=by simpa using y
   have hi:0<=q.Id:=by
    unfold LR at c;rw[if_neg (by omega),if_pos (by omega)]at c;simp only[AF,Wk,CY]at c;exact c.1.1
   rw[if_neg (by omega),if_neg (by omega),if_neg (by omega),if_neg (by omega),if_neg (by omega)]at a
   try rw[if_pos E]at a
   by_cases g:h.AO.Cs<=q.Id
   .rw[if_pos g]at a;cases a
   .rw[if_neg g]at a;obtain⟨n,e⟩:=Int.eq_ofNat_of_zero_le hi;have j:n<h.A8.length:=by have:=hR.Wm;omega
    refine⟨n,j,e,?_⟩;rw[e,Ac,BW,AW j,Option.getD_some]at a;intro B;rw[if_pos B]at a;cases a
def AND(h:AD)(l:List Int):AD:=⟨h.AO,h.Now,h.Ap,h.AG,h.AI,h.BC,l⟩
def AFp(h:AD)(who:Int):AD×List Int:=
 if h.A8.getD who.toNat 0<0 then (AND (FJ h (h.BC.drop 1)) (h.A8.set who.toNat (h.BC.getD 0 0)),[])
 else (AND (Kk h (h.A8.getD who.toNat 0)).1 ((Kk h (h.A8.getD who.toNat 0)).1.A8.set who.toNat (-1)),(Kk h (h.A8.getD who.toNat 0)).2)
def jH(h:AD)(who:Int):AD×Int×List Int:=
 if verdict h ⟨7,who,0,0,0,0⟩≠0 then (h,verdict h ⟨7,who,0,0,0,0⟩,[]) else ((AFp h who).1,0,(AFp h who).2)
theorem RH.job{h:AD}(hR:RH h){n:Nat}(a:n<h.A8.length)(c:¬h.A8[n]<0):∃k:Nat,k<h.AI.length/\h.A8[n]=(k:Int):=by
 have:=List.all_eq_true.1 hR.F4 _ (Am a);have e:=hR.fit.EG
 grind[CY,Ai,Int.eq_ofNat_of_zero_le]
theorem AXD{h:AD}(c:Bp h)(who:Int):BJb h who=some (jH h who)/\Bp (jH h who).1/\(jH h who).2.2.length<=10:=by
 have hlim:lim=268435456:=rfl;unfold BJb jH;rw[H9 c,AB,HT c,AB];simp only[BZ,bne_iff_ne,ne_eq];by_cases q:verdict h ⟨7,who,0,0,0,0⟩=0
 .rw[if_neg (not_not_intro q),if_neg (not_not_intro q)];have hR:=Hg q;obtain⟨n,j,e,E⟩:=jw rfl q;dsimp only at e;subst e;have eg:h.A8.getD n 0=h.A8[n]:=by rw[BW,AW j];rfl
  unfold AFp;rw[A7 j,AB,Ac,eg];simp only[decide_eq_true_eq];by_cases g:h.A8[n]<0
  .rw[if_pos g,if_pos g];have I:0<h.BC.length:=by
    rcases Nat.eq_zero_or_pos h.BC.length with y|y
    .exact absurd ⟨g,y⟩ E
    .exact y
   have J:h.BC.getD 0 0=h.BC[0]:=by rw[BW,AW I];rfl
   have G:=c.todo;have L:(List.drop (Int.toNat 1) h.BC).length<=h.BC.length:=by rw[List.length_drop];omega
   rw[eE,AW I,AB,AB,AB,B9 ⟨by omega,by omega⟩,B9 (by omega),J];exact⟨rfl,⟨c.Dd,c.CS,c.EG,c.De,Au L G,by show (h.A8.set _ _).length<=_;rw[BG];exact c.F4⟩,by simp⟩
  .rw[if_neg g,if_neg g];obtain⟨k,H,ek⟩:=hR.job j g;obtain⟨s1,O,Q⟩:=zF hR H;rw[ek,AXE hR H,AB];have B:n<(Kk h k).1.A8.length:=by rw[O.F4];exact j
   rw[A7 B,AB,AB];have a:=s1.fit;exact⟨rfl,⟨a.Dd,a.CS,a.EG,a.De,a.todo,by show ((Kk h k).1.A8.set _ _).length<=_;rw[BG];exact a.F4⟩,Q⟩
 grind
def doF(h:AD)(q:BX):AD×CE:=
 if verdict h q≠0 then (h,⟨verdict h q,[]⟩)
 else if q.Kind=1 then ((yD h q.Id q.Aa q.Bl q.A2 q.Cj).1,⟨(yD h q.Id q.Aa q.Bl q.A2 q.Cj).2,[]⟩)
 else if q.Kind=2 then ((Uz h q.Id).1,⟨(Uz h q.Id).2,[]⟩)
 else if q.Kind=3 then ((xB h q.Aa q.A2).1,⟨(xB h q.Aa q.A2).2,[]⟩)
 else if q.Kind=4 then ((Uu h q.Id).1,⟨(Uu h q.Id).2,[]⟩)
 else if q.Kind=5 then ((P1 h q.Id).1,⟨(P1 h q.Id).2,[]⟩)
 else if q.Kind=6 then ((zh h).1,⟨(zh h).2,[]⟩)
 else ((jH h q.Id).1,⟨(jH h q.Id).2.1,(jH h q.Id).2.2⟩)
theorem AGC{h:AD}(E:Bp h)(q:BX):BH4 h q=some (doF h q)/\Bp (doF h q).1/\(doF h q).2.Ids.length<=10:=by
 unfold BH4 doF BGw;rw[H9 E,AB,HT E,AB];simp only[BZ,bne_iff_ne,ne_eq,beq_iff_eq,AR];by_cases G:verdict h q=0
 .have hR:=Hg G;have a:=hR.sm;have H:=hR.EG;have I:=CT hR.rules;rw[if_neg (not_not_intro G),if_neg (not_not_intro G)];by_cases c:q.Kind=1
  .rw[if_pos c,if_pos c];have:=AXB (show 1000+3<=1048576 by omega) a q.Id q.Aa q.Bl q.A2 q.Cj;rw[this.1,AB];exact⟨rfl,this.2.fit (by omega),by simp⟩
  .rw[if_neg c,if_neg c];by_cases e:q.Kind=2
   .rw[if_pos e,if_pos e];have:=AMn (show 1000+1<=1048576 by omega) a q.Id;rw[this.1,AB];exact⟨rfl,this.2.fit (by omega),by simp⟩
   .rw[if_neg e,if_neg e];by_cases g:q.Kind=3
    .rw[if_pos g,if_pos g];have:=zM (show 1000+1<=1048576 by omega) a q.Aa q.A2;rw[this.1,AB];exact⟨rfl,this.2.fit (by omega),by simp⟩
    .rw[if_neg g,if_neg g];by_cases j:q.Kind=4
     .rw[if_pos j,if_pos j];have:=AMl (show 1000+1<=1048576 by omega) a q.Id;rw[this.1,AB];exact⟨rfl,this.2.fit (by omega),by simp⟩
     .rw[if_neg j,if_neg j];by_cases y:q.Kind=5
      .rw[if_pos y,if_pos y];have:=AGB (show 1000+3<=1048576 by omega) a q.Id;rw[this.1,AB];exact⟨rfl,this.2.fit (by omega),by simp⟩
      .rw[if_neg y,if_neg y];by_cases B:q.Kind=6
       .rw[if_pos B,if_pos B];have:=AXF a (show 1000+h.AI.length<=1048576 by omega);rw[this.1,AB];exact⟨rfl,this.2.fit (by omega),by simp⟩
       .rw[if_neg B,if_neg B];have:=AXD E q.Id;rw[this.1,AB];exact⟨rfl,this.2.1,this.2.2⟩
 grind
def JZ:List BX->AD->AD×List CE| [],h=>(h,[])|q::l,h=>((JZ l (doF h q).1).1,(doF h q).2::(JZ l (doF h q).1).2)
theorem Tz:∀(l:List BX) {h:AD},Bp h->Bp (JZ l h).1/\(JZ l h).2.length=l.length/\∀r∈(JZ l h).2,r.Ids.length<=10
 | [],h,a=>⟨a,rfl,by simp[JZ]⟩|q::l,h,a=>by
  have c:=AGC a q;obtain⟨e,g,j⟩:=Tz l c.2.1
  grind[JZ]
theorem db{h:AD}(q:Bp h){l:List BX}(G:l.length<=1048576):BJV h l=some (JZ l h):=by
 have hlim:lim=268435456:=rfl;unfold BJV;rw[H9 q,AB];refine(C6 (F:=BIM l) (n:=l.length) (fun i (v:List CE×AD)=>(v.1,(i:Int),v.2)) (fun i v=>Bp v.2/\v.1.length=i) (fun i v=>some ((JZ (l.drop i) v.2).1,v.1++(JZ (l.drop i) v.2).2)) (by omega) ?_ (v:=([],h)) ⟨q,rfl⟩).trans ?_
 .rintro L i ⟨a,g⟩ ⟨y,e⟩ hi B;dsimp only at y e B ⊢;unfold BIM BJX;dsimp only;rcases AT i l.length with c|E
  .have j:=AGC y l[i];rw[DW c];simp only[CC c,BH,A7 c,AB,j.1,J6,WJ,BU c (show l.length<2 ^ 63 by omega)];rw[B9 (by simp only[AH,AN];omega)];have:=B (a++[(doF g l[i]).2],(doF g l[i]).1) ⟨j.2.1,by simp[e]⟩ c;dsimp only at this;rw[this];simp only[JZ,List.append_assoc,List.singleton_append]
  .grind[BN,AR,JZ]
 .simp
end Lv.P
