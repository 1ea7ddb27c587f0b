/-
  Plain laws: a right house stays right: offers that end, parties that go.
-/
import Derived.Test.YthnbolemafdhfaaGreatPJ
set_option linter.unusedVariables false
set_option linter.unusedSimpArgs false
set_option linter.unusedSectionVars false
namespace Lv.P
open Lv Go
structure Jt(r:AN)(ps qs:List AH)(now:Int)(i:Nat)(c:AZ):Prop where
 row:c.Row=Bn r ps i now
 Cw:c.BL=wOf (Dc ps i)
 total:c.AM.Total=r.AM.getD i 0
 held:c.AM.Cp=FM ps i
 EY:c.AM.EB=FH qs i
 led:CO c.AM=true
 room:Bk ps i<=r.Room
theorem Jt.full{r:AN}{ps:List AH}{now:Int}{i:Nat}{c:AZ}(h:Jt r ps ps now i c):NM r ps now i c:=⟨h.row,h.Cw,h.total,h.held,h.EY,h.led,h.room⟩
theorem NM.half{r:AN}{ps:List AH}{now:Int}{i:Nat}{c:AZ}(h:NM r ps now i c):Jt r ps ps now i c:=⟨h.row,h.Cw,h.total,h.held,h.EY,h.led,h.room⟩
theorem Jt.perm{r:AN}{ps qs ps' qs':List AH}{now:Int}{i:Nat}{c:AZ}(h:Jt r ps qs now i c)(hu:Uni ps)(hp:ps.Perm ps')(hq:qs.Perm qs'):Jt r ps' qs' now i c:=
 ⟨by rw [h.row,dY hu hp],by rw [h.Cw,M6 hp],h.total,by rw [h.held,fx hp],by rw [h.EY,jJ hq],h.led,by rw [<-J7 hp];exact h.room⟩
theorem EO{h:AA}{k j:Int}{c:AZ}(h0:0<=k)(h1:k<h.AE.length)(j0:0<=j):cbn (BG h k c) j=if j=k then c else cbn h j:=by
 unfold cbn BG;dsimp only;rw [List.getD_eq_getElem?_getD,List.getD_eq_getElem?_getD,List.getElem?_set];by_cases e:j=k
 .subst e;rw [if_pos rfl,if_pos rfl,if_pos (by omega)];rfl
 .rw [if_neg e,if_neg (by omega)]
theorem jk{h:AA}{i:Nat}(hi:i<h.AE.length):cbn h i=h.AE[i]:=by
 unfold cbn;rw [Int.toNat_natCast,List.getD_eq_getElem?_getD,List.getElem?_eq_getElem hi];rfl
theorem RH.cb{h:AA}(hR:RH h){i:Nat}(hi:i<h.AE.length):NM h.AG h.AB h.Now i (cbn h i):=by
 rw [jk hi];exact hR.cab i hi
theorem RH.mk'{h:AA}(rules:DY h.AG=true)(now:0<=h.Now/\h.Now<=1000000)(Dt:1<=h.AQ/\h.AQ<=1000001)(B2:h.AE.length=h.AG.AM.length)(Dm:Iv h.AG h.Now h.AQ h.AB)
 (cab:∀i:Nat,i<h.AE.length->NM h.AG h.AB h.Now i (cbn h i)) (todo:EV h.AW h.AE.length=true) (DJ:GM h.AS h.AE.length=true) (K8:(h.AS.length:Int)=h.AG.Cc):RH h:=
 ⟨rules,now,Dt,B2,Dm,fun i hi=>by rw [<-jk hi];exact cab i hi,todo,DJ,K8⟩
structure One(h:AA)(id:Int)(p:AH)(rest:List AH):Prop where
 perm:h.AB.Perm (p::rest)
 sub:rest.Sublist h.AB
 okp:Bc h.AG p h.Now=true
 pid:p.Id=id
 mem:p∈h.AB
 ne:∀q∈rest,q.Id≠id
 set:∀q:AH,q.Id=id->∃l,GH h.AB q=l/\l.Perm (q::rest)/\(q.AQ=p.AQ->q.Since=p.Since->Bc h.AG q h.Now=true->Iv h.AG h.Now h.AQ l)
 cut:h.AB.eraseP (fun x=>x.Id==id)=rest
theorem RH.one{h:AA}(hR:RH h){id:Int}(h0:0<=CW h id):One h id (par h id) (h.AB.eraseP fun x=>x.Id==id):=by
 obtain⟨k,hk,e1,e2,e3,e4⟩:=zT h0;have hm:h.AB[k]∈h.AB:=List.getElem_mem hk;have hp:h.AB.Perm (par h id::h.AB.eraseP fun x=>x.Id==id):=by rw [e2];exact fj hk e4
 refine⟨hp,List.eraseP_sublist,by rw [e2];exact(hR.Dm.par _ hm).1,e3,by rw [e2];exact hm,?_,?_,rfl⟩
 .have:=(hR.Dm.uni.perm hp).id;intro q hq;have:=(List.pairwise_cons.1 this).1 q hq;rw [e3] at this;exact Ne.symm this
 .intro q hq;refine⟨h.AB.set k q,?_,set_perm hk e4 q,?_⟩
  .unfold GH;unfold CW at e1;rw [hq,e1,if_pos (by omega),Int.toNat_natCast]
  .intro h1 h2 h3;refine hR.Dm.set hk ?_ ?_ ?_ h3
   .rw [<-e2,e3,hq]
   .rw [<-e2,h1]
   .rw [<-e2,h2]
theorem One.size{h:AA}{id:Int}{p:AH}{rest:List AH}(ho:One h id p rest):(1<=p.AY/\p.AY<=6)/\(0<=p.AK/\p.AK<h.AG.AM.length)/\(-1<=p.Ay/\p.Ay<h.AG.AM.length)/\p.Ay≠p.AK:=by
 have hk:=Cb ho.okp;have hr:=BN hk.1;omega
def px(h:AA)(p:AH)(rest:List AH)(g:AA):Prop:=∀i:Nat,i<h.AE.length->Jt h.AG rest (p::rest) h.Now i (cbn g i)
theorem W0{r:AN}{p:AH}{rest:List AH}{now:Int}{i:Nat}(hs:1<=p.AY/\p.AY<=6)(hc:p.AK≠i){c:AZ}(h:NM r (p::rest) now i c):Jt r rest (p::rest) now i c:=by
 have e1:JZ r i now p=none:=by
  cases e:JZ r i now p with
  |none=>rfl
  |some x=>exact absurd (Dx e).2.2.2 hc
 have e2:MK i p=none:=by
  cases e:MK i p with
  |none=>rfl
  |some x=>exact absurd (Il e).2.2 hc
 have e3:OA i p=0:=by unfold OA;simp [hc]
 have h1:=h.row;have h2:=h.Cw;have h3:=h.held;have h4:=h.room;rw [LF,e1] at h1;rw [M5,e2] at h2;rw [G4,e3,Int.zero_add] at h3;rw [Ce,if_neg hc,Int.zero_add] at h4;exact⟨h1,h2,h.total,h3,h.EY,h.led,h4⟩
section
variable{h:AA}(hR:RH h){id:Int}{p:AH}{rest:List AH}(ho:One h id p rest)
include hR ho
theorem One.cab{i:Nat}(hi:i<h.AE.length):NM h.AG (p::rest) h.Now i (cbn h i):=((hR.cb hi).half.perm hR.Dm.uni ho.perm ho.perm).full
theorem One.uni:Uni (p::rest):=hR.Dm.uni.perm ho.perm
theorem One.room{i:Nat}(hi:i<h.AE.length):Bk (p::rest) i<=10:=by
 have:=(ho.cab hR hi).room;have:=BN hR.rules;omega
theorem One.pins{i:Nat}(hi:i<h.AE.length):H3 (Dc (p::rest) i):=by
 rw [<-M6 ho.perm];exact ON hR.Dm (by rw [J7 ho.perm];exact ho.room hR hi)
theorem JT(hs:p.State=2){a c:Int}(ha:a=0/\c=1\/a=1/\c=0) :
 px h p rest (BG h p.AK ⟨(l8 (cbn h p.AK).AM p.AY a (-1) c 0).1,(cbn h p.AK).Row,(VS (cbn h p.AK).BL ⟨p.Bh,p.Id⟩).1⟩):=by
 intro i hi;obtain⟨z1,z2,z3,z4⟩:=ho.size;have hn:=hR.B2;rw [EO z2.1 (by omega) (by omega)];by_cases e:(i:Int)=p.AK
 .rw [if_pos e,<-e];have hc:=ho.cab hR hi;have hp:=ho.pins hR hi;have k1:=hc.row;have k2:=hc.Cw;have k3:=hc.held;have k4:=hc.room;have k5:=hc.led;rw [NA _ _ _ (by omega)] at k1;rw [Lr _ hs,if_pos e.symm] at k2 hp;rw [PU _ hs z1,if_pos e.symm] at k3;rw [Ce,if_pos e.symm] at k4;have hnn:=cS rest i;have kl:=D3.1 k5;have hl:CO ⟨(cbn h i).AM.Total,(cbn h i).AM.Co+a*p.AY,(cbn h i).AM.Cp+(-1)*p.AY,(cbn h i).AM.Dz+c*p.AY,(cbn h i).AM.EB+0*p.AY⟩=true:=by
   rw [D3];dsimp only;rcases ha with ⟨rfl,rfl⟩|⟨rfl,rfl⟩ <;> omega
  rw [Wk k5 (by omega) (by omega) (by omega) (by omega) (by omega) hl,k2,yA hp];refine⟨k1,rfl,hc.total,?_,?_,hl,?_⟩
  .dsimp only;omega
  .dsimp only;rw [hc.EY];omega
  .omega
 .rw [if_neg e];exact W0 z1 (Ne.symm e) (ho.cab hR hi)
theorem jK(hs:p.State=1):px h p rest (Ol h p.AK id):=by
 intro i hi;obtain⟨z1,z2,z3,z4⟩:=ho.size;have hn:=hR.B2;unfold Ol;rw [EO z2.1 (by omega) (by omega)];by_cases e:(i:Int)=p.AK
 .rw [if_pos e,<-e];have hc:=ho.cab hR hi;have k1:=hc.row;have k2:=hc.Cw;have k3:=hc.held;have k4:=hc.room;rw [Eo _ ho.okp hs,if_pos e.symm] at k1;rw [Gn _ (by omega)] at k2;rw [Gl _ (by omega)] at k3;rw [Ce,if_pos e.symm] at k4;refine⟨?_,k2,hc.total,k3,hc.EY,hc.led,by omega⟩;dsimp only;rw [k1];refine IN (by simpa using ho.pid) fun x hx=>?_
  obtain⟨q,hq,he⟩:=HC hx;obtain⟨rfl,_⟩:=Dx he;simpa using ho.ne q hq
 .rw [if_neg e];exact W0 z1 (Ne.symm e) (ho.cab hR hi)
theorem Q5{g:AA}(hg:px h p rest g)(h1:g.AG=h.AG)(h2:g.Now=h.Now)(h3:g.AQ=h.AQ)(h4:g.AB=h.AB)(h5:g.AE.length=h.AE.length)
 (h6:EV g.AW h.AE.length=true) (h7:g.AS=h.AS):RH (gone g p):=by
 obtain⟨z1,z2,z3,z4⟩:=ho.size;have hn:=hR.B2;have hcut:g.AB.eraseP (fun x=>x.Id==p.Id)=rest:=by rw [h4,ho.pid,ho.cut]
 have hpar:Iv h.AG h.Now h.AQ rest:=hR.Dm.sub ho.sub;unfold gone;dsimp only;rw [hcut];split
 .rename_i f0;refine RH.mk' (by show DY g.AG=true;rw [h1];exact hR.rules) (by show 0<=g.Now/\_;rw [h2];exact hR.now) (by show 1<=g.AQ/\_;rw [h3];exact hR.Dt) (by simp [BG,h5,h1,hn]) (by show Iv g.AG g.Now g.AQ rest;rw [h1,h2,h3];exact hpar) ?_
   (by simpa [BG,h5] using h6) (by simpa [BG,h5,h7] using hR.DJ) (by show (g.AS.length:Int)=g.AG.Cc;rw [h7,h1];exact hR.K8)
  intro i hi;have hi':i<h.AE.length:=by simpa [BG,h5] using hi
  rw [EO f0 (by show p.Ay<(g.AE.length:Int);omega) (by omega)];show NM g.AG rest g.Now i _;rw [h1,h2];have hc:=hg i hi';have k:=hc.EY;rw [Dy _ z1] at k;by_cases e:(i:Int)=p.Ay
  .rw [if_pos e,<-e];rw [if_pos e.symm] at k;have kl:=D3.1 hc.led;have hnn:=eT rest i;have hl:CO ⟨(cbn g i).AM.Total,(cbn g i).AM.Co+0*p.AY,(cbn g i).AM.Cp+0*p.AY,(cbn g i).AM.Dz+0*p.AY,(cbn g i).AM.EB+(-1)*p.AY⟩=true:=by
    rw [D3];dsimp only;omega
   rw [Wk hc.led (by omega) (by omega) (by omega) (by omega) (by omega) hl];refine⟨hc.row,hc.Cw,hc.total,?_,?_,hl,hc.room⟩
   .dsimp only;rw [hc.held];omega
   .dsimp only;omega
  .rw [if_neg e];rw [if_neg (Ne.symm e),Int.zero_add] at k;exact⟨hc.row,hc.Cw,hc.total,hc.held,k,hc.led,hc.room⟩
 .rename_i f0;refine RH.mk' (by show DY g.AG=true;rw [h1];exact hR.rules) (by show 0<=g.Now/\_;rw [h2];exact hR.now) (by show 1<=g.AQ/\_;rw [h3];exact hR.Dt) (by show g.AE.length=g.AG.AM.length;rw [h5,h1,hn]) (by show Iv g.AG g.Now g.AQ rest;rw [h1,h2,h3];exact hpar) ?_
   (by show EV g.AW g.AE.length=true;rw [h5];exact h6) (by show GM g.AS g.AE.length=true;rw [h5,h7];exact hR.DJ) (by show (g.AS.length:Int)=g.AG.Cc;rw [h7,h1];exact hR.K8)
  intro i hi;have hi':i<h.AE.length:=by rw [<-h5];exact hi
  show NM g.AG rest g.Now i (cbn g i);rw [h1,h2];have hc:=hg i hi';have k:=hc.EY;rw [Dy _ z1,if_neg (by omega),Int.zero_add] at k;exact⟨hc.row,hc.Cw,hc.total,hc.held,k,hc.led,hc.room⟩
theorem cB(hs:p.State=2):RH (Er h p):=by
 obtain⟨z1,z2,z3,z4⟩:=ho.size;have hn:=hR.B2;have hd:px h p rest (dropped h p):=JT hR ho hs (.inr ⟨rfl,rfl⟩);have hlen:(dropped h p).AE.length=h.AE.length:=by simp [dropped,BG]
 unfold Er;split
 .rename_i hf;have hf':=hf;unfold Cx at hf';by_cases hc:Bc h.AG p h.Now=true/\p.State=2/\w64 (p.Ba+1)<h.AG.BF
  .have hk:=Cb ho.okp;have hr:=BN hR.rules;have hq:(Cx h.AG p h.Now).1=⟨p.Id,p.AK,p.Ay,p.AY,p.Bb,p.Since,p.AQ,1,w64 (h.Now+h.AG.Rest),w64 (p.Ba+1)⟩:=by unfold Cx;rw [if_pos hc]
   rw [hq];have ew:w64 (h.Now+h.AG.Rest)=h.Now+h.AG.Rest:=Ai (by omega) (by omega);have ea:w64 (p.Ba+1)=p.Ba+1:=Ai (by omega) (by omega);rw [ew,ea];have hc3:=hc.2.2;rw [ea] at hc3;have hpb:Bc h.AG ⟨p.Id,p.AK,p.Ay,p.AY,p.Bb,p.Since,p.AQ,1,h.Now+h.AG.Rest,p.Ba+1⟩ h.Now=true:=by
    have:=ho.okp;unfold Bc at this ⊢;simp only [Bool.and_eq_true,BH,Bool.or_eq_true,beq_iff_eq,Bool.not_eq_true',beq_eq_false_iff_ne] at this ⊢;obtain⟨a1,a2,a3,a4,a5,a6,a7,a8,a9,a10,a11,a12⟩:=this;refine⟨a1,a2,a3,a4,a5,a6,a7,a8,a9,a10,?_,.inl ⟨trivial,?_⟩⟩
    .rw [Ai (by omega) (by omega)];omega
    .rw [Ai (by omega) (by omega)];omega
   obtain⟨l,e1,e2,e3⟩:=ho.set ⟨p.Id,p.AK,p.Ay,p.AY,p.Bb,p.Since,p.AQ,1,h.Now+h.AG.Rest,p.Ba+1⟩ ho.pid;rw [e1];have e4:=e3 rfl rfl hpb;generalize hQ:(⟨p.Id,p.AK,p.Ay,p.AY,p.Bb,p.Since,p.AQ,1,h.Now+h.AG.Rest,p.Ba+1⟩:AH)=q at *;have q1:q.AK=p.AK:=by rw [<-hQ]
   have q2:q.Ay=p.Ay:=by rw [<-hQ]
   have q3:q.AY=p.AY:=by rw [<-hQ]
   have q4:q.State=1:=by rw [<-hQ]
   unfold EU;refine RH.mk' hR.rules hR.now hR.Dt (by show ((dropped h p).AE.set _ _).length=_;rw [List.length_set,hlen];exact hn) e4 ?_ (by show EV h.AW (((dropped h p).AE.set _ _).length:Nat)=true;rw [List.length_set,hlen];exact hR.todo) (by show GM h.AS (((dropped h p).AE.set _ _).length:Nat)=true;rw [List.length_set,hlen];exact hR.DJ) hR.K8;intro i hi;have hi':i<h.AE.length:=by have:i<((dropped h p).AE.set q.AK.toNat _).length:=hi;rw [List.length_set,hlen] at this;exact this
   rw [EO (by rw [q1];exact z2.1) (by rw [q1];show p.AK<((dropped h p).AE.length:Int);omega) (by omega)];show NM h.AG l h.Now i (if _ then (⟨(cbn (dropped h p) q.AK).AM,put ltE (C1 h.AG q h.Now).1 (cbn (dropped h p) q.AK).Row,(cbn (dropped h p) q.AK).BL⟩:AZ) else cbn (dropped h p) i);have hc':=hd i hi';have hu:=e4.uni;have t1:FH (p::rest) i=FH (q::rest) i:=by rw [Dy _ z1,Dy _ (by rw [q3];exact z1),q2,q3]
   have c1:Bk (q::rest) i<=h.AG.Room:=by
    have:=(ho.cab hR hi').room;rw [Ce] at this ⊢;rw [q1];exact this
   refine Jt.full (Jt.perm ?_ (hu.perm e2) e2.symm e2.symm);by_cases e:(i:Int)=q.AK
   .rw [if_pos e,<-e];refine⟨?_,?_,hc'.total,?_,by dsimp only;rw [hc'.EY,t1],hc'.led,c1⟩
    .dsimp only;rw [Eo _ hpb q4,if_pos e.symm,I6 hpb q4,hc'.row]
    .dsimp only;rw [Gn _ (by omega),hc'.Cw]
    .dsimp only;rw [Gl _ (by omega),hc'.held]
   .rw [if_neg e];refine⟨?_,?_,hc'.total,?_,by rw [hc'.EY,t1],hc'.led,c1⟩
    .rw [Eo _ hpb q4,if_neg (Ne.symm e),hc'.row]
    .rw [Gn _ (by omega),hc'.Cw]
    .rw [Gl _ (by omega),hc'.held]
  .rw [if_neg hc] at hf';cases hf'
 .exact Q5 hR ho hd rfl rfl rfl rfl hlen hR.todo rfl
end
end Lv.P
namespace Lv.P
open Lv Go
def XA(p:AH)(now:Int):Bool:=p.State==1&&decide (p.Bh>now)
def eD(h:AA):List Int:=h.AB.filterMap fun p=>if XA p h.Now=true then some p.Id else none
def rU(free:Int)(skip:List Int)(e:AT):Bool:=decide (e.AY<=free)&&!(skip.any fun y=>y==e.Id)
def K7(h:AA)(k:Int):Int:=atF (rU (cbn h k).AM.Co (eD h)) (cbn h k).Row 0
def w7:AT:=⟨0,0,0,0⟩
def Ck(h:AA)(k:Int):Int:=if K7 h k<0 then 0 else ((cbn h k).Row.getD (K7 h k).toNat w7).Id
theorem ZZ(p:AH)(now:Int):kM p now=some (XA p now):=by
 unfold kM R4 XA;rw [AO,AO,Cd]
theorem Ve{l:List AT}(hl:l.length<=1048576){skip:List Int}(hs:skip.length<=1048576)(free:Int):bO l free skip=some (atF (rU free skip) l 0):=by
 unfold bO;refine fP (by omega) ?_ ?_
 .intro L i h;unfold SG SF rU;rw [A4 h,BE];simp only [Af h,AD,Jg (show skip.length<2 ^ 62 by omega),AO];by_cases h1:l[i].AY<=free
  .simp only [h1,decide_true,BE,Bool.true_and]
  .simp only [h1,decide_false,A9,Bool.false_and]
 .intro L;unfold SG bP;rw [A3,A9,AO]
theorem fR{l:List AT}{p:AT->Bool}(h0:¬atF p l 0<0):at? l (atF p l 0)=some (l.getD (atF p l 0).toNat w7)/\∃hk:(atF p l 0).toNat<l.length,p l[(atF p l 0).toNat]=true/\l.getD (atF p l 0).toNat w7=l[(atF p l 0).toNat]:=by
 rcases GS p l 0 with ⟨h1,_⟩|⟨k,hk,h1,_,_,h2⟩
 .omega
 .rw [h1,Nat.zero_add,Int.toNat_natCast,Af hk,List.getD_eq_getElem?_getD,List.getElem?_eq_getElem hk];exact⟨rfl,hk,h2,rfl⟩
theorem Ze{h:AA}(hh:Ar h){k:Int}(h0:0<=k)(h1:k<h.AE.length):bQ h k=some (Ck h k):=by
 have hlim:lim=268435456:=rfl;have hp:=hh.BC;have hs:(eD h).length<=1048576:=Nat.le_trans (List.length_filterMap_le _ _) hp;have hc:=(hh.B4 _ (Oy h0 h1)).1;unfold bQ;rw [collect (l:=h.AB) (fun p=>if XA p h.Now=true then some p.Id else none) (SI h k) hp ?_ ?_]
 .unfold SI;have ec:at? h.AE k=some (cbn h k):=FU h0 h1;simp only [ec,AD];show bd (bO (cbn h k).Row (cbn h k).AM.Co (eD h)) _=_;rw [Ve hc hs,AD];show br (decide (K7 h k<0)) _ (bd (at? (cbn h k).Row (K7 h k)) _)=_;unfold Ck;rw [BT];split
  .rfl
  .rename_i hn;rw [show at? (cbn h k).Row (K7 h k)=_ from (fR hn).1,AD];rfl
 .intro L i hi v hv;unfold SJ SH;dsimp only;rw [A4 hi,BE];simp only [Af hi,AD,ZZ,A7,AO,BP (show v.length+[h.AB[i].Id].length<=lim by rw [Ht];omega)];split <;> simp
 .intro L v;unfold SJ;dsimp only;rw [A3,A9,AO]
def dL(h:AA)(p:AH):AH:=⟨p.Id,p.AK,p.Ay,p.AY,p.Bb,p.Since,p.AQ,2,w64 (h.Now+h.AG.BI),p.Ba⟩
noncomputable def D7(h:AA)(k id:Int):AA:=
 BG (NK h (GH h.AB (dL h (par h id)))) k ⟨(l8 (cbn h k).AM (par h id).AY (-1) 1 0 0).1,(cbn h k).Row.eraseP (fun x=>x.Id==id),(LQ (cbn h k).BL ⟨w64 (h.Now+h.AG.BI),id⟩).1⟩
theorem UQ{h:AA}(hR:RH h){k:Nat}(hk:k<h.AE.length)(hn:Ck h k≠0):0<=CW h (Ck h k)/\(par h (Ck h k)).State=1/\(par h (Ck h k)).AK=k/\(par h (Ck h k)).AY<=(cbn h k).AM.Co/\XA (par h (Ck h k)) h.Now=false:=by
 unfold Ck at hn ⊢;by_cases h0:K7 h k<0
 .rw [if_pos h0] at hn;exact absurd rfl hn
 .rw [if_neg h0] at hn ⊢;obtain⟨_,hl,h2,h3⟩:=fR h0;have hc:=hR.cb hk;have h3':(cbn h k).Row.getD (K7 h k).toNat w7=(cbn h k).Row[(K7 h k).toNat]'hl:=h3;rw [h3'];have hm:(cbn h k).Row[(K7 h k).toNat]'hl∈Bn h.AG h.AB k h.Now:=by rw [<-hc.row];exact List.getElem_mem _
  obtain⟨p,hp,he⟩:=HC hm;obtain⟨e1,e2,e3,e4⟩:=Dx he;have h2':rU (cbn h k).AM.Co (eD h) ((cbn h k).Row[(K7 h k).toNat]'hl)=true:=h2;unfold rU at h2';rw [Bool.and_eq_true,decide_eq_true_iff] at h2';generalize (cbn h k).Row[(K7 h k).toNat]'hl=e at *;subst e1;dsimp only at h2' ⊢;have hpa:0<=CW h p.Id:=by
   unfold CW;rcases GS (fun x:AH=>x.Id==p.Id) h.AB 0 with ⟨_,_,h9⟩|⟨j,hj,h9,_⟩
   .have:=List.any_eq_false.1 h9 p hp;simp at this
   .omega
  have ho:=hR.one hpa;have hpe:par h p.Id=p:=by
   rcases List.mem_cons.1 (ho.perm.subset hp) with h9|h9
   .exact h9.symm
   .exact absurd rfl (ho.ne p h9)
  rw [hpe];refine⟨hpa,e3,e4,h2'.1,?_⟩;have h5:=h2'.2;rw [Bool.not_eq_true',List.any_eq_false] at h5;cases hr:XA p h.Now with
  |false=>rfl
  |true=>
   have:p.Id∈eD h:=List.mem_filterMap.2 ⟨p,hp,by rw [if_pos hr]⟩;have:=h5 _ this;simp at this
theorem iY{h:AA}(hR:RH h){k:Nat}(hk:k<h.AE.length){id:Int}{rest:List AH}(ho:One h id (par h id) rest)(hs:(par h id).State=1)(hc:(par h id).AK=k)(hf:(par h id).AY<=(cbn h k).AM.Co):RH (D7 h k id):=by
 obtain⟨z1,z2,z3,z4⟩:=ho.size;have hn:=hR.B2;have hr:=BN hR.rules;have hnow:=hR.now;have ew:w64 (h.Now+h.AG.BI)=h.Now+h.AG.BI:=Ai (by omega) (by omega);unfold D7;generalize hP:par h id=p at *;have hq:dL h p=⟨p.Id,p.AK,p.Ay,p.AY,p.Bb,p.Since,p.AQ,2,h.Now+h.AG.BI,p.Ba⟩:=by unfold dL;rw [ew]
 rw [hq,ew];have hpb:Bc h.AG ⟨p.Id,p.AK,p.Ay,p.AY,p.Bb,p.Since,p.AQ,2,h.Now+h.AG.BI,p.Ba⟩ h.Now=true:=by
  have:=ho.okp;unfold Bc at this ⊢;simp only [Bool.and_eq_true,BH,Bool.or_eq_true,beq_iff_eq,Bool.not_eq_true',beq_eq_false_iff_ne] at this ⊢;obtain⟨a1,a2,a3,a4,a5,a6,a7,a8,a9,a10,a11,a12⟩:=this;exact⟨a1,a2,a3,a4,a5,a6,a7,a8,a9,a10,a11,.inr ⟨trivial,by rw [ew];omega⟩⟩
 obtain⟨l,e1,e2,e3⟩:=ho.set ⟨p.Id,p.AK,p.Ay,p.AY,p.Bb,p.Since,p.AQ,2,h.Now+h.AG.BI,p.Ba⟩ ho.pid;rw [e1];have e4:=e3 rfl rfl hpb;have q5:(⟨h.Now+h.AG.BI,id⟩:Ag)=⟨(⟨p.Id,p.AK,p.Ay,p.AY,p.Bb,p.Since,p.AQ,2,h.Now+h.AG.BI,p.Ba⟩:AH).Bh,(⟨p.Id,p.AK,p.Ay,p.AY,p.Bb,p.Since,p.AQ,2,h.Now+h.AG.BI,p.Ba⟩:AH).Id⟩:=by rw [<-ho.pid]
 rw [q5];generalize hQ:(⟨p.Id,p.AK,p.Ay,p.AY,p.Bb,p.Since,p.AQ,2,h.Now+h.AG.BI,p.Ba⟩:AH)=q at *;have q1:q.AK=p.AK:=by rw [<-hQ]
 have q2:q.Ay=p.Ay:=by rw [<-hQ]
 have q3:q.AY=p.AY:=by rw [<-hQ]
 have q4:q.State=2:=by rw [<-hQ]
 have hu:=e4.uni;refine RH.mk' hR.rules hR.now hR.Dt (by show (h.AE.set _ _).length=_;rw [List.length_set];exact hn) e4 ?_ (by show EV h.AW ((h.AE.set _ _).length:Nat)=true;rw [List.length_set];exact hR.todo) (by show GM h.AS ((h.AE.set _ _).length:Nat)=true;rw [List.length_set];exact hR.DJ) hR.K8;intro i hi;have hi':i<h.AE.length:=by have:i<(h.AE.set (k:Int).toNat _).length:=hi;rw [List.length_set] at this;exact this
 rw [EO (by omega) (by show (k:Int)<(h.AE.length:Int);omega) (by omega)];show NM h.AG l h.Now i (if (i:Int)=k then (⟨_,_,_⟩:AZ) else cbn h i);have hcab:=ho.cab hR hi';have t1:FH (p::rest) i=FH (q::rest) i:=by rw [Dy _ z1,Dy _ (by rw [q3];exact z1),q2,q3]
 have c1:Bk (q::rest) i<=h.AG.Room:=by
  have:=hcab.room;rw [Ce] at this ⊢;rw [q1];exact this
 refine Jt.full (Jt.perm ?_ (hu.perm e2) e2.symm e2.symm);have k1:=hcab.row;have k2:=hcab.Cw;have k3:=hcab.held;rw [Eo _ ho.okp hs] at k1;rw [Gn _ (by omega)] at k2;rw [Gl _ (by omega)] at k3;by_cases e:(i:Int)=k
 .obtain rfl:i=k:=by omega
  rw [if_pos rfl];have hp1:H3 (Dc (q::rest) (i:Int)):=by
   rw [<-M6 e2];exact ON e4 (by rw [J7 e2];omega)
  rw [Lr _ q4,if_pos (by rw [q1,hc])] at hp1;have kl:=D3.1 hcab.led;have hnn:=cS rest i;have hl:CO ⟨(cbn h i).AM.Total,(cbn h i).AM.Co+(-1)*p.AY,(cbn h i).AM.Cp+1*p.AY,(cbn h i).AM.Dz+0*p.AY,(cbn h i).AM.EB+0*p.AY⟩=true:=by
   rw [D3];dsimp only;omega
  rw [Wk hcab.led (by omega) (by omega) (by omega) (by omega) (by omega) hl,k2,yB hp1];refine⟨?_,?_,hcab.total,?_,?_,hl,c1⟩
  .dsimp only;rw [k1,if_pos hc,NA _ _ _ (by omega)];refine IN (by simpa using ho.pid) fun x hx=>?_
   obtain⟨y,hy,he⟩:=HC hx;obtain⟨rfl,_⟩:=Dx he;simpa using ho.ne y hy
  .dsimp only;rw [Lr _ q4,if_pos (by rw [q1,hc])]
  .dsimp only;rw [PU _ q4 (by rw [q3];exact z1),if_pos (by rw [q1,hc]),q3];omega
  .dsimp only;rw [hcab.EY,t1];omega
 .rw [if_neg e];have e':¬q.AK=i:=by rw [q1,hc];omega
  rw [if_neg (by rw [<-q1];exact e')] at k1;refine⟨by rw [k1,NA _ _ _ (by omega)],by rw [k2,Lr _ q4,if_neg e'],hcab.total,by rw [k3,PU _ q4 (by rw [q3];exact z1),if_neg e'];omega,by rw [hcab.EY,t1],hcab.led,c1⟩
end Lv.P
namespace Lv.P
open Lv Go
theorem RH.sm{h:AA}(hR:RH h):Sm 1000 h:=by
 have hr:=BN hR.rules;have hn:=hR.B2;have hj:=hR.K8;refine⟨by omega,by have:=hR.Dm.few;omega,by omega,?_,by have:=vN (by omega) hR.todo;omega,by omega⟩;intro c hc;obtain⟨i,hi,rfl⟩:=List.mem_iff_getElem.1 hc;have hk:=hR.cab i hi;have hro:=hk.room;have h1:=M9 h.AG h.AB i h.Now;have hp:=ON hR.Dm (c:=i) (by omega);have hw:=P1 hp;refine⟨by rw [hk.row];omega,by rw [hk.Cw,RG];omega,by rw [hk.Cw];have:=hw.few;omega⟩
theorem RH.fit{h:AA}(hR:RH h):Ar h:=hR.sm.fit (by omega)
theorem RH.Q9{h:AA}(hR:RH h){q:AH}(hq:q∈h.AB):0<=CW h q.Id/\par h q.Id=q:=by
 have hpa:0<=CW h q.Id:=by
  unfold CW;rcases GS (fun x:AH=>x.Id==q.Id) h.AB 0 with ⟨_,_,h9⟩|⟨j,hj,h9,_⟩
  .have:=List.any_eq_false.1 h9 q hq;simp at this
  .omega
 have ho:=hR.one hpa;refine⟨hpa,?_⟩;rcases List.mem_cons.1 (ho.perm.subset hq) with h9|h9
 .exact h9.symm
 .exact absurd rfl (ho.ne q h9)
structure Kept(h g:AA):Prop where
 rules:g.AG=h.AG
 now:g.Now=h.Now
 Dt:g.AQ=h.AQ
 B2:g.AE.length=h.AE.length
 todo:g.AW=h.AW
 DJ:g.AS=h.AS
theorem Kept.refl(h:AA):Kept h h:=⟨rfl,rfl,rfl,rfl,rfl,rfl⟩
theorem Kept.trans{a b c:AA}(h:Kept a b)(g:Kept b c):Kept a c:=⟨g.rules.trans h.rules,g.now.trans h.now,g.Dt.trans h.Dt,g.B2.trans h.B2,g.todo.trans h.todo,g.DJ.trans h.DJ⟩
theorem Li(h:AA)(p:AH):Kept h (gone h p):=by
 unfold gone;dsimp only;split
 .exact⟨rfl,rfl,rfl,by simp [BG],rfl,rfl⟩
 .exact⟨rfl,rfl,rfl,rfl,rfl,rfl⟩
theorem YU(h:AA)(p:AH):Kept h (dropped h p):=⟨rfl,rfl,rfl,by simp [dropped,BG],rfl,rfl⟩
theorem JA(h:AA)(p:AH):Kept h (Er h p):=by
 unfold Er;split
 .exact⟨rfl,rfl,rfl,by simp [EU,NK,dropped,BG],rfl,rfl⟩
 .exact(YU h p).trans (Li _ _)
theorem JU(h:AA)(k id:Int):Kept h (D7 h k id):=⟨rfl,rfl,rfl,by simp [D7,NK,BG],rfl,rfl⟩
theorem nC{h:AA}{id:Int}{p:AH}{rest:List AH}(ho:One h id p rest){q:AH}(hq:q∈rest):q∈(Er h p).AB:=by
 unfold Er;split
 .rename_i hf;have e:(Cx h.AG p h.Now).1.Id=id:=by
   unfold Cx at hf ⊢;split at hf
   .rename_i g;rw [if_pos g];exact ho.pid
   .cases hf
  obtain⟨l,e1,e2,_⟩:=ho.set _ e;show q∈GH h.AB (Cx h.AG p h.Now).1;rw [e1];exact e2.symm.subset (List.mem_cons_of_mem _ hq)
 .have:(gone (dropped h p) p).AB=rest:=by
   rw [<-ho.cut,<-ho.pid];unfold gone;dsimp only;split <;> rfl
  rw [this];exact hq
noncomputable def I8:List Int->AA->AA
 | [],g=>g
 |id::l,g=>I8 l (Er g (par g id))
def mc(g:AA)(l:List Int):Prop:=l.Nodup/\∀id∈l,0<=CW g id/\(par g id).State=2
theorem Mp{g:AA}(hR:RH g){id:Int}{l:List Int}(hO:mc g (id::l)):RH (Er g (par g id))/\mc (Er g (par g id)) l/\Kept g (Er g (par g id)):=by
 obtain⟨h1,h2⟩:=hO;rw [List.nodup_cons] at h1;obtain⟨a1,a2⟩:=h2 id (List.mem_cons_self ..);have ho:=hR.one a1;have hR':=cB hR ho a2;refine⟨hR',⟨h1.2,?_⟩,JA _ _⟩;intro j hj;obtain⟨b1,b2⟩:=h2 j (List.mem_cons_of_mem _ hj);have hne:j≠id:=fun e=>h1.1 (e▸hj)
 have hoj:=hR.one b1;have hm:par g j∈g.AB.eraseP (fun x=>x.Id==id):=by
  rcases List.mem_cons.1 (ho.perm.subset hoj.mem) with h9|h9
  .exact absurd (by rw [<-hoj.pid,<-ho.pid,h9]) hne
  .exact h9
 have:=hR'.Q9 (nC ho hm);rw [hoj.pid] at this;exact⟨this.1,by rw [this.2];exact b2⟩
theorem I9:∀{l:List Int} {g:AA},RH g->mc g l->RH (I8 l g)/\Kept g (I8 l g)
 | [],g,hR,_=>⟨hR,Kept.refl g⟩
 |id::l,g,hR,hO=>by
  obtain⟨h1,h2,h3⟩:=Mp hR hO;obtain⟨h4,h5⟩:=I9 h1 h2;exact⟨h4,h3.trans h5⟩
noncomputable def HZ(h:AA)(k:Int):AA:=I8 (bt (cbn h k).BL h.Now) h
theorem N4{h:AA}(hR:RH h){k:Nat}(hk:k<h.AE.length):mc h (bt (cbn h k).BL h.Now)/\(bt (cbn h k).BL h.Now).length<=10:=by
 have hc:=hR.cb hk;have hr:=BN hR.rules;have hp:=ON hR.Dm (c:=k) (by have:=hc.room;omega);have e:bt (cbn h k).BL h.Now=(Dc h.AB k).filterMap fun p=>if p.At<=h.Now then some p.Id else none:=by
  unfold bt;rw [hc.Cw,fC hp]
 rw [e];refine⟨⟨?_,?_⟩,Nat.le_trans (List.length_filterMap_le _ _) hp.few⟩
 .show List.Pairwise _ _;rw [List.pairwise_filterMap];refine hp.ids.imp ?_;intro a b hne x hx y hy;split at hx <;> split at hy <;> simp_all
 .intro id hid;obtain⟨pin,hm,hx⟩:=List.mem_filterMap.1 hid;split at hx
  .obtain⟨p,hpm,hs⟩:=Ww hm;obtain⟨rfl,s2,_⟩:=Il hs;cases hx;obtain⟨b1,b2⟩:=hR.Q9 hpm;exact⟨b1,by rw [b2];exact s2⟩
  .cases hx
theorem zU{h:AA}(hR:RH h){id:Int}(h0:0<=CW h id):0<=(par h id).AK/\(par h id).AK<h.AE.length/\(par h id).Ay<h.AE.length:=by
 have:=(hR.one h0).size;have:=hR.B2;omega
theorem jS{h:AA}{id:Int}(h0:0<=CW h id):at? h.AB (CW h id)=some (par h id):=RR h0 (Lt h0).1
theorem VD{h:AA}(hR:RH h){k:Nat}(hk:k<h.AE.length):kL h k=some (HZ h k):=by
 obtain⟨hO,hl⟩:=N4 hR hk;unfold kL HZ;rw [eJ hR.fit (by omega) (by omega),AD];generalize bt (cbn h k).BL h.Now=D at *;refine(B8 (F:=R3 D) (n:=D.length) (fun i (v:AA)=>((i:Int),v)) (fun i v=>RH v/\mc v (D.drop i)) (fun i v=>some (I8 (D.drop i) v)) (by omega) ?_ (v:=h) ⟨hR,hO⟩);rintro L i v ⟨hv,ho⟩ hi ih;unfold R3 bI;dsimp only;rcases Nat.lt_or_ge i D.length with hlt|hge
 .rw [Ch hlt] at ho ⊢;have ha:=ho.2 D[i] (List.mem_cons_self ..);have hin:=zU hv ha.1;obtain⟨s1,s2,_⟩:=Mp hv ho;simp only [A4 hlt,BE,Af hlt,AD,C3 hv.fit,jS ha.1,Me (show 1000+2<=1048576 by omega) hv.sm hin.1 hin.2.1 hin.2.2,Av hlt (show D.length<2 ^ 63 by omega)];exact ih _ ⟨s1,s2⟩ hlt
 .obtain rfl:i=D.length:=by omega
  rw [A3,A9,AO,List.drop_length];rfl
theorem dN{h:AA}(hR:RH h){k:Nat}(hk:k<h.AE.length){id:Int}{rest:List AH}(ho:One h id (par h id) rest)(hs:(par h id).State=1)(hc:(par h id).AK=k):(cbn (D7 h k id) k).Row.length+1=(cbn h k).Row.length:=by
 unfold D7;rw [EO (by omega) (by show (k:Int)<(h.AE.length:Int);omega) (by omega),if_pos rfl];dsimp only;have:=(ho.cab hR hk).row;rw [Eo _ ho.okp hs,if_pos hc] at this;rw [this,IN (by simpa using ho.pid) fun x hx=>?_,GZ];obtain⟨y,hy,he⟩:=HC hx;obtain⟨rfl,_⟩:=Dx he;simpa using ho.ne y hy
theorem Vj{h:AA}(hR:RH h){k:Nat}(hk:k<h.AE.length):kg h k=some (if Ck h k=0 then (h,0) else (D7 h k (Ck h k),Ck h k))/\(Ck h k=0->kh h k=some ((),0)):=by
 have hf:=hR.fit;unfold kg kh;rw [Ze hf (by omega) (by omega),AD,AD,A7,A7];by_cases hz:Ck h k=0
 .rw [if_pos (by simpa using hz),if_pos hz,if_pos (by simpa using hz)];exact⟨rfl,fun _=>rfl⟩
 .refine⟨?_,fun h=>absurd h hz⟩;obtain⟨n1,n2,n3,n4,n5⟩:=UQ hR hk hz;have hc:=hf.B4 _ (Oy (k:=(k:Int)) (by omega) (by omega));rw [if_neg (by simpa using hz),if_neg hz];simp only [C3 hf,AD,jS n1,C5,Hy hf.BC,show at? h.AE (k:Int)=some (cbn h k) from FU (by omega) (by omega),VB,Ma hc.1,Hz hc.2];rfl
noncomputable def HI(k:Int):Nat->AA->List Int->AA×List Int
 |0,h,a=>(h,a)
 |n+1,h,a=>if Ck h k=0 then (h,a) else HI k n (D7 h k (Ck h k)) (a++[Ck h k])
theorem xl{k:Int}{h:AA}(hz:Ck h k=0)(a:List Int):∀n,HI k n h a=(h,a)
 |0=>rfl
 |n+1=>by unfold HI;rw [if_pos hz]
theorem M3{h:AA}(hR:RH h){k:Nat}(hk:k<h.AE.length)(hz:Ck h k≠0):RH (D7 h k (Ck h k))/\(cbn (D7 h k (Ck h k)) k).Row.length+1=(cbn h k).Row.length:=by
 obtain⟨n1,n2,n3,n4,n5⟩:=UQ hR hk hz;exact⟨iY hR hk (hR.one n1) n2 n3 n4,dN hR hk (hR.one n1) n2 n3⟩
theorem dw{k:Nat}:∀(n:Nat) {h:AA} (a:List Int),RH h->k<h.AE.length->RH (HI k n h a).1/\Kept h (HI k n h a).1/\(HI k n h a).2.length<=a.length+n
 |0,h,a,hR,_=>⟨hR,Kept.refl h,by unfold HI;simp⟩
 |n+1,h,a,hR,hk=>by
  unfold HI;split
  .exact⟨hR,Kept.refl h,by simp⟩
  .rename_i hz;have hs:=M3 hR hk hz;have hkp:=JU h k (Ck h k);obtain⟨h1,h2,h3⟩:=dw n (a++[Ck h k]) hs.1 (by rw [hkp.B2];exact hk);refine⟨h1,hkp.trans h2,?_⟩;rw [List.length_append,List.length_singleton] at h3;omega
noncomputable def ER(h:AA)(k:Int):AA×List Int:=HI k 10 (HZ h k) []
theorem mM{h:AA}(hR:RH h){k:Nat}(hk:k<h.AE.length):(cbn h k).Row.length<=10:=by
 have hc:=hR.cb hk;have hr:=BN hR.rules;have h1:=M9 h.AG h.AB k h.Now;have h2:=hc.room;rw [hc.row];omega
theorem sO{h:AA}{k:Int}(hz:Ck h k≠0):0<(cbn h k).Row.length:=by
 unfold Ck at hz;split at hz
 .exact absurd rfl hz
 .rename_i h0;obtain⟨_,hl,_⟩:=fR h0;omega
theorem ue{h:AA}(hR:RH h){k:Nat}(hk:k<h.AE.length):Ap (Nt k) big ([],h)=some (HI k 10 h []):=by
 have hlim:lim=268435456:=rfl;refine Wq (F:=Nt k) (fun x=>some (HI k (10-x.1.length) x.2 x.1)) (fun x=>RH x.2/\k<x.2.AE.length/\x.1.length+(cbn x.2 k).Row.length<=10) (fun x=>(cbn x.2 k).Row.length) ?_ (x:=([],h)) ⟨hR,hk,by have:=mM hR hk;simpa using this⟩ (by have:=mM hR hk;show (cbn h k).Row.length<_;omega);rintro L ⟨a,g⟩ ⟨hg,hkg,hlen⟩ ih;dsimp only at hg hkg hlen ih ⊢;unfold Nt;dsimp only;obtain⟨o1,o2⟩:=Vj hg hkg;rw [o1,AD];by_cases hz:Ck g k=0
 .rw [if_pos hz,o2 hz,AD,xl hz];simp only [beq_self_eq_true,BE,yT]
 .obtain⟨s1,s2⟩:=M3 hg hkg hz;have hpos:=sO hz;rw [if_neg hz];dsimp only;have hb:(Ck g k==0)=false:=by simpa using hz
  rw [hb,A9,BP (by simp only [List.length_cons,List.length_nil];omega),ih (a++[Ck g k],D7 g k (Ck g k)) ⟨s1,by rw [(JU g k _).B2];exact hkg,by simp only [List.length_append,List.length_cons,List.length_nil];omega⟩ (by dsimp only;omega),yU];congr 1;rw [show 10-a.length=(10-(a++[Ck g k]).length)+1 by simp only [List.length_append,List.length_cons,List.length_nil];omega]
  conv=>rhs;unfold HI
  rw [if_neg hz]
theorem NC{h:AA}(hR:RH h){k:Nat}(hk:k<h.AE.length):RH (ER h k).1/\Kept h (ER h k).1/\(ER h k).2.length<=10:=by
 obtain⟨e1,e2⟩:=I9 hR (N4 hR hk).1;obtain⟨s1,s2,s3⟩:=dw (k:=k) 10 [] e1 (by rw [e2.B2];exact hk);exact⟨s1,e2.trans s2,by simp only [List.length_nil,Nat.zero_add] at s3;exact s3⟩
theorem pc{h:AA}(hR:RH h){k:Nat}(hk:k<h.AE.length):kj h k=some (ER h k):=by
 have hf:=hR.fit;have hn:=hf.B2;obtain⟨e1,e2⟩:=I9 hR (N4 hR hk).1;unfold kj rE Rx;rw [Dv hf,AD,Jb hf,IT.2 hR,AD,BE,EG,AD,AO,AD,Ai (by omega) (by omega),BH.2 (by omega),Bg,BE,VD hR hk,AD];exact ue e1 (by rw [e2.B2];exact hk)
end Lv.P
namespace Lv.P
open Lv Go
theorem Cm{h:AA}{q:Aq}(hv:verdict h q=0):RH h:=by
 unfold verdict at hv;split at hv
 .rename_i hb;exact IT.1 hb
 .cases hv
theorem Ge{h:AA}{q:Aq}(hk:q.Kind=7)(hv:verdict h q=0):∃n:Nat,∃hn:n<h.AS.length,q.Id=(n:Int)/\¬(h.AS[n]<0/\h.AW.length=0):=by
 have hR:=Cm hv;unfold verdict at hv;rw [if_pos (IT.2 hR)] at hv;unfold Du at hv;split at hv
 .cases hv
 .split at hv
  .cases hv
  .rename_i ha;have ha':J4 q=true:=by simpa using ha
   have hi:0<=q.Id:=by
    unfold J4 at ha';rw [if_neg (by omega),if_pos (by omega)] at ha';simp only [Bool.and_eq_true,Mq,BH] at ha';exact ha'.1.1
   rw [if_neg (by omega),if_neg (by omega),if_neg (by omega),if_neg (by omega),if_neg (by omega)] at hv
   try rw [if_pos hk] at hv
   by_cases h1:h.AG.Cc<=q.Id
   .rw [if_pos h1] at hv;cases hv
   .rw [if_neg h1] at hv;obtain⟨n,hn⟩:=Int.eq_ofNat_of_zero_le hi;have hl:n<h.AS.length:=by have:=hR.K8;omega
    refine⟨n,hl,hn,?_⟩;rw [hn,Int.toNat_natCast,List.getD_eq_getElem?_getD,List.getElem?_eq_getElem hl,Option.getD_some] at hv;intro hc;rw [if_pos hc] at hv;cases hv
def HO(h:AA)(l:List Int):AA:=⟨h.AG,h.Now,h.AQ,h.AB,h.AE,h.AW,l⟩
noncomputable def LC(h:AA)(who:Int):AA×List Int:=
 if h.AS.getD who.toNat 0<0 then (HO (Bw h (h.AW.drop 1)) (h.AS.set who.toNat (h.AW.getD 0 0)),[])
 else (HO (ER h (h.AS.getD who.toNat 0)).1 ((ER h (h.AS.getD who.toNat 0)).1.AS.set who.toNat (-1)),(ER h (h.AS.getD who.toNat 0)).2)
noncomputable def MX(h:AA)(who:Int):AA×Int×List Int:=
 if verdict h ⟨7,who,0,0,0,0⟩≠0 then (h,verdict h ⟨7,who,0,0,0,0⟩,[]) else ((LC h who).1,0,(LC h who).2)
theorem RH.job{h:AA}(hR:RH h){n:Nat}(hn:n<h.AS.length)(h0:¬h.AS[n]<0):∃k:Nat,k<h.AE.length/\h.AS[n]=(k:Int):=by
 have:=List.all_eq_true.1 hR.DJ _ (List.getElem_mem hn);have hf:=hR.fit.B2;rw [BH,Ai (by omega) (by omega)] at this;obtain⟨k,hk⟩:=Int.eq_ofNat_of_zero_le (show 0<=h.AS[n] by omega);exact⟨k,by omega,hk⟩
theorem pb{h:AA}(hf:Ar h)(who:Int):km h who=some (MX h who)/\Ar (MX h who).1/\(MX h who).2.2.length<=10:=by
 have hlim:lim=268435456:=rfl;unfold km MX;rw [Dv hf,AD,C4 hf,AD];simp only [A7,bne_iff_ne,ne_eq];by_cases hv:verdict h ⟨7,who,0,0,0,0⟩=0
 .rw [if_neg (not_not_intro hv),if_neg (not_not_intro hv)];have hR:=Cm hv;obtain⟨n,hn,e,hno⟩:=Ge rfl hv;dsimp only at e;subst e;have eg:h.AS.getD n 0=h.AS[n]:=by rw [List.getD_eq_getElem?_getD,List.getElem?_eq_getElem hn];rfl
  unfold LC;rw [Af hn,AD,Int.toNat_natCast,eg];simp only [decide_eq_true_eq];by_cases h0:h.AS[n]<0
  .rw [if_pos h0,if_pos h0];have ht:0<h.AW.length:=by
    rcases Nat.eq_zero_or_pos h.AW.length with h9|h9
    .exact absurd ⟨h0,h9⟩ hno
    .exact h9
   have e0:h.AW.getD 0 0=h.AW[0]:=by rw [List.getD_eq_getElem?_getD,List.getElem?_eq_getElem ht];rfl
   have ht2:=hf.todo;have h3:(List.drop (Int.toNat 1) h.AW).length<=h.AW.length:=by rw [List.length_drop];omega
   rw [qO,List.getElem?_eq_getElem ht,AD,AD,AD,BP ⟨by omega,by omega⟩,BP (by omega),e0];exact⟨rfl,⟨hf.Cl,hf.BC,hf.B2,hf.B4,Nat.le_trans h3 ht2,by show (h.AS.set _ _).length<=_;rw [List.length_set];exact hf.DJ⟩,by simp⟩
  .rw [if_neg h0,if_neg h0];obtain⟨k,hk,ek⟩:=hR.job hn h0;obtain⟨s1,s2,s3⟩:=NC hR hk;rw [ek,pc hR hk,AD];have hn':n<(ER h k).1.AS.length:=by rw [s2.DJ];exact hn
   rw [Af hn',AD,AD];have hf':=s1.fit;exact⟨rfl,⟨hf'.Cl,hf'.BC,hf'.B2,hf'.B4,hf'.todo,by show ((ER h k).1.AS.set _ _).length<=_;rw [List.length_set];exact hf'.DJ⟩,s3⟩
 .rw [if_pos hv,if_pos hv];exact⟨rfl,hf,by simp⟩
noncomputable def doF(h:AA)(q:Aq):AA×A5:=
 if verdict h q≠0 then (h,⟨verdict h q,[]⟩)
 else if q.Kind=1 then ((QQ h q.Id q.AK q.Ay q.AY q.Bb).1,⟨(QQ h q.Id q.AK q.Ay q.AY q.Bb).2,[]⟩)
 else if q.Kind=2 then ((HT h q.Id).1,⟨(HT h q.Id).2,[]⟩)
 else if q.Kind=3 then ((QG h q.AK q.AY).1,⟨(QG h q.AK q.AY).2,[]⟩)
 else if q.Kind=4 then ((HR h q.Id).1,⟨(HR h q.Id).2,[]⟩)
 else if q.Kind=5 then ((Fz h q.Id).1,⟨(Fz h q.Id).2,[]⟩)
 else if q.Kind=6 then ((Qd h).1,⟨(Qd h).2,[]⟩)
 else ((MX h q.Id).1,⟨(MX h q.Id).2.1,(MX h q.Id).2.2⟩)
theorem RE{h:AA}(hf:Ar h)(q:Aq):MS h q=some (doF h q)/\Ar (doF h q).1/\(doF h q).2.Ids.length<=10:=by
 unfold MS doF Fy;rw [Dv hf,AD,C4 hf,AD];simp only [A7,bne_iff_ne,ne_eq,beq_iff_eq,AO];by_cases hv:verdict h q=0
 .have hR:=Cm hv;have hs:=hR.sm;have hn:=hR.B2;have hr:=BN hR.rules;rw [if_neg (not_not_intro hv),if_neg (not_not_intro hv)];by_cases k1:q.Kind=1
  .rw [if_pos k1,if_pos k1];have:=pZ (show 1000+3<=1048576 by omega) hs q.Id q.AK q.Ay q.AY q.Bb;rw [this.1,AD];exact⟨rfl,this.2.fit (by omega),by simp⟩
  .rw [if_neg k1,if_neg k1];by_cases k2:q.Kind=2
   .rw [if_pos k2,if_pos k2];have:=eG (show 1000+1<=1048576 by omega) hs q.Id;rw [this.1,AD];exact⟨rfl,this.2.fit (by omega),by simp⟩
   .rw [if_neg k2,if_neg k2];by_cases k3:q.Kind=3
    .rw [if_pos k3,if_pos k3];have:=U8 (show 1000+1<=1048576 by omega) hs q.AK q.AY;rw [this.1,AD];exact⟨rfl,this.2.fit (by omega),by simp⟩
    .rw [if_neg k3,if_neg k3];by_cases k4:q.Kind=4
     .rw [if_pos k4,if_pos k4];have:=eE (show 1000+1<=1048576 by omega) hs q.Id;rw [this.1,AD];exact⟨rfl,this.2.fit (by omega),by simp⟩
     .rw [if_neg k4,if_neg k4];by_cases k5:q.Kind=5
      .rw [if_pos k5,if_pos k5];have:=ZW (show 1000+3<=1048576 by omega) hs q.Id;rw [this.1,AD];exact⟨rfl,this.2.fit (by omega),by simp⟩
      .rw [if_neg k5,if_neg k5];by_cases k6:q.Kind=6
       .rw [if_pos k6,if_pos k6];have:=pd hs (show 1000+h.AE.length<=1048576 by omega);rw [this.1,AD];exact⟨rfl,this.2.fit (by omega),by simp⟩
       .rw [if_neg k6,if_neg k6];have:=pb hf q.Id;rw [this.1,AD];exact⟨rfl,this.2.1,this.2.2⟩
 .rw [if_pos hv,if_pos hv];exact⟨rfl,hf,by simp⟩
noncomputable def CS:List Aq->AA->AA×List A5
 | [],h=>(h,[])
 |q::l,h=>((CS l (doF h q).1).1,(doF h q).2::(CS l (doF h q).1).2)
theorem PH:∀(l:List Aq) {h:AA},Ar h->Ar (CS l h).1/\(CS l h).2.length=l.length/\∀r∈(CS l h).2,r.Ids.length<=10
 | [],h,hf=>⟨hf,rfl,by simp [CS]⟩
 |q::l,h,hf=>by
  have hd:=RE hf q;obtain⟨h1,h2,h3⟩:=PH l hd.2.1;refine⟨h1,by simp [CS,h2],?_⟩;intro r hr;simp only [CS] at hr;rcases List.mem_cons.1 hr with rfl|hr
  .exact hd.2.2
  .exact h3 r hr
theorem U7{h:AA}(hf:Ar h){l:List Aq}(hl:l.length<=1048576):bT h l=some (CS l h):=by
 have hlim:lim=268435456:=rfl;unfold bT;rw [Dv hf,AD];refine(B8 (F:=SL l) (n:=l.length) (fun i (v:List A5×AA)=>(v.1,(i:Int),v.2)) (fun i v=>Ar v.2/\v.1.length=i) (fun i v=>some ((CS (l.drop i) v.2).1,v.1++(CS (l.drop i) v.2).2)) (by omega) ?_ (v:=([],h)) ⟨hf,rfl⟩).trans ?_
 .rintro L i ⟨a,g⟩ ⟨hg,ha⟩ hi ih;dsimp only at hg ha ih ⊢;unfold SL bU;dsimp only;rcases Nat.lt_or_ge i l.length with hlt|hge
  .have hd:=RE hg l[i];rw [Ch hlt];simp only [A4 hlt,BE,Af hlt,AD,hd.1,Zm,Zn,Av hlt (show l.length<2 ^ 63 by omega)];rw [BP (by simp only [List.length_cons,List.length_nil];omega)];have:=ih (a++[(doF g l[i]).2],(doF g l[i]).1) ⟨hd.2.1,by simp [ha]⟩ hlt;dsimp only at this;rw [this];simp only [CS,List.append_assoc,List.singleton_append]
  .obtain rfl:i=l.length:=by omega
   rw [A3,A9,AO,List.drop_length];simp [CS]
 .simp
end Lv.P
