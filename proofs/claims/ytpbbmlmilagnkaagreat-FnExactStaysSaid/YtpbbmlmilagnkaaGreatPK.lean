/-
  Plain laws: a right house stays right: offers that end, parties that go.
-/
import Derived.Test.YtpbbmlmilagnkaaGreatPJ
noncomputable section
set_option linter.unusedVariables false
set_option linter.unusedSimpArgs false
set_option linter.unusedSectionVars false
open Bool renaming and_eq_true->AD
open Int renaming toNat_natCast->AX,zero_add->Fx
open List renaming getD_eq_getElem?_getD->A6,getElem?_eq_getElem->AU,getElem_mem->Am,length_append->BM,length_cons->Ao,length_filterMap_le->Fm,length_nil->Ad,length_set->Bm,mem_cons->Ac,mem_cons_self->BG
open Nat renaming le_trans->A9,lt_or_ge->Aj
namespace Lv.P
open Lv Go
structure Om(r:AV)(ps qs:List AJ)(now:Int)(i:Nat)(c:AS):Prop where
 row:c.Row=De r ps i now
 Ft:c.BO=wOf (GG ps i)
 total:c.AR.Total=r.AR.getD i 0
 held:c.AR.Dd=Im ps i
 IG:c.AR.ET=IW qs i
 led:DD c.AR=true
 room:Cr ps i<=r.Room
theorem Om.full{r:AV}{ps:List AJ}{now:Int}{i:Nat}{c:AS}(h:Om r ps ps now i c):VE r ps now i c:=⟨h.row,h.Ft,h.total,h.held,h.IG,h.led,h.room⟩
theorem VE.half{r:AV}{ps:List AJ}{now:Int}{i:Nat}{c:AS}(h:VE r ps now i c):Om r ps ps now i c:=⟨h.row,h.Ft,h.total,h.held,h.IG,h.led,h.room⟩
theorem Om.perm{r:AV}{ps qs ps' qs':List AJ}{now:Int}{i:Nat}{c:AS}(h:Om r ps qs now i c)(hu:Uni ps)(hp:ps.Perm ps')(hq:qs.Perm qs'):Om r ps' qs' now i c:=
 ⟨by rw[h.row,yE hu hp],by rw[h.Ft,Rv hp],h.total,by rw[h.held,ABs hp],by rw[h.IG,ADD hq],h.led,by rw[<-O2 hp];exact h.room⟩
theorem H2{h:AE}{k j:Int}{c:AS}(h0:0<=k)(h1:k<h.AH.length)(j0:0<=j):cbn (CQ h k c) j=if j=k then c else cbn h j:=by
 grind[cbn,CQ]
theorem ADi{h:AE}{i:Nat}(hi:i<h.AH.length):cbn h i=h.AH[i]:=by
 unfold cbn;rw[AX,A6,AU hi];rfl
theorem RH.cb{h:AE}(hR:RH h){i:Nat}(hi:i<h.AH.length):VE h.AO h.AG h.Now i (cbn h i):=by
 rw[ADi hi];exact hR.cab i hi
theorem RH.mk'{h:AE}(rules:GI h.AO=true)(now:0<=h.Now/\h.Now<=1000000)(HT:1<=h.Ai/\h.Ai<=1000001)(D7:h.AH.length=h.AO.AR.length)(IX:On h.AO h.Now h.Ai h.AG)
 (cab:∀i:Nat,i<h.AH.length->VE h.AO h.AG h.Now i (cbn h i)) (todo:Hw h.A0 h.AH.length=true) (FL:Jg h.Ay h.AH.length=true) (Qq:(h.Ay.length:Int)=h.AO.Cu):RH h:=
 ⟨rules,now,HT,D7,IX,fun i hi=>by rw[<-ADi hi];exact cab i hi,todo,FL,Qq⟩
structure One(h:AE)(id:Int)(p:AJ)(rest:List AJ):Prop where
 perm:h.AG.Perm (p::rest)
 sub:rest.Sublist h.AG
 okp:DC h.AO p h.Now=true
 pid:p.Id=id
 mem:p∈h.AG
 ne:∀q∈rest,q.Id≠id
 set:∀q:AJ,q.Id=id->∃l,Iu h.AG q=l/\l.Perm (q::rest)/\(q.Ai=p.Ai->q.Since=p.Since->DC h.AO q h.Now=true->On h.AO h.Now h.Ai l)
 cut:h.AG.eraseP (fun x=>x.Id==id)=rest
theorem RH.one{h:AE}(hR:RH h){id:Int}(h0:0<=Ep h id):One h id (par h id) (h.AG.eraseP fun x=>x.Id==id):=by
 obtain⟨k,hk,e1,e2,e3,e4⟩:=AS7 h0;have hm:h.AG[k]∈h.AG:=Am hk;have hp:h.AG.Perm (par h id::h.AG.eraseP fun x=>x.Id==id):=by rw[e2];exact zY hk e4
 refine⟨hp,List.eraseP_sublist,by rw[e2];exact(hR.IX.par _ hm).1,e3,by rw[e2];exact hm,?_,?_,rfl⟩
 .have:=(hR.IX.uni.perm hp).id
  grind[List.pairwise_cons]
 .intro q hq;refine⟨h.AG.set k q,?_,set_perm hk e4 q,?_⟩
  .unfold Iu;unfold Ep at e1;rw[hq,e1,if_pos (by omega),AX]
  .intro h1 h2 h3;refine hR.IX.set hk ?_ ?_ ?_ h3
   .rw[<-e2,e3,hq]
   .rw[<-e2,h1]
   .rw[<-e2,h2]
theorem One.size{h:AE}{id:Int}{p:AJ}{rest:List AJ}(ho:One h id p rest):(1<=p.A1/\p.A1<=6)/\(0<=p.AT/\p.AT<h.AO.AR.length)/\(-1<=p.BQ/\p.BQ<h.AO.AR.length)/\p.BQ≠p.AT:=by
 have hk:=E5 ho.okp;have hr:=Cb hk.1;omega
def AR9(h:AE)(p:AJ)(rest:List AJ)(g:AE):Prop:=∀i:Nat,i<h.AH.length->Om h.AO rest (p::rest) h.Now i (cbn g i)
theorem AHx{r:AV}{p:AJ}{rest:List AJ}{now:Int}{i:Nat}(hs:1<=p.A1/\p.A1<=6)(hc:p.AT≠i){c:AS}(h:VE r (p::rest) now i c):Om r rest (p::rest) now i c:=by
 have e1:MH r i now p=none:=by
  grind[MH,HP]
 have e2:OK i p=none:=by
  grind[OK,NK]
 have e3:UE i p=0:=by unfold UE;simp[hc]
 have h1:=h.row;have h2:=h.Ft;have h3:=h.held;have h4:=h.room;rw[Pp,e1]at h1;rw[Ru,e2]at h2;rw[Kz,e3,Fx]at h3;rw[G7,if_neg hc,Fx]at h4;exact⟨h1,h2,h.total,h3,h.IG,h.led,h4⟩
section
variable{h:AE}(hR:RH h){id:Int}{p:AJ}{rest:List AJ}(ho:One h id p rest)
include hR ho
theorem One.cab{i:Nat}(hi:i<h.AH.length):VE h.AO (p::rest) h.Now i (cbn h i):=((hR.cb hi).half.perm hR.IX.uni ho.perm ho.perm).full
theorem One.uni:Uni (p::rest):=hR.IX.uni.perm ho.perm
theorem One.room{i:Nat}(hi:i<h.AH.length):Cr (p::rest) i<=10:=by
 have:=(ho.cab hR hi).room;have:=Cb hR.rules;omega
theorem One.pins{i:Nat}(hi:i<h.AH.length):MP (GG (p::rest) i):=by
 rw[<-Rv ho.perm];exact Ue hR.IX (by rw[O2 ho.perm];exact ho.room hR hi)
theorem pQ(hs:p.State=2){a c:Int}(ha:a=0/\c=1\/a=1/\c=0) :
 AR9 h p rest (CQ h p.AT ⟨(l8 (cbn h p.AT).AR p.A1 a (-1) c 0).1,(cbn h p.AT).Row,(Qs (cbn h p.AT).BO ⟨p.CB,p.Id⟩).1⟩):=by
 intro i hi;obtain⟨z1,z2,z3,z4⟩:=ho.size;have hn:=hR.D7;rw[H2 z2.1 (by omega) (by omega)];by_cases e:(i:Int)=p.AT
 .rw[if_pos e,<-e];have hc:=ho.cab hR hi;have hp:=ho.pins hR hi;have k1:=hc.row;have k2:=hc.Ft;have k3:=hc.held;have k4:=hc.room;have k5:=hc.led;rw[Ry _ _ _ (by omega)]at k1;rw[QO _ hs,if_pos e.symm]at k2 hp;rw[WC _ hs z1,if_pos e.symm]at k3;rw[G7,if_pos e.symm]at k4;have hnn:=xK rest i;have kl:=F5.1 k5;have hl:DD ⟨(cbn h i).AR.Total,(cbn h i).AR.DJ+a*p.A1,(cbn h i).AR.Dd+(-1)*p.A1,(cbn h i).AR.EK+c*p.A1,(cbn h i).AR.ET+0*p.A1⟩=true:=by
   grind[F5]
  rw[AGM k5 (by omega) (by omega) (by omega) (by omega) (by omega) hl,k2,ARX hp];refine⟨k1,rfl,hc.total,?_,?_,hl,?_⟩
  .dsimp only;omega
  .dsimp only;rw[hc.IG];omega
  .omega
 .rw[if_neg e];exact AHx z1 (Ne.symm e) (ho.cab hR hi)
theorem AQo{g:AE}(hg:AR9 h p rest g)(h1:g.AO=h.AO)(h2:g.Now=h.Now)(h3:g.Ai=h.Ai)(h4:g.AG=h.AG)(h5:g.AH.length=h.AH.length)
 (h6:Hw g.A0 h.AH.length=true) (h7:g.Ay=h.Ay):RH (gone g p):=by
 obtain⟨z1,z2,z3,z4⟩:=ho.size;have hn:=hR.D7;have hcut:g.AG.eraseP (fun x=>x.Id==p.Id)=rest:=by rw[h4,ho.pid,ho.cut]
 have hpar:On h.AO h.Now h.Ai rest:=hR.IX.sub ho.sub;unfold gone;dsimp only;rw[hcut];split
 .rename_i f0;refine RH.mk' (by show GI g.AO=true;rw[h1];exact hR.rules) (by show 0<=g.Now/\_;rw[h2];exact hR.now) (by show 1<=g.Ai/\_;rw[h3];exact hR.HT) (by simp[CQ,h5,h1,hn]) (by show On g.AO g.Now g.Ai rest;rw[h1,h2,h3];exact hpar) ?_
   (by simpa[CQ,h5] using h6) (by simpa[CQ,h5,h7] using hR.FL) (by show (g.Ay.length:Int)=g.AO.Cu;rw[h7,h1];exact hR.Qq)
  intro i hi;have hi':i<h.AH.length:=by simpa[CQ,h5] using hi
  rw[H2 f0 (by show p.BQ<(g.AH.length:Int);omega) (by omega)];show VE g.AO rest g.Now i _;rw[h1,h2];have hc:=hg i hi';have k:=hc.IG;rw[HS _ z1]at k;by_cases e:(i:Int)=p.BQ
  .rw[if_pos e,<-e];rw[if_pos e.symm]at k;have kl:=F5.1 hc.led;have hnn:=APg rest i;have hl:DD ⟨(cbn g i).AR.Total,(cbn g i).AR.DJ+0*p.A1,(cbn g i).AR.Dd+0*p.A1,(cbn g i).AR.EK+0*p.A1,(cbn g i).AR.ET+(-1)*p.A1⟩=true:=by
    rw[F5];dsimp only;omega
   rw[AGM hc.led (by omega) (by omega) (by omega) (by omega) (by omega) hl];refine⟨hc.row,hc.Ft,hc.total,?_,?_,hl,hc.room⟩
   .dsimp only;rw[hc.held];omega
   .dsimp only;omega
  .rw[if_neg e];rw[if_neg (Ne.symm e),Fx]at k;exact⟨hc.row,hc.Ft,hc.total,hc.held,k,hc.led,hc.room⟩
 .rename_i f0;refine RH.mk' (by show GI g.AO=true;rw[h1];exact hR.rules) (by show 0<=g.Now/\_;rw[h2];exact hR.now) (by show 1<=g.Ai/\_;rw[h3];exact hR.HT) (by show g.AH.length=g.AO.AR.length;rw[h5,h1,hn]) (by show On g.AO g.Now g.Ai rest;rw[h1,h2,h3];exact hpar) ?_
   (by show Hw g.A0 g.AH.length=true;rw[h5];exact h6) (by show Jg g.Ay g.AH.length=true;rw[h5,h7];exact hR.FL) (by show (g.Ay.length:Int)=g.AO.Cu;rw[h7,h1];exact hR.Qq)
  intro i hi;have hi':i<h.AH.length:=by rw[<-h5];exact hi
  show VE g.AO rest g.Now i (cbn g i);rw[h1,h2];have hc:=hg i hi';have k:=hc.IG;rw[HS _ z1,if_neg (by omega),Fx]at k;exact⟨hc.row,hc.Ft,hc.total,hc.held,k,hc.led,hc.room⟩
theorem cZ(hs:p.State=2):RH (Gu h p):=by
 obtain⟨z1,z2,z3,z4⟩:=ho.size;have hn:=hR.D7;have hd:AR9 h p rest (dropped h p):=pQ hR ho hs (.inr ⟨rfl,rfl⟩);have hlen:(dropped h p).AH.length=h.AH.length:=by simp[dropped,CQ]
 unfold Gu;split
 .rename_i hf;have hf':=hf;unfold Ds at hf';by_cases hc:DC h.AO p h.Now=true/\p.State=2/\w64 (p.CX+1)<h.AO.Cc
  .have hk:=E5 ho.okp;have hr:=Cb hR.rules;have hq:(Ds h.AO p h.Now).1=⟨p.Id,p.AT,p.BQ,p.A1,p.CT,p.Since,p.Ai,1,w64 (h.Now+h.AO.Rest),w64 (p.CX+1)⟩:=by unfold Ds;rw[if_pos hc]
   rw[hq];have ew:w64 (h.Now+h.AO.Rest)=h.Now+h.AO.Rest:=BP (by omega) (by omega);have ea:w64 (p.CX+1)=p.CX+1:=BP (by omega) (by omega);rw[ew,ea];have hc3:=hc.2.2;rw[ea]at hc3;have hpb:DC h.AO ⟨p.Id,p.AT,p.BQ,p.A1,p.CT,p.Since,p.Ai,1,h.Now+h.AO.Rest,p.CX+1⟩ h.Now=true:=by
    grind[DC,CI,Bool.not_eq_true',beq_eq_false_iff_ne,BP]
   obtain⟨l,e1,e2,e3⟩:=ho.set ⟨p.Id,p.AT,p.BQ,p.A1,p.CT,p.Since,p.Ai,1,h.Now+h.AO.Rest,p.CX+1⟩ ho.pid;rw[e1];have e4:=e3 rfl rfl hpb;generalize hQ:(⟨p.Id,p.AT,p.BQ,p.A1,p.CT,p.Since,p.Ai,1,h.Now+h.AO.Rest,p.CX+1⟩:AJ)=q at *;have q1:q.AT=p.AT:=by rw[<-hQ]
   have q2:q.BQ=p.BQ:=by rw[<-hQ]
   have q3:q.A1=p.A1:=by rw[<-hQ]
   have q4:q.State=1:=by rw[<-hQ]
   unfold FR;refine RH.mk' hR.rules hR.now hR.HT (by show ((dropped h p).AH.set _ _).length=_;rw[Bm,hlen];exact hn) e4 ?_ (by show Hw h.A0 (((dropped h p).AH.set _ _).length:Nat)=true;rw[Bm,hlen];exact hR.todo) (by show Jg h.Ay (((dropped h p).AH.set _ _).length:Nat)=true;rw[Bm,hlen];exact hR.FL) hR.Qq;intro i hi;have hi':i<h.AH.length:=by have:i<((dropped h p).AH.set q.AT.toNat _).length:=hi;rw[Bm,hlen]at this;exact this
   rw[H2 (by rw[q1];exact z2.1) (by rw[q1];show p.AT<((dropped h p).AH.length:Int);omega) (by omega)];show VE h.AO l h.Now i (if _ then (⟨(cbn (dropped h p) q.AT).AR,put ltE (D4 h.AO q h.Now).1 (cbn (dropped h p) q.AT).Row,(cbn (dropped h p) q.AT).BO⟩:AS) else cbn (dropped h p) i);have hc':=hd i hi';have hu:=e4.uni;have t1:IW (p::rest) i=IW (q::rest) i:=by rw[HS _ z1,HS _ (by rw[q3];exact z1),q2,q3]
   have c1:Cr (q::rest) i<=h.AO.Room:=by
    have:=(ho.cab hR hi').room;rw[G7]at this ⊢;rw[q1];exact this
   refine Om.full (Om.perm ?_ (hu.perm e2) e2.symm e2.symm);by_cases e:(i:Int)=q.AT
   .rw[if_pos e,<-e];refine⟨?_,?_,hc'.total,?_,by dsimp only;rw[hc'.IG,t1],hc'.led,c1⟩
    .dsimp only;rw[JJ _ hpb q4,if_pos e.symm,Nt hpb q4,hc'.row]
    .dsimp only;rw[NJ _ (by omega),hc'.Ft]
    .dsimp only;rw[M0 _ (by omega),hc'.held]
   .rw[if_neg e];refine⟨?_,?_,hc'.total,?_,by rw[hc'.IG,t1],hc'.led,c1⟩
    .rw[JJ _ hpb q4,if_neg (Ne.symm e),hc'.row]
    .rw[NJ _ (by omega),hc'.Ft]
    .rw[M0 _ (by omega),hc'.held]
  .rw[if_neg hc]at hf';cases hf'
 .exact AQo hR ho hd rfl rfl rfl rfl hlen hR.todo rfl
end
end Lv.P
namespace Lv.P
open Lv Go
def Um(p:AJ)(now:Int):Bool:=p.State==1&&decide (p.CB>now)
def gM(h:AE):List Int:=h.AG.filterMap fun p=>if Um p h.Now=true then some p.Id else none
def xA(free:Int)(skip:List Int)(e:AQ):Bool:=decide (e.A1<=free)&&!(skip.any fun y=>y==e.Id)
def Q7(h:AE)(k:Int):Int:=atF (xA (cbn h k).AR.DJ (gM h)) (cbn h k).Row 0
def AQd:AQ:=⟨0,0,0,0⟩
def D2(h:AE)(k:Int):Int:=if Q7 h k<0 then 0 else ((cbn h k).Row.getD (Q7 h k).toNat AQd).Id
theorem qQ(p:AJ)(now:Int):AFB p now=some (Um p now):=by
 unfold AFB bG Um;rw[AW,AW,B7]
theorem ik{l:List AQ}(hl:l.length<=1048576){skip:List Int}(hs:skip.length<=1048576)(free:Int):va l free skip=some (atF (xA free skip) l 0):=by
 unfold va;refine NX (by omega) ?_ ?_
 .intro L i h;unfold bI bH xA;rw[A3 h,BW];simp only[A5 h,AF,SD (show skip.length<2 ^ 62 by omega),AW];by_cases h1:l[i].A1<=free
  .simp only[h1,decide_true,BW,Bool.true_and]
  .simp only[h1,decide_false,BV,Bool.false_and]
 grind[bI,vd,BV,AW]
theorem mW{l:List AQ}{p:AQ->Bool}(h0:¬atF p l 0<0):at? l (atF p l 0)=some (l.getD (atF p l 0).toNat AQd)/\∃hk:(atF p l 0).toNat<l.length,p l[(atF p l 0).toNat]=true/\l.getD (atF p l 0).toNat AQd=l[(atF p l 0).toNat]:=by
 grind[HL,Int.toNat_natCast,A5,List.getElem?_eq_getElem]
theorem qU{h:AE}(hh:Ba h){k:Int}(h0:0<=k)(h1:k<h.AH.length):ve h k=some (D2 h k):=by
 have hlim:lim=268435456:=rfl;have hp:=hh.Bv;have hs:(gM h).length<=1048576:=A9 (Fm _ _) hp;have hc:=(hh.C4 _ (RO h0 h1)).1;unfold ve;rw[collect (l:=h.AG) (fun p=>if Um p h.Now=true then some p.Id else none) (bK h k) hp ?_ ?_]
 .grind[bK,at?,cbn,EW,AF,va,gM,ik,Q7,D2,Bl,mW]
 .grind[bL,bJ,A3,BW,A5,AF,qQ,B5,AW,DB,lim,KK]
 grind[bL,BV,AW]
def AS2(h:AE)(p:AJ):AJ:=⟨p.Id,p.AT,p.BQ,p.A1,p.CT,p.Since,p.Ai,2,w64 (h.Now+h.AO.Bq),p.CX⟩
def Gz(h:AE)(k id:Int):AE:=
 CQ (LI h (Iu h.AG (AS2 h (par h id)))) k ⟨(l8 (cbn h k).AR (par h id).A1 (-1) 1 0 0).1,(cbn h k).Row.eraseP (fun x=>x.Id==id),(SN (cbn h k).BO ⟨w64 (h.Now+h.AO.Bq),id⟩).1⟩
theorem fF{h:AE}(hR:RH h){k:Nat}(hk:k<h.AH.length)(hn:D2 h k≠0):0<=Ep h (D2 h k)/\(par h (D2 h k)).State=1/\(par h (D2 h k)).AT=k/\(par h (D2 h k)).A1<=(cbn h k).AR.DJ/\Um (par h (D2 h k)) h.Now=false:=by
 unfold D2 at hn ⊢;by_cases h0:Q7 h k<0
 .rw[if_pos h0]at hn;exact absurd rfl hn
 .rw[if_neg h0]at hn ⊢;obtain⟨_,hl,h2,h3⟩:=mW h0;have hc:=hR.cb hk;have h3':(cbn h k).Row.getD (Q7 h k).toNat AQd=(cbn h k).Row[(Q7 h k).toNat]'hl:=h3;rw[h3'];have hm:(cbn h k).Row[(Q7 h k).toNat]'hl∈De h.AO h.AG k h.Now:=by rw[<-hc.row];exact Am _
  obtain⟨p,hp,he⟩:=OO hm;obtain⟨e1,e2,e3,e4⟩:=HP he;have h2':xA (cbn h k).AR.DJ (gM h) ((cbn h k).Row[(Q7 h k).toNat]'hl)=true:=h2;unfold xA at h2';rw[AD,decide_eq_true_iff]at h2';generalize (cbn h k).Row[(Q7 h k).toNat]'hl=e at *;subst e1;dsimp only at h2' ⊢;have hpa:0<=Ep h p.Id:=by
   grind[Ep,HL,AJ,List.any_eq_false]
  have ho:=hR.one hpa;have hpe:par h p.Id=p:=by
   rcases Ac.1 (ho.perm.subset hp) with h9|h9
   .exact h9.symm
   .exact absurd rfl (ho.ne p h9)
  rw[hpe]
  grind[Bool.not_eq_true',List.any_eq_false,Um,gM]
theorem ACZ{h:AE}(hR:RH h){k:Nat}(hk:k<h.AH.length){id:Int}{rest:List AJ}(ho:One h id (par h id) rest)(hs:(par h id).State=1)(hc:(par h id).AT=k)(hf:(par h id).A1<=(cbn h k).AR.DJ):RH (Gz h k id):=by
 obtain⟨z1,z2,z3,z4⟩:=ho.size;have hn:=hR.D7;have hr:=Cb hR.rules;have hnow:=hR.now;have ew:w64 (h.Now+h.AO.Bq)=h.Now+h.AO.Bq:=BP (by omega) (by omega);unfold Gz;generalize hP:par h id=p at *;have hq:AS2 h p=⟨p.Id,p.AT,p.BQ,p.A1,p.CT,p.Since,p.Ai,2,h.Now+h.AO.Bq,p.CX⟩:=by unfold AS2;rw[ew]
 rw[hq,ew];have hpb:DC h.AO ⟨p.Id,p.AT,p.BQ,p.A1,p.CT,p.Since,p.Ai,2,h.Now+h.AO.Bq,p.CX⟩ h.Now=true:=by
  have:=ho.okp
  grind[DC,CI,Bool.not_eq_true',beq_eq_false_iff_ne]
 obtain⟨l,e1,e2,e3⟩:=ho.set ⟨p.Id,p.AT,p.BQ,p.A1,p.CT,p.Since,p.Ai,2,h.Now+h.AO.Bq,p.CX⟩ ho.pid;rw[e1];have e4:=e3 rfl rfl hpb;have q5:(⟨h.Now+h.AO.Bq,id⟩:AY)=⟨(⟨p.Id,p.AT,p.BQ,p.A1,p.CT,p.Since,p.Ai,2,h.Now+h.AO.Bq,p.CX⟩:AJ).CB,(⟨p.Id,p.AT,p.BQ,p.A1,p.CT,p.Since,p.Ai,2,h.Now+h.AO.Bq,p.CX⟩:AJ).Id⟩:=by rw[<-ho.pid]
 rw[q5];generalize hQ:(⟨p.Id,p.AT,p.BQ,p.A1,p.CT,p.Since,p.Ai,2,h.Now+h.AO.Bq,p.CX⟩:AJ)=q at *;have q1:q.AT=p.AT:=by rw[<-hQ]
 have q2:q.BQ=p.BQ:=by rw[<-hQ]
 have q3:q.A1=p.A1:=by rw[<-hQ]
 have q4:q.State=2:=by rw[<-hQ]
 have hu:=e4.uni;refine RH.mk' hR.rules hR.now hR.HT (by show (h.AH.set _ _).length=_;rw[Bm];exact hn) e4 ?_ (by show Hw h.A0 ((h.AH.set _ _).length:Nat)=true;rw[Bm];exact hR.todo) (by show Jg h.Ay ((h.AH.set _ _).length:Nat)=true;rw[Bm];exact hR.FL) hR.Qq;intro i hi;have hi':i<h.AH.length:=by have:i<(h.AH.set (k:Int).toNat _).length:=hi;rw[Bm]at this;exact this
 rw[H2 (by omega) (by show (k:Int)<(h.AH.length:Int);omega) (by omega)];show VE h.AO l h.Now i (if (i:Int)=k then (⟨_,_,_⟩:AS) else cbn h i);have hcab:=ho.cab hR hi';have t1:IW (p::rest) i=IW (q::rest) i:=by rw[HS _ z1,HS _ (by rw[q3];exact z1),q2,q3]
 have c1:Cr (q::rest) i<=h.AO.Room:=by
  have:=hcab.room;rw[G7]at this ⊢;rw[q1];exact this
 refine Om.full (Om.perm ?_ (hu.perm e2) e2.symm e2.symm);have k1:=hcab.row;have k2:=hcab.Ft;have k3:=hcab.held;rw[JJ _ ho.okp hs]at k1;rw[NJ _ (by omega)]at k2;rw[M0 _ (by omega)]at k3;by_cases e:(i:Int)=k
 .obtain rfl:i=k:=by omega
  rw[if_pos rfl];have hp1:MP (GG (q::rest) (i:Int)):=by
   rw[<-Rv e2];exact Ue e4 (by rw[O2 e2];omega)
  rw[QO _ q4,if_pos (by rw[q1,hc])]at hp1;have kl:=F5.1 hcab.led;have hnn:=xK rest i;have hl:DD ⟨(cbn h i).AR.Total,(cbn h i).AR.DJ+(-1)*p.A1,(cbn h i).AR.Dd+1*p.A1,(cbn h i).AR.EK+0*p.A1,(cbn h i).AR.ET+0*p.A1⟩=true:=by
   rw[F5];dsimp only;omega
  rw[AGM hcab.led (by omega) (by omega) (by omega) (by omega) (by omega) hl,k2,ARY hp1];refine⟨?_,?_,hcab.total,?_,?_,hl,c1⟩
  .dsimp only;rw[k1,if_pos hc,Ry _ _ _ (by omega)];refine QD (by simpa using ho.pid) fun x hx=>?_
   obtain⟨y,hy,he⟩:=OO hx;obtain⟨rfl,_⟩:=HP he;simpa using ho.ne y hy
  .dsimp only;rw[QO _ q4,if_pos (by rw[q1,hc])]
  .dsimp only;rw[WC _ q4 (by rw[q3];exact z1),if_pos (by rw[q1,hc]),q3];omega
  .dsimp only;rw[hcab.IG,t1];omega
 .rw[if_neg e];have e':¬q.AT=i:=by rw[q1,hc];omega
  rw[if_neg (by rw[<-q1];exact e')]at k1;refine⟨by rw[k1,Ry _ _ _ (by omega)],by rw[k2,QO _ q4,if_neg e'],hcab.total,by rw[k3,WC _ q4 (by rw[q3];exact z1),if_neg e'];omega,by rw[hcab.IG,t1],hcab.led,c1⟩
end Lv.P
namespace Lv.P
open Lv Go
theorem RH.sm{h:AE}(hR:RH h):Sm 1000 h:=by
 have hr:=Cb hR.rules;have hn:=hR.D7;have hj:=hR.Qq;refine⟨by omega,by have:=hR.IX.few;omega,by omega,?_,by have:=APl (by omega) hR.todo;omega,by omega⟩;intro c hc;obtain⟨i,hi,rfl⟩:=List.mem_iff_getElem.1 hc;have hk:=hR.cab i hi;have hro:=hk.room;have h1:=ON h.AO h.AG i h.Now;have hp:=Ue hR.IX (c:=i) (by omega);have hw:=iC hp;refine⟨by rw[hk.row];omega,by rw[hk.Ft,YI];omega,by rw[hk.Ft];have:=hw.few;omega⟩
theorem RH.fit{h:AE}(hR:RH h):Ba h:=hR.sm.fit (by omega)
theorem RH.o8{h:AE}(hR:RH h){q:AJ}(hq:q∈h.AG):0<=Ep h q.Id/\par h q.Id=q:=by
 have hpa:0<=Ep h q.Id:=by
  grind[Ep,HL,AJ,List.any_eq_false]
 have ho:=hR.one hpa;refine⟨hpa,?_⟩;rcases Ac.1 (ho.perm.subset hq) with h9|h9
 .exact h9.symm
 .exact absurd rfl (ho.ne q h9)
structure Kept(h g:AE):Prop where
 rules:g.AO=h.AO
 now:g.Now=h.Now
 HT:g.Ai=h.Ai
 D7:g.AH.length=h.AH.length
 todo:g.A0=h.A0
 FL:g.Ay=h.Ay
theorem Kept.refl(h:AE):Kept h h:=⟨rfl,rfl,rfl,rfl,rfl,rfl⟩
theorem Kept.trans{a b c:AE}(h:Kept a b)(g:Kept b c):Kept a c:=⟨g.rules.trans h.rules,g.now.trans h.now,g.HT.trans h.HT,g.D7.trans h.D7,g.todo.trans h.todo,g.FL.trans h.FL⟩
theorem AHY(h:AE)(p:AJ):Kept h (gone h p):=by
 unfold gone;dsimp only;split
 .exact⟨rfl,rfl,rfl,by simp[CQ],rfl,rfl⟩
 .exact⟨rfl,rfl,rfl,rfl,rfl,rfl⟩
theorem my(h:AE)(p:AJ):Kept h (dropped h p):=⟨rfl,rfl,rfl,by simp[dropped,CQ],rfl,rfl⟩
theorem cg(h:AE)(p:AJ):Kept h (Gu h p):=by
 unfold Gu;split
 .exact⟨rfl,rfl,rfl,by simp[FR,LI,dropped,CQ],rfl,rfl⟩
 .exact(my h p).trans (AHY _ _)
theorem OF(h:AE)(k id:Int):Kept h (Gz h k id):=⟨rfl,rfl,rfl,by simp[Gz,LI,CQ],rfl,rfl⟩
theorem AHV{h:AE}{id:Int}{p:AJ}{rest:List AJ}(ho:One h id p rest){q:AJ}(hq:q∈rest):q∈(Gu h p).AG:=by
 unfold Gu;split
 .rename_i hf;have e:(Ds h.AO p h.Now).1.Id=id:=by
   unfold Ds at hf ⊢;split at hf
   .rename_i g;rw[if_pos g];exact ho.pid
   .cases hf
  obtain⟨l,e1,e2,_⟩:=ho.set _ e;show q∈Iu h.AG (Ds h.AO p h.Now).1
  grind[List.mem_cons_of_mem]
 .have:(gone (dropped h p) p).AG=rest:=by
   rw[<-ho.cut,<-ho.pid];unfold gone;dsimp only;split<;>rfl
  rw[this];exact hq
def QE:List Int->AE->AE| [],g=>g|id::l,g=>QE l (Gu g (par g id))
def AG0(g:AE)(l:List Int):Prop:=l.Nodup/\∀id∈l,0<=Ep g id/\(par g id).State=2
theorem RY{g:AE}(hR:RH g){id:Int}{l:List Int}(hO:AG0 g (id::l)):RH (Gu g (par g id))/\AG0 (Gu g (par g id)) l/\Kept g (Gu g (par g id)):=by
 obtain⟨h1,h2⟩:=hO;rw[List.nodup_cons]at h1;obtain⟨a1,a2⟩:=h2 id (BG ..);have ho:=hR.one a1;have hR':=cZ hR ho a2;refine⟨hR',⟨h1.2,?_⟩,cg _ _⟩;intro j hj;obtain⟨b1,b2⟩:=h2 j (List.mem_cons_of_mem _ hj);have hne:j≠id:=fun e=>h1.1 (e▸hj)
 have hoj:=hR.one b1;have hm:par g j∈g.AG.eraseP (fun x=>x.Id==id):=by
  rcases Ac.1 (ho.perm.subset hoj.mem) with h9|h9
  .exact absurd (by rw[<-hoj.pid,<-ho.pid,h9]) hne
  .exact h9
 have:=hR'.o8 (AHV ho hm);rw[hoj.pid]at this
 grind
theorem Nu:∀{l:List Int} {g:AE},RH g->AG0 g l->RH (QE l g)/\Kept g (QE l g)
 | [],g,hR,_=>⟨hR,Kept.refl g⟩|id::l,g,hR,hO=>by
  obtain⟨h1,h2,h3⟩:=RY hR hO;obtain⟨h4,h5⟩:=Nu h1 h2;exact⟨h4,h3.trans h5⟩
def T9(h:AE)(k:Int):AE:=QE (cU (cbn h k).BO h.Now) h
theorem PH{h:AE}(hR:RH h){k:Nat}(hk:k<h.AH.length):AG0 h (cU (cbn h k).BO h.Now)/\(cU (cbn h k).BO h.Now).length<=10:=by
 have hc:=hR.cb hk;have hr:=Cb hR.rules;have hp:=Ue hR.IX (c:=k) (by have:=hc.room;omega);have e:cU (cbn h k).BO h.Now=(GG h.AG k).filterMap fun p=>if p.At<=h.Now then some p.Id else none:=by
  unfold cU;rw[hc.Ft,yy hp]
 rw[e];refine⟨⟨?_,?_⟩,A9 (Fm _ _) hp.few⟩
 .show List.Pairwise _ _;rw[List.pairwise_filterMap];refine hp.ids.imp ?_;intro a b hne x hx y hy;split at hx<;>split at hy<;>simp_all
 .intro id hid;obtain⟨pin,hm,hx⟩:=List.mem_filterMap.1 hid;split at hx
  .obtain⟨p,hpm,hs⟩:=lS hm;obtain⟨rfl,s2,_⟩:=NK hs;cases hx;obtain⟨b1,b2⟩:=hR.o8 hpm;exact⟨b1,by rw[b2];exact s2⟩
  .cases hx
theorem AS8{h:AE}(hR:RH h){id:Int}(h0:0<=Ep h id):0<=(par h id).AT/\(par h id).AT<h.AH.length/\(par h id).BQ<h.AH.length:=by
 have:=(hR.one h0).size;have:=hR.D7;omega
theorem NY{h:AE}{id:Int}(h0:0<=Ep h id):at? h.AG (Ep h id)=some (par h id):=VJ h0 (OL h0).1
theorem gh{h:AE}(hR:RH h){k:Nat}(hk:k<h.AH.length):AFA h k=some (T9 h k):=by
 obtain⟨hO,hl⟩:=PH hR hk;unfold AFA T9;rw[yk hR.fit (by omega) (by omega),AF];generalize cU (cbn h k).BO h.Now=D at *;refine(C5 (F:=bF D) (n:=D.length) (fun i (v:AE)=>((i:Int),v)) (fun i v=>RH v/\AG0 v (D.drop i)) (fun i v=>some (QE (D.drop i) v)) (by omega) ?_ (v:=h) ⟨hR,hO⟩);rintro L i v ⟨hv,ho⟩ hi ih;unfold bF vZ;dsimp only;rcases Aj i D.length with hlt|hge
 .rw[Ec hlt]at ho ⊢;have ha:=ho.2 D[i] (BG ..);have hin:=AS8 hv ha.1;obtain⟨s1,s2,_⟩:=RY hv ho;simp only[A3 hlt,BW,A5 hlt,AF,Fb hv.fit,NY ha.1,RG (show 1000+2<=1048576 by omega) hv.sm hin.1 hin.2.1 hin.2.2,Bd hlt (show D.length<2 ^ 63 by omega)];exact ih _ ⟨s1,s2⟩ hlt
 .obtain rfl:i=D.length:=by omega
  rw[Cw,BV,AW,List.drop_length];rfl
theorem xt{h:AE}(hR:RH h){k:Nat}(hk:k<h.AH.length){id:Int}{rest:List AJ}(ho:One h id (par h id) rest)(hs:(par h id).State=1)(hc:(par h id).AT=k):(cbn (Gz h k id) k).Row.length+1=(cbn h k).Row.length:=by
 unfold Gz;rw[H2 (by omega) (by show (k:Int)<(h.AH.length:Int);omega) (by omega),if_pos rfl];dsimp only;have:=(ho.cab hR hk).row;rw[JJ _ ho.okp hs,if_pos hc]at this;rw[this,QD (by simpa using ho.pid) fun x hx=>?_,Em];obtain⟨y,hy,he⟩:=OO hx;obtain⟨rfl,_⟩:=HP he;simpa using ho.ne y hy
theorem iv{h:AE}(hR:RH h){k:Nat}(hk:k<h.AH.length):AFC h k=some (if D2 h k=0 then (h,0) else (Gz h k (D2 h k),D2 h k))/\(D2 h k=0->AFD h k=some ((),0)):=by
 have hf:=hR.fit;unfold AFC AFD;rw[qU hf (by omega) (by omega),AF,AF,B5,B5];by_cases hz:D2 h k=0
 .grind
 .refine⟨?_,fun h=>absurd h hz⟩;obtain⟨n1,n2,n3,n4,n5⟩:=fF hR hk hz;have hc:=hf.C4 _ (RO (k:=(k:Int)) (by omega) (by omega));rw[if_neg (by simpa using hz),if_neg hz];simp only[Fb hf,AF,NY n1,Ez,MK hf.Bv,show at? h.AH (k:Int)=some (cbn h k) from EW (by omega) (by omega),ga,RC hc.1,iu hc.2];rfl
def LB(k:Int):Nat->AE->List Int->AE×List Int|0,h,a=>(h,a)|n+1,h,a=>if D2 h k=0 then (h,a) else LB k n (Gz h k (D2 h k)) (a++[D2 h k])
theorem AGn{k:Int}{h:AE}(hz:D2 h k=0)(a:List Int):∀n,LB k n h a=(h,a)|0=>rfl|n+1=>by unfold LB;rw[if_pos hz]
theorem Rs{h:AE}(hR:RH h){k:Nat}(hk:k<h.AH.length)(hz:D2 h k≠0):RH (Gz h k (D2 h k))/\(cbn (Gz h k (D2 h k)) k).Row.length+1=(cbn h k).Row.length:=by
 obtain⟨n1,n2,n3,n4,n5⟩:=fF hR hk hz;exact⟨ACZ hR hk (hR.one n1) n2 n3 n4,xt hR hk (hR.one n1) n2 n3⟩
theorem yW{k:Nat}:∀(n:Nat) {h:AE} (a:List Int),RH h->k<h.AH.length->RH (LB k n h a).1/\Kept h (LB k n h a).1/\(LB k n h a).2.length<=a.length+n
 |0,h,a,hR,_=>⟨hR,Kept.refl h,by unfold LB;simp⟩|n+1,h,a,hR,hk=>by
  unfold LB;split
  .exact⟨hR,Kept.refl h,by simp⟩
  .rename_i hz;have hs:=Rs hR hk hz;have hkp:=OF h k (D2 h k);obtain⟨h1,h2,h3⟩:=yW n (a++[D2 h k]) hs.1 (by rw[hkp.D7];exact hk);refine⟨h1,hkp.trans h2,?_⟩;rw[BM,List.length_singleton]at h3;omega
def H5(h:AE)(k:Int):AE×List Int:=LB k 10 (T9 h k) []
theorem YG{h:AE}(hR:RH h){k:Nat}(hk:k<h.AH.length):(cbn h k).Row.length<=10:=by
 have hc:=hR.cb hk;have hr:=Cb hR.rules;have h1:=ON h.AO h.AG k h.Now;have h2:=hc.room;rw[hc.row];omega
theorem xm{h:AE}{k:Int}(hz:D2 h k≠0):0<(cbn h k).Row.length:=by
 unfold D2 at hz;split at hz
 .exact absurd rfl hz
 .rename_i h0;obtain⟨_,hl,_⟩:=mW h0;omega
theorem APM{h:AE}(hR:RH h){k:Nat}(hk:k<h.AH.length):Aw (Tx k) big ([],h)=some (LB k 10 h []):=by
 have hlim:lim=268435456:=rfl;refine WS (F:=Tx k) (fun x=>some (LB k (10-x.1.length) x.2 x.1)) (fun x=>RH x.2/\k<x.2.AH.length/\x.1.length+(cbn x.2 k).Row.length<=10) (fun x=>(cbn x.2 k).Row.length) ?_ (x:=([],h)) ⟨hR,hk,by have:=YG hR hk;simpa using this⟩ (by have:=YG hR hk;show (cbn h k).Row.length<_;omega);rintro L ⟨a,g⟩ ⟨hg,hkg,hlen⟩ ih;dsimp only at hg hkg hlen ih ⊢;unfold Tx;dsimp only;obtain⟨o1,o2⟩:=iv hg hkg;rw[o1,AF];by_cases hz:D2 g k=0
 .grind[AF,AGn,BW,ARx]
 .obtain⟨s1,s2⟩:=Rs hg hkg hz;have hpos:=xm hz;rw[if_neg hz];dsimp only;have hb:(D2 g k==0)=false:=by simpa using hz
  rw[hb,BV,DB (by simp only[Ao,Ad];omega),ih (a++[D2 g k],Gz g k (D2 g k)) ⟨s1,by rw[(OF g k _).D7];exact hkg,by simp only[BM,Ao,Ad];omega⟩ (by dsimp only;omega),ARy];congr 1;rw[show 10-a.length=(10-(a++[D2 g k]).length)+1 by simp only[BM,Ao,Ad];omega]
  conv=>rhs;unfold LB
  rw[if_neg hz]
theorem gG{h:AE}(hR:RH h){k:Nat}(hk:k<h.AH.length):RH (H5 h k).1/\Kept h (H5 h k).1/\(H5 h k).2.length<=10:=by
 obtain⟨e1,e2⟩:=Nu hR (PH hR hk).1;obtain⟨s1,s2,s3⟩:=yW (k:=k) 10 [] e1 (by rw[e2.D7];exact hk);exact⟨s1,e2.trans s2,by simp only[Ad,Nat.zero_add]at s3;exact s3⟩
theorem AJV{h:AE}(hR:RH h){k:Nat}(hk:k<h.AH.length):AFE h k=some (H5 h k):=by
 have hf:=hR.fit;have hn:=hf.D7;obtain⟨e1,e2⟩:=Nu hR (PH hR hk).1;unfold AFE AKy bB;rw[GA hf,AF,Iy hf,GB.2 hR,AF,BW,Gv,AF,AW,AF,BP (by omega) (by omega),CI.2 (by omega),BI,BW,gh hR hk,AF];exact APM e1 (by rw[e2.D7];exact hk)
end Lv.P
namespace Lv.P
open Lv Go
theorem E1{h:AE}{q:Bw}(hv:verdict h q=0):RH h:=by
 grind[verdict,GB]
theorem VB{h:AE}{q:Bw}(hk:q.Kind=7)(hv:verdict h q=0):∃n:Nat,∃hn:n<h.Ay.length,q.Id=(n:Int)/\¬(h.Ay[n]<0/\h.A0.length=0):=by
 have hR:=E1 hv;unfold verdict at hv;rw[if_pos (GB.2 hR)]at hv;unfold GK at hv;split at hv
 .cases hv
 .split at hv
  .cases hv
  .rename_i ha;have ha':Jp q=true:=by simpa using ha
   have hi:0<=q.Id:=by
    unfold Jp at ha';rw[if_neg (by omega),if_pos (by omega)]at ha';simp only[AD,Oq,CI]at ha';exact ha'.1.1
   rw[if_neg (by omega),if_neg (by omega),if_neg (by omega),if_neg (by omega),if_neg (by omega)]at hv
   try rw[if_pos hk]at hv
   by_cases h1:h.AO.Cu<=q.Id
   .rw[if_pos h1]at hv;cases hv
   .rw[if_neg h1]at hv;obtain⟨n,hn⟩:=Int.eq_ofNat_of_zero_le hi;have hl:n<h.Ay.length:=by have:=hR.Qq;omega
    refine⟨n,hl,hn,?_⟩;rw[hn,AX,A6,AU hl,Option.getD_some]at hv;intro hc;rw[if_pos hc]at hv;cases hv
def VC(h:AE)(l:List Int):AE:=⟨h.AO,h.Now,h.Ai,h.AG,h.AH,h.A0,l⟩
def pg(h:AE)(who:Int):AE×List Int:=
 if h.Ay.getD who.toNat 0<0 then (VC (EH h (h.A0.drop 1)) (h.Ay.set who.toNat (h.A0.getD 0 0)),[])
 else (VC (H5 h (h.Ay.getD who.toNat 0)).1 ((H5 h (h.Ay.getD who.toNat 0)).1.Ay.set who.toNat (-1)),(H5 h (h.Ay.getD who.toNat 0)).2)
def Ud(h:AE)(who:Int):AE×Int×List Int:=
 if verdict h ⟨7,who,0,0,0,0⟩≠0 then (h,verdict h ⟨7,who,0,0,0,0⟩,[]) else ((pg h who).1,0,(pg h who).2)
theorem RH.job{h:AE}(hR:RH h){n:Nat}(hn:n<h.Ay.length)(h0:¬h.Ay[n]<0):∃k:Nat,k<h.AH.length/\h.Ay[n]=(k:Int):=by
 have:=List.all_eq_true.1 hR.FL _ (Am hn);have hf:=hR.fit.D7
 grind[CI,BP,Int.eq_ofNat_of_zero_le]
theorem AJU{h:AE}(hf:Ba h)(who:Int):AFF h who=some (Ud h who)/\Ba (Ud h who).1/\(Ud h who).2.2.length<=10:=by
 have hlim:lim=268435456:=rfl;unfold AFF Ud;rw[GA hf,AF,Fc hf,AF];simp only[B5,bne_iff_ne,ne_eq];by_cases hv:verdict h ⟨7,who,0,0,0,0⟩=0
 .rw[if_neg (not_not_intro hv),if_neg (not_not_intro hv)];have hR:=E1 hv;obtain⟨n,hn,e,hno⟩:=VB rfl hv;dsimp only at e;subst e;have eg:h.Ay.getD n 0=h.Ay[n]:=by rw[A6,AU hn];rfl
  unfold pg;rw[A5 hn,AF,AX,eg];simp only[decide_eq_true_eq];by_cases h0:h.Ay[n]<0
  .rw[if_pos h0,if_pos h0];have ht:0<h.A0.length:=by
    rcases Nat.eq_zero_or_pos h.A0.length with h9|h9
    .exact absurd ⟨h0,h9⟩ hno
    .exact h9
   have e0:h.A0.getD 0 0=h.A0[0]:=by rw[A6,AU ht];rfl
   have ht2:=hf.todo;have h3:(List.drop (Int.toNat 1) h.A0).length<=h.A0.length:=by rw[List.length_drop];omega
   rw[rP,AU ht,AF,AF,AF,DB ⟨by omega,by omega⟩,DB (by omega),e0];exact⟨rfl,⟨hf.DV,hf.Bv,hf.D7,hf.C4,A9 h3 ht2,by show (h.Ay.set _ _).length<=_;rw[Bm];exact hf.FL⟩,by simp⟩
  .rw[if_neg h0,if_neg h0];obtain⟨k,hk,ek⟩:=hR.job hn h0;obtain⟨s1,s2,s3⟩:=gG hR hk;rw[ek,AJV hR hk,AF];have hn':n<(H5 h k).1.Ay.length:=by rw[s2.FL];exact hn
   rw[A5 hn',AF,AF];have hf':=s1.fit;exact⟨rfl,⟨hf'.DV,hf'.Bv,hf'.D7,hf'.C4,hf'.todo,by show ((H5 h k).1.Ay.set _ _).length<=_;rw[Bm];exact hf'.FL⟩,s3⟩
 grind
def doF(h:AE)(q:Bw):AE×BK:=
 if verdict h q≠0 then (h,⟨verdict h q,[]⟩)
 else if q.Kind=1 then ((eW h q.Id q.AT q.BQ q.A1 q.CT).1,⟨(eW h q.Id q.AT q.BQ q.A1 q.CT).2,[]⟩)
 else if q.Kind=2 then ((Na h q.Id).1,⟨(Na h q.Id).2,[]⟩)
 else if q.Kind=3 then ((cm h q.AT q.A1).1,⟨(cm h q.AT q.A1).2,[]⟩)
 else if q.Kind=4 then ((NU h q.Id).1,⟨(NU h q.Id).2,[]⟩)
 else if q.Kind=5 then ((Kt h q.Id).1,⟨(Kt h q.Id).2,[]⟩)
 else if q.Kind=6 then ((gy h).1,⟨(gy h).2,[]⟩)
 else ((Ud h q.Id).1,⟨(Ud h q.Id).2.1,(Ud h q.Id).2.2⟩)
theorem qM{h:AE}(hf:Ba h)(q:Bw):XF h q=some (doF h q)/\Ba (doF h q).1/\(doF h q).2.Ids.length<=10:=by
 unfold XF doF Jc;rw[GA hf,AF,Fc hf,AF];simp only[B5,bne_iff_ne,ne_eq,beq_iff_eq,AW];by_cases hv:verdict h q=0
 .have hR:=E1 hv;have hs:=hR.sm;have hn:=hR.D7;have hr:=Cb hR.rules;rw[if_neg (not_not_intro hv),if_neg (not_not_intro hv)];by_cases k1:q.Kind=1
  .rw[if_pos k1,if_pos k1];have:=AJT (show 1000+3<=1048576 by omega) hs q.Id q.AT q.BQ q.A1 q.CT;rw[this.1,AF];exact⟨rfl,this.2.fit (by omega),by simp⟩
  .rw[if_neg k1,if_neg k1];by_cases k2:q.Kind=2
   .rw[if_pos k2,if_pos k2];have:=ye (show 1000+1<=1048576 by omega) hs q.Id;rw[this.1,AF];exact⟨rfl,this.2.fit (by omega),by simp⟩
   .rw[if_neg k2,if_neg k2];by_cases k3:q.Kind=3
    .rw[if_pos k3,if_pos k3];have:=gP (show 1000+1<=1048576 by omega) hs q.AT q.A1;rw[this.1,AF];exact⟨rfl,this.2.fit (by omega),by simp⟩
    .rw[if_neg k3,if_neg k3];by_cases k4:q.Kind=4
     .rw[if_pos k4,if_pos k4];have:=yc (show 1000+1<=1048576 by omega) hs q.Id;rw[this.1,AF];exact⟨rfl,this.2.fit (by omega),by simp⟩
     .rw[if_neg k4,if_neg k4];by_cases k5:q.Kind=5
      .rw[if_pos k5,if_pos k5];have:=qJ (show 1000+3<=1048576 by omega) hs q.Id;rw[this.1,AF];exact⟨rfl,this.2.fit (by omega),by simp⟩
      .rw[if_neg k5,if_neg k5];by_cases k6:q.Kind=6
       .rw[if_pos k6,if_pos k6];have:=AJY hs (show 1000+h.AH.length<=1048576 by omega);rw[this.1,AF];exact⟨rfl,this.2.fit (by omega),by simp⟩
       .rw[if_neg k6,if_neg k6];have:=AJU hf q.Id;rw[this.1,AF];exact⟨rfl,this.2.1,this.2.2⟩
 grind
def HB:List Bw->AE->AE×List BK| [],h=>(h,[])|q::l,h=>((HB l (doF h q).1).1,(doF h q).2::(HB l (doF h q).1).2)
theorem QB:∀(l:List Bw) {h:AE},Ba h->Ba (HB l h).1/\(HB l h).2.length=l.length/\∀r∈(HB l h).2,r.Ids.length<=10
 | [],h,hf=>⟨hf,rfl,by simp[HB]⟩|q::l,h,hf=>by
  have hd:=qM hf q;obtain⟨h1,h2,h3⟩:=QB l hd.2.1
  grind[HB]
theorem gO{h:AE}(hf:Ba h){l:List Bw}(hl:l.length<=1048576):vg h l=some (HB l h):=by
 have hlim:lim=268435456:=rfl;unfold vg;rw[GA hf,AF];refine(C5 (F:=bM l) (n:=l.length) (fun i (v:List BK×AE)=>(v.1,(i:Int),v.2)) (fun i v=>Ba v.2/\v.1.length=i) (fun i v=>some ((HB (l.drop i) v.2).1,v.1++(HB (l.drop i) v.2).2)) (by omega) ?_ (v:=([],h)) ⟨hf,rfl⟩).trans ?_
 .rintro L i ⟨a,g⟩ ⟨hg,ha⟩ hi ih;dsimp only at hg ha ih ⊢;unfold bM vi;dsimp only;rcases Aj i l.length with hlt|hge
  .have hd:=qM hg l[i];rw[Ec hlt];simp only[A3 hlt,BW,A5 hlt,AF,hd.1,OX,rA,Bd hlt (show l.length<2 ^ 63 by omega)];rw[DB (by simp only[Ao,Ad];omega)];have:=ih (a++[(doF g l[i]).2],(doF g l[i]).1) ⟨hd.2.1,by simp[ha]⟩ hlt;dsimp only at this;rw[this];simp only[HB,List.append_assoc,List.singleton_append]
  .grind[BV,AW,List.drop_length,HB]
 .simp
end Lv.P
