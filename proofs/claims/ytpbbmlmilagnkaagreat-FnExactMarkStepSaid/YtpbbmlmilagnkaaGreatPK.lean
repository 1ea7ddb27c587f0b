/- Plain laws about what the program computes. -/
import Derived.Test.YtpbbmlmilagnkaaGreatPJ
noncomputable section
set_option linter.unusedVariables false
set_option linter.unusedSimpArgs false
set_option linter.unusedSectionVars false
open Int renaming toNat_natCast->AU
open List renaming getElem_mem->BH
namespace Lv.P
open Lv Go
structure AAX(r:AW)(ps qs:List AP)(now:Int)(i:Nat)(c:Aa):Prop where
 row:c.Row=Gw r ps i now
 M8:c.DW=wOf (HL ps i)
 total:c.Ae.Total=r.Ae.getD i 0
 held:c.Ae.Gk=I5 ps i
 AC4:c.Ae.K1=Kx qs i
 led:Iq c.Ae=true
 room:D2 ps i<=r.Room
theorem AAX.full{r:AW}{ps:List AP}{now:Int}{i:Nat}{c:Aa}(h:AAX r ps ps now i c):AAY r ps now i c:=⟨h.row,h.M8,h.total,h.held,h.AC4,h.led,h.room⟩
theorem AAY.half{r:AW}{ps:List AP}{now:Int}{i:Nat}{c:Aa}(h:AAY r ps now i c):AAX r ps ps now i c:=⟨h.row,h.M8,h.total,h.held,h.AC4,h.led,h.room⟩
theorem AAX.perm{r:AW}{ps qs ps' qs':List AP}{now:Int}{i:Nat}{c:Aa}(h:AAX r ps qs now i c)(hu:Uni ps)(hp:ps.Perm ps')(hq:qs.Perm qs'):AAX r ps' qs' now i c:=
 ⟨by rw[h.row,oU hu hp],by rw[h.M8,Ym hp],h.total,by rw[h.held,uR hp],by rw[h.AC4,vt hq],h.led,by rw[<-Ti hp];exact h.room⟩
theorem AIA{h:AH}{i:Nat}(hi:i<h.Ap.length):cbn h i=h.Ap[i]:=by
 unfold cbn;rw[AU,List.getD_eq_getElem?_getD,List.getElem?_eq_getElem hi];rfl
theorem RH.cb{h:AH}(hR:RH h){i:Nat}(hi:i<h.Ap.length):AAY h.AR h.AK h.Now i (cbn h i):=by
 rw[AIA hi];exact hR.cab i hi
structure One(h:AH)(id:Int)(p:AP)(rest:List AP):Prop where
 perm:h.AK.Perm (p::rest)
 sub:rest.Sublist h.AK
 okp:FO h.AR p h.Now=true
 pid:p.Id=id
 mem:p∈h.AK
 ne:∀q∈rest,q.Id≠id
 set:∀q:AP,q.Id=id->∃l,AFl h.AK q=l/\l.Perm (q::rest)/\(q.A4=p.A4->q.Since=p.Since->FO h.AR q h.Now=true->Uh h.AR h.Now h.A4 l)
 cut:h.AK.eraseP (fun x=>x.Id==id)=rest
theorem RH.one{h:AH}(hR:RH h){id:Int}(h0:0<=ABQ h id):One h id (par h id) (h.AK.eraseP fun x=>x.Id==id):=by
 obtain⟨k,hk,e1,e2,e3,e4⟩:=AK6 h0;have hm:h.AK[k]∈h.AK:=BH hk;have hp:h.AK.Perm (par h id::h.AK.eraseP fun x=>x.Id==id):=by rw[e2];exact qQ hk e4
 refine⟨hp,List.eraseP_sublist,by rw[e2];exact(hR.Zi.par _ hm).1,e3,by rw[e2];exact hm,?_,?_,rfl⟩
 .have:=(hR.Zi.uni.perm hp).id
  grind[List.pairwise_cons]
 .intro q hq;refine⟨h.AK.set k q,?_,set_perm hk e4 q,?_⟩
  .unfold AFl;unfold ABQ at e1;rw[hq,e1,if_pos (by omega),AU]
  .intro h1 h2 h3;refine hR.Zi.set hk ?_ ?_ ?_ h3
   .rw[<-e2,e3,hq]
   .rw[<-e2,h1]
   .rw[<-e2,h2]
theorem One.size{h:AH}{id:Int}{p:AP}{rest:List AP}(ho:One h id p rest):(1<=p.BW/\p.BW<=6)/\(0<=p.Bf/\p.Bf<h.AR.Ae.length)/\(-1<=p.Ci/\p.Ci<h.AR.Ae.length)/\p.Ci≠p.Bf:=by
 have hk:=Jv ho.okp;have hr:=Ce hk.1;omega
section
variable{h:AH}(hR:RH h){id:Int}{p:AP}{rest:List AP}(ho:One h id p rest)
include hR ho
theorem One.cab{i:Nat}(hi:i<h.Ap.length):AAY h.AR (p::rest) h.Now i (cbn h i):=((hR.cb hi).half.perm hR.Zi.uni ho.perm ho.perm).full
theorem One.uni:Uni (p::rest):=hR.Zi.uni.perm ho.perm
theorem One.room{i:Nat}(hi:i<h.Ap.length):D2 (p::rest) i<=10:=by
 have:=(ho.cab hR hi).room;have:=Ce hR.rules;omega
theorem One.pins{i:Nat}(hi:i<h.Ap.length):Zv (HL (p::rest) i):=by
 rw[<-Ym ho.perm];exact zy hR.Zi (by rw[Ti ho.perm];exact ho.room hR hi)
end
def ALy(p:AP)(now:Int):Bool:=p.State==1&&decide (p.C4>now)
def AL1(h:AH):List Int:=h.AK.filterMap fun p=>if ALy p h.Now=true then some p.Id else none
def AMc(free:Int)(skip:List Int)(e:Ac):Bool:=decide (e.BW<=free)&&!(skip.any fun y=>y==e.Id)
def AJe(h:AH)(k:Int):Int:=atF (AMc (cbn h k).Ae.EV (AL1 h)) (cbn h k).Row 0
def AMb:Ac:=⟨0,0,0,0⟩
def AFN(h:AH)(k:Int):Int:=if AJe h k<0 then 0 else ((cbn h k).Row.getD (AJe h k).toNat AMb).Id
def AMh(h:AH)(p:AP):AP:=⟨p.Id,p.Bf,p.Ci,p.BW,p.DG,p.Since,p.A4,2,w64 (h.Now+h.AR.Bi),p.EP⟩
def zr(h:AH)(k id:Int):AH:=
 Mp (AHi h (AFl h.AK (AMh h (par h id)))) k ⟨(l8 (cbn h k).Ae (par h id).BW (-1) 1 0 0).1,(cbn h k).Row.eraseP (fun x=>x.Id==id),(NG (cbn h k).DW ⟨w64 (h.Now+h.AR.Bi),id⟩).1⟩
theorem RH.sm{h:AH}(hR:RH h):Sm 1000 h:=by
 have hr:=Ce hR.rules;have hn:=hR.H3;have hj:=hR.AFO;refine⟨by omega,by have:=hR.Zi.few;omega,by omega,?_,by have:=AHZ (by omega) hR.todo;omega,by omega⟩;intro c hc;obtain⟨i,hi,rfl⟩:=List.mem_iff_getElem.1 hc;have hk:=hR.cab i hi;have hro:=hk.room;have h1:=vU h.AR h.AK i h.Now;have hp:=zy hR.Zi (c:=i) (by omega);have hw:=ALS hp;refine⟨by rw[hk.row];omega,by rw[hk.M8,ie];omega,by rw[hk.M8];have:=hw.few;omega⟩
theorem RH.fit{h:AH}(hR:RH h):CU h:=hR.sm.fit (by omega)
structure Kept(h g:AH):Prop where
 rules:g.AR=h.AR
 now:g.Now=h.Now
 turn:g.A4=h.A4
 H3:g.Ap.length=h.Ap.length
 todo:g.BO=h.BO
 K5:g.BP=h.BP
theorem Kept.refl(h:AH):Kept h h:=⟨rfl,rfl,rfl,rfl,rfl,rfl⟩
theorem Kept.trans{a b c:AH}(h:Kept a b)(g:Kept b c):Kept a c:=⟨g.rules.trans h.rules,g.now.trans h.now,g.turn.trans h.turn,g.H3.trans h.H3,g.todo.trans h.todo,g.K5.trans h.K5⟩
def zU:List Int->AH->AH| [],g=>g|id::l,g=>zU l (AD8 g (par g id))
def AIh(h:AH)(k:Int):AH:=zU (AMa (cbn h k).DW h.Now) h
def AJj(k:Int):Nat->AH->List Int->AH×List Int|0,h,a=>(h,a)|n+1,h,a=>if AFN h k=0 then (h,a) else AJj k n (zr h k (AFN h k)) (a++[AFN h k])
def AJJ(h:AH)(k:Int):AH×List Int:=AJj k 10 (AIh h k) []
theorem RH.job{h:AH}(hR:RH h){n:Nat}(hn:n<h.BP.length)(h0:¬h.BP[n]<0):∃k:Nat,k<h.Ap.length/\h.BP[n]=(k:Int):=by
 have:=List.all_eq_true.1 hR.K5 _ (BH hn);have hf:=hR.fit.H3
 grind[Du,Ao,Int.eq_ofNat_of_zero_le]
end Lv.P
