/- Plain laws about what the program computes. -/
import Derived.Test.YtpbbmlmilagnkaaGreatKE
import Derived.Test.YtpbbmlmilagnkaaGreatPF
noncomputable section
set_option linter.unusedVariables false
set_option linter.unusedSimpArgs false
set_option linter.unusedSectionVars false
open Nat renaming le_trans->Bv
namespace Lv.P
open Lv Go
theorem wS{α:Type}(p:α->Bool):∀(l:List α) (s:Nat),(atF p l s = -1/\l.eraseP p=l/\l.any p=false) \/
 ∃k,∃h:k<l.length,atF p l s=((s+k:Nat):Int)/\l.eraseP p=l.take k++l.drop (k+1)/\l.any p=true/\p l[k]=true
 | [],s=>.inl ⟨rfl,rfl,rfl⟩|x::l,s=>by
  by_cases h:p x=true
  .grind[atF]
  .have h':p x=false:=by simpa using h
   rcases wS p l (s+1) with ⟨h1,h2,h3⟩|⟨k,hk,h1,h2,h3,h4⟩
   .grind[atF]
   grind[atF]
def l8(l:Cm)(n a b c d:Int):Cm×Bool:=
 let l':Cm:=⟨l.Total,w64 (l.EV+w64 (a*n)),w64 (l.Gk+w64 (b*n)),w64 (l.KV+w64 (c*n)),w64 (l.K1+w64 (d*n))⟩
 if Iq l=true/\inB n 0 60=true/\Iq l'=true then (l',true) else (l,false)
def isP(p:Ax)(x:Ax):Bool:=x.At==p.At&&(x.Id==p.Id&&true)
def AMk(w:Aq)(p:Ax):Aq×Bool:=
 if HZ w=true/\1<=p.At then (⟨w.Ah.set (p.At.tmod 9).toNat ((w.Ah.getD (p.At.tmod 9).toNat []).eraseP (isP p))⟩,(w.Ah.getD (p.At.tmod 9).toNat []).any (isP p)) else (w,false)
def ABQ(h:AH)(id:Int):Int:=atF (fun x:AP=>x.Id==id) h.AK 0
def ADc:Aa:=⟨⟨0,0,0,0,0⟩,[],⟨[]⟩⟩
def ALv:AP:=⟨0,0,0,0,0,0,0,0,0,0⟩
def ADC(l:List Int)(k:Int):List Int:=if l.any (fun y=>y==k)=true then l else l++[k]
def cbn(h:AH)(k:Int):Aa:=h.Ap.getD k.toNat ADc
def Mp(h:AH)(k:Int)(c:Aa):AH:=⟨h.AR,h.Now,h.A4,h.AK,h.Ap.set k.toNat c,h.BO,h.BP⟩
def gone(h:AH)(p:AP):AH:=
 let h':AH:=⟨h.AR,h.Now,h.A4,h.AK.eraseP (fun x=>x.Id==p.Id),h.Ap,h.BO,h.BP⟩
 if 0<=p.Ci then Mp h' p.Ci ⟨(l8 (cbn h p.Ci).Ae p.BW 0 0 0 (-1)).1,(cbn h p.Ci).Row,(cbn h p.Ci).DW⟩ else h'
def AEE(h:AH)(k n:Int):AH:=
 let h':=Mp h k ⟨(l8 (cbn h k).Ae n 1 0 (-1) 0).1,(cbn h k).Row,(cbn h k).DW⟩
 ⟨h'.AR,h'.Now,h'.A4,h'.AK,h'.Ap,ADC h.BO k,h'.BP⟩
def AMf(a b:AP):Bool:=decide (a.Id<b.Id)
def AFl(l:List AP)(p:AP):List AP:=
 if 0<=atF (fun x:AP=>x.Id==p.Id) l 0 then l.set (atF (fun x:AP=>x.Id==p.Id) l 0).toNat p else put AMf p l
def dS(r:AW)(p:AP)(now:Int):AP×Bool:=
 if FO r p now=true/\p.State=2/\w64 (p.EP+1)<r.CI then (⟨p.Id,p.Bf,p.Ci,p.BW,p.DG,p.Since,p.A4,1,w64 (now+r.Rest),w64 (p.EP+1)⟩,true) else (ALv,false)
structure Ue(n:Nat)(c:Aa):Prop where
 row:c.Row.length<=n
 AJm:c.DW.Ah.length<=1048576
 pins:c.DW.Ah.flatten.length<=n
structure Sm(n:Nat)(h:AH):Prop where
 FJ:h.AR.Ae.length<=1048576
 Db:h.AK.length<=n
 H3:h.Ap.length<=1048576
 HW:∀c∈h.Ap,Ue n c
 todo:h.BO.length<=n
 K5:h.BP.length<=1048576
theorem Ue.mono{n m:Nat}{c:Aa}(h:Ue n c)(hm:n<=m):Ue m c:=⟨Bv h.row hm,h.AJm,Bv h.pins hm⟩
theorem Sm.mono{n m:Nat}{h:AH}(hh:Sm n h)(hm:n<=m):Sm m h:=
 ⟨hh.FJ,Bv hh.Db hm,hh.H3,fun c hc=>(hh.HW c hc).mono hm,Bv hh.todo hm,hh.K5⟩
theorem Sm.fit{n:Nat}{h:AH}(hh:Sm n h)(hn:n<=1048576):CU h:=
 ⟨hh.FJ,Bv hh.Db hn,hh.H3,fun c hc=>⟨Bv (hh.HW c hc).row hn,(hh.HW c hc).AJm,Bv (hh.HW c hc).pins hn⟩,Bv hh.todo hn,hh.K5⟩
theorem Sm.cab{n:Nat}{h:AH}(hh:Sm n h){k:Int}{c:Aa}(hc:Ue n c):Sm n (Mp h k c):=by
 refine⟨hh.FJ,hh.Db,by simpa[Mp] using hh.H3,?_,hh.todo,hh.K5⟩;intro c' hc';rcases List.mem_or_eq_of_mem_set hc' with h1|rfl
 .exact hh.HW _ h1
 .exact hc
theorem AH7(n:Nat):Ue n ADc:=⟨by simp[ADc],by simp[ADc],by simp[ADc]⟩
theorem Sm.cbn{n:Nat}{h:AH}(hh:Sm n h)(k:Int):Ue n (cbn h k):=by
 unfold Lv.P.cbn;rw[List.getD_eq_getElem?_getD];cases hc:h.Ap[k.toNat]? with
 |none=>exact AH7 n|some c=>exact hh.HW c (List.mem_of_getElem? hc)
def dropped(h:AH)(p:AP):AH:=Mp h p.Bf ⟨(l8 (cbn h p.Bf).Ae p.BW 1 (-1) 0 0).1,(cbn h p.Bf).Row,(AMk (cbn h p.Bf).DW ⟨p.C4,p.Id⟩).1⟩
def AHi(h:AH)(l:List AP):AH:=⟨h.AR,h.Now,h.A4,l,h.Ap,h.BO,h.BP⟩
def AJi(h:AH)(p:AP):AH:=Mp h p.Bf ⟨(cbn h p.Bf).Ae,put ltE (Fk h.AR p h.Now).1 (cbn h p.Bf).Row,(cbn h p.Bf).DW⟩
def AD8(h:AH)(p:AP):AH:=
 if (dS h.AR p h.Now).2=true then AJi (AHi (dropped h p) (AFl h.AK (dS h.AR p h.Now).1)) (dS h.AR p h.Now).1 else gone (dropped h p) p
def MF(h:AH)(l:List Int):AH:=⟨h.AR,h.Now,h.A4,h.AK,h.Ap,l,h.BP⟩
def AMg(h:AH)(id cabin frm size tier:Int):AP:=⟨id,cabin,frm,size,tier,h.Now,h.A4,1,0,0⟩
def AC4(h:AH)(k n:Int):AH:=Mp h k ⟨(l8 (cbn h k).Ae n 0 0 0 1).1,(cbn h k).Row,(cbn h k).DW⟩
def AKe(h:AH)(id cabin frm size tier:Int):AH:=
 let p:=AMg h id cabin frm size tier
 let x:=AJi ⟨h.AR,h.Now,w64 (h.A4+1),AFl h.AK p,h.Ap,h.BO,h.BP⟩ p
 let y:=if 0<=frm then AC4 x frm size else x
 MF y (ADC y.BO cabin)
def par(h:AH)(id:Int):AP:=h.AK.getD (ABQ h id).toNat ALv
end Lv.P
