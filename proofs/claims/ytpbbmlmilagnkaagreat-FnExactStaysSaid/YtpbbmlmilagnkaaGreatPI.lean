/-
  Plain laws: what is cut out of rows, queues and wheels; ledgers that turn.
-/
import Derived.Test.YtpbbmlmilagnkaaGreatKE
import Derived.Test.YtpbbmlmilagnkaaGreatPF
noncomputable section
set_option linter.unusedVariables false
set_option linter.unusedSimpArgs false
set_option linter.unusedSectionVars false
open Bool renaming and_eq_true->AD,true_eq_false->C0
open Int renaming toNat_natCast->AX
open List renaming any_cons->JQ,getD_eq_getElem?_getD->A6,getElem?_eq_getElem->AU,length_take->Bp,nil_append->B6
open Nat renaming le_succ->CW,le_trans->A9,lt_or_ge->Aj
namespace Lv.P
open Lv Go
theorem HL{α:Type}(p:α->Bool):∀(l:List α) (s:Nat),(atF p l s = -1/\l.eraseP p=l/\l.any p=false) \/
 ∃k,∃h:k<l.length,atF p l s=((s+k:Nat):Int)/\l.eraseP p=l.take k++l.drop (k+1)/\l.any p=true/\p l[k]=true
 | [],s=>.inl ⟨rfl,rfl,rfl⟩|x::l,s=>by
  by_cases h:p x=true
  .grind[atF]
  .have h':p x=false:=by simpa using h
   rcases HL p l (s+1) with ⟨h1,h2,h3⟩|⟨k,hk,h1,h2,h3,h4⟩
   .grind[atF]
   grind[atF]
theorem RC{l:List AQ}(hl:l.length<=1048576)(id:Int):aS l id=some (l.eraseP (fun x=>x.Id==id),l.any fun x=>x.Id==id):=by
 grind[lim,aS,OU,AF,Bl,HL,AQ,Py,BP,DB,Int.toNat_natCast,List.length_take,List.length_drop]
theorem SC{l:List AJ}(hl:l.length<=1048576)(id:Int):ka l id=some (atF (fun x=>x.Id==id) l 0):=by
 grind[ka,NX,vK,A3,BW,A5,AF,vJ,BV,AW]
theorem il{l:List AJ}(hl:l.length<=1048576)(id:Int):AEm l id=some (l.eraseP (fun x=>x.Id==id)):=by
 have hlim:lim=268435456:=rfl;unfold AEm;rw[SC hl,AF,Bl];rcases HL (fun x:AJ=>x.Id==id) l 0 with ⟨h1,h2,h3⟩|⟨k,hk,h1,h2,h3,_⟩
 .grind[DB]
 grind[BP,DB,Int.toNat_natCast,List.length_take,List.length_drop]
def l8(l:Av)(n a b c d:Int):Av×Bool:=
 let l':Av:=⟨l.Total,w64 (l.DJ+w64 (a*n)),w64 (l.Dd+w64 (b*n)),w64 (l.EK+w64 (c*n)),w64 (l.ET+w64 (d*n))⟩
 if DD l=true/\inB n 0 60=true/\DD l'=true then (l',true) else (l,false)
theorem IV(l:Av)(n a b c d:Int):Tl l n a b c d=some (l8 l n a b c d):=by
 unfold Tl aO l8
 grind[MJ,Gv,AF,AW,BI,B5,Av,DD,inB]
theorem iq(l:Av)(n:Int):AEj l n=some (l8 l n 0 0 0 1):=by unfold AEj;rw[IV,AF]
theorem Xp(l:Av)(n:Int):AEn l n=some (l8 l n 0 0 0 (-1)):=by unfold AEn;rw[IV,AF]
theorem ga(l:Av)(n:Int):vf l n=some (l8 l n (-1) 1 0 0):=by unfold vf;rw[IV,AF]
theorem gX(l:Av)(n:Int):AEl l n=some (l8 l n 1 (-1) 0 0):=by unfold AEl;rw[IV,AF]
theorem gb(l:Av)(n:Int):AE5 l n=some (l8 l n 0 (-1) 1 0):=by unfold AE5;rw[IV,AF]
theorem gY(l:Av)(n:Int):AE3 l n=some (l8 l n 1 0 (-1) 0):=by unfold AE3;rw[IV,AF]
end Lv.P
namespace Lv.P
open Lv Go
def isP(p:AY)(x:AY):Bool:=x.At==p.At&&(x.Id==p.Id&&true)
def Qs(w:Ah)(p:AY):Ah×Bool:=
 if FI w=true/\1<=p.At then (⟨w.Aa.set (p.At.tmod 9).toNat ((w.Aa.getD (p.At.tmod 9).toNat []).eraseP (isP p))⟩,(w.Aa.getD (p.At.tmod 9).toNat []).any (isP p)) else (w,false)
theorem RE{w:Ah}(hw:DK w)(p:AY):j8 w p=some (Qs w p):=by
 have hlim:lim=268435456:=rfl;have hw1:=hw.1;have hw2:=hw.2;unfold j8 Qs;rw[P5 hw,AF,GY hw,AF,BI,AW,AW,B5];by_cases hb:FI w=true
 .rw[if_pos hb];unfold aQ;rw[Bl];by_cases hp:p.At<1
  .rw[if_pos hp,if_neg (by omega)]
  .rw[if_neg hp,if_pos ⟨hb,by omega⟩];obtain⟨m,hm,hm2⟩:=U6 (n:=p.At) (by omega);have hW:=DU.1 hb;have hlen:m<w.Aa.length:=by have:=hW.1;omega
   have hs:w.Aa[m].length<=1048576:=A9 (HR hlen) hw2;rw[hm2,AX];have hg:w.Aa.getD m []=w.Aa[m]:=by rw[A6,AU hlen];rfl
   rw[hg];generalize hsd:w.Aa[m]=s at hs ⊢;have key:=C5 (F:=Tm w p w) (n:=s.length) (fun i (_:Unit)=>(i:Int)) (fun _ _=>True)
    (fun i _=>some (if (s.drop i).any (isP p)=true then ((⟨w.Aa.set m (s.take i++(s.drop i).eraseP (isP p))⟩:Ah),true) else (w,false))) (by omega) ?_ (v:=()) trivial
   .have key':Aw (Tm w p w) big 0=_:=key;rw[key'];simp only[List.drop_zero,List.take_zero,B6];split
    .rename_i h;rw[h]
    .rename_i h;have h':s.any (isP p)=false:=by simpa using h
     have he:s.eraseP (isP p)=s:=List.eraseP_of_forall_not fun x hx=>by
      have:=List.any_eq_false.1 h' x hx;simpa using this
     rw[h',he,<-hsd,List.set_getElem_self]
   .intro L i _ _ hi ih;unfold Tm vD;rw[hm2,A5 hlen,AF,hsd];rcases Aj i s.length with h|h
    .rw[A3 h,BW];simp only[AF,A5 h,AX];rw[Ec h];show br (isP p s[i]) _ _=_;cases hq:isP p s[i] with
     |true=>
      rw[BW,Bd h (by omega),DB ⟨by omega,by omega⟩,DB ⟨by omega,by omega⟩,DB (by rw[Bp];simp;omega),DB (by rw[List.length_append,Bp];simp;omega)];simp only[JQ,hq,Bool.true_or,if_true,List.eraseP_cons_of_pos hq,B6,AX]
     |false=>
      rw[BV,Bd h (by omega),ih () trivial h];simp only[JQ,hq,Bool.false_or,List.eraseP_cons_of_neg (show ¬isP p s[i]=true by rw[hq];simp),List.take_succ_eq_append_getElem h,List.append_assoc,List.singleton_append]
    .have:i=s.length:=by omega
     subst this;rw[Cw,BV,AW,List.drop_length];rfl
 .rw[if_neg hb,if_neg (by simp[hb])];rfl
end Lv.P
namespace Lv.P
open Lv Go
def Ep(h:AE)(id:Int):Int:=atF (fun x:AJ=>x.Id==id) h.AG 0
theorem Fb{h:AE}(hh:Ba h)(id:Int):Jb h id=some (Ep h id):=by
 unfold Jb;rw[SC hh.Bv,AF];rfl
def rY:AS:=⟨⟨0,0,0,0,0⟩,[],⟨[]⟩⟩
def fW:AJ:=⟨0,0,0,0,0,0,0,0,0,0⟩
theorem EW{h:AE}{k:Int}(h0:0<=k)(h1:k<h.AH.length):at? h.AH k=some (h.AH.getD k.toNat rY):=by
 grind[Int.eq_ofNat_of_zero_le,A5,Int.toNat_natCast,List.getElem?_eq_getElem]
theorem VJ{h:AE}{k:Int}(h0:0<=k)(h1:k<h.AG.length):at? h.AG k=some (h.AG.getD k.toNat fW):=by
 grind[Int.eq_ofNat_of_zero_le,A5,Int.toNat_natCast,List.getElem?_eq_getElem]
theorem OL{h:AE}{id:Int}(h0:0<=Ep h id):Ep h id<h.AG.length/\(h.AG.getD (Ep h id).toNat fW).Id=id:=by
 grind[Ep,HL,AJ,Int.toNat_natCast,List.getElem?_eq_getElem]
def HE(h:AE)(k:Int):Int:=w64 ((h.AH.getD k.toNat rY).AR.EK-(h.AH.getD k.toNat rY).AR.ET)
theorem RF{h:AE}{k:Int}(h0:0<=k)(h1:k<h.AH.length):vS h k=some (HE h k):=by
 unfold vS;rw[EW h0 h1,AF,AF];rfl
def UM(h:AE)(q:Bw):Int:=
 if (h.AH.length:Int)<=q.AT\/(h.AH.length:Int)<=q.BQ\/q.BQ=q.AT then 4
 else if inB q.A1 1 h.AO.A1=false then 5
 else if h.AO.Cg<=q.CT then 6
 else if inB q.Id 1 999=false then 7
 else if 0<=Ep h q.Id then 8
 else if h.AO.Room<=Cr h.AG q.AT then 9
 else if 0<=q.BQ/\HE h q.BQ<q.A1 then 10
 else if 1000000<h.Ai then 11 else 0
theorem qT{h:AE}(hh:Ba h)(q:Bw):AEx h q=some (UM h q):=by
 have hp:=hh.Bv;have hj:∀b,((h.AH.length:Int)<=q.BQ->b=true)->PE h q b=some (if b=true then 4
  else if inB q.A1 1 h.AO.A1=false then 5
  else if h.AO.Cg<=q.CT then 6
  else if inB q.Id 1 999=false then 7
  else if 0<=Ep h q.Id then 8
  else if h.AO.Room<=Cr h.AG q.AT then 9
  else if 0<=q.BQ/\HE h q.BQ<q.A1 then 10
  else if 1000000<h.Ai then 11 else 0):=by
  intro b hb;unfold PE ar;cases b with
  |true=>rfl|false=>
   have hF:q.BQ<h.AH.length:=by
    by_cases hc:(h.AH.length:Int)<=q.BQ
    .cases hb hc
    .omega
   simp only[BV,Gv,AF,BI,B5,Bool.false_eq_true,if_false,ge_iff_le,gt_iff_lt,decide_eq_true_eq,Fb hh,OS (show h.AG.length<2 ^ 58 by omega),AW];cases inB q.A1 1 h.AO.A1
   .rfl
   .grind[inB,Ep,Cr,RF,AF,HE]
 grind[AEx,UM,ge_iff_le,Bl,AW]
def ALM(p:AJ)(now:Int):Bool:=p.State==2&&decide (p.CB<=now)
theorem APS(p:AJ)(now:Int):AEy p now=some (ALM p now):=by
 unfold AEy au ALM;rw[AW,AW,B7]
def Ib(h:AE)(id:Int):Int:=
 if Ep h id<0 then 7
 else if (h.AG.getD (Ep h id).toNat fW).State≠2 then 13
 else if ALM (h.AG.getD (Ep h id).toNat fW) h.Now=true then 14 else 0
theorem Px{h:AE}(hh:Ba h)(id:Int):AEz h id=some (Ib h id):=by
 unfold AEz Ib
 grind[Fb,AF,Bl,Ep,grind,VJ,OL,APS,B5,fW,bne_self_eq_false,Bool.false_eq_true,not_true_eq_false]
def GK(h:AE)(q:Bw):Int:=
 if inB q.Kind 1 7=false then 2
 else if Jp q=false then 3
 else if q.Kind=1 then UM h q
 else if q.Kind=2 then if Ep h q.Id<0 then 7 else 0
 else if q.Kind=3 then if (h.AH.length:Int)<=q.AT then 4 else if inB q.A1 1 60=false then 5 else if HE h q.AT<q.A1 then 12 else 0
 else if q.Kind=4\/q.Kind=5 then Ib h q.Id
 else if q.Kind=6 then if 1000000<=h.Now then 15 else 0
 else if q.Kind=7 then if h.AO.Cu<=q.Id then 16 else if h.Ay.getD q.Id.toNat 0<0/\h.A0.length=0 then 17 else 0
 else 0
def verdict(h:AE)(q:Bw):Int:=if EC h=true then GK h q else 1
theorem Fc{h:AE}(hh:Ba h)(q:Bw):PF h q=some (verdict h q):=by
 unfold PF verdict;rw[Iy hh,AF,BI,B5];by_cases hb:EC h=true
 .rw[if_pos hb,if_pos hb];unfold GK;rw[Gv,AF,BI,B5];cases inB q.Kind 1 7
  .rfl
  .simp only[if_true,C0,if_false];rw[yj,AF,BI,B5];cases ha:Jp q
   .rfl
   .simp only[if_true,C0,if_false,B5,beq_iff_eq,AW];by_cases k1:q.Kind=1
    .rw[if_pos k1,if_pos k1,qT hh,AF]
    .rw[if_neg k1,if_neg k1];by_cases k2:q.Kind=2
     .rw[if_pos k2,if_pos k2,Fb hh,AF];simp only[decide_eq_true_eq];split<;>rfl
     .rw[if_neg k2,if_neg k2];by_cases k3:q.Kind=3
      .rw[if_pos k3,if_pos k3];have hc:0<=q.AT:=by
        unfold Jp at ha;rw[if_neg k1,if_neg (by omega),if_pos k3]at ha;simp only[AD,Oq,CI]at ha;exact ha.1.1
       simp only[ge_iff_le,decide_eq_true_eq,Gv,AF,Bool.not_eq_true'];by_cases h1:(h.AH.length:Int)<=q.AT
       .rw[if_pos h1,if_pos h1]
       .rw[if_neg h1,if_neg h1];cases inB q.A1 1 60
        .rfl
        .simp only[C0,if_false];rw[RF hc (by omega),AF];by_cases h9:HE h q.AT<q.A1<;>simp[h9]<;>rfl
      .rw[if_neg k3,if_neg k3];unfold av;by_cases k4:q.Kind=4\/q.Kind=5
       .rw[if_pos k4];rcases k4 with k4|k4
        .simp only[k4,if_true,beq_self_eq_true,BW,Px hh,AF]
        .simp only[k4,if_true,beq_self_eq_true,BW,Px hh,AF];rfl
       .have k4':q.Kind≠4:=fun h=>k4 (.inl h)
        have k5':q.Kind≠5:=fun h=>k4 (.inr h)
        rw[if_neg k4,if_neg k4'];have e5:(q.Kind==5)=false:=by simpa using k5'
        rw[e5,BV]
        try simp only[B5,beq_iff_eq,AW,ge_iff_le,decide_eq_true_eq]
        by_cases k6:q.Kind=6
        .rw[if_pos k6,if_pos k6];split<;>rfl
        .rw[if_neg k6,if_neg k6];by_cases k7:q.Kind=7
         .rw[if_pos k7,if_pos k7];have hR:=ATq hb;have hi:0<=q.Id:=by
           unfold Jp at ha;rw[if_neg k1,if_pos (by omega)]at ha;simp only[AD,Oq,CI]at ha;exact ha.1.1
          by_cases h1:h.AO.Cu<=q.Id
          .rw[if_pos h1,if_pos h1]
          .rw[if_neg h1,if_neg h1];obtain⟨n,hn⟩:=Int.eq_ofNat_of_zero_le hi;have hl:n<h.Ay.length:=by have:=hR.Qq;omega
           rw[hn,A5 hl,AF,AX,A6,AU hl,Option.getD_some];unfold aw Mu;simp only[B5,AW,beq_iff_eq];by_cases h2:h.Ay[n]<0<;>by_cases h3:h.A0.length=0<;>simp[h2,h3]
         .rw[if_neg k7,if_neg k7];rfl
 .rw[if_neg hb,if_neg hb]
end Lv.P
namespace Lv.P
open Lv Go
def Ov(l:List Int)(k:Int):List Int:=if l.any (fun y=>y==k)=true then l else l++[k]
theorem HQ{l:List Int}(hl:l.length<=1048576)(k:Int):Tp l k=some (Ov l k):=by
 grind[lim,Tp,Ov,DB,SD,AF,B5]
def cbn(h:AE)(k:Int):AS:=h.AH.getD k.toNat rY
def CQ(h:AE)(k:Int)(c:AS):AE:=⟨h.AO,h.Now,h.Ai,h.AG,h.AH.set k.toNat c,h.A0,h.Ay⟩
theorem RO{h:AE}{k:Int}(h0:0<=k)(h1:k<h.AH.length):cbn h k∈h.AH:=by
 grind[cbn,List.getElem?_eq_getElem,List.getElem_mem]
theorem Xd{h:AE}(hh:Ba h){p:AJ}(h0:0<=p.AT)(h1:p.AT<h.AH.length) :
 XE h p=some (CQ h p.AT ⟨(cbn h p.AT).AR,put ltE (D4 h.AO p h.Now).1 (cbn h p.AT).Row,(cbn h p.AT).BO⟩):=by
 have hlim:lim=268435456:=rfl;have hs:=hh.DV;have hc:=(hh.C4 _ (RO h0 h1)).1;unfold XE;rw[Uw (by omega),AF,EW h0 h1,AF,AF];show bd (Y1 (cbn h p.AT).Row _) _=_;rw[gi (by omega),AF,AF,AF];rfl
theorem Uz{h:AE}(hh:Ba h){p:AJ}(h0:0<=p.AT)(h1:p.AT<h.AH.length) :
 aR h p=some (CQ h p.AT ⟨(l8 (cbn h p.AT).AR p.A1 1 (-1) 0 0).1,(cbn h p.AT).Row,(Qs (cbn h p.AT).BO ⟨p.CB,p.Id⟩).1⟩):=by
 have hc:=(hh.C4 _ (RO h0 h1)).2;unfold aR;rw[EW h0 h1,AF,AF,gX,AF];show bd (j8 (cbn h p.AT).BO _) _=_;rw[RE hc,AF,AF,AF,DB ⟨rfl,⟨by omega,by omega⟩,trivial⟩];rfl
def gone(h:AE)(p:AJ):AE:=
 let h':AE:=⟨h.AO,h.Now,h.Ai,h.AG.eraseP (fun x=>x.Id==p.Id),h.AH,h.A0,h.Ay⟩
 if 0<=p.BQ then CQ h' p.BQ ⟨(l8 (cbn h p.BQ).AR p.A1 0 0 0 (-1)).1,(cbn h p.BQ).Row,(cbn h p.BQ).BO⟩ else h'
theorem KO{h:AE}(hh:Ba h){p:AJ}(h1:p.BQ<h.AH.length):Qx h p=some (gone h p):=by
 unfold Qx aU gone;rw[il hh.Bv,AF,Bl];by_cases h0:0<=p.BQ
 .rw[if_pos h0,if_pos h0,EW h0 h1,AF,AF,Xp,AF,AF,AF,AW];rfl
 .rw[if_neg h0,if_neg h0,AW]
def Qz(h:AE)(k n:Int):AE:=
 let h':=CQ h k ⟨(l8 (cbn h k).AR n 1 0 (-1) 0).1,(cbn h k).Row,(cbn h k).BO⟩
 ⟨h'.AO,h'.Now,h'.Ai,h'.AG,h'.AH,Ov h.A0 k,h'.Ay⟩
theorem U0{h:AE}(hh:Ba h){k:Int}(h0:0<=k)(h1:k<h.AH.length)(n:Int):kh h k n=some (Qz h k n):=by
 unfold kh Qz;rw[EW h0 h1,AF,AF,gY,AF,AF,AF,HQ hh.todo,AF];rfl
end Lv.P
namespace Lv.P
open Lv Go
def Ir(a b:AJ):Bool:=decide (a.Id<b.Id)
def Iu(l:List AJ)(p:AJ):List AJ:=
 if 0<=atF (fun x:AJ=>x.Id==p.Id) l 0 then l.set (atF (fun x:AJ=>x.Id==p.Id) l 0).toNat p else put Ir p l
theorem MK{l:List AJ}(hl:l.length<=1048576)(p:AJ):aZ l p=some (Iu l p):=by
 have hlim:lim=268435456:=rfl;unfold aZ Iu;rw[SC hl,AF,DB (by omega),Bl,B6];split
 .grind[atF,AJ,HL,A5,AF]
 .rename_i h0;have h3:∀i:Nat,i<=l.length->aa l p i=some (l.take i++p::l.drop i):=by
   grind[aa,Cz,Vp,Vq,Vr,Vt,RX,Vu,Vv,Ez,rC,Int.toNat_natCast,List.length_take,DB,List.length_cons,List.length_nil,List.length_append,List.length_drop]
  refine Po (lt:=Ir) some (by omega) ?_ ?_
  .intro L i h;unfold ae To;rw[A3 h,BW,A5 h,AF,AW,AW,h3 i (by omega)];rfl
  .intro L;unfold ae To;rw[Cw,BV,AW,BV,AW,h3 _ (Nat.le_refl _)];simp
def Ds(r:AV)(p:AJ)(now:Int):AJ×Bool:=
 if DC r p now=true/\p.State=2/\w64 (p.CX+1)<r.Cc then (⟨p.Id,p.AT,p.BQ,p.A1,p.CT,p.Since,p.Ai,1,w64 (now+r.Rest),w64 (p.CX+1)⟩,true) else (fW,false)
theorem yf{r:AV}(hr:r.AR.length<2 ^ 62)(p:AJ)(now:Int):vV r p now=some (Ds r p now):=by
 unfold vV Tv Ds;rw[OT hr,AF];simp only[AW,BI,B5,ge_iff_le,decide_eq_true_eq,bne_iff_ne,ne_eq];cases DC r p now
 .rfl
 .by_cases h1:p.State=2
  .by_cases h2:r.Cc<=w64 (p.CX+1)
   .have:¬w64 (p.CX+1)<r.Cc:=by omega
    simp[h1,h2,this];rfl
   grind
  .simp[h1];rfl
end Lv.P
namespace Lv.P
open Lv Go
structure SO(n:Nat)(c:AS):Prop where
 row:c.Row.length<=n
 RI:c.BO.Aa.length<=1048576
 pins:c.BO.Aa.flatten.length<=n
structure Sm(n:Nat)(h:AE):Prop where
 DV:h.AO.AR.length<=1048576
 Bv:h.AG.length<=n
 D7:h.AH.length<=1048576
 C4:∀c∈h.AH,SO n c
 todo:h.A0.length<=n
 FL:h.Ay.length<=1048576
theorem SO.mono{n m:Nat}{c:AS}(h:SO n c)(hm:n<=m):SO m c:=⟨A9 h.row hm,h.RI,A9 h.pins hm⟩
theorem Sm.mono{n m:Nat}{h:AE}(hh:Sm n h)(hm:n<=m):Sm m h:=
 ⟨hh.DV,A9 hh.Bv hm,hh.D7,fun c hc=>(hh.C4 c hc).mono hm,A9 hh.todo hm,hh.FL⟩
theorem Sm.fit{n:Nat}{h:AE}(hh:Sm n h)(hn:n<=1048576):Ba h:=
 ⟨hh.DV,A9 hh.Bv hn,hh.D7,fun c hc=>⟨A9 (hh.C4 c hc).row hn,(hh.C4 c hc).RI,A9 (hh.C4 c hc).pins hn⟩,A9 hh.todo hn,hh.FL⟩
theorem Sm.cab{n:Nat}{h:AE}(hh:Sm n h){k:Int}{c:AS}(hc:SO n c):Sm n (CQ h k c):=by
 refine⟨hh.DV,hh.Bv,by simpa[CQ] using hh.D7,?_,hh.todo,hh.FL⟩;intro c' hc';rcases List.mem_or_eq_of_mem_set hc' with h1|rfl
 .exact hh.C4 _ h1
 .exact hc
theorem AQF(n:Nat):SO n rY:=⟨by simp[rY],by simp[rY],by simp[rY]⟩
theorem Sm.cbn{n:Nat}{h:AE}(hh:Sm n h)(k:Int):SO n (cbn h k):=by
 unfold Lv.P.cbn;rw[A6];cases hc:h.AH[k.toNat]? with
 |none=>exact AQF n|some c=>exact hh.C4 c (List.mem_of_getElem? hc)
theorem Rx{α:Type}(lt:α->α->Bool)(a:α):∀l:List α,(put lt a l).length=l.length+1| []=>rfl|b::l=>by unfold put;split<;>simp[Rx lt a l]
theorem RW{α:Type}(p:α->Bool)(l:List α):(l.eraseP p).length<=l.length:=(List.eraseP_sublist).length_le
theorem AGv{n:Nat}{c:AS}(h:SO n c)(p:AY):(Qs c.BO p).1.Aa.length<=1048576/\(Qs c.BO p).1.Aa.flatten.length<=n:=by
 unfold Qs;split
 .refine⟨by simpa using h.RI,?_⟩;rcases Aj (p.At.tmod 9).toNat c.BO.Aa.length with hk|hk
  .have h3:c.BO.Aa.getD (p.At.tmod 9).toNat []=c.BO.Aa[(p.At.tmod 9).toNat]:=by rw[A6,AU hk];rfl
   have h1:=xB hk ((c.BO.Aa[(p.At.tmod 9).toNat]).eraseP (isP p));have h2:=RW (isP p) (c.BO.Aa[(p.At.tmod 9).toNat]);have h4:=h.pins;dsimp only;rw[h3];omega
  .dsimp only;rw[List.set_eq_of_length_le hk];exact h.pins
 .exact⟨h.RI,h.pins⟩
theorem NQ(l:List Int)(k:Int):(Ov l k).length<=l.length+1:=by unfold Ov;split<;>simp
theorem AN1(l:List AJ)(p:AJ):(Iu l p).length<=l.length+1:=by
 grind[Iu,Rx]
theorem APJ{n:Nat}{h:AE}(hh:Sm n h){c:AS}{e:AQ}{k:Int}{l:Av}(hc:SO n c):Sm (n+1) (CQ h k ⟨l,put ltE e c.Row,c.BO⟩):=by
 refine(hh.mono (CW n)).cab ⟨?_,hc.RI,A9 hc.pins (CW n)⟩;rw[Rx];have:=hc.row;omega
theorem Xy{n:Nat}{h:AE}(hh:Sm n h)(p:AJ):Sm n (gone h p):=by
 have h0:Sm n ⟨h.AO,h.Now,h.Ai,h.AG.eraseP (fun x=>x.Id==p.Id),h.AH,h.A0,h.Ay⟩:=
  ⟨hh.DV,A9 (RW _ _) hh.Bv,hh.D7,hh.C4,hh.todo,hh.FL⟩
 unfold gone;dsimp only;split
 .have hc:=hh.cbn p.BQ;exact h0.cab ⟨hc.row,hc.RI,hc.pins⟩
 .exact h0
theorem xE{n:Nat}{h:AE}(hh:Sm n h)(k m:Int):Sm (n+1) (Qz h k m):=by
 have hc:=hh.cbn k;have h1:=(hh.cab (k:=k) (c:=⟨(l8 (Lv.P.cbn h k).AR m 1 0 (-1) 0).1,(Lv.P.cbn h k).Row,(Lv.P.cbn h k).BO⟩) ⟨hc.row,hc.RI,hc.pins⟩).mono (CW n);unfold Qz;exact⟨h1.DV,h1.Bv,h1.D7,h1.C4,A9 (NQ _ _) (by have:=hh.todo;omega),h1.FL⟩
end Lv.P
namespace Lv.P
open Lv Go
def dropped(h:AE)(p:AJ):AE:=CQ h p.AT ⟨(l8 (cbn h p.AT).AR p.A1 1 (-1) 0 0).1,(cbn h p.AT).Row,(Qs (cbn h p.AT).BO ⟨p.CB,p.Id⟩).1⟩
theorem Ku{n:Nat}{h:AE}(hh:Sm n h)(p:AJ):Sm n (dropped h p):=by
 have hc:=hh.cbn p.AT;have hw:=AGv hc ⟨p.CB,p.Id⟩;exact hh.cab ⟨hc.row,hw.1,hw.2⟩
def LI(h:AE)(l:List AJ):AE:=⟨h.AO,h.Now,h.Ai,l,h.AH,h.A0,h.Ay⟩
def FR(h:AE)(p:AJ):AE:=CQ h p.AT ⟨(cbn h p.AT).AR,put ltE (D4 h.AO p h.Now).1 (cbn h p.AT).Row,(cbn h p.AT).BO⟩
theorem QX{n:Nat}{h:AE}(hh:Sm n h)(p:AJ):Sm (n+1) (LI h (Iu h.AG p)):=by
 have h1:=hh.mono (CW n);exact⟨h1.DV,A9 (AN1 _ _) (by have:=hh.Bv;omega),h1.D7,h1.C4,h1.todo,h1.FL⟩
def Gu(h:AE)(p:AJ):AE:=
 if (Ds h.AO p h.Now).2=true then FR (LI (dropped h p) (Iu h.AG (Ds h.AO p h.Now).1)) (Ds h.AO p h.Now).1 else gone (dropped h p) p
theorem XK{r:AV}{p:AJ}{now:Int}(h:(Ds r p now).2=true):(Ds r p now).1.AT=p.AT:=by
 grind[Ds]
theorem ALR{n:Nat}{h:AE}(hh:Sm n h)(p:AJ):Sm (n+2) (Gu h p):=by
 unfold Gu;split
 .exact APJ (QX (Ku hh p) _) ((QX (Ku hh p) _).cbn _)
 .exact(Xy (Ku hh p) p).mono (by omega)
theorem RG{n:Nat}(hn:n+2<=1048576){h:AE}(hh:Sm n h){p:AJ}(h0:0<=p.AT)(h1:p.AT<h.AH.length)(h2:p.BQ<h.AH.length):kj h p=some (Gu h p):=by
 unfold kj;rw[Uz (hh.fit (by omega)) h0 h1,AF];have hd:=Ku hh p;have hs:=hh.DV;show bd (vV h.AO p h.Now) _=_;rw[yf (by omega),AF,BI,B5];unfold Gu;have hlen:(dropped h p).AH.length=h.AH.length:=by simp[dropped,CQ]
 split
 .rename_i hf;have hc:=XK hf;rw[MK (by have:=hh.Bv;show h.AG.length<=_;omega),AF];have hw:=QX hd (Ds h.AO p h.Now).1;show bd (XE (LI (dropped h p) (Iu h.AG (Ds h.AO p h.Now).1)) _) _=_;rw[Xd (h:=LI (dropped h p) (Iu h.AG (Ds h.AO p h.Now).1)) (hw.fit (by omega)) (by rw[hc];exact h0) (by rw[hc];show p.AT<((dropped h p).AH.length:Int);rw[hlen];exact h1),AF];rfl
 .show bd (Qx (dropped h p) p) _=_;rw[KO (hd.fit (by omega)) (by rw[hlen];exact h2),AF]
end Lv.P
namespace Lv.P
open Lv Go
def EH(h:AE)(l:List Int):AE:=⟨h.AO,h.Now,h.Ai,h.AG,h.AH,l,h.Ay⟩
def GL(h:AE)(id cabin frm size tier:Int):AJ:=⟨id,cabin,frm,size,tier,h.Now,h.Ai,1,0,0⟩
def IG(h:AE)(k n:Int):AE:=CQ h k ⟨(l8 (cbn h k).AR n 0 0 0 1).1,(cbn h k).Row,(cbn h k).BO⟩
def Jz(h:AE)(id cabin frm size tier:Int):AE:=
 let p:=GL h id cabin frm size tier
 let x:=FR ⟨h.AO,h.Now,w64 (h.Ai+1),Iu h.AG p,h.AH,h.A0,h.Ay⟩ p
 let y:=if 0<=frm then IG x frm size else x
 EH y (Ov y.A0 cabin)
def eW(h:AE)(id cabin frm size tier:Int):AE×Int:=
 if verdict h ⟨1,id,cabin,frm,size,tier⟩≠0 then (h,verdict h ⟨1,id,cabin,frm,size,tier⟩) else (Jz h id cabin frm size tier,0)
theorem AHi{h:AE}(hh:Ba h){p:AJ}(h0:0<=p.AT)(h1:p.AT<h.AH.length):XE h p=some (FR h p):=Xd hh h0 h1
theorem VA{h:AE}{id cabin frm size tier:Int}(hv:verdict h ⟨1,id,cabin,frm,size,tier⟩=0):EC h=true/\0<=cabin/\cabin<h.AH.length/\frm<h.AH.length:=by
 grind[verdict,GK,Jp,Oq,CI,UM]
theorem AJT{n:Nat}(hn:n+3<=1048576){h:AE}(hh:Sm n h)(id cabin frm size tier:Int):AEk h id cabin frm size tier=some (eW h id cabin frm size tier)/\Sm (n+3) (eW h id cabin frm size tier).1:=by
 have hf:=hh.fit (by omega);unfold AEk aP eW;rw[GA hf,AF,Fc hf,AF];simp only[B5,bne_iff_ne,ne_eq,Bl,ge_iff_le,AW];by_cases hv:verdict h ⟨1,id,cabin,frm,size,tier⟩=0
 .obtain⟨hb,c0,c1,f1⟩:=VA hv;rw[if_neg (not_not_intro hv),if_neg (not_not_intro hv),MK hf.Bv,AF];have hx0:Sm (n+1) (⟨h.AO,h.Now,w64 (h.Ai+1),Iu h.AG (GL h id cabin frm size tier),h.AH,h.A0,h.Ay⟩:AE):=by
   have h1:=QX hh (GL h id cabin frm size tier);exact⟨h1.DV,h1.Bv,h1.D7,h1.C4,h1.todo,h1.FL⟩
  have hx:Sm (n+2) (FR ⟨h.AO,h.Now,w64 (h.Ai+1),Iu h.AG (GL h id cabin frm size tier),h.AH,h.A0,h.Ay⟩ (GL h id cabin frm size tier)):=APJ hx0 (hx0.cbn _);show bd (XE ⟨h.AO,h.Now,w64 (h.Ai+1),Iu h.AG (GL h id cabin frm size tier),h.AH,h.A0,h.Ay⟩ (GL h id cabin frm size tier)) _=_/\_;rw[AHi (hx0.fit (by omega)) (show 0<=(GL h id cabin frm size tier).AT from c0) (show (GL h id cabin frm size tier).AT<_ from c1),AF];simp only[decide_eq_true_eq];unfold Jz;dsimp only;generalize hX:FR ⟨h.AO,h.Now,w64 (h.Ai+1),Iu h.AG (GL h id cabin frm size tier),h.AH,h.A0,h.Ay⟩ (GL h id cabin frm size tier)=X at hx ⊢;have hlen:X.AH.length=h.AH.length:=by rw[<-hX];simp[FR,CQ]
  by_cases hfr:0<=frm
  .rw[if_pos hfr,if_pos hfr,EW hfr (by rw[hlen];exact f1),AF,AF,iq,AF,AF,AF,HQ (by have:=hx.todo;show X.A0.length<=_;omega),AF];have hc:=hx.cbn frm;have ht:Sm (n+2) (IG X frm size):=hx.cab ⟨hc.row,hc.RI,hc.pins⟩;have ht1:=ht.mono (CW (n+2));exact⟨rfl,ht1.DV,ht1.Bv,ht1.D7,ht1.C4,A9 (NQ _ _) (by have:=ht.todo;omega),ht1.FL⟩
  .rw[if_neg hfr,if_neg hfr];show bd (Tp X.A0 cabin) _=_/\_;rw[HQ (by have:=hx.todo;omega),AF];have ht1:=hx.mono (CW (n+2));exact⟨rfl,ht1.DV,ht1.Bv,ht1.D7,ht1.C4,A9 (NQ _ _) (by have:=hx.todo;omega),ht1.FL⟩
 .rw[if_pos hv,if_pos hv];exact⟨rfl,hh.mono (by omega)⟩
end Lv.P
namespace Lv.P
open Lv Go
def par(h:AE)(id:Int):AJ:=h.AG.getD (Ep h id).toNat fW
theorem fx{h:AE}(hb:EC h=true){id:Int}(h0:0<=Ep h id):0<=(par h id).AT/\(par h id).AT<h.AH.length /\ -1<=(par h id).BQ/\(par h id).BQ<h.AH.length/\(par h id).Id=id:=by
 have hR:=ATq hb;obtain⟨h1,h2⟩:=OL h0;have hi:(Ep h id).toNat<h.AG.length:=by omega
 have hp:=hR.par _ hi;have he:par h id=h.AG[(Ep h id).toNat]:=by unfold par;rw[A6,AU hi];rfl
 rw[<-he]at hp;unfold DC at hp;have hs:=hR.DV;simp only[AD,CI]at hp;obtain⟨_,_,_,hc,hf,_⟩:=hp;rw[BP (by omega) (by omega)]at hc hf;have:=hR.D7
 grind
def cm(h:AE)(k n:Int):AE×Int:=
 if verdict h ⟨3,0,k,0,n,0⟩≠0 then (h,verdict h ⟨3,0,k,0,n,0⟩) else (Qz h k n,0)
theorem U9{h:AE}{k n:Int}(hv:verdict h ⟨3,0,k,0,n,0⟩=0):EC h=true/\0<=k/\k<h.AH.length:=by
 grind[verdict,GK,Jp,Oq,CI]
theorem gP{m:Nat}(hm:m+1<=1048576){h:AE}(hh:Sm m h)(k n:Int):AE4 h k n=some (cm h k n)/\Sm (m+1) (cm h k n).1:=by
 have hf:=hh.fit (by omega);unfold AE4 cm;rw[GA hf,AF,Fc hf,AF];simp only[B5,bne_iff_ne,ne_eq];by_cases hv:verdict h ⟨3,0,k,0,n,0⟩=0
 .obtain⟨hb,c0,c1⟩:=U9 hv
  grind[U0,AF,xE]
 .rw[if_pos hv,if_pos hv];exact⟨rfl,hh.mono (by omega)⟩
end Lv.P
