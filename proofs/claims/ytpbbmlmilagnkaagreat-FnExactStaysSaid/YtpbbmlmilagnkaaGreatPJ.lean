/-
  Plain laws: a decline, a cancel.
-/
import Derived.Test.YtpbbmlmilagnkaaGreatPI
noncomputable section
set_option linter.unusedVariables false
set_option linter.unusedSimpArgs false
set_option linter.unusedSectionVars false
open Bool renaming and_eq_true->AD,and_false->Ci,not_eq_true'->Az
open List renaming filterMap_cons->G3,filter_cons->Dz,flatten_append->G4,flatten_cons->Dk,foldl_cons->BU,getElem_mem->Am,mem_cons->Ac,mem_cons_of_mem->Ag,mem_cons_self->BG,pairwise_cons->BA,pairwise_filterMap->EU,pairwise_iff_getElem->B3,perm_middle->IN,set_eq_take_append_cons_drop->ES
open Nat renaming add_assoc->CG,le_succ->CW,le_trans->A9
namespace Lv.P
open Lv Go
theorem Ol{h:AE}{id:Int}(hv:verdict h ⟨5,id,0,0,0,0⟩=0):EC h=true/\0<=Ep h id:=by
 grind[verdict,GK,Ib,Ep]
def ALJ(h:AE)(id:Int):AE:=EH (Gu h (par h id)) (Ov (Gu h (par h id)).A0 (par h id).AT)
def Kt(h:AE)(id:Int):AE×Int:=
 if verdict h ⟨5,id,0,0,0,0⟩≠0 then (h,verdict h ⟨5,id,0,0,0,0⟩) else (ALJ h id,0)
theorem qJ{n:Nat}(hn:n+3<=1048576){h:AE}(hh:Sm n h)(id:Int):AE7 h id=some (Kt h id)/\Sm (n+3) (Kt h id).1:=by
 have hf:=hh.fit (by omega);unfold AE7 Kt;rw[GA hf,AF,Fc hf,AF];simp only[B5,bne_iff_ne,ne_eq];by_cases hv:verdict h ⟨5,id,0,0,0,0⟩=0
 .obtain⟨hb,p0⟩:=Ol hv;obtain⟨c0,c1,f0,f1,hid⟩:=fx hb p0;rw[if_neg (not_not_intro hv),if_neg (not_not_intro hv),Fb hf];simp only[AF,VJ p0 (OL p0).1,Cz,Vp,Vq,Vr,Vt,RX,Vu,Vv,Ez];have hfl:=ALR hh (par h id);show bd (kj h (par h id)) _=_/\_;rw[RG (by omega) hh c0 c1 f1,AF,HQ (by have:=hfl.todo;omega),AF];have h1:=hfl.mono (CW (n+2));exact⟨rfl,h1.DV,h1.Bv,h1.D7,h1.C4,A9 (NQ _ _) (by have:=hfl.todo;omega),h1.FL⟩
 .rw[if_pos hv,if_pos hv];exact⟨rfl,hh.mono (by omega)⟩
end Lv.P
namespace Lv.P
open Lv Go
theorem P0{h:AE}{id:Int}(hv:verdict h ⟨2,id,0,0,0,0⟩=0):EC h=true/\0<=Ep h id:=by
 grind[verdict,GK]
def gz(h:AE)(k id:Int):AE:=CQ h k ⟨(cbn h k).AR,(cbn h k).Row.eraseP (fun x=>x.Id==id),(cbn h k).BO⟩
def cancelled(h:AE)(id:Int):AE:=
 let p:=par h id
 if p.State=2 then gone (EH (dropped h p) (Ov (dropped h p).A0 p.AT)) p else gone (gz h p.AT id) p
def Na(h:AE)(id:Int):AE×Int:=
 if verdict h ⟨2,id,0,0,0,0⟩≠0 then (h,verdict h ⟨2,id,0,0,0,0⟩) else (cancelled h id,0)
theorem AB0{h:AE}(hh:Ba h){p:AJ}(h0:0<=p.AT)(h1:p.AT<h.AH.length):aR h p=some (dropped h p):=Uz hh h0 h1
theorem ye{n:Nat}(hn:n+1<=1048576){h:AE}(hh:Sm n h)(id:Int):AE2 h id=some (Na h id)/\Sm (n+1) (Na h id).1:=by
 have hf:=hh.fit (by omega);unfold AE2 Na;rw[GA hf,AF,Fc hf,AF];simp only[B5,bne_iff_ne,ne_eq];by_cases hv:verdict h ⟨2,id,0,0,0,0⟩=0
 .obtain⟨hb,p0⟩:=P0 hv;obtain⟨c0,c1,f0,f1,hid⟩:=fx hb p0;rw[if_neg (not_not_intro hv),if_neg (not_not_intro hv),Fb hf];simp only[AF,VJ p0 (OL p0).1,Cz,Vp,Vq,Vr,Vt,RX,Vu,Vv,Ez,beq_iff_eq,AW];show (if (par h id).State=2 then bd (aR h (par h id)) _ else bd (at? h.AH (par h id).AT) _)=_/\_;unfold cancelled;dsimp only;by_cases hs:(par h id).State=2
  .rw[if_pos hs,if_pos hs,AB0 hf c0 c1,AF];have hd:=Ku hh (par h id);rw[HQ (by have:=hd.todo;omega),AF];have hd1:=hd.mono (CW n);have ht:Sm (n+1) (EH (dropped h (par h id)) (Ov (dropped h (par h id)).A0 (par h id).AT)):=
    ⟨hd1.DV,hd1.Bv,hd1.D7,hd1.C4,A9 (NQ _ _) (by have:=hd.todo;omega),hd1.FL⟩
   unfold Tt;show bd (Qx (EH (dropped h (par h id)) (Ov (dropped h (par h id)).A0 (par h id).AT)) (par h id)) _=_/\_;rw[KO (ht.fit hn) (by (have:(EH (dropped h (par h id)) (Ov (dropped h (par h id)).A0 (par h id).AT)).AH.length=h.AH.length:=by simp[EH,dropped,CQ]);rw[this];exact f1),AF];exact⟨rfl,Xy ht _⟩
  .rw[if_neg hs,if_neg hs];simp only[show at? h.AH (par h id).AT=some (cbn h (par h id).AT) from EW c0 c1,show at? h.AH (h.AG.getD (Ep h id).toNat fW).AT=some (cbn h (par h id).AT) from EW c0 c1,AF];have hc:=hh.cbn (par h id).AT;show bd (aS (cbn h (par h id).AT).Row id) _=_/\_;rw[RC (by have:=hc.row;omega),AF];have hu:Sm n (gz h (par h id).AT id):=hh.cab ⟨A9 (RW _ _) hc.row,hc.RI,hc.pins⟩;unfold Tt;show bd (Qx (gz h (par h id).AT id) (par h id)) _=_/\_;rw[KO (hu.fit (by omega)) (by (have:(gz h (par h id).AT id).AH.length=h.AH.length:=by simp[gz,CQ]);rw[this];exact f1),AF];exact⟨rfl,(Xy hu _).mono (CW n)⟩
 .rw[if_pos hv,if_pos hv];exact⟨rfl,hh.mono (by omega)⟩
end Lv.P
namespace Lv.P
open Lv Go
theorem Pz{h:AE}{id:Int}(hv:verdict h ⟨4,id,0,0,0,0⟩=0):EC h=true/\0<=Ep h id:=by
 grind[verdict,GK,Ib,Ep]
def Uv(h:AE)(p:AJ):AE:=CQ h p.AT ⟨(l8 (cbn h p.AT).AR p.A1 0 (-1) 1 0).1,(cbn h p.AT).Row,(Qs (cbn h p.AT).BO ⟨p.CB,p.Id⟩).1⟩
theorem ARP{n:Nat}{h:AE}(hh:Sm n h)(p:AJ):Sm n (Uv h p):=by
 have hc:=hh.cbn p.AT;have hw:=AGv hc ⟨p.CB,p.Id⟩;exact hh.cab ⟨hc.row,hw.1,hw.2⟩
def accepted(h:AE)(id:Int):AE:=
 let p:=par h id
 if 0<=p.BQ then Qz (gone (Uv h p) p) p.BQ p.A1 else gone (Uv h p) p
def NU(h:AE)(id:Int):AE×Int:=
 if verdict h ⟨4,id,0,0,0,0⟩≠0 then (h,verdict h ⟨4,id,0,0,0,0⟩) else (accepted h id,0)
theorem AMu(h:AE)(p:AJ):(gone h p).AH.length=h.AH.length:=by grind[gone,CQ]
theorem yc{n:Nat}(hn:n+1<=1048576){h:AE}(hh:Sm n h)(id:Int):AE6 h id=some (NU h id)/\Sm (n+1) (NU h id).1:=by
 have hf:=hh.fit (by omega);unfold AE6 NU;rw[GA hf,AF,Fc hf,AF];simp only[B5,bne_iff_ne,ne_eq];by_cases hv:verdict h ⟨4,id,0,0,0,0⟩=0
 .obtain⟨hb,p0⟩:=Pz hv;obtain⟨c0,c1,f0,f1,hid⟩:=fx hb p0;rw[if_neg (not_not_intro hv),if_neg (not_not_intro hv),Fb hf];have hc:=(hf.C4 _ (RO c0 c1)).2;have hs:=ARP hh (par h id);have hl:(Uv h (par h id)).AH.length=h.AH.length:=by simp[Uv,CQ]
  simp only[AF,VJ p0 (OL p0).1,show at? h.AH (h.AG.getD (Ep h id).toNat fW).AT=some (cbn h (par h id).AT) from EW c0 c1,Cz,Vp,Vq,Vr,Vt,RX,Vu,Vv,Ez,gb,RE hc,AW,Bl,ge_iff_le,decide_eq_true_eq];rw[DB ⟨rfl,⟨by omega,by omega⟩,trivial⟩];show bd (Qx (Uv h (par h id)) (par h id)) _=_/\_;rw[KO (hs.fit (by omega)) (by rw[hl];exact f1),AF];have hg:=Xy hs (par h id);unfold accepted ay;dsimp only;by_cases h0:0<=(par h id).BQ
  .rw[if_pos h0];show (if 0<=(par h id).BQ then bd (kh (gone (Uv h (par h id)) (par h id)) (par h id).BQ (par h id).A1) _ else _)=_/\_;rw[if_pos h0,U0 (hg.fit (by omega)) h0 (by rw[AMu,hl];exact f1),AF];exact⟨rfl,xE hg _ _⟩
  .rw[if_neg h0];show (if 0<=(par h id).BQ then _ else _)=_/\_;rw[if_neg h0];exact⟨rfl,hg.mono (CW n)⟩
 .rw[if_pos hv,if_pos hv];exact⟨rfl,hh.mono (by omega)⟩
end Lv.P
namespace Lv.P
open Lv Go
def NP(h:AE)(i:Nat):AE:=
 let x:=CQ h i ⟨(cbn h i).AR,De h.AO h.AG i h.Now,(cbn h i).BO⟩
 if 0<Cr h.AG i then EH x (Ov h.A0 i) else x
def Lk:Nat->Nat->AE->AE|0,_,h=>h|k+1,i,h=>Lk k (i+1) (NP h i)
theorem mJ(h:AE)(i:Nat):(NP h i).AH.length=h.AH.length:=by grind[NP,CQ,EH]
theorem gx{n:Nat}{h:AE}(hh:Sm n h)(i:Nat):Sm (n+1) (NP h i):=by
 have hc:=hh.cbn (i:Int);have hq:(De h.AO h.AG (i:Int) h.Now).length<=n:=by
  unfold De;rw[M3];exact A9 (List.length_filterMap_le _ _) hh.Bv
 have hx:Sm n (CQ h i ⟨(cbn h i).AR,De h.AO h.AG i h.Now,(cbn h i).BO⟩):=hh.cab ⟨hq,hc.RI,hc.pins⟩;have h1:=hx.mono (CW n);unfold NP;dsimp only;split
 .exact⟨h1.DV,h1.Bv,h1.D7,h1.C4,A9 (NQ _ _) (by have:=hh.todo;omega),h1.FL⟩
 .exact h1
theorem APe{n:Nat}{h:AE}(hh:Sm n h)(hn:n+h.AH.length<=1048576):Aw Tw big (0,h)=some (Lk h.AH.length 0 h,0):=by
 generalize hlen:h.AH.length=len at *;refine(C5 (F:=Tw) (n:=len) (fun i (v:AE)=>((i:Int),v)) (fun i v=>Sm (n+i) v/\v.AH.length=len) (fun i v=>some (Lk (len-i) i v,0)) (by omega) ?_ (v:=h) ⟨hh,hlen⟩).trans (by rw[Nat.sub_zero]);intro L i v ⟨hv,hvl⟩ hi ih;have hf:=hv.fit (by omega);unfold Tw;dsimp only;rw[hvl];rcases Nat.lt_or_ge i len with h'|h'
 .have hs:=hf.DV;have hp:=hf.Bv;rw[A3 h',BW,Ux (by omega) hp,AF,EW (by omega) (by omega),AF,AF,OS (by omega),AF];have e:Lk (len-i) i v=Lk (len-(i+1)) (i+1) (NP v i):=by rw[show len-i=(len-(i+1))+1 by omega];rfl
  rw[e];have hst:=ih (NP v i) ⟨by have:=gx hv i;rw[CG]at this;exact this,by rw[mJ];exact hvl⟩ h';rw[<-hst];unfold az NP;simp only[Bl,gt_iff_lt,AW,Bd h' (show len<2 ^ 63 by omega),Int.toNat_natCast,HQ hf.todo,AF];split<;>rfl
 .have:i=len:=by omega
  subst this;rw[Cw,BV,AW,Nat.sub_self];rfl
end Lv.P
namespace Lv.P
open Lv Go
def ATK(h:AE):AE:=Lk h.AH.length 0 ⟨h.AO,w64 (h.Now+1),h.Ai,h.AG,h.AH,h.A0,h.Ay⟩
def gy(h:AE):AE×Int:=
 if verdict h ⟨6,0,0,0,0,0⟩≠0 then (h,verdict h ⟨6,0,0,0,0,0⟩) else (ATK h,0)
theorem yo:∀(k i:Nat) {n:Nat} {h:AE},Sm n h->Sm (n+k) (Lk k i h)|0,_,_,_,hh=>hh|k+1,i,n,h,hh=>by have:=yo k (i+1) (gx hh i);rw[CG,Nat.add_comm 1 k]at this;exact this
theorem AJY{n:Nat}{h:AE}(hh:Sm n h)(hn:n+h.AH.length<=1048576):AE8 h=some (gy h)/\Sm (n+h.AH.length) (gy h).1:=by
 have hf:=hh.fit (by omega);unfold AE8 gy;rw[GA hf,AF,Fc hf,AF];simp only[B5,bne_iff_ne,ne_eq];have h':Sm n ⟨h.AO,w64 (h.Now+1),h.Ai,h.AG,h.AH,h.A0,h.Ay⟩:=⟨hh.DV,hh.Bv,hh.D7,hh.C4,hh.todo,hh.FL⟩;by_cases hv:verdict h ⟨6,0,0,0,0,0⟩=0
 .rw[if_neg (not_not_intro hv),if_neg (not_not_intro hv),APe h' hn];exact⟨rfl,yo _ _ h'⟩
 .rw[if_pos hv,if_pos hv];exact⟨rfl,hh.mono (by omega)⟩
def cU(w:Ah)(now:Int):List Int:=(Dq w).filterMap fun p=>if p.At<=now then some p.Id else none
theorem qO{w:Ah}(hw:DK w)(now:Int):vW w now=some ((Dq w).filter fun p=>decide (p.At<=now)):=by
 have hlim:lim=268435456:=rfl;have hl:=HH hw;unfold vW;rw[Li hw,AF,collect (l:=Dq w) (fun p=>if p.At<=now then some p else none) some hl ?_ ?_]
 .congr 1;generalize Dq w=l
  induction l with
  |nil=>rfl|cons p l ih=>
   grind
 .grind[bD,bC,A3,BW,A5,AF,Bl,AW,DB,Dq,lim,KK]
 grind[bD,vX,BV,AW]
theorem yk{h:AE}(hh:Ba h){k:Int}(h0:0<=k)(h1:k<h.AH.length):AE9 h k=some (cU (cbn h k).BO h.Now):=by
 have hlim:lim=268435456:=rfl;have hw:=(hh.C4 _ (RO h0 h1)).2;have hl:=HH hw;unfold AE9;rw[EW h0 h1,AF];show bd (vW (cbn h k).BO h.Now) _=_;rw[qO hw,AF];generalize hD:(Dq (cbn h k).BO).filter (fun p=>decide (p.At<=h.Now))=D;have hDl:D.length<=1048576:=by rw[<-hD];exact A9 (List.length_filter_le _ _) hl
 rw[collect (l:=D) (fun p=>some p.Id) some hDl ?_ ?_]
 .unfold cU;rw[<-hD];congr 1;generalize Dq (cbn h k).BO=l
  induction l with
  |nil=>rfl|cons p l ih=>
   grind[decide_true,decide_false,Bool.false_eq_true]
 .grind[bE,A3,BW,A5,AF,DB,lim,KK]
 grind[bE,vY,BV,AW]
end Lv.P
namespace Lv.P
open Lv Go
section
variable{α:Type}{lt:α->α->Bool}
theorem Ug(a:α):∀l:List α,(put lt a l).Perm (a::l)
 | []=>.refl _|z::l=>by
  unfold put;split
  .exact((Ug a l).cons z).trans (.swap a z l)
  .exact .refl _
theorem KX:∀l:List α,(Cm lt l).Perm l| []=>.refl _|a::l=>(Ug a _).trans ((KX l).cons a)
def Ob(lt:α->α->Bool)(l:List α):Prop:=l.Pairwise fun a b=>lt a b=true\/lt b a=true
theorem Ob.perm{l1 l2:List α}(h:Ob lt l1)(hp:l1.Perm l2):Ob lt l2:=(hp.pairwise_iff (fun h=>h.symm)).1 h
theorem Jm(h:Swo lt){l:List α}(hd:Ob lt l):(Cm lt l).Pairwise fun a b=>lt a b=true:=by
 have h1:(Cm lt l).Pairwise fun a b=>lt b a=false:=QI h l
 have h2:Ob lt (Cm lt l):=hd.perm (KX (lt:=lt) l).symm;exact(h1.and h2).imp fun {a b} ⟨h3,h4⟩=>h4.resolve_right (by rw[h3];simp)
theorem mE(h:Swo lt):∀{l1 l2:List α},(l1.Pairwise fun a b=>lt a b=true)->(l2.Pairwise fun a b=>lt a b=true)->l1.Perm l2->l1=l2
 | [],l2,_,_,hp=>hp.nil_eq|a::l1,[],_,_,hp=>by cases hp.eq_nil
 |a::l1,b::l2,h1,h2,hp=>by
  rw[BA]at h1 h2;by_cases e:a=b
  .subst e;rw[mE h h1.2 h2.2 hp.cons_inv]
  .have h3:a∈l2:=(Ac.1 (hp.subset (BG ..))).resolve_left e;have h4:b∈l1:=(Ac.1 (hp.symm.subset (BG ..))).resolve_left (Ne.symm e);have:=h.mT _ _ (h1.1 b h4)
   grind
theorem ARQ(h:Swo lt){l1 l2:List α}(hd:Ob lt l1)(hp:l1.Perm l2):Cm lt l1=Cm lt l2:=
 mE h (Jm h hd) (Jm h (hd.perm hp)) ((KX l1).trans (hp.trans (KX l2).symm))
end
structure Uni(ps:List AJ):Prop where
 id:ps.Pairwise fun p q=>p.Id≠q.Id
 HT:ps.Pairwise fun p q=>p.Ai≠q.Ai
theorem Uni.perm{a b:List AJ}(h:Uni a)(hp:a.Perm b):Uni b:=⟨(hp.pairwise_iff (fun h=>Ne.symm h)).1 h.id,(hp.pairwise_iff (fun h=>Ne.symm h)).1 h.HT⟩
theorem Uni.tail{p:AJ}{b:List AJ}(h:Uni (p::b)):Uni b:=⟨(BA.1 h.id).2,(BA.1 h.HT).2⟩
theorem Nt{r:AV}{now:Int}{p:AJ}(hp:DC r p now=true)(hs:p.State=1):D4 r p now=(⟨Gw r p now,p.Ai,p.Id,p.A1⟩,true):=by
 grind[D4]
theorem XI{r:AV}{now:Int}{p:AJ}(h:¬(DC r p now=true/\p.State=1)):D4 r p now=(⟨0,0,0,0⟩,false):=by
 unfold D4;rw[if_neg h]
theorem HP{r:AV}{c now:Int}{p:AJ}{e:AQ}(h:MH r c now p=some e):e=⟨Gw r p now,p.Ai,p.Id,p.A1⟩/\DC r p now=true/\p.State=1/\p.AT=c:=by
 grind[MH,DC,Nt,XI]
theorem AHw{r:AV}{now:Int}{p:AJ}(hp:DC r p now=true)(hs:p.State=1)(c:Int):MH r c now p=if p.AT=c then some ⟨Gw r p now,p.Ai,p.Id,p.A1⟩ else none:=by
 unfold MH;rw[Nt hp hs];simp
theorem AN5{r:AV}{c now:Int}{p:AJ}(hs:p.State≠1):MH r c now p=none:=by
 grind[MH,XI]
theorem NK{c:Int}{p:AJ}{e:AY}(h:OK c p=some e):e=⟨p.CB,p.Id⟩/\p.State=2/\p.AT=c:=by
 grind[OK,Option.some.inj]
theorem AJ2{ps:List AJ}(h:Uni ps)(r:AV)(c now:Int):Ob ltE (ps.filterMap (MH r c now)):=by
 unfold Ob;rw[EU];refine h.HT.imp ?_;intro p q hne a ha b hb;obtain⟨rfl,_⟩:=HP ha;obtain⟨rfl,_⟩:=HP hb
 grind[QJ]
theorem yE{ps qs:List AJ}(h:Uni ps)(hp:ps.Perm qs)(r:AV)(c now:Int):De r ps c now=De r qs c now:=ARQ YA (AJ2 h r c now) (hp.filterMap _)
theorem Rv{ps qs:List AJ}(hp:ps.Perm qs)(c:Int):GG ps c=GG qs c:=eV ED UQ (hp.filterMap _)
theorem Pp(r:AV)(p:AJ)(ps:List AJ)(c now:Int):De r (p::ps) c now=match MH r c now p with|some e=>put ltE e (De r ps c now)|none=>De r ps c now:=by
 unfold De;rw[G3];cases MH r c now p<;>rfl
theorem Ru(p:AJ)(ps:List AJ)(c:Int):GG (p::ps) c=match OK c p with|some e=>put ltP e (GG ps c)|none=>GG ps c:=by
 unfold GG;rw[G3];cases OK c p<;>rfl
theorem Kx(f:AJ->Int)(g:Int->AJ->Int)(hg:∀n p,g n p=n+f p):∀(l:List AJ) (n:Int),l.foldl g n=n+l.foldl g 0| [],n=>by simp|p::l,n=>by rw[BU,BU,Kx f g hg l,Kx f g hg l (g 0 p),hg,hg];omega
def UE(c:Int)(p:AJ):Int:=if ((p.State==2)&&((p.AT==c)&&inB p.A1 1 6))=true then p.A1 else 0
def mK(c:Int)(p:AJ):Int:=if ((p.BQ==c)&&inB p.A1 1 6)=true then p.A1 else 0
def AQJ(c:Int)(p:AJ):Int:=if (p.AT==c)=true then 1 else 0
theorem AGD(c n:Int)(p:AJ):Q0 c n p=n+UE c p:=by grind[Q0,UE]
theorem AGp(c n:Int)(p:AJ):RJ c n p=n+mK c p:=by grind[RJ,mK]
theorem rj(c n:Int)(p:AJ):Jr c n p=n+AQJ c p:=by grind[Jr,AQJ]
theorem Kz(p:AJ)(ps:List AJ)(c:Int):Im (p::ps) c=UE c p+Im ps c:=by
 unfold Im;rw[BU,Kx _ _ (AGD c),AGD];omega
theorem SI(p:AJ)(ps:List AJ)(c:Int):IW (p::ps) c=mK c p+IW ps c:=by
 unfold IW;rw[BU,Kx _ _ (AGp c),AGp];omega
theorem W6(p:AJ)(ps:List AJ)(c:Int):Cr (p::ps) c=AQJ c p+Cr ps c:=by
 unfold Cr;rw[BU,Kx _ _ (rj c),rj];omega
theorem gm{F:List AJ->Int}{f:AJ->Int}(hF:∀p l,F (p::l)=f p+F l){a b:List AJ}(hp:a.Perm b):F a=F b:=by
 induction hp with
 |nil=>rfl|cons x _ ih=>rw[hF,hF,ih]|swap x y l=>rw[hF,hF,hF,hF];omega|trans _ _ h1 h2=>exact h1.trans h2
theorem ABs{a b:List AJ}(hp:a.Perm b)(c:Int):Im a c=Im b c:=gm (F:=fun l=>Im l c) (fun p l=>Kz p l c) hp
theorem ADD{a b:List AJ}(hp:a.Perm b)(c:Int):IW a c=IW b c:=gm (F:=fun l=>IW l c) (fun p l=>SI p l c) hp
theorem O2{a b:List AJ}(hp:a.Perm b)(c:Int):Cr a c=Cr b c:=gm (F:=fun l=>Cr l c) (fun p l=>W6 p l c) hp
theorem AC7{F:List AJ->Int}{f:AJ->Int}(h0:F []=0)(hF:∀p l,F (p::l)=f p+F l)(hf:∀p,0<=f p):∀l,0<=F l| []=>by omega|p::l=>by have:=hf p;have:=AC7 h0 hF hf l;rw[hF];omega
theorem ANE(c:Int)(p:AJ):0<=UE c p:=by
 grind[UE,CI]
theorem APf(c:Int)(p:AJ):0<=mK c p:=by
 grind[mK,CI]
theorem xK(l:List AJ)(c:Int):0<=Im l c:=AC7 (F:=fun l=>Im l c) rfl (fun p l=>Kz p l c) (ANE c) l
theorem APg(l:List AJ)(c:Int):0<=IW l c:=AC7 (F:=fun l=>IW l c) rfl (fun p l=>SI p l c) (APf c) l
def wOf(S:List AY):Ah:=⟨(List.range 9).map fun i=>S.filter (Ea i)⟩
theorem YI(S:List AY):(wOf S).Aa.length=9:=by simp[wOf]
theorem YH(S:List AY){i:Nat}(h:i<(wOf S).Aa.length):(wOf S).Aa[i]=S.filter (Ea i):=by simp[wOf]
theorem yx(S:List AY){i:Nat}(h:i<9):(wOf S).Aa.getD i []=S.filter (Ea i):=by
 rw[List.getD_eq_getElem?_getD,List.getElem?_eq_getElem (by rw[YI];exact h),Option.getD_some,YH]
theorem rD{S T:List AY}{k:Nat}(hk:k<9)(h:∀i,i<9->i≠k->T.filter (Ea i)=S.filter (Ea i)):(⟨(wOf S).Aa.set k (T.filter (Ea k))⟩:Ah)=wOf T:=by
 unfold wOf;congr 1;apply List.ext_getElem
 .simp
 grind
theorem iB:∀{S:List AY},(∀p∈S,1<=p.At)->(wOf S).Aa.flatten.Perm S
 | [],_=>by simp[wOf]|p::S,h=>by
  obtain⟨k,hk,e⟩:=U6 (h p (BG ..));have ih:=iB (S:=S) fun q hq=>h q (Ag _ hq)
  have hon:Ea k p=true:=GC.2 e;have h1:=rD (S:=S) (T:=p::S) hk (by
   intro i hi hne;have:Ea i p=false:=by
    grind[Ea,GC]
   simp[Dz,this])
  rw[<-h1];have hl:k<(wOf S).Aa.length:=by rw[YI];exact hk
  have h2:(p::S).filter (Ea k)=p::(wOf S).Aa[k]:=by rw[YH];simp[Dz,hon]
  rw[h2];dsimp only;rw[ES,if_pos hl,G4,Dk,List.cons_append];refine(IN).trans (List.Perm.cons p ?_);rw[<-Dk,<-G4,<-Ec hl,List.take_append_drop];exact ih
structure MP(S:List AY):Prop where
 few:S.length<=10
 pins:∀p∈S,OI p=true
 ids:S.Pairwise fun a b=>a.Id≠b.Id
 srt:S.Pairwise fun a b=>ltP a b=true
theorem iC{S:List AY}(h:MP S):Lp (wOf S):=by
 have hp:=iB fun p hp=>(Ld (h.pins p hp)).1.1
 refine⟨YI S,by rw[hp.length_eq];exact h.few,fun p hq=>h.pins p (hp.subset hq),(hp.pairwise_iff (fun h=>Ne.symm h)).2 h.ids,?_,?_⟩
 .grind[wOf,Ea,YH,List.getElem_mem,GC]
 .intro i hi k hk;have h1:(S.filter (Ea i)).Pairwise fun a b=>ltP a b=true:=h.srt.filter _
  grind[YH,List.pairwise_iff_getElem]
theorem yy{S:List AY}(h:MP S):Dq (wOf S)=S:=by
 have hp:=iB fun p hp=>(Ld (h.pins p hp)).1.1
 unfold Dq;rw[if_pos (DU.2 (iC h)),eV ED UQ hp,M1 ED h.srt]
theorem ATQ{w:Ah}(hw:FI w=true):w=wOf (Dq w):=by
 unfold Dq;rw[if_pos hw];exact Wv (DU.1 hw)
end Lv.P
namespace Lv.P
open Lv Go
structure VE(r:AV)(ps:List AJ)(now:Int)(i:Nat)(c:AS):Prop where
 row:c.Row=De r ps i now
 Ft:c.BO=wOf (GG ps i)
 total:c.AR.Total=r.AR.getD i 0
 held:c.AR.Dd=Im ps i
 IG:c.AR.ET=IW ps i
 led:DD c.AR=true
 room:Cr ps i<=r.Room
structure On(r:AV)(now HT:Int)(ps:List AJ):Prop where
 few:ps.length<=40
 par:∀p∈ps,DC r p now=true/\p.Ai<HT
 ids:ps.Pairwise fun p q=>p.Id<q.Id
 turns:ps.Pairwise fun p q=>F9 p q=false
structure RH(h:AE):Prop where
 rules:GI h.AO=true
 now:0<=h.Now/\h.Now<=1000000
 HT:1<=h.Ai/\h.Ai<=1000001
 D7:h.AH.length=h.AO.AR.length
 IX:On h.AO h.Now h.Ai h.AG
 cab:∀i (hi:i<h.AH.length),VE h.AO h.AG h.Now i h.AH[i]
 todo:Hw h.A0 h.AH.length=true
 FL:Jg h.Ay h.AH.length=true
 Qq:(h.Ay.length:Int)=h.AO.Cu
theorem zI(p q:AJ):F9 p q=F9 q p:=by
 grind[F9,Bool.or_comm]
theorem AKH{p q:AJ}(h:F9 p q=false):p.Ai≠q.Ai:=by
 grind[F9,Bool.or_eq_false_iff,beq_eq_false_iff_ne]
theorem On.uni{r:AV}{now HT:Int}{ps:List AJ}(h:On r now HT ps):Uni ps:=⟨h.ids.imp fun h=>by omega,h.turns.imp fun h=>AKH h⟩
theorem ez:Swo Ir:=⟨fun a b h=>by unfold Ir at *;simp only[decide_eq_true_eq,decide_eq_false_iff_not]at *;omega,fun a b c h=>by unfold Ir at *;simp only[decide_eq_true_eq]at *;omega⟩
theorem XX{h:AE}:Is h=true↔(∀p∈h.AG,DC h.AO p h.Now=true/\p.Ai<h.Ai)/\(h.AG.Pairwise fun p q=>p.Id<q.Id)/\h.AG.Pairwise fun p q=>F9 p q=false:=by
 have hat:∀i (hi:i<h.AG.length),XW h i=true↔DC h.AO h.AG[i] h.Now=true/\h.AG[i].Ai<h.Ai/\(∀j (hj:j<h.AG.length),j+1=i->h.AG[j].Id<h.AG[i].Id)/\∀j (hj:j<i),F9 h.AG[j] h.AG[i]=false:=by
  grind[XW,By,Bool.not_eq_true',decide_eq_false_iff_not,Iw,He,F9]
 grind[Is,Iw,List.mem_iff_getElem,Ki,Ir,ez,List.pairwise_iff_getElem,List.getElem_mem]
theorem ANb{r:AV}{p:AJ}{now:Int}(h:DC r p now=true):0<=Gw r p now/\Gw r p now<=4:=by
 have hp:=E5 h;have hr:=Cb hp.1;have h1:=lO r p.CT (w64 (now-p.Since));unfold Gw;rw[if_pos h];refine⟨h1,?_⟩;unfold WQ;rw[BP (n:=now-p.Since) (by omega) (by omega)];have h2:0<=(now-p.Since).tdiv r.CA:=Int.tdiv_nonneg (by omega) (by omega);have h3:(now-p.Since).tdiv r.CA<=now-p.Since:=by rw[Int.tdiv_eq_ediv_of_nonneg (by omega)];exact Int.ediv_le_self _ (by omega)
 grind[BP]
theorem OO{r:AV}{ps:List AJ}{c now:Int}{e:AQ}(h:e∈De r ps c now):∃p∈ps,MH r c now p=some e:=by
 grind[De,M4]
theorem lS{ps:List AJ}{c:Int}{e:AY}(h:e∈GG ps c):∃p∈ps,OK c p=some e:=by
 grind[GG,M4]
theorem ACt{r:AV}{ps:List AJ}(h:Uni ps)(c now:Int):(De r ps c now).Pairwise fun a b=>a.Id≠b.Id:=by
 refine((KX _).pairwise_iff (fun h=>Ne.symm h)).2 ?_;rw[EU];refine h.id.imp ?_;intro p q hne a ha b hb;obtain⟨rfl,_⟩:=HP ha;obtain⟨rfl,_⟩:=HP hb;exact hne
theorem ON(r:AV)(ps:List AJ)(c now:Int):((De r ps c now).length:Int)<=Cr ps c:=by
 unfold De;rw[M3];exact Xv _ c (by intro p h;unfold MH;rw[h,Ci];rfl) ps
theorem AHr(ps:List AJ)(c:Int):((GG ps c).length:Int)<=Cr ps c:=by
 unfold GG;rw[M3];exact Xv _ c (by intro p h;unfold OK;rw[h,Ci];rfl) ps
theorem yF{r:AV}{ps:List AJ}{now HT:Int}(hp:On r now HT ps){c:Int}(hr:Cr ps c<=10):ID (De r ps c now)=true:=by
 have hu:=hp.uni;have hl:=ON r ps c now;unfold ID;rw[AD,Iw];refine⟨by simp;omega,?_⟩;intro k hk;unfold qAt;rw[By hk];obtain⟨p,hpm,he⟩:=OO (Am hk);obtain⟨e1,e2,e3,e4⟩:=HP he;have hlv:=ANb e2;have hk1:=E5 e2;have hru:=Cb hk1.1;simp only[AD,Az,decide_eq_false_iff_not];refine⟨?_,?_,?_⟩
 .rw[e1];unfold AHI;simp only[AD,CI];omega
 .grind[By,De,List.pairwise_iff_getElem,Jm,YA,AJ2]
 .have:atF (fun x:AQ=>x.Id==(De r ps c now)[k].Id) ((De r ps c now).take k) 0<0:=by
   rw[YQ]
   grind[List.mem_iff_getElem,List.length_take,beq_eq_false_iff_ne,List.pairwise_iff_getElem,ACt]
  omega
theorem Ue{r:AV}{ps:List AJ}{now HT:Int}(hp:On r now HT ps){c:Int}(hr:Cr ps c<=10):MP (GG ps c):=by
 have hl:=AHr ps c;have hids:(ps.filterMap (OK c)).Pairwise fun a b=>a.Id≠b.Id:=by
  rw[EU];refine hp.uni.id.imp ?_;intro p q hne a ha b hb;obtain⟨rfl,_⟩:=NK ha;obtain⟨rfl,_⟩:=NK hb;exact hne
 refine⟨by omega,?_,((KX _).pairwise_iff (fun h=>Ne.symm h)).2 hids,Jm ED (hids.imp ?_)⟩
 .intro e he;obtain⟨p,hpm,hs⟩:=lS he;obtain⟨rfl,hs2,_⟩:=NK hs;have hk:=E5 (hp.par p hpm).1
  grind[Cb,OI,CI]
 grind[ltP,UQ]
theorem GB{h:AE}:EC h=true↔RH h:=by
 constructor
 .intro hb;obtain⟨h1,h2,h3,h4,h5,h6,h7,h8,h9,h10⟩:=lG hb;obtain⟨g1,g2,g3⟩:=XX.1 h6;refine⟨h1,h2,h3,h5,⟨h4,g1,g2,g3⟩,?_,h7,h8,h9⟩;intro i hi;have hs:i<h.AO.AR.length:=by omega
  have hk:=Iw.1 h10 i hi;unfold W0 at hk;rw[By hi,By hs]at hk;unfold IY Lq at hk;simp only[AD,beq_iff_eq,Az,decide_eq_false_iff_not,IU nA,IU nC]at hk;obtain⟨k1,⟨⟨l1,k3,k4⟩,k5,k6,k7,k8⟩,k9⟩:=hk;refine⟨k5,?_,?_,k7,k8,l1,by omega⟩
  .rw[<-k6];exact ATQ k4
  .rw[k1];simp[List.getD,hs]
 .intro hR;unfold EC;have hru:=Cb hR.rules;simp only[AD,CI,Az,decide_eq_false_iff_not,beq_iff_eq];refine⟨hR.rules,hR.now,hR.HT,by have:=hR.IX.few;omega,by rw[hR.D7],XX.2 ⟨hR.IX.par,hR.IX.ids,hR.IX.turns⟩,⟨hR.todo,hR.FL,hR.Qq⟩,?_⟩;unfold KG;rw[Iw];intro i hi;have hs:i<h.AO.AR.length:=by have:=hR.D7;omega
  have hc:=hR.cab i hi;have hro:Cr h.AG i<=10:=by have:=hc.room;omega
  have hpo:=Ue hR.IX hro;unfold W0 IY Lq;rw[By hi,By hs];simp only[AD,beq_iff_eq,Az,decide_eq_false_iff_not,IU nA,IU nC];refine⟨?_,⟨⟨hc.led,?_,?_⟩,hc.row,?_,hc.held,hc.IG⟩,by have:=hc.room;omega⟩
  .rw[hc.total];simp[List.getD,hs]
  .rw[hc.row];exact yF hR.IX hro
  .rw[hc.Ft];exact DU.2 (iC hpo)
  .rw[hc.Ft];exact yy hpo
end Lv.P
namespace Lv.P
open Lv Go
theorem F5{l:Av}:DD l=true↔(1<=l.Total/\l.Total<=60)/\(0<=l.DJ/\l.DJ<=l.Total)/\(0<=l.Dd/\l.Dd<=l.Total)/\(0<=l.EK/\l.EK<=l.Total)/\l.DJ+l.Dd+l.EK=l.Total/\0<=l.ET/\l.ET<=l.EK:=by
 grind[DD,CI,BP]
theorem AGM{l:Av}(hl:DD l=true){n a b c d:Int}(hn:0<=n/\n<=60)(ha:a = -1\/a=0\/a=1)(hb:b = -1\/b=0\/b=1)(hc:c = -1\/c=0\/c=1)(hd:d = -1\/d=0\/d=1)
 (h':DD ⟨l.Total,l.DJ+a*n,l.Dd+b*n,l.EK+c*n,l.ET+d*n⟩=true):l8 l n a b c d=(⟨l.Total,l.DJ+a*n,l.Dd+b*n,l.EK+c*n,l.ET+d*n⟩,true):=by
 have hk:=F5.1 hl;have w:∀a x:Int,(a = -1\/a=0\/a=1)->0<=x->x<=60->w64 (x+w64 (a*n))=x+a*n:=by
  grind[BP]
 have e1:=w a l.DJ ha (by omega) (by omega);have e2:=w b l.Dd hb (by omega) (by omega);have e3:=w c l.EK hc (by omega) (by omega);have e4:=w d l.ET hd (by omega) (by omega);unfold l8
 grind[CI]
section
variable{α:Type}{lt:α->α->Bool}
theorem QD{p:α->Bool}{a:α}(ha:p a=true):∀{l:List α},(∀x∈l,p x=false)->(put lt a l).eraseP p=l
 | [],_=>by simp[put,ha]|z::l,h=>by
  unfold put;split
  .rw[List.eraseP_cons_of_neg (by rw[h z (BG ..)];simp),QD ha fun x hx=>h x (Ag _ hx)]
  .rw[List.eraseP_cons_of_pos ha]
theorem AGc(a:α):∀l:List α,l.Sublist (put lt a l)
 | []=>List.nil_sublist _|z::l=>by
  unfold put;split
  .exact(AGc a l).cons_cons z
  .exact List.sublist_cons_self ..
theorem zY{p:α->Bool}{l:List α}{k:Nat}(hk:k<l.length)(e:l.eraseP p=l.take k++l.drop (k+1)):l.Perm (l[k]::l.eraseP p):=by
 grind[Ec,List.take_append_drop,List.perm_middle]
theorem set_perm{p:α->Bool}{l:List α}{k:Nat}(hk:k<l.length)(e:l.eraseP p=l.take k++l.drop (k+1))(a:α):(l.set k a).Perm (a::l.eraseP p):=by
 rw[e,ES,if_pos hk];exact IN
end
theorem MP.sub{S T:List AY}(h:MP T)(hs:S.Sublist T):MP S:=⟨A9 hs.length_le h.few,fun p hp=>h.pins p (hs.subset hp),h.ids.sublist hs,h.srt.sublist hs⟩
theorem AGL{p x:AY}:isP p x=true↔x=p:=by
 unfold isP;obtain⟨a,b⟩:=p;obtain⟨c,d⟩:=x;simp
theorem fZ{S:List AY}{p:AY}(h:MP (put ltP p S)):OI p=true/\MP S/\∀x∈S,isP p x=false:=by
 have h2:=h.sub (AGc p S);refine⟨h.pins p (QQ.2 (.inl rfl)),h2,fun x hx=>?_⟩;cases hc:isP p x with
 |false=>rfl|true=>
  rw[AGL]at hc;subst hc;have:=((Ug (lt:=ltP) x S).pairwise_iff (fun h=>Ne.symm h)).1 h.ids
  grind[List.pairwise_cons]
theorem AGu{S:List AY}{p:AY}(h:MP (put ltP p S)){k:Nat}(hk:k<9)(e:p.At.tmod 9=(k:Int)):(put ltP p S).filter (Ea k)=put ltP p (S.filter (Ea k))/\∀i,i<9->i≠k->(put ltP p S).filter (Ea i)=S.filter (Ea i):=by
 have hs:Srt ltP S:=(fZ h).2.1.srt.imp fun {a b} h=>ED.mT _ _ h
 grind[RZ,ED,GC]
theorem ARX{S:List AY}{p:AY}(h:MP (put ltP p S)):Qs (wOf (put ltP p S)) p=(wOf S,true):=by
 grind[fZ,Ld,U6,AGu,Ea,isP,Qs,DU,iC,Int.toNat_natCast,yx,QD,AGL,rD,put,ltP,List.any_eq_true,QQ]
theorem ARY{S:List AY}{p:AY}(h:MP (put ltP p S)):SN (wOf S) p=(wOf (put ltP p S),true):=by
 obtain⟨h1,h2,h3⟩:=fZ h;have hp:=(Ld h1).1.1;obtain⟨k,hk,e⟩:=U6 hp;obtain⟨f1,f2⟩:=AGu h hk e
 grind[VD,wOf,put,ltP,Int.toNat_natCast,yx,rD,SN,DU,iC]
section
variable{p:AJ}{ps:List AJ}(i:Int)
theorem HS(h:1<=p.A1/\p.A1<=6):IW (p::ps) i=(if p.BQ=i then p.A1 else 0)+IW ps i:=by
 rw[SI];unfold mK
 grind[inB,CI]
theorem G7:Cr (p::ps) i=(if p.AT=i then 1 else 0)+Cr ps i:=by
 rw[W6];unfold AQJ;simp
theorem M0(hs:p.State≠2):Im (p::ps) i=Im ps i:=by
 rw[Kz];unfold UE;simp[hs]
theorem WC(hs:p.State=2)(h:1<=p.A1/\p.A1<=6):Im (p::ps) i=(if p.AT=i then p.A1 else 0)+Im ps i:=by
 rw[Kz];unfold UE
 grind[inB,CI]
theorem NJ(hs:p.State≠2):GG (p::ps) i=GG ps i:=by
 rw[Ru];unfold OK;simp[hs]
theorem QO(hs:p.State=2):GG (p::ps) i=if p.AT=i then put ltP ⟨p.CB,p.Id⟩ (GG ps i) else GG ps i:=by
 grind[Ru,OK]
theorem Ry(r:AV)(now:Int)(hs:p.State≠1):De r (p::ps) i now=De r ps i now:=by
 rw[Pp,AN5 hs]
theorem JJ{r:AV}{now:Int}(hp:DC r p now=true)(hs:p.State=1):De r (p::ps) i now=if p.AT=i then put ltE ⟨Gw r p now,p.Ai,p.Id,p.A1⟩ (De r ps i now) else De r ps i now:=by
 grind[Pp,AHw]
end
section
variable{r:AV}{now HT:Int}{ps:List AJ}
theorem On.sub{qs:List AJ}(h:On r now HT ps)(hs:qs.Sublist ps):On r now HT qs:=
 ⟨A9 hs.length_le h.few,fun p hp=>h.par p (hs.subset hp),h.ids.sublist hs,h.turns.sublist hs⟩
theorem On.set(h:On r now HT ps){k:Nat}(hk:k<ps.length){p:AJ}(h1:p.Id=ps[k].Id)(h2:p.Ai=ps[k].Ai)(h3:p.Since=ps[k].Since)(h4:DC r p now=true):On r now HT (ps.set k p):=by
 have hT:=(h.par _ (Am hk)).2;have hg:∀i (hi:i<(ps.set k p).length),(ps.set k p)[i].Id=(ps[i]'(by simpa using hi)).Id/\(ps.set k p)[i].Ai=(ps[i]'(by simpa using hi)).Ai/\(ps.set k p)[i].Since=(ps[i]'(by simpa using hi)).Since:=by
  grind
 refine⟨by simpa using h.few,?_,?_,?_⟩
 .intro q hq;rcases List.mem_or_eq_of_mem_set hq with hq|rfl
  .exact h.par q hq
  .exact⟨h4,by rw[h2];exact hT⟩
 .rw[B3];intro i j hi hj hij;rw[(hg i hi).1,(hg j hj).1];exact B3.1 h.ids i j _ _ hij
 .rw[B3];intro i j hi hj hij;have:=B3.1 h.turns i j (by simpa using hi) (by simpa using hj) hij
  grind[F9]
end
theorem AS7{h:AE}{id:Int}(h0:0<=Ep h id):∃k,∃hk:k<h.AG.length,Ep h id=(k:Int)/\par h id=h.AG[k]/\(par h id).Id=id/\h.AG.eraseP (fun x=>x.Id==id)=h.AG.take k++h.AG.drop (k+1):=by
 grind[Ep,HL,AJ,par,Int.toNat_natCast,List.getElem?_eq_getElem]
end Lv.P
