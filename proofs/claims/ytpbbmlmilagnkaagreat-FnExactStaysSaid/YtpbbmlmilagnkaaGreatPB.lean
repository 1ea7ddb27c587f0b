/-
  Plain laws: wheels are right for both alike, and their pins in order.
-/
import Derived.Test.YtpbbmlmilagnkaaGreatPA
noncomputable section
set_option linter.unusedVariables false
set_option linter.unusedSimpArgs false
set_option linter.unusedSectionVars false
open Bool renaming and_eq_true->AD,and_false->Ci,and_true->CD,eq_iff_iff->GP,false_and->BN,not_eq_true'->Az,not_false->Gk,not_not->Cs,not_true->Bi
open Int renaming toNat_natCast->AX
open List renaming drop_length->Dy,foldl_cons->BU,getElem_mem->Am,getElem_of_mem->E8,length_append->BM,length_cons->Ao,length_take->Bp,map_cons->AI,mem_cons->Ac,mem_flatten->D1,pairwise_iff_getElem->B3
open Nat renaming add_sub_cancel->CH,lt_or_ge->Aj,sub_self->DI,zero_add->Af
namespace Lv.P
open Go (IntKind BinOp UnOp)
def OI(p:AY):Bool:=inB p.At 1 1000008&&inB p.Id 1 999
structure Lp(w:Ah):Prop where
 nine:w.Aa.length=9
 few:w.Aa.flatten.length<=10
 pins:∀p∈w.Aa.flatten,OI p=true
 ids:w.Aa.flatten.Pairwise fun a b=>a.Id≠b.Id
 at_:∀i (h:i<w.Aa.length) k (hk:k<w.Aa[i].length),w.Aa[i][k].At.tmod 9=(i:Int)
 srt:∀i (h:i<w.Aa.length) k (hk:k+1<w.Aa[i].length),ltP w.Aa[i][k] w.Aa[i][k+1]=true
def FI(w:Ah):Bool:=@decide (Lp w) (Classical.propDecidable _)
theorem DU{w:Ah}:FI w=true↔Lp w:=by grind[FI,Classical.propDecidable]
def DK(w:Ah):Prop:=w.Aa.length<=1048576/\w.Aa.flatten.length<=1048576
theorem UC{α:Type}{l:List (List α)}{i:Nat}(h:i<l.length):(l.take i).flatten.length+l[i].length<=l.flatten.length:=by
 grind[List.flatten_cons,List.flatten_append,Ec,List.take_append_drop]
theorem HR{l:List (List AY)}{i:Nat}(h:i<l.length):l[i].length<=l.flatten.length:=by have:=UC h;omega
theorem gj{w:Ah}(hw:DK w):sI w=some w.Aa.flatten:=by
 have hlim:lim=268435456:=rfl;have h1:=hw.1;have h2:=hw.2;unfold sI;refine(C5 (n:=w.Aa.length) (fun i (v:List AY)=>(v,(i:Int))) (fun i v=>v=(w.Aa.take i).flatten) (fun i v=>some w.Aa.flatten) (by omega) ?_ (by simp));intro L i v hv hi ih;unfold sK sJ;dsimp only;rcases Aj i w.Aa.length with h|h
 .have:=UC h
  grind[A3,BW,A5,AF,DB,Bd,List.take_add_one,List.getElem?_eq_getElem,List.flatten_append]
 grind[BV,AW,List.take_length]
def Xf(s:List AY)(i:Nat)(k:Nat):Bool:=He s k fun p=>(p.At.tmod 9==(i:Int))&&(if 0<k then He s (k-1) (fun d=>ltP d p) else true)
def lR(l:List AY)(i:Nat):Bool:=He l i fun p=>OI p&&Gq (fun k=>He l k fun q=>!(q.Id==p.Id)) 0 i
theorem GY{w:Ah}(hw:DK w):Qw w=some (FI w):=by
 have h1:=hw.1;have h2:=hw.2;have hj6:TO w ()=some (Gq (fun i=>He w.Aa i fun s=>Gq (Xf s i) 0 s.length) 0 w.Aa.length):=by
  unfold TO;rw[H7 (n:=w.Aa.length) (E:=some true) (fun i=>He w.Aa i fun s=>Gq (Xf s i) 0 s.length) (by omega) ?_ ?_,B7,CD]
  .intro L i h;have hs:=HR h;rw[By h];unfold Yy;rw[A3 h,BW];refine H7 (n:=w.Aa[i].length) (E:=L ((i+1:Nat):Int)) (Xf w.Aa[i] i) (by omega) ?_ ?_
   .intro L' k hk;have hw':=Bd hk (show w.Aa[i].length<2 ^ 63 by omega);unfold Xf;rw[By hk];unfold Yz TP;rw[A5 h,AF,A3 hk,BW,QA];simp only[AF,A5 hk,AW,hw',BW,BV];by_cases h0:0<k
    .rw[decide_eq_true h0,BW,if_pos h0,Hy k h0 (by omega),A5 (show k-1<w.Aa[i].length by omega),AF,Xe,AF,By (show k-1<w.Aa[i].length by omega),bne];cases w.Aa[i][k].At.tmod 9==(i:Int)<;>cases ltP w.Aa[i][k-1] w.Aa[i][k]<;>rfl
    .rw[decide_eq_false h0,BV,if_neg h0,bne];cases w.Aa[i][k].At.tmod 9==(i:Int)<;>rfl
   .intro L';unfold Yz jP;rw[A5 h,AF,Cw,BV,AW,Bd h (by omega)]
  .intro L;unfold Yy jQ;rw[Cw,BV,AW]
 have hj1:∀b,TM w w.Aa.flatten b=some (!b&&(Gq (lR w.Aa.flatten) 0 w.Aa.flatten.length&&Gq (fun i=>He w.Aa i fun s=>Gq (Xf s i) 0 s.length) 0 w.Aa.length)):=by
  intro b;unfold TM;rw[H7 (n:=w.Aa.flatten.length) (E:=TO w ()) (lR w.Aa.flatten) (by omega) ?_ ?_,hj6,B7,F3]
  .intro L i h;unfold lR;rw[By h];have hj3:∀b,TN w.Aa.flatten L i b=br (!b&&Gq (fun k=>He w.Aa.flatten k fun q=>!(q.Id==w.Aa.flatten[i].Id)) 0 i) (L ((i+1:Nat):Int)) (some false):=by
    intro b;unfold TN;rw[H7 (n:=i) (E:=L ((i+1:Nat):Int)) (fun k=>He w.Aa.flatten k fun q=>!(q.Id==w.Aa.flatten[i].Id)) (by omega) ?_ ?_]
    .cases b<;>rfl
    .intro L' k hk;rw[By (show k<w.Aa.flatten.length by omega)];unfold Yx;rw[A3 hk,BW];simp only[A5 h,A5 (show k<w.Aa.flatten.length by omega),AF,Bd hk (show i<2 ^ 63 by omega)];cases w.Aa.flatten[k].Id==w.Aa.flatten[i].Id<;>rfl
    .intro L';unfold Yx sM;rw[Cw,BV,AW,Bd h (by omega)]
   unfold Yw OI;rw[A3 h,BW];simp only[A5 h,AF,Gv,BI,AW,hj3];generalize Gq (fun k=>He w.Aa.flatten k fun q=>!(q.Id==w.Aa.flatten[i].Id)) 0 i=X;cases inB w.Aa.flatten[i].At 1 1000008<;>cases inB w.Aa.flatten[i].Id 1 999<;>rfl
  .intro L;unfold Yw;rw[Cw,BV,AW]
 unfold Qw;rw[gj hw,AF,AW,AW,hj1,hj1,Bi,BN,bne,BI,B7];congr 1;rw[GP,DU];simp only[AD,beq_iff_eq,Az,decide_eq_false_iff_not,Iw];constructor
 .rintro⟨a1,a2,a3,a4⟩;refine⟨by omega,by omega,?_,?_,?_,?_⟩
  .intro p hp;obtain⟨k,hk,rfl⟩:=E8 hp;have:=a3 k hk;unfold lR at this;rw[By hk,AD]at this;exact this.1
  .rw[B3];intro i j hi hj hij;have:=a3 j hj;unfold lR at this;rw[By hj,AD,Iw]at this;have:=this.2 i hij;rw[By hi]at this;simpa using this
  .intro i h k hk;have:=a4 i h;rw[By h,Iw]at this;have:=this k hk;unfold Xf at this;rw[By hk,AD,beq_iff_eq]at this;exact this.1
  .intro i h k hk;have:=a4 i h;rw[By h,Iw]at this;have:=this (k+1) hk;unfold Xf at this;rw[By hk,AD,if_pos (by omega),CH,By (by omega)]at this;exact this.2
 .rintro⟨a1,a2,a3,a4,a5,a6⟩;refine⟨by omega,by omega,?_,?_⟩
  .intro k hk;unfold lR;rw[By hk,AD,Iw];refine⟨a3 _ (Am _),fun j hj=>?_⟩;rw[By (by omega)];rw[B3]at a4;have:=a4 j k (by omega) hk hj;simpa using this
  .intro i h;rw[By h,Iw];intro k hk;unfold Xf;rw[By hk,AD,beq_iff_eq];refine⟨a5 i h k hk,?_⟩;split
   .rename_i h0;obtain⟨k,rfl⟩:∃j,k=j+1:=⟨k-1,by omega⟩;rw[CH,By (by omega)];exact a6 i h k hk
   .rfl
def LL(m:List (Int×Int))(p:AY):List (Int×Int):=Hg m p.Id (w64 (J1 m p.Id+1))
theorem APO:∀{m:List (Int×Int)} {n v:Int},n∈m.map (·.1)->(Hg m n v).map (·.1)=m.map (·.1)
 | [],n,v,h=>by simp at h|(k,w)::m,n,v,h=>by
  unfold Hg;by_cases e:n=k
  .rw[if_pos e];rfl
  .rw[if_neg e];rw[AI,Ac]at h;rw[AI,APO (h.resolve_left e)];rfl
theorem AGo:∀{m:List (Int×Int)} {n v:Int},n∉m.map (·.1)->(Hg m n v).map (·.1)=m.map (·.1)++[n]
 | [],n,v,h=>rfl|(k,w)::m,n,v,h=>by
  unfold Hg;rw[AI,Ac,not_or]at h;rw[if_neg h.1,AI,AGo h.2];rfl
theorem AJw:∀(l:List AY) (m:List (Int×Int)),(l.foldl LL m).length<=m.length+l.length/\((l.foldl LL m).length=m.length+l.length↔(∀p∈l,p.Id∉m.map (·.1))/\l.Pairwise fun a b=>a.Id≠b.Id)
 | [],m=>by simp|p::l,m=>by
  rw[BU];have ih:=AJw l (LL m p);by_cases h:p.Id∈m.map (·.1)
  .have e:(LL m p).map (·.1)=m.map (·.1):=APO h;have el:(LL m p).length=m.length:=by simpa using congrArg List.length e
   rw[el]at ih;refine⟨by rw[Ao];omega,?_⟩;constructor
   .intro g;rw[Ao]at g;omega
   .intro g;exact absurd h (g.1 p List.mem_cons_self)
  .have e:(LL m p).map (·.1)=m.map (·.1)++[p.Id]:=AGo h;have el:(LL m p).length=m.length+1:=by simpa using congrArg List.length e
   grind[List.length_cons,List.pairwise_cons,List.mem_append_left,List.mem_append_right,List.mem_singleton,List.mem_cons_of_mem]
theorem Rp(p:AY):ji p=some (OI p):=by
 unfold ji ZW OI;simp only[Fe,AF,AW,B7]
def SF(s:List AY)(i:Nat)(k:Nat):Bool:=He s k fun p=>OI p&&((p.At.tmod 9==(i:Int))&&(if 0<k then He s (k-1) (fun d=>!(ltP p d)) else true))
theorem lY(p:Nat->Bool){i n:Nat}(h:i<n):Gq p i (n-i)=(p i&&Gq p (i+1) (n-(i+1))):=by rw[show n-i=(n-(i+1))+1 by omega];rfl
theorem ADK{s:List AY}(hs:s.length<=1048576){L:List (Int×Int)×Int×Int->AA Bool}{i:Nat}(hi:i<9){m:List (Int×Int)}{n:Nat}(hn:n<=2 ^ 50) :
 Aw (ZZ L i s) big (m,(n:Int),0)=br (Gq (SF s i) 0 s.length) (L (s.foldl LL m,((n+s.length:Nat):Int),((i+1:Nat):Int))) (some false):=by
 refine(C5 (n:=s.length) (fun k (v:List (Int×Int)×Nat)=>(v.1,(v.2:Int),(k:Int))) (fun k v=>v.2=n+k) (fun k v=>br (Gq (SF s i) k (s.length-k)) (L ((s.drop k).foldl LL v.1,((n+s.length:Nat):Int),((i+1:Nat):Int))) (some false)) (by omega) ?_ (v:=(m,n)) rfl);rintro L' k ⟨m,n'⟩ hv hk ih;dsimp only at hv ih ⊢;unfold ZZ O9;dsimp only;rcases Aj k s.length with h|h
 .have hih:=ih (LL m s[k],n'+1) (by dsimp only;omega) h;dsimp only at hih;have ew:w64 ((n':Int)+1)=((n'+1:Nat):Int):=by rw[BP (by omega) (by omega)];rfl
  rw[A3 h,BW,A5 h,AF,Rp,AF,BI,lY _ h,Ec h,BU,QA];simp only[AW,BW,BV,Bd h (show s.length<2 ^ 63 by omega),ew];have ed:Hg m s[k].Id (w64 (J1 m s[k].Id+1))=LL m s[k]:=rfl;rw[ed,hih];unfold SF;rw[By h];generalize Gq _ (k+1) (s.length-(k+1))=X;generalize L _=Z;by_cases h0:0<k
  .obtain⟨c,e1,e2,e3⟩:=QH s[k-1] s[k];rw[decide_eq_true h0,BW,if_pos h0,Hy k h0 (by omega),A5 (show k-1<s.length by omega),AF,e1,AF,e3,By (show k-1<s.length by omega),bne];cases OI s[k]<;>cases s[k].At.tmod 9==(i:Int)<;>cases ltP s[k] s[k-1]<;>rfl
  .rw[decide_eq_false h0,BV,if_neg h0,bne];cases OI s[k]<;>cases s[k].At.tmod 9==(i:Int)<;>rfl
 .obtain rfl:k=s.length:=by omega
  unfold s4;dsimp only;rw[Cw,BV,AW,Bd (i:=i) (n:=9) hi (by omega),DI,Dy,hv];rfl
theorem GW{w:Ah}(hw:DK w):Of w=some (FI w):=by
 have h1:=hw.1;have h2:=hw.2;unfold Of;rw[bne,BI];by_cases h9:w.Aa.length=9
 .have e9:((w.Aa.length:Int)==9)=true:=by rw[beq_iff_eq];omega
  rw[e9,BW];have:=(C5 (F:=ZY w) (n:=w.Aa.length) (fun k (v:List (Int×Int)×Nat)=>(v.1,(v.2:Int),(k:Int))) (fun k v=>v.2=(w.Aa.take k).flatten.length) (fun k v=>br (Gq (fun i=>He w.Aa i fun s=>Gq (SF s i) 0 s.length) k (w.Aa.length-k)) (TW ((w.Aa.drop k).flatten.foldl LL v.1,((v.2+(w.Aa.drop k).flatten.length:Nat):Int))) (some false)) (by omega) ?_ (v:=([],0)) (by simp))
  .refine Eq.trans this ?_;unfold TW ZX;simp only[List.drop_zero,Af,AW,B7,Nat.sub_zero];congr 1;have hc:=AJw w.Aa.flatten [];rw[List.length_nil,Af]at hc;rw[GP,DU];simp only[AD,beq_iff_eq,decide_eq_true_iff,Iw];have hm:((w.Aa.flatten.foldl LL []).length:Int)=(w.Aa.flatten.length:Int)↔w.Aa.flatten.Pairwise fun a b=>a.Id≠b.Id:=by
    rw[Int.ofNat_inj,hc.2];simp
   rw[hm];constructor
   .rintro⟨a1,a2,a3⟩;have hk:∀i (h:i<w.Aa.length) k (hk:k<w.Aa[i].length),OI w.Aa[i][k]=true/\w.Aa[i][k].At.tmod 9=(i:Int)/\(if 0<k then He w.Aa[i] (k-1) (fun d=>!(ltP w.Aa[i][k] d)) else true)=true:=by
     intro i h k hk;have:=a1 i h;rw[By h,Iw]at this;have:=this k hk;unfold SF at this;rw[By hk,AD,AD,beq_iff_eq]at this;exact this
    refine⟨h9,by omega,?_,a3,fun i h k hk'=>(hk i h k hk').2.1,?_⟩
    .intro p hp;obtain⟨s,hs,hp⟩:=D1.1 hp;obtain⟨i,hi,rfl⟩:=E8 hs;obtain⟨k,hk',rfl⟩:=E8 hp;exact(hk i hi k hk').1
    .intro i h k hk';have:=(hk i h (k+1) hk').2.2;rw[if_pos (by omega),CH,By (by omega),Az,fA]at this;have hd:=(List.pairwise_flatten.1 a3).1 _ (Am h);rw[B3]at hd;have:=hd k (k+1) (by omega) hk' (by omega);rw[OA];omega
   .rintro⟨a1,a2,a3,a4,a5,a6⟩;refine⟨?_,by omega,a4⟩;intro i h;rw[By h,Iw];intro k hk;unfold SF;rw[By hk,AD,AD,beq_iff_eq];refine⟨a3 _ (D1.2 ⟨_,Am h,Am hk⟩),a5 i h k hk,?_⟩;split
    .obtain⟨k,rfl⟩:∃j,k=j+1:=⟨k-1,by omega⟩;rw[CH,By (by omega),Az];exact ED.mT _ _ (a6 i h k hk)
    .rfl
  .rintro L k ⟨m,n⟩ hv hk ih;dsimp only at hv ih ⊢;unfold ZY;dsimp only;rcases Aj k w.Aa.length with h|h
   .have hf:=UC h;rw[A3 h,BW,A5 h,AF,ADK (by omega) (by omega) (by omega),lY _ h,By h];have ef:(w.Aa.take (k+1)).flatten=(w.Aa.take k).flatten++w.Aa[k]:=by rw[List.take_add_one,List.getElem?_eq_getElem h,List.flatten_append];simp
    have:=ih (w.Aa[k].foldl LL m,n+w.Aa[k].length) (by dsimp only;rw[ef,BM,hv]) h;dsimp only at this;rw[this,Ec h,List.flatten_cons,List.foldl_append,BM,Nat.add_assoc];generalize Gq _ (k+1) _=X;generalize TW _=Z;cases Gq (SF w.Aa[k] k) 0 w.Aa[k].length<;>rfl
   .obtain rfl:k=w.Aa.length:=by omega
    rw[Cw,BV,AW,DI,Dy];rfl
 .have e9:((w.Aa.length:Int)==9)=false:=by rw[beq_eq_false_iff_ne];omega
  rw[e9,BV];congr 1;have:¬(FI w=true):=by rw[DU];exact fun h=>h9 h.nine
  rw[Bool.not_eq_true]at this;exact this.symm
def Dq(w:Ah):List AY:=if FI w=true then Cm ltP w.Aa.flatten else []
theorem Li{w:Ah}(hw:DK w):Y9 w=some (Dq w):=by
 have hlim:lim=268435456:=rfl;have h2:=hw.2;unfold Y9 Dq;rw[GY hw,AF,BI,gj hw,AF,B5];split
 .rw[PJ (l:=w.Aa.flatten) (fun v p=>put ltP p v) (fun i v=>v.length<=i) some (by omega) ?_ ?_ ?_ (by simp),<-WM ED UQ]
  .grind[ZA,A3,BW,A5,AF,SE]
  .intro i h v hv;rw[Em];omega
  grind[ZA,sR,BV,AW]
 .rfl
theorem La{w:Ah}(hw:DK w):ZQ w=some (Dq w):=by
 have hlim:lim=268435456:=rfl;have h1:=hw.1;have h2:=hw.2;unfold ZQ Dq;rw[GW hw,AF,BI,B5];split
 .rename_i hk;have hk:=DU.1 hk;refine(C5 (n:=w.Aa.length) (fun i (v:List AY)=>(v,(i:Int))) (fun i v=>v=(w.Aa.take i).flatten) (fun i v=>some (Cm ltP w.Aa.flatten)) (by omega) ?_ (by simp));intro L i v hv hi ih;unfold sd sb;dsimp only;rcases Aj i w.Aa.length with h|h
  .have:=UC h
   grind[A3,BW,A5,AF,DB,Bd,List.take_add_one,List.getElem?_eq_getElem,List.flatten_append]
  .obtain rfl:i=w.Aa.length:=by omega
   have:=hk.few;rw[Cw,BV,AW,hv,List.take_length,ATE (by omega),AF]
 .rfl
end Lv.P
namespace Lv.P
open Go (IntKind BinOp UnOp)
def Da(c:AS):Prop:=c.Row.length<=1048576/\DK c.BO
structure Ba(h:AE):Prop where
 DV:h.AO.AR.length<=1048576
 Bv:h.AG.length<=1048576
 D7:h.AH.length<=1048576
 C4:∀c∈h.AH,Da c
 todo:h.A0.length<=1048576
 FL:h.Ay.length<=1048576
def Lq(c:AS):Bool:=DD c.AR&&(ID c.Row&&FI c.BO)
theorem OR{c:AS}(hc:Da c):jR c=some (Lq c):=by
 have:=hc.1;unfold jR TQ Lq;simp only[MJ,qP c.Row (by omega),GY hc.2,AF,AW,B7]
theorem N1{c:AS}(hc:Da c):jj c=some (Lq c):=by
 have:=hc.1;unfold jj TX Lq;simp only[E0,UL c.Row (by omega),GW hc.2,AF,AW,B7]
theorem HH{w:Ah}(hw:DK w):(Dq w).length<=1048576:=by
 unfold Dq;split
 .rw[M3];exact hw.2
 .simp
def IY(r:AV)(c:AS)(l:List AJ)(k now:Int):Bool:=
 Lq c&&(Du eqE c.Row (De r l k now)&&(Du eqP (Dq c.BO) (GG l k)&&((c.AR.Dd==Im l k)&&(c.AR.ET==IW l k))))
theorem yd{r:AV}(hr:r.AR.length<2 ^ 62){c:AS}(hc:Da c){l:List AJ}(hl:l.length<=1048576)(k now:Int):ADu r c l k now=some (IY r c l k now):=by
 have h1:=hc.1;have h2:=HH hc.2;unfold ADu Ml IY;simp only[OR hc,Ux hr hl,Uy (show c.Row.length<2 ^ 62 by omega),Li hc.2,yh hl,RD (show (Dq c.BO).length<2 ^ 62 by omega),yg (show l.length<2 ^ 58 by omega),yi (show l.length<2 ^ 58 by omega),AF,AW,B7]
theorem xO{r:AV}(hr:r.AR.length<2 ^ 62){c:AS}(hc:Da c){l:List AJ}(hl:l.length<=1048576){k:Int}(hk:Cr l k<=19)(now:Int):AD7 r c l k now=some (IY r c l k now):=by
 have h1:=hc.1;have h2:=HH hc.2;unfold AD7 Mo IY;simp only[N1 hc,UK hr hl hk,XN (show c.Row.length<2 ^ 62 by omega),La hc.2,xT hl hk,XO (show (Dq c.BO).length<2 ^ 62 by omega),xS (show l.length<2 ^ 58 by omega),xU (show l.length<2 ^ 58 by omega),AF,AW,B7]
def F9(q p:AJ):Bool:=(q.Ai==p.Ai)||((decide (q.Ai<p.Ai)&&decide (p.Since<q.Since))||(decide (p.Ai<q.Ai)&&decide (q.Since<p.Since)))
def XW(h:AE)(i:Nat):Bool:=
 He h.AG i fun p=>DC h.AO p h.Now&&(!(decide (p.Ai>=h.Ai))&&((if 0<i then He h.AG (i-1) (fun q=>!(decide (q.Id>=p.Id))) else true)&&Gq (fun k=>He h.AG k fun q=>!(F9 q p)) 0 i))
def Is(h:AE):Bool:=Gq (XW h) 0 h.AG.length
theorem Xq{h:AE}(hh:Ba h):ADp h=some (Is h):=by
 have h1:=hh.DV;have h2:=hh.Bv;unfold ADp Is;rw[H7 (n:=h.AG.length) (E:=some true) (XW h) (by omega) ?_ ?_,B7,CD]
 .intro L i hi;unfold XW;rw[By hi];have hj2:∀b,Mj h L i h.AG[i] b=br (!b&&Gq (fun k=>He h.AG k fun q=>!(F9 q h.AG[i])) 0 i) (L ((i+1:Nat):Int)) (some false):=by
   intro b;unfold Mj;rw[H7 (n:=i) (E:=L ((i+1:Nat):Int)) (fun k=>He h.AG k fun q=>!(F9 q h.AG[i])) (by omega) ?_ ?_]
   .cases b<;>rfl
   .intro L' k hk;have hkl:k<h.AG.length:=by omega
    have hj4:∀b,JV L' k b=br (!b) (L' ((k+1:Nat):Int)) (some false):=by intro b;unfold JV;rw[Bd hk (by omega)];cases b<;>rfl
    rw[By hkl];unfold Yq F9;rw[A3 hk,BW,A5 hkl,AF];simp only[AW,hj4,gt_iff_lt];cases h.AG[k].Ai==h.AG[i].Ai<;>cases decide (h.AG[k].Ai<h.AG[i].Ai)<;>cases decide (h.AG[i].Since<h.AG[k].Since)<;>cases decide (h.AG[i].Ai<h.AG[k].Ai)<;>cases decide (h.AG[k].Since<h.AG[i].Since)<;>rfl
   .intro L';unfold Yq r9;rw[Cw,BV,AW,Bd hi (by omega)]
  unfold Yp
  grind[A3,BW,A5,AF,OT,BI,QA,AW,Gq,He,F9,decide_eq_true,Hy,By,DC,decide_eq_false,BV]
 grind[Yp,sA,BV,AW]
theorem SD{l:List Int}(hl:l.length<2 ^ 62)(x:Int):jN l x=some (l.any (fun y=>y==x)):=by
 unfold jN;refine(C5 (n:=l.length) (fun i (_:Unit)=>(i:Int)) (fun _ _=>True) (fun i _=>some ((l.drop i).any (fun y=>y==x))) (by omega) ?_ (v:=()) trivial);intro L i _ _ hi ih;unfold sC sB;rcases Aj i l.length with h|h
 .rw[A3 h,BW,A5 h,AF,Bd h (by omega),Ec h,List.any_cons];cases l[i]==x with|true=>rfl|false=>rw[BV,ih () trivial h];rfl
 grind[BV,AW,List.drop_length]
theorem MA{l:List Int}(hl:l.length<2 ^ 62)(x:Int):j5 l x=some (l.any (fun y=>y==x)):=by
 unfold j5 AKt;rw[NX (l:=l) (p:=fun y=>x==y) (by omega) ?_ ?_,AF]
 .congr 1;rw[GP,decide_eq_true_iff,List.any_eq_true];have:=YQ (p:=fun y=>x==y) (l:=l) (s:=0)
  grind[beq_eq_false_iff_ne,atF]
 .grind[Zy,A3,BW,A5,AF]
 grind[Zy,te,BV,AW]
def SJ(t:List Int)(n:Int)(i:Nat):Bool:=He t i fun k=>inB k 0 (w64 (n-1))&&!((t.take i).any fun y=>y==k)
def Hw(t:List Int)(n:Int):Bool:=Gq (SJ t n) 0 t.length
def Jg(t:List Int)(n:Int):Bool:=t.all fun x=>inB x (-1) (w64 (n-1))
theorem qS{h:AE}(hh:Ba h):ADq h=some (Hw h.A0 h.AH.length&&(Jg h.Ay h.AH.length&&((h.Ay.length:Int)==h.AO.Cu))):=by
 have h1:=hh.todo;have h2:=hh.FL;have e3:TJ h ()=some (Jg h.Ay h.AH.length&&((h.Ay.length:Int)==h.AO.Cu)):=by
  unfold TJ Jg;rw[jE (l:=h.Ay) (fun x=>inB x (-1) (w64 ((h.AH.length:Int)-1))) (E:=some ((h.Ay.length:Int)==h.AO.Cu)) (by omega) ?_ ?_,B7]
  .intro L i hi;unfold Yt;rw[A3 hi,BW,A5 hi,AF,Gv,AF,BI]
  .intro L;unfold Yt sD;rw[Cw,BV,AW]
 unfold ADq Hw;rw[H7 (n:=h.A0.length) (E:=TJ h ()) (SJ h.A0 h.AH.length) (by omega) ?_ ?_,e3,B7]
 .intro L i hi;unfold SJ;rw[By hi];unfold Ys Yr
  grind[A3,BW,A5,AF,Gv,BI,DB,Int.toNat_natCast,SD,List.length_take,AW,Bd,inB]
 grind[Ys,BV,AW]
def W0(h:AE)(i:Nat):Bool:=
 He h.AH i fun c=>He h.AO.AR i (fun s=>c.AR.Total==s)&&(IY h.AO c h.AG i h.Now&&!(decide (Cr h.AG i>h.AO.Room)))
def KG(h:AE):Bool:=Gq (W0 h) 0 h.AH.length
def EC(h:AE):Bool:=
 GI h.AO&&(inB h.Now 0 1000000&&(inB h.Ai 1 1000001&&(!(decide ((h.AG.length:Int)>40))&&(((h.AH.length:Int)==(h.AO.AR.length:Int))&&(Is h&&((Hw h.A0 h.AH.length&&(Jg h.Ay h.AH.length&&((h.Ay.length:Int)==h.AO.Cu)))&&KG h))))))
theorem Iy{h:AE}(hh:Ba h):O4 h=some (EC h):=by
 have h1:=hh.DV;have h2:=hh.Bv;have h3:=hh.D7;have ht:JU h true=some false:=rfl;unfold O4 EC;by_cases hcl:h.AH.length=h.AO.AR.length
 .have hj2:∀b,TF h b=some (!b&&KG h):=by
   intro b;unfold TF KG;rw[H7 (n:=h.AH.length) (E:=some true) (W0 h) (by omega) ?_ ?_,B7,CD,F3]
   .intro L i hi;have hj4:∀b,O5 L i b=br (!b) (L ((i+1:Nat):Int)) (some false):=by intro b;unfold O5;rw[Bd hi (by omega)];cases b<;>rfl
    unfold W0;rw[By hi,By (show i<h.AO.AR.length by omega)];unfold Yl;rw[A3 hi,BW,A5 hi,AF,A5 (show i<h.AO.AR.length by omega),AF,AF,yd (by omega) (hh.C4 _ (Am hi)) h2,AF,BI,OS (by omega),AF];simp only[AW,hj4,bne];cases h.AH[i].AR.Total==h.AO.AR[i]<;>cases IY h.AO h.AH[i] h.AG i h.Now<;>cases decide (Cr h.AG i>h.AO.Room)<;>rfl
   .intro L;unfold Yl rz;rw[Cw,BV,AW]
  have hj1:∀b,JU h b=some (!b&&(Is h&&((Hw h.A0 h.AH.length&&(Jg h.Ay h.AH.length&&((h.Ay.length:Int)==h.AO.Cu)))&&KG h))):=by
   intro b;unfold JU;simp only[Xq hh,qS hh,AF,BI,AW,hj2,Bi,BN,Cs,B7,F3]
  simp only[KN (show h.AO.AR.length<2 ^ 62 by omega),Gv,AF,BI,AW,hj1,Bi,BN,B7,F3,bne,Cs]
 .have e:((h.AH.length:Int)==(h.AO.AR.length:Int))=false:=by rw[beq_eq_false_iff_ne];omega
  simp only[KN (show h.AO.AR.length<2 ^ 62 by omega),Gv,AF,BI,AW,bne,e,Gk,ht,Sa,BN,Ci]
theorem Io{h:AE}(hh:Ba h):Og h=some (EC h):=by
 have h1:=hh.DV;have h2:=hh.Bv;have h3:=hh.D7;have h4:=hh.todo;have h5:=hh.FL;have ht:JY h true=some false:=rfl;unfold Og EC;by_cases hr:GI h.AO=false
 .rw[HM (by omega),AF,hr,BI,BV,AW,ht];rfl
 rw[Bool.not_eq_false]at hr;have hrm:=(Cb hr).2.2.1;by_cases hcl:h.AH.length≠h.AO.AR.length
 .have e:((h.AH.length:Int)==(h.AO.AR.length:Int))=false:=by rw[beq_eq_false_iff_ne];omega
  simp only[HM (show h.AO.AR.length<2 ^ 62 by omega),Fe,AF,BI,AW,bne,e,Gk,ht,BW,Sa,BN,Ci]
 have hcl:=Classical.not_not.1 hcl;have e13:P8 h ()=some (Jg h.Ay h.AH.length):=by
  unfold P8 Jg;rw[jE (l:=h.Ay) (fun x=>inB x (-1) (w64 ((h.AH.length:Int)-1))) (E:=some true) (by omega) ?_ ?_,B7,CD]
  .intro L i hi;unfold VX;rw[A3 hi,BW,A5 hi,AF,Fe,AF,BI,hcl]
  .intro L;unfold VX j6;rw[Cw,BV,AW]
 have e10:P7 h ()=some (Hw h.A0 h.AH.length&&Jg h.Ay h.AH.length):=by
  unfold P7 Hw;rw[H7 (n:=h.A0.length) (E:=P8 h ()) (SJ h.A0 h.AH.length) (by omega) ?_ ?_,e13,B7]
  .intro L i hi;unfold SJ;rw[By hi];unfold VW VV;rw[A3 hi,BW,A5 hi,AF,XR,AF,BI,DB (by omega),AX,MA (by rw[Bp];omega),AF,AW,AW,Bd hi (by omega),BW,hcl];cases inB h.A0[i] 0 (w64 ((h.AO.AR.length:Int)-1))<;>cases (h.A0.take i).any (fun y=>y==h.A0[i])<;>rfl
  .intro L;unfold VW;rw[Cw,BV,AW]
 have e7:Tc h ()=some (KG h&&(Hw h.A0 h.AH.length&&Jg h.Ay h.AH.length)):=by
  unfold Tc KG;rw[H7 (n:=h.AH.length) (E:=P7 h ()) (W0 h) (by omega) ?_ ?_,e10,B7]
  .intro L i hi;have hj9:∀b,PC L i b=br (!b) (L ((i+1:Nat):Int)) (some false):=by intro b;unfold PC;rw[Bd hi (by omega)];cases b<;>rfl
   unfold W0;rw[By hi,By (show i<h.AO.AR.length by omega)];unfold Z4;rw[A3 hi,BW,A5 hi,AF,A5 (show i<h.AO.AR.length by omega),AF,N2 (by omega),AF];by_cases hc:Cr h.AG i>h.AO.Room
   .rw[decide_eq_true hc];simp only[AW,hj9,bne,BW];cases h.AH[i].AR.Total==h.AO.AR[i]<;>cases IY h.AO h.AH[i] h.AG i h.Now<;>rfl
   .rw[decide_eq_false hc,xO (by omega) (hh.C4 _ (Am hi)) h2 (by omega),AF];simp only[AW,hj9,bne,BV];cases h.AH[i].AR.Total==h.AO.AR[i]<;>cases IY h.AO h.AH[i] h.AG i h.Now<;>rfl
  .intro L;unfold Z4;rw[Cw,BV,AW]
 have hj1:∀b,JY h b=some (!b&&(!(decide ((h.AG.length:Int)>40))&&(Is h&&(KG h&&(Hw h.A0 h.AH.length&&Jg h.Ay h.AH.length))))):=by
  intro b;unfold JY Is;rw[H7 (n:=h.AG.length) (E:=Tc h ()) (XW h) (by omega) ?_ ?_,e7,B7,F3,F3]
  .intro L i hi;unfold XW;rw[By hi];have hj3:∀b,Mp h L i h.AG[i] b=br (!b&&Gq (fun k=>He h.AG k fun q=>!(F9 q h.AG[i])) 0 i) (L ((i+1:Nat):Int)) (some false):=by
    intro b;unfold Mp;rw[DB (by omega),H7 (n:=i) (E:=L ((i+1:Nat):Int)) (fun k=>He h.AG k fun q=>!(F9 q h.AG[i])) (by omega) ?_ ?_]
    .cases b<;>rfl
    .intro L' k hk;have hkl:k<h.AG.length:=by omega
     have hj5:∀b,JZ L' k b=br (!b) (L' ((k+1:Nat):Int)) (some false):=by intro b;unfold JZ;rw[Bd hk (by omega)];cases b<;>rfl
     have hlen:(h.AG.take i).length=i:=by rw[Bp];omega
     have hat:at? (h.AG.take i) (k:Int)=some h.AG[k]:=by rw[A5 (by omega)];simp
     rw[By hkl];unfold Z3 F9;rw[AX,hlen,A3 hk,BW,hat,AF];have eb:(h.AG[i].Ai==h.AG[k].Ai)=(h.AG[k].Ai==h.AG[i].Ai):=BEq.comm;simp only[AW,hj5,gt_iff_lt,eb];cases h.AG[k].Ai==h.AG[i].Ai<;>cases decide (h.AG[k].Ai<h.AG[i].Ai)<;>cases decide (h.AG[i].Since<h.AG[k].Since)<;>cases decide (h.AG[i].Ai<h.AG[k].Ai)<;>cases decide (h.AG[k].Since<h.AG[i].Since)<;>rfl
    .intro L';have hlen:(h.AG.take i).length=i:=by rw[Bp];omega
     unfold Z3 tf;rw[AX,hlen,Cw,BV,AW,Bd hi (by omega)]
   unfold Zz;rw[A3 hi,BW,A5 hi,AF,KI (by omega),AF,BI,QA];simp only[AW,hj3];generalize Gq (fun k=>He h.AG k fun q=>!(F9 q h.AG[i])) 0 i=X;by_cases h0:0<i
   .rw[decide_eq_true h0,BW,if_pos h0,Hy i h0 (by omega),A5 (show i-1<h.AG.length by omega),AF,By (show i-1<h.AG.length by omega)];cases DC h.AO h.AG[i] h.Now<;>cases decide (h.AG[i].Ai>=h.Ai)<;>cases decide (h.AG[i-1].Id>=h.AG[i].Id)<;>rfl
   .rw[decide_eq_false h0,BV,if_neg h0];cases DC h.AO h.AG[i] h.Now<;>cases decide (h.AG[i].Ai>=h.Ai)<;>rfl
  .intro L;unfold Zz;rw[Cw,BV,AW]
 have e:((h.AH.length:Int)==(h.AO.AR.length:Int))=true:=by rw[beq_iff_eq];omega
 simp only[HM (show h.AO.AR.length<2 ^ 62 by omega),Fe,AF,BI,AW,hj1,Bi,BN,B7,F3,bne,Cs,e,BW,Gk,Bool.true_and];congr 1;ac_rfl
theorem AGE(a b:Bool):(if a=true then some b else some false)=some (a&&b):=by cases a<;>rfl
def Oq(n:Int):Bool:=inB n 0 9999
theorem APT(n:Int):Oe n=some (Oq n):=by unfold Oe Oq;rw[Gv,AF]
theorem ANJ(n:Int):Oh n=some (Oq n):=by unfold Oh Oq;rw[Fe,AF]
def Jp(q:Bw):Bool:=
 if q.Kind=1 then Oq q.Id&&(Oq q.AT&&(inB q.BQ (-1) 9999&&(Oq q.A1&&Oq q.CT)))
 else if q.Kind=2\/q.Kind=4\/q.Kind=5\/q.Kind=7 then Oq q.Id&&(q.AT==0&&(q.BQ==0&&(q.A1==0&&q.CT==0)))
 else if q.Kind=3 then Oq q.AT&&(Oq q.A1&&(q.Id==0&&(q.BQ==0&&q.CT==0)))
 else if q.Kind=6 then q.Id==0&&(q.AT==0&&(q.BQ==0&&(q.A1==0&&q.CT==0)))
 else false
theorem yj(q:Bw):r5 q=some (Jp q):=by
 obtain⟨k,a,b,c,d,e⟩:=q;unfold r5 Ge O6 Ge Jp;simp only[AW,APT,AF,Gv,B7,B5,beq_iff_eq]
 grind[AGE]
theorem xV(q:Bw):th q=some (Jp q):=by
 obtain⟨k,a,b,c,d,e⟩:=q;unfold th Gf PD Gf Jp;simp only[AW,ANJ,AF,Fe,B7,B5,beq_iff_eq]
 grind[AGE]
structure E2(e:Be):Prop where
 FQ:Ba e.BD
 log:e.CY.Log.Data.length<=1048576
 even:e.CY.G1.Data.length<=1048576
 odd:e.CY.Odd.Data.length<=1048576
 laid:e.Laid.length<=1048576
def H4(e:Be):Bool:=EC e.BD&&(gk e.CY&&(!(decide ((e.Laid.length:Int)>8))&&(inB e.Seq e.Laid.length 1000000&&e.Laid.all Jp)))
theorem RB{e:Be}(he:E2 e):r6 e=some (H4 e):=by
 have h1:=he.laid;have hj:∀b,Mh e b=some (!b&&e.Laid.all Jp):=by
  intro b;unfold Mh;rw[jE (l:=e.Laid) Jp (E:=some true) (by omega) ?_ ?_,B7,CD,F3]
  .intro L i h;unfold Yn;rw[A3 h,BW,A5 h,AF,yj,AF,BI]
  .grind[Yn,r7,BV,AW]
 unfold r6 H4;simp only[Iy he.FQ,qR,Gv,AF,BI,AW,hj,Bi,BN,B7,F3,Cs]
theorem Q1{e:Be}(he:E2 e):tj e=some (H4 e):=by
 have h1:=he.laid;have hj:∀b,Mq e b=some (!b&&e.Laid.all Jp):=by
  intro b;unfold Mq;rw[jE (l:=e.Laid) Jp (E:=some true) (by omega) ?_ ?_,B7,CD,F3]
  .intro L i h;unfold Z6;rw[A3 h,BW,A5 h,AF,xV,AF,BI]
  .grind[Z6,tk,BV,AW]
 unfold tj H4;simp only[Io he.FQ,ot,Fe,AF,BI,AW,hj,Bi,BN,B7,F3,Cs]
end Lv.P
namespace Lv.P
open Go (IntKind BinOp UnOp)
theorem XJ{n:Nat}{F:(Int->AA Bool)->Int->AA Bool}(hl:n<2 ^ 63)(step:∀L (i:Nat),i<n->F L (i:Int)=L (w64 ((i:Int)+1)))(stop:∀L,F L (n:Int)=some true) :
 br ((n:Int) != (n:Int)) (some false) (Aw F big 0)=some true:=by
 rw[B5,if_neg (by simp)];exact AP0 hl (fun L i h=>by rw[step L i h,Bd h hl]) stop
theorem ne_self(a:Int):(a != a)=false:=by simp
def Sz(x:AA Int)(d:Int)(P:Prop):Prop:=∃r,x=some r/\(r<0\/0<=r/\r<=d/\P)
theorem ATI{n:Nat}(hn:n<9223372036854775808){d:Int}(h0:0<=d)(h1:d<=1048576) :
 br (decide (w64 (d-(n:Int))<0)) (some (-1)) (some (w64 (d-(n:Int))))=some (if d-n<0 then -1 else d-n):=by
 grind[BP,Bl]
theorem Wt{n:Nat}(hn:n<9223372036854775808){d:Int}(h0:0<=d)(h1:d<=1048576) :
 ∃r,br (decide (w64 (d-(n:Int))<0)) (some (-1)) (some (w64 (d-(n:Int))))=some r/\(r<0\/0<=r/\r+n=d):=by
 grind[ATI]
theorem AHS(x:AJ):AEA x x=some true:=by
 unfold AEA;simp only[ne_self,BV]
theorem zW(x:Av):AEC x x=some true:=by
 unfold AEC;simp only[ne_self,BV]
theorem AHR(x:AQ):AED x x=some true:=by
 unfold AED;simp only[ne_self,BV]
theorem AQj(x:AY):AEF x x=some true:=by
 unfold AEF;simp only[ne_self,BV]
theorem AQk(x:Bw):jx x x=some true:=by
 unfold jx;simp only[ne_self,BV]
theorem ALO(x:D8):jw x x=some true:=by
 grind[jw,B5]
theorem T8{l:List Int}(hl:l.length<9223372036854775808):Z7 l l=some true:=by
 grind[Z7,XJ,tn,BW,A5,AF,BV,tl,AW]
theorem zX{l:List AJ}(hl:l.length<9223372036854775808):AEB l l=some true:=by
 unfold AEB
 grind[XJ,tq,BW,A5,AF,AHS,tp,BV,AW]
theorem zV{l:List AQ}(hl:l.length<9223372036854775808):AEE l l=some true:=by
 unfold AEE
 grind[XJ,tu,BW,A5,AF,AHR,tt,BV,AW]
theorem ALP{l:List AY}(hl:l.length<9223372036854775808):AEG l l=some true:=by
 unfold AEG
 grind[XJ,tx,BW,A5,AF,AQj,tw,BV,AW]
theorem w9{l:List Bw}(hl:l.length<9223372036854775808):tI l l=some true:=by
 unfold tI
 grind[XJ,tK,BW,A5,AF,AQk,tJ,BV,AW]
theorem AHT{l:List (List AY)}(hl:l.length<9223372036854775808)(hp:∀x∈l,x.length<9223372036854775808):AEH l l=some true:=by
 unfold AEH
 grind[XJ,uA,BW,A5,AF,ALP,List.getElem_mem,tz,BV,AW]
theorem AHU(s:Dc):AD4 s s=some true:=by
 unfold AD4;simp only[ALO,AF,BI,BW]
theorem U7{l:List Int}(hl:l.length<=1048576):zO l=some l:=by
 unfold zO;rw[DB (by unfold lim;omega),AX];refine JT (by omega) ?_ ?_
 .grind[mo,BW,A5,AF,Bd]
 grind[mo,AFt,BV,AW]
theorem ADG{l:List AJ}(hl:l.length<=1048576):AQU l=some l:=by
 unfold AQU;rw[DB (by unfold lim;omega),AX];refine JT (by omega) ?_ ?_
 .grind[mq,BW,A5,AF,ASc,Bd]
 grind[mq,AFu,BV,AW]
theorem ADF{l:List AQ}(hl:l.length<=1048576):AQV l=some l:=by
 unfold AQV;rw[DB (by unfold lim;omega),AX];refine JT (by omega) ?_ ?_
 .grind[mr,BW,A5,AF,ASe,Bd]
 grind[mr,AFv,BV,AW]
theorem APo{l:List AY}(hl:l.length<=1048576):AQW l=some l:=by
 unfold AQW;rw[DB (by unfold lim;omega),AX];refine JT (by omega) ?_ ?_
 .grind[mu,BW,A5,AF,ASf,Bd]
 grind[mu,AFw,BV,AW]
theorem yt{l:List Bw}(hl:l.length<=1048576):AKK l=some l:=by
 unfold AKK;rw[DB (by unfold lim;omega),AX];refine JT (by omega) ?_ ?_
 .grind[ml,BW,A5,AF,ASV,Bd]
 grind[ml,ADm,BV,AW]
theorem AJi{l:List (List AY)}(hl:l.length<=1048576)(hp:∀x∈l,x.length<=1048576):AQX l=some l:=by
 unfold AQX;rw[DB (by unfold lim;omega),AX];refine JT (by omega) ?_ ?_
 .grind[mw,BW,A5,AF,APo,Bd]
 grind[mw,AFx,BV,AW]
theorem xh{l:List (List AY)}{x:List AY}(h:x∈l):x.length<=l.flatten.length:=by
 grind[List.getElem_of_mem,HR]
theorem AJm{w:Ah}(hw:DK w):AQY w=some w:=by
 unfold AQY;rw[AJi hw.1 fun x hx=>Nat.le_trans (xh hx) hw.2,AF]
theorem AJg{c:AS}(hc:Da c):AQZ c=some c:=by
 unfold AQZ;rw[show ASd c.AR=some c.AR from rfl,AF,ADF hc.1,AF,AJm hc.2,AF]
theorem ADE{l:List AS}(hl:l.length<=1048576)(hp:∀x∈l,Da x):AQL l=some l:=by
 unfold AQL;rw[DB (by unfold lim;omega),AX];refine JT (by omega) ?_ ?_
 .grind[mj,BW,A5,AF,AJg,List.getElem_mem,Bd]
 grind[mj,ADl,BV,AW]
theorem AJk{r:AV}(hr:r.AR.length<=1048576):AQT r=some r:=by
 unfold AQT;rw[U7 hr,AF]
theorem AJh{h:AE}(hh:Ba h):AQM h=some h:=by
 unfold AQM;rw[AJk hh.DV,AF,ADG hh.Bv,AF,ADE hh.D7 hh.C4,AF,U7 hh.todo,AF,U7 hh.FL,AF]
theorem AJl(s:Dc):AQN s=some s:=by
 unfold AQN AKJ;simp only[AF]
theorem OW{e:Be}(he:E2 e):rp e=some e:=by
 unfold rp;rw[AJh he.FQ,AF,AJl,AF,yt he.laid,AF]
theorem U2{l:List Int}(hl:l.length<9223372036854775808){d:Int}(h0:0<=d)(h1:d<=1048576):∃r,AHD l d=some r/\(r<0\/0<=r/\r+l.length=d):=Wt hl h0 h1
theorem ADB{l:List AJ}(hl:l.length<9223372036854775808){d:Int}(h0:0<=d)(h1:d<=1048576):∃r,ASX l d=some r/\(r<0\/0<=r/\r+l.length=d):=Wt hl h0 h1
theorem ADA{l:List AQ}(hl:l.length<9223372036854775808){d:Int}(h0:0<=d)(h1:d<=1048576):∃r,ASY l d=some r/\(r<0\/0<=r/\r+l.length=d):=Wt hl h0 h1
theorem APY{l:List AY}(hl:l.length<9223372036854775808){d:Int}(h0:0<=d)(h1:d<=1048576):∃r,ASZ l d=some r/\(r<0\/0<=r/\r+l.length=d):=Wt hl h0 h1
theorem yl{l:List Bw}(hl:l.length<9223372036854775808){d:Int}(h0:0<=d)(h1:d<=1048576):∃r,AQS l d=some r/\(r<0\/0<=r/\r+l.length=d):=Wt hl h0 h1
theorem gq{a:D8}(hl:a.Data.length<9223372036854775808){d:Int}(h0:0<=d)(h1:d<=1048576):∃r,ALH a d=some r/\(r<0\/0<=r/\r+a.Data.length=d):=Wt hl h0 h1
theorem AJc{l:List (List AY)}(hl:okL (okL Pl) l){d:Int}(h0:0<=d)(h1:d<=1048576):∃r,AQO l d=some r/\(r<0\/0<=r/\r+l.length+l.flatten.length=d):=by
 have hn:=hl.1;unfold AQO;rw[BP (n:=d-(l.length:Int)) (by omega) (by omega),Bl];split
 .grind
 rename_i hd;refine AF5 (n:=l.length) (fun i (v:Int)=>(v,(i:Int))) (fun i v=>0<=v/\v+l.length+(l.take i).flatten.length=d) _ (by omega) ?_ (v:=d-l.length) ⟨by omega,by simp⟩;rintro L i v ⟨hv0,hv⟩ hi ih;unfold AEp AEo;dsimp only;rcases Aj i l.length with h|h
 .obtain⟨r,e,hr⟩:=APY (hl.2 _ (Am h)).1 hv0 (by omega)
  grind[A5,AF,Bl,Bd,List.take_add_one]
 grind[BV,AW]
theorem AJa{c:AS}(hc:K3 c){d:Int}(h0:0<=d)(h1:d<=1048576):Sz (AQP c d) d (Da c):=by
 unfold AQP ASa;obtain⟨r,e,hr⟩:=ADA hc.2.1.1 h0 h1;rw[e,AF,Bl];split
 .exact⟨_,rfl,.inl (by omega)⟩
 obtain⟨s,e,hs⟩:=AJc hc.2.2.1.1 (d:=r) (by omega) (by omega);rw[e,AF,Bl];split
 .rw[AF];exact⟨_,rfl,.inl (by omega)⟩
 .rw[AF,Bl,if_neg (by omega)];refine⟨_,rfl,.inr ⟨by omega,by omega,by omega,by omega,by omega⟩⟩
theorem AC9{l:List AS}(hl:okL K3 l){d:Int}(h0:0<=d)(h1:d<=1048576):Sz (AQQ l d) d (l.length<=1048576/\∀c∈l,Da c):=by
 have hn:=hl.1;unfold AQQ Sz;rw[BP (n:=d-(l.length:Int)) (by omega) (by omega),Bl];split
 .grind
 rename_i hd;refine AF5 (n:=l.length) (fun i (v:Int)=>(v,(i:Int))) (fun i v=>0<=v/\v<=d-l.length/\∀c∈l.take i,Da c) _ (by omega) ?_ (v:=d-l.length) ⟨by omega,by omega,by simp⟩;rintro L i v ⟨hv0,hv,hf⟩ hi ih;unfold AFb AFa;dsimp only;rcases Aj i l.length with h|h
 .obtain⟨r,e,hr⟩:=AJa (hl.2 _ (Am h)) hv0 (by omega)
  grind[A5,AF,Bl,Bd,List.take_add_one]
 grind[BV,AW]
theorem AJb{h:AE}(hh:UX h){d:Int}(h0:0<=d)(h1:d<=1048576):Sz (AQR h d) d (Ba h):=by
 obtain⟨g1,g2,g3,g4,g5,g6,g7,_⟩:=hh;unfold AQR ASW;obtain⟨a,e,ha⟩:=U2 g1.1.1 h0 h1;rw[e,AF,Bl];split
 .rw[AF];exact⟨_,rfl,.inl (by omega)⟩
 rw[AF,Bl,if_neg (by omega)];obtain⟨b,e,hb⟩:=ADB g4.1 (d:=a) (by omega) (by omega);rw[e,AF,Bl];split
 .exact⟨_,rfl,.inl (by omega)⟩
 obtain⟨c,e,hc⟩:=AC9 g5 (d:=b) (by omega) (by omega);rw[e,AF,Bl];split
 .exact⟨_,rfl,.inl (by omega)⟩
 obtain⟨k1,k2,k3,k4⟩:=hc.resolve_left (by omega);obtain⟨t,e,ht⟩:=U2 g6.1 (d:=c) (by omega) (by omega);rw[e,AF,Bl];split
 .exact⟨_,rfl,.inl (by omega)⟩
 obtain⟨j,e,hj⟩:=U2 g7.1 (d:=t) (by omega) (by omega);rw[e,AF,Bl];split
 .exact⟨_,rfl,.inl (by omega)⟩
 exact⟨_,rfl,.inr ⟨by omega,by omega,by omega,by omega,k3,k4,by omega,by omega⟩⟩
theorem gv{e:Be}(he:NC e):Sz (ALI e 1048576) 1048576 (E2 e):=by
 obtain⟨g1,g2,g3,g4,_⟩:=he;unfold ALI ASb;obtain⟨a,q,ha⟩:=AJb g1 (d:=1048576) (by omega) (by omega);rw[q,AF,Bl];split
 .exact⟨_,rfl,.inl (by omega)⟩
 obtain⟨k1,k2,k3⟩:=ha.resolve_left (by omega);obtain⟨b,q,hb⟩:=gq (a:=e.CY.Log) g2.1.1 (d:=a) (by omega) (by omega);rw[q,AF,Bl];split
 .rw[AF];exact⟨_,rfl,.inl (by omega)⟩
 obtain⟨c,q,hc⟩:=gq (a:=e.CY.G1) g2.2.1.1 (d:=b) (by omega) (by omega);rw[q,AF,Bl];split
 .rw[AF];exact⟨_,rfl,.inl (by omega)⟩
 obtain⟨o,q,ho⟩:=gq (a:=e.CY.Odd) g2.2.2.1.1 (d:=c) (by omega) (by omega);rw[q,AF,Bl];split
 .rw[AF];exact⟨_,rfl,.inl (by omega)⟩
 rw[AF,Bl,if_neg (by omega)];obtain⟨r,q,hr⟩:=yl g4.1 (d:=o) (by omega) (by omega);rw[q,AF,Bl];split
 .exact⟨_,rfl,.inl (by omega)⟩
 exact⟨_,rfl,.inr ⟨by omega,by omega,k3,by omega,by omega,by omega,by omega⟩⟩
end Lv.P
