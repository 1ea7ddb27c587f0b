/- Plain laws about what the program computes. -/
import Derived.Test.YtpbbmlmilagnkaaGreatPA
noncomputable section
set_option linter.unusedVariables false
set_option linter.unusedSimpArgs false
set_option linter.unusedSectionVars false
open Bool renaming and_eq_true->AD,and_false->CW,and_true->B9,eq_iff_iff->F4,false_and->BJ,not_eq_true'->A8,not_false->GV,not_not->Cq,not_true->Bm
open Int renaming toNat_natCast->AU
open List renaming drop_length->Di,foldl_cons->BV,getElem_mem->BH,getElem_of_mem->Ep,length_append->AO,length_cons->AM,length_take->BQ,map_cons->AF,mem_cons->Af,mem_flatten->Dk,pairwise_iff_getElem->Bw
open Nat renaming add_sub_cancel->CF,lt_or_ge->AY,sub_self->DD,zero_add->Ai
namespace Lv.P
open Go (IntKind BinOp UnOp)
def Pn(p:Ax):Bool:=inB p.At 1 1000008&&inB p.Id 1 999
structure K2(w:Aq):Prop where
 nine:w.Ah.length=9
 few:w.Ah.flatten.length<=10
 pins:∀p∈w.Ah.flatten,Pn p=true
 ids:w.Ah.flatten.Pairwise fun a b=>a.Id≠b.Id
 at_:∀i (h:i<w.Ah.length) k (hk:k<w.Ah[i].length),w.Ah[i][k].At.tmod 9=(i:Int)
 srt:∀i (h:i<w.Ah.length) k (hk:k+1<w.Ah[i].length),ltP w.Ah[i][k] w.Ah[i][k+1]=true
def HZ(w:Aq):Bool:=@decide (K2 w) (Classical.propDecidable _)
theorem E0{w:Aq}:HZ w=true↔K2 w:=by grind[HZ]
def DE(w:Aq):Prop:=w.Ah.length<=1048576/\w.Ah.flatten.length<=1048576
theorem RC{α:Type}{l:List (List α)}{i:Nat}(h:i<l.length):(l.take i).flatten.length+l[i].length<=l.flatten.length:=by
 grind[Dt,List.take_append_drop]
theorem Im{l:List (List Ax)}{i:Nat}(h:i<l.length):l[i].length<=l.flatten.length:=by have:=RC h;omega
theorem ZF{w:Aq}(hw:DE w):jo w=some w.Ah.flatten:=by
 have hlim:lim=268435456:=rfl;have h1:=hw.1;have h2:=hw.2;unfold jo;refine(Da (n:=w.Ah.length) (fun i (v:List Ax)=>(v,(i:Int))) (fun i v=>v=(w.Ah.take i).flatten) (fun i v=>some w.Ah.flatten) (by omega) ?_ (by simp));intro L i v hv hi ih;unfold jr jq;dsimp only;rcases AY i w.Ah.length with h|h
 .have:=RC h
  grind[BL,BK,AE,CG,Bc,List.take_add_one]
 grind[BN,AS]
def UC(s:List Ax)(i:Nat)(k:Nat):Bool:=HJ s k fun p=>(p.At.tmod 9==(i:Int))&&(if 0<k then HJ s (k-1) (fun d=>ltP d p) else true)
def bq(l:List Ax)(i:Nat):Bool:=HJ l i fun p=>Pn p&&Gl (fun k=>HJ l k fun q=>!(q.Id==p.Id)) 0 i
theorem Jm{w:Aq}(hw:DE w):VD w=some (HZ w):=by
 have h1:=hw.1;have h2:=hw.2;have hj6:QP w ()=some (Gl (fun i=>HJ w.Ah i fun s=>Gl (UC s i) 0 s.length) 0 w.Ah.length):=by
  unfold QP;rw[HS (n:=w.Ah.length) (E:=some true) (fun i=>HJ w.Ah i fun s=>Gl (UC s i) 0 s.length) (by omega) ?_ ?_,CS,B9]
  .intro L i h;have hs:=Im h;rw[B3 h];unfold VG;rw[Bq h,BL];refine HS (n:=w.Ah[i].length) (E:=L ((i+1:Nat):Int)) (UC w.Ah[i] i) (by omega) ?_ ?_
   .intro L' k hk;have hw':=Bc hk (show w.Ah[i].length<2 ^ 63 by omega);unfold UC;rw[B3 hk];unfold VH QQ;rw[BK h,AE,Bq hk,BL,UQ];simp only[AE,BK hk,AS,hw',BL,BN];by_cases h0:0<k
    .rw[decide_eq_true h0,BL,if_pos h0,HO k h0 (by omega),BK (show k-1<w.Ah[i].length by omega),AE,UB,AE,B3 (show k-1<w.Ah[i].length by omega),bne];cases w.Ah[i][k].At.tmod 9==(i:Int)<;>cases ltP w.Ah[i][k-1] w.Ah[i][k]<;>rfl
    .rw[decide_eq_false h0,BN,if_neg h0,bne];cases w.Ah[i][k].At.tmod 9==(i:Int)<;>rfl
   .intro L';unfold VH aB;rw[BK h,AE,Cr,BN,AS,Bc h (by omega)]
  .intro L;unfold VG aC;rw[Cr,BN,AS]
 have hj1:∀b,QN w w.Ah.flatten b=some (!b&&(Gl (bq w.Ah.flatten) 0 w.Ah.flatten.length&&Gl (fun i=>HJ w.Ah i fun s=>Gl (UC s i) 0 s.length) 0 w.Ah.length)):=by
  intro b;unfold QN;rw[HS (n:=w.Ah.flatten.length) (E:=QP w ()) (bq w.Ah.flatten) (by omega) ?_ ?_,hj6,CS,Fh]
  .intro L i h;unfold bq;rw[B3 h];have hj3:∀b,QO w.Ah.flatten L i b=br (!b&&Gl (fun k=>HJ w.Ah.flatten k fun q=>!(q.Id==w.Ah.flatten[i].Id)) 0 i) (L ((i+1:Nat):Int)) (some false):=by
    intro b;unfold QO;rw[HS (n:=i) (E:=L ((i+1:Nat):Int)) (fun k=>HJ w.Ah.flatten k fun q=>!(q.Id==w.Ah.flatten[i].Id)) (by omega) ?_ ?_]
    .cases b<;>rfl
    .intro L' k hk;rw[B3 (show k<w.Ah.flatten.length by omega)];unfold VF;rw[Bq hk,BL];simp only[BK h,BK (show k<w.Ah.flatten.length by omega),AE,Bc hk (show i<2 ^ 63 by omega)];cases w.Ah.flatten[k].Id==w.Ah.flatten[i].Id<;>rfl
    .intro L';unfold VF ju;rw[Cr,BN,AS,Bc h (by omega)]
   unfold VE Pn;rw[Bq h,BL];simp only[BK h,AE,Gt,BB,AS,hj3];generalize Gl (fun k=>HJ w.Ah.flatten k fun q=>!(q.Id==w.Ah.flatten[i].Id)) 0 i=X;cases inB w.Ah.flatten[i].At 1 1000008<;>cases inB w.Ah.flatten[i].Id 1 999<;>rfl
  .intro L;unfold VE;rw[Cr,BN,AS]
 unfold VD;rw[ZF hw,AE,AS,AS,hj1,hj1,Bm,BJ,bne,BB,CS];congr 1;rw[F4,E0];simp only[AD,beq_iff_eq,A8,decide_eq_false_iff_not,KL];constructor
 .rintro⟨a1,a2,a3,a4⟩;refine⟨by omega,by omega,?_,?_,?_,?_⟩
  .intro p hp;obtain⟨k,hk,rfl⟩:=Ep hp;have:=a3 k hk;unfold bq at this;rw[B3 hk,AD]at this;exact this.1
  .rw[Bw];intro i j hi hj hij;have:=a3 j hj;unfold bq at this;rw[B3 hj,AD,KL]at this;have:=this.2 i hij;rw[B3 hi]at this;simpa using this
  .intro i h k hk;have:=a4 i h;rw[B3 h,KL]at this;have:=this k hk;unfold UC at this;rw[B3 hk,AD,beq_iff_eq]at this;exact this.1
  .intro i h k hk;have:=a4 i h;rw[B3 h,KL]at this;have:=this (k+1) hk;unfold UC at this;rw[B3 hk,AD,if_pos (by omega),CF,B3 (by omega)]at this;exact this.2
 .rintro⟨a1,a2,a3,a4,a5,a6⟩;refine⟨by omega,by omega,?_,?_⟩
  .intro k hk;unfold bq;rw[B3 hk,AD,KL];refine⟨a3 _ (BH _),fun j hj=>?_⟩;rw[B3 (by omega)];rw[Bw]at a4;have:=a4 j k (by omega) hk hj;simpa using this
  .intro i h;rw[B3 h,KL];intro k hk;unfold UC;rw[B3 hk,AD,beq_iff_eq];refine⟨a5 i h k hk,?_⟩;split
   .rename_i h0;obtain⟨k,rfl⟩:∃j,k=j+1:=⟨k-1,by omega⟩;rw[CF,B3 (by omega)];exact a6 i h k hk
   .rfl
def KY(m:List (Int×Int))(p:Ax):List (Int×Int):=HC m p.Id (w64 (JJ m p.Id+1))
theorem AHD:∀{m:List (Int×Int)} {n v:Int},n∈m.map (·.1)->(HC m n v).map (·.1)=m.map (·.1)
 | [],n,v,h=>by simp at h|(k,w)::m,n,v,h=>by
  unfold HC;by_cases e:n=k
  .rw[if_pos e];rfl
  .rw[if_neg e];rw[AF,Af]at h;rw[AF,AHD (h.resolve_left e)];rfl
theorem AAL:∀{m:List (Int×Int)} {n v:Int},n∉m.map (·.1)->(HC m n v).map (·.1)=m.map (·.1)++[n]
 | [],n,v,h=>rfl|(k,w)::m,n,v,h=>by
  unfold HC;rw[AF,Af,not_or]at h;rw[if_neg h.1,AF,AAL h.2];rfl
theorem ADK:∀(l:List Ax) (m:List (Int×Int)),(l.foldl KY m).length<=m.length+l.length/\((l.foldl KY m).length=m.length+l.length↔(∀p∈l,p.Id∉m.map (·.1))/\l.Pairwise fun a b=>a.Id≠b.Id)
 | [],m=>by simp|p::l,m=>by
  rw[BV];have ih:=ADK l (KY m p);by_cases h:p.Id∈m.map (·.1)
  .have e:(KY m p).map (·.1)=m.map (·.1):=AHD h;have el:(KY m p).length=m.length:=by simpa using congrArg List.length e
   rw[el]at ih;refine⟨by rw[AM];omega,?_⟩;constructor
   .intro g;rw[AM]at g;omega
   .intro g;exact absurd h (g.1 p List.mem_cons_self)
  .have e:(KY m p).map (·.1)=m.map (·.1)++[p.Id]:=AAL h;have el:(KY m p).length=m.length+1:=by simpa using congrArg List.length e
   grind[List.pairwise_cons]
theorem YD(p:Ax):kN p=some (Pn p):=by
 unfold kN Vi Pn;simp only[Gj,AE,AS,CS]
def P0(s:List Ax)(i:Nat)(k:Nat):Bool:=HJ s k fun p=>Pn p&&((p.At.tmod 9==(i:Int))&&(if 0<k then HJ s (k-1) (fun d=>!(ltP p d)) else true))
theorem b6(p:Nat->Bool){i n:Nat}(h:i<n):Gl p i (n-i)=(p i&&Gl p (i+1) (n-(i+1))):=by rw[show n-i=(n-(i+1))+1 by omega];rfl
theorem wF{s:List Ax}(hs:s.length<=1048576){L:List (Int×Int)×Int×Int->AA Bool}{i:Nat}(hi:i<9){m:List (Int×Int)}{n:Nat}(hn:n<=2 ^ 50) :
 Aw (Vl L i s) big (m,(n:Int),0)=br (Gl (P0 s i) 0 s.length) (L (s.foldl KY m,((n+s.length:Nat):Int),((i+1:Nat):Int))) (some false):=by
 refine(Da (n:=s.length) (fun k (v:List (Int×Int)×Nat)=>(v.1,(v.2:Int),(k:Int))) (fun k v=>v.2=n+k) (fun k v=>br (Gl (P0 s i) k (s.length-k)) (L ((s.drop k).foldl KY v.1,((n+s.length:Nat):Int),((i+1:Nat):Int))) (some false)) (by omega) ?_ (v:=(m,n)) rfl);rintro L' k ⟨m,n'⟩ hv hk ih;dsimp only at hv ih ⊢;unfold Vl NU;dsimp only;rcases AY k s.length with h|h
 .have hih:=ih (KY m s[k],n'+1) (by dsimp only;omega) h;dsimp only at hih;have ew:w64 ((n':Int)+1)=((n'+1:Nat):Int):=by rw[Ao (by omega) (by omega)];rfl
  rw[Bq h,BL,BK h,AE,YD,AE,BB,b6 _ h,Dt h,BV,UQ];simp only[AS,BL,BN,Bc h (show s.length<2 ^ 63 by omega),ew];have ed:HC m s[k].Id (w64 (JJ m s[k].Id+1))=KY m s[k]:=rfl;rw[ed,hih];unfold P0;rw[B3 h];generalize Gl _ (k+1) (s.length-(k+1))=X;generalize L _=Z;by_cases h0:0<k
  .obtain⟨c,e1,e2,e3⟩:=Jt s[k-1] s[k];rw[decide_eq_true h0,BL,if_pos h0,HO k h0 (by omega),BK (show k-1<s.length by omega),AE,e1,AE,e3,B3 (show k-1<s.length by omega),bne];cases Pn s[k]<;>cases s[k].At.tmod 9==(i:Int)<;>cases ltP s[k] s[k-1]<;>rfl
  .rw[decide_eq_false h0,BN,if_neg h0,bne];cases Pn s[k]<;>cases s[k].At.tmod 9==(i:Int)<;>rfl
 .obtain rfl:k=s.length:=by omega
  unfold kO;dsimp only;rw[Cr,BN,AS,Bc (i:=i) (n:=9) hi (by omega),DD,Di,hv];rfl
theorem Jg{w:Aq}(hw:DE w):QV w=some (HZ w):=by
 have h1:=hw.1;have h2:=hw.2;unfold QV;rw[bne,BB];by_cases h9:w.Ah.length=9
 .have e9:((w.Ah.length:Int)==9)=true:=by rw[beq_iff_eq];omega
  rw[e9,BL];have:=(Da (F:=Vk w) (n:=w.Ah.length) (fun k (v:List (Int×Int)×Nat)=>(v.1,(v.2:Int),(k:Int))) (fun k v=>v.2=(w.Ah.take k).flatten.length) (fun k v=>br (Gl (fun i=>HJ w.Ah i fun s=>Gl (P0 s i) 0 s.length) k (w.Ah.length-k)) (QW ((w.Ah.drop k).flatten.foldl KY v.1,((v.2+(w.Ah.drop k).flatten.length:Nat):Int))) (some false)) (by omega) ?_ (v:=([],0)) (by simp))
  .refine Eq.trans this ?_;unfold QW Vj;simp only[List.drop_zero,Ai,AS,CS,Nat.sub_zero];congr 1;have hc:=ADK w.Ah.flatten [];rw[List.length_nil,Ai]at hc;rw[F4,E0];simp only[AD,beq_iff_eq,decide_eq_true_iff,KL];have hm:((w.Ah.flatten.foldl KY []).length:Int)=(w.Ah.flatten.length:Int)↔w.Ah.flatten.Pairwise fun a b=>a.Id≠b.Id:=by
    rw[Int.ofNat_inj,hc.2];simp
   rw[hm];constructor
   .rintro⟨a1,a2,a3⟩;have hk:∀i (h:i<w.Ah.length) k (hk:k<w.Ah[i].length),Pn w.Ah[i][k]=true/\w.Ah[i][k].At.tmod 9=(i:Int)/\(if 0<k then HJ w.Ah[i] (k-1) (fun d=>!(ltP w.Ah[i][k] d)) else true)=true:=by
     intro i h k hk;have:=a1 i h;rw[B3 h,KL]at this;have:=this k hk;unfold P0 at this;rw[B3 hk,AD,AD,beq_iff_eq]at this;exact this
    refine⟨h9,by omega,?_,a3,fun i h k hk'=>(hk i h k hk').2.1,?_⟩
    .intro p hp;obtain⟨s,hs,hp⟩:=Dk.1 hp;obtain⟨i,hi,rfl⟩:=Ep hs;obtain⟨k,hk',rfl⟩:=Ep hp;exact(hk i hi k hk').1
    .intro i h k hk';have:=(hk i h (k+1) hk').2.2;rw[if_pos (by omega),CF,B3 (by omega),A8,YQ]at this;have hd:=(List.pairwise_flatten.1 a3).1 _ (BH h);rw[Bw]at hd;have:=hd k (k+1) (by omega) hk' (by omega);rw[Me];omega
   .rintro⟨a1,a2,a3,a4,a5,a6⟩;refine⟨?_,by omega,a4⟩;intro i h;rw[B3 h,KL];intro k hk;unfold P0;rw[B3 hk,AD,AD,beq_iff_eq];refine⟨a3 _ (Dk.2 ⟨_,BH h,BH hk⟩),a5 i h k hk,?_⟩;split
    .obtain⟨k,rfl⟩:∃j,k=j+1:=⟨k-1,by omega⟩;rw[CF,B3 (by omega),A8];exact Ei.jB _ _ (a6 i h k hk)
    .rfl
  .rintro L k ⟨m,n⟩ hv hk ih;dsimp only at hv ih ⊢;unfold Vk;dsimp only;rcases AY k w.Ah.length with h|h
   .have hf:=RC h;rw[Bq h,BL,BK h,AE,wF (by omega) (by omega) (by omega),b6 _ h,B3 h];have ef:(w.Ah.take (k+1)).flatten=(w.Ah.take k).flatten++w.Ah[k]:=by rw[List.take_add_one,List.getElem?_eq_getElem h,List.flatten_append];simp
    have:=ih (w.Ah[k].foldl KY m,n+w.Ah[k].length) (by dsimp only;rw[ef,AO,hv]) h;dsimp only at this;rw[this,Dt h,List.flatten_cons,List.foldl_append,AO,Nat.add_assoc];generalize Gl _ (k+1) _=X;generalize QW _=Z;cases Gl (P0 w.Ah[k] k) 0 w.Ah[k].length<;>rfl
   .obtain rfl:k=w.Ah.length:=by omega
    rw[Cr,BN,AS,DD,Di];rfl
 .have e9:((w.Ah.length:Int)==9)=false:=by rw[beq_eq_false_iff_ne];omega
  rw[e9,BN];congr 1;have:¬(HZ w=true):=by rw[E0];exact fun h=>h9 h.nine
  rw[Bool.not_eq_true]at this;exact this.symm
def JM(w:Aq):List Ax:=if HZ w=true then Cj ltP w.Ah.flatten else []
theorem pP{w:Aq}(hw:DE w):xW w=some (JM w):=by
 have hlim:lim=268435456:=rfl;have h2:=hw.2;unfold xW JM;rw[Jm hw,AE,BB,ZF hw,AE,GM];split
 .rw[Np (l:=w.Ah.flatten) (fun v p=>put ltP p v) (fun i v=>v.length<=i) some (by omega) ?_ ?_ ?_ (by simp),<-Sw Ei fh]
  .grind[VR,BL,BK,AE,Pz]
  .intro i h v hv;rw[E4];omega
  grind[VR,j5,BN,AS]
 .rfl
theorem nj{w:Aq}(hw:DE w):xb w=some (JM w):=by
 have hlim:lim=268435456:=rfl;have h1:=hw.1;have h2:=hw.2;unfold xb JM;rw[Jg hw,AE,BB,GM];split
 .rename_i hk;have hk:=E0.1 hk;refine(Da (n:=w.Ah.length) (fun i (v:List Ax)=>(v,(i:Int))) (fun i v=>v=(w.Ah.take i).flatten) (fun i v=>some (Cj ltP w.Ah.flatten)) (by omega) ?_ (by simp));intro L i v hv hi ih;unfold kH kG;dsimp only;rcases AY i w.Ah.length with h|h
  .have:=RC h
   grind[BL,BK,AE,CG,Bc,List.take_add_one]
  .obtain rfl:i=w.Ah.length:=by omega
   have:=hk.few;rw[Cr,BN,AS,hv,List.take_length,ALH (by omega),AE]
 .rfl
def Dl(c:Aa):Prop:=c.Row.length<=1048576/\DE c.DW
structure CU(h:AH):Prop where
 FJ:h.AR.Ae.length<=1048576
 Db:h.AK.length<=1048576
 H3:h.Ap.length<=1048576
 HW:∀c∈h.Ap,Dl c
 todo:h.BO.length<=1048576
 K5:h.BP.length<=1048576
def R9(c:Aa):Bool:=Iq c.Ae&&(Yr c.Row&&HZ c.DW)
theorem iA{c:Aa}(hc:Dl c):xS c=some (R9 c):=by
 have:=hc.1;unfold xS QR R9;simp only[Zn,iI c.Row (by omega),Jm hc.2,AE,AS,CS]
theorem fI{c:Aa}(hc:Dl c):xj c=some (R9 c):=by
 have:=hc.1;unfold xj QX R9;simp only[Ze,fQ c.Row (by omega),Jg hc.2,AE,AS,CS]
theorem Yn{w:Aq}(hw:DE w):(JM w).length<=1048576:=by
 unfold JM;split
 .rw[Hn];exact hw.2
 .simp
def Jb(r:AW)(c:Aa)(l:List AP)(k now:Int):Bool:=
 R9 c&&(Gx eqE c.Row (Gw r l k now)&&(Gx eqP (JM c.DW) (HL l k)&&((c.Ae.Gk==I5 l k)&&(c.Ae.K1==Kx l k))))
theorem pJ{r:AW}(hr:r.Ae.length<2 ^ 62){c:Aa}(hc:Dl c){l:List AP}(hl:l.length<=1048576)(k now:Int):xY r c l k now=some (Jb r c l k now):=by
 have h1:=hc.1;have h2:=Yn hc.2;unfold xY LR Jb;simp only[iA hc,Rt hr hl,iK (show c.Row.length<2 ^ 62 by omega),pP hc.2,T7 hl,Zo (show (JM c.DW).length<2 ^ 62 by omega),T6 (show l.length<2 ^ 58 by omega),T9 (show l.length<2 ^ 58 by omega),AE,AS,CS]
theorem nZ{r:AW}(hr:r.Ae.length<2 ^ 62){c:Aa}(hc:Dl c){l:List AP}(hl:l.length<=1048576){k:Int}(hk:D2 l k<=19)(now:Int):xy r c l k now=some (Jb r c l k now):=by
 have h1:=hc.1;have h2:=Yn hc.2;unfold xy LV Jb;simp only[fI hc,RN hr hl hk,nd (show c.Row.length<2 ^ 62 by omega),nj hc.2,Tx hl hk,nh (show (JM c.DW).length<2 ^ 62 by omega),Tw (show l.length<2 ^ 58 by omega),Tz (show l.length<2 ^ 58 by omega),AE,AS,CS]
def JF(q p:AP):Bool:=(q.A4==p.A4)||((decide (q.A4<p.A4)&&decide (p.Since<q.Since))||(decide (p.A4<q.A4)&&decide (q.Since<p.Since)))
def bn(h:AH)(i:Nat):Bool:=
 HJ h.AK i fun p=>FO h.AR p h.Now&&(!(decide (p.A4>=h.A4))&&((if 0<i then HJ h.AK (i-1) (fun q=>!(decide (q.Id>=p.Id))) else true)&&Gl (fun k=>HJ h.AK k fun q=>!(JF q p)) 0 i))
def KI(h:AH):Bool:=Gl (bn h) 0 h.AK.length
theorem UI{h:AH}(hh:CU h):xN h=some (KI h):=by
 have h1:=hh.FJ;have h2:=hh.Db;unfold xN KI;rw[HS (n:=h.AK.length) (E:=some true) (bn h) (by omega) ?_ ?_,CS,B9]
 .intro L i hi;unfold bn;rw[B3 hi];have hj2:∀b,LP h L i h.AK[i] b=br (!b&&Gl (fun k=>HJ h.AK k fun q=>!(JF q h.AK[i])) 0 i) (L ((i+1:Nat):Int)) (some false):=by
   intro b;unfold LP;rw[HS (n:=i) (E:=L ((i+1:Nat):Int)) (fun k=>HJ h.AK k fun q=>!(JF q h.AK[i])) (by omega) ?_ ?_]
   .cases b<;>rfl
   .intro L' k hk;have hkl:k<h.AK.length:=by omega
    have hj4:∀b,I0 L' k b=br (!b) (L' ((k+1:Nat):Int)) (some false):=by intro b;unfold I0;rw[Bc hk (by omega)];cases b<;>rfl
    rw[B3 hkl];unfold U8 JF;rw[Bq hk,BL,BK hkl,AE];simp only[AS,hj4,gt_iff_lt];cases h.AK[k].A4==h.AK[i].A4<;>cases decide (h.AK[k].A4<h.AK[i].A4)<;>cases decide (h.AK[i].Since<h.AK[k].Since)<;>cases decide (h.AK[i].A4<h.AK[k].A4)<;>cases decide (h.AK[k].Since<h.AK[i].Since)<;>rfl
   .intro L';unfold U8 jd;rw[Cr,BN,AS,Bc hi (by omega)]
  unfold U7
  grind[BL,BK,AE,Mr,BB,AS,HJ,HO,FO,decide_eq_false]
 grind[U7,je,BN,AS]
theorem vf{l:List Int}(hl:l.length<2 ^ 62)(x:Int):xO l x=some (l.any (fun y=>y==x)):=by
 unfold xO;refine(Da (n:=l.length) (fun i (_:Unit)=>(i:Int)) (fun _ _=>True) (fun i _=>some ((l.drop i).any (fun y=>y==x))) (by omega) ?_ (v:=()) trivial);intro L i _ _ hi ih;unfold jg jf;rcases AY i l.length with h|h
 .rw[Bq h,BL,BK h,AE,Bc h (by omega),Dt h,List.any_cons];cases l[i]==x with|true=>rfl|false=>rw[BN,ih () trivial h];rfl
 grind[BN,AS]
theorem Zc{l:List Int}(hl:l.length<2 ^ 62)(x:Int):xz l x=some (l.any (fun y=>y==x)):=by
 unfold xz ADn;rw[px (l:=l) (p:=fun y=>x==y) (by omega) ?_ ?_,AE]
 .congr 1;rw[F4,decide_eq_true_iff,List.any_eq_true];have:=jE (p:=fun y=>x==y) (l:=l) (s:=0)
  grind
 .grind[V4,BL,BK,AE]
 grind[V4,kf,BN,AS]
def OK(t:List Int)(n:Int)(i:Nat):Bool:=HJ t i fun k=>inB k 0 (w64 (n-1))&&!((t.take i).any fun y=>y==k)
def IQ(t:List Int)(n:Int):Bool:=Gl (OK t n) 0 t.length
def M4(t:List Int)(n:Int):Bool:=t.all fun x=>inB x (-1) (w64 (n-1))
theorem iN{h:AH}(hh:CU h):xP h=some (IQ h.BO h.Ap.length&&(M4 h.BP h.Ap.length&&((h.BP.length:Int)==h.AR.Ch))):=by
 have h1:=hh.todo;have h2:=hh.K5;have e3:QK h ()=some (M4 h.BP h.Ap.length&&((h.BP.length:Int)==h.AR.Ch)):=by
  unfold QK M4;rw[Zz (l:=h.BP) (fun x=>inB x (-1) (w64 ((h.Ap.length:Int)-1))) (E:=some ((h.BP.length:Int)==h.AR.Ch)) (by omega) ?_ ?_,CS]
  .intro L i hi;unfold VB;rw[Bq hi,BL,BK hi,AE,Gt,AE,BB]
  .intro L;unfold VB jh;rw[Cr,BN,AS]
 unfold xP IQ;rw[HS (n:=h.BO.length) (E:=QK h ()) (OK h.BO h.Ap.length) (by omega) ?_ ?_,e3,CS]
 .intro L i hi;unfold OK;rw[B3 hi];unfold VA U9
  grind[BL,BK,AE,Gt,BB,CG,vf,AS,Bc,inB]
 grind[VA,BN,AS]
def Z7(h:AH)(i:Nat):Bool:=
 HJ h.Ap i fun c=>HJ h.AR.Ae i (fun s=>c.Ae.Total==s)&&(Jb h.AR c h.AK i h.Now&&!(decide (D2 h.AK i>h.AR.Room)))
def Kc(h:AH):Bool:=Gl (Z7 h) 0 h.Ap.length
def FN(h:AH):Bool:=
 EF h.AR&&(inB h.Now 0 1000000&&(inB h.A4 1 1000001&&(!(decide ((h.AK.length:Int)>40))&&(((h.Ap.length:Int)==(h.AR.Ae.length:Int))&&(KI h&&((IQ h.BO h.Ap.length&&(M4 h.BP h.Ap.length&&((h.BP.length:Int)==h.AR.Ch)))&&Kc h))))))
theorem Jl{h:AH}(hh:CU h):U2 h=some (FN h):=by
 have h1:=hh.FJ;have h2:=hh.Db;have h3:=hh.H3;have ht:Iz h true=some false:=rfl;unfold U2 FN;by_cases hcl:h.Ap.length=h.AR.Ae.length
 .have hj2:∀b,QH h b=some (!b&&Kc h):=by
   intro b;unfold QH Kc;rw[HS (n:=h.Ap.length) (E:=some true) (Z7 h) (by omega) ?_ ?_,CS,B9,Fh]
   .intro L i hi;have hj4:∀b,NP L i b=br (!b) (L ((i+1:Nat):Int)) (some false):=by intro b;unfold NP;rw[Bc hi (by omega)];cases b<;>rfl
    unfold Z7;rw[B3 hi,B3 (show i<h.AR.Ae.length by omega)];unfold U3;rw[Bq hi,BL,BK hi,AE,BK (show i<h.AR.Ae.length by omega),AE,AE,pJ (by omega) (hh.HW _ (BH hi)) h2,AE,BB,iB (by omega),AE];simp only[AS,hj4,bne];cases h.Ap[i].Ae.Total==h.AR.Ae[i]<;>cases Jb h.AR h.Ap[i] h.AK i h.Now<;>cases decide (D2 h.AK i>h.AR.Room)<;>rfl
   .intro L;unfold U3 jZ;rw[Cr,BN,AS]
  have hj1:∀b,Iz h b=some (!b&&(KI h&&((IQ h.BO h.Ap.length&&(M4 h.BP h.Ap.length&&((h.BP.length:Int)==h.AR.Ch)))&&Kc h))):=by
   intro b;unfold Iz;simp only[UI hh,iN hh,AE,BB,AS,hj2,Bm,BJ,Cq,CS,Fh]
  simp only[H7 (show h.AR.Ae.length<2 ^ 62 by omega),Gt,AE,BB,AS,hj1,Bm,BJ,CS,Fh,bne,Cq]
 .have e:((h.Ap.length:Int)==(h.AR.Ae.length:Int))=false:=by rw[beq_eq_false_iff_ne];omega
  simp only[H7 (show h.AR.Ae.length<2 ^ 62 by omega),Gt,AE,BB,AS,bne,e,GV,ht,wg,BJ,CW]
theorem G1{h:AH}(hh:CU h):Tm h=some (FN h):=by
 have h1:=hh.FJ;have h2:=hh.Db;have h3:=hh.H3;have h4:=hh.todo;have h5:=hh.K5;have ht:I2 h true=some false:=rfl;unfold Tm FN;by_cases hr:EF h.AR=false
 .rw[GG (by omega),AE,hr,BB,BN,AS,ht];rfl
 rw[Bool.not_eq_false]at hr;have hrm:=(Ce hr).2.2.1;by_cases hcl:h.Ap.length≠h.AR.Ae.length
 .have e:((h.Ap.length:Int)==(h.AR.Ae.length:Int))=false:=by rw[beq_eq_false_iff_ne];omega
  simp only[GG (show h.AR.Ae.length<2 ^ 62 by omega),Gj,AE,BB,AS,bne,e,GV,ht,BL,wg,BJ,CW]
 have hcl:=Classical.not_not.1 hcl;have e13:OR h ()=some (M4 h.BP h.Ap.length):=by
  unfold OR M4;rw[Zz (l:=h.BP) (fun x=>inB x (-1) (w64 ((h.Ap.length:Int)-1))) (E:=some true) (by omega) ?_ ?_,CS,B9]
  .intro L i hi;unfold SI;rw[Bq hi,BL,BK hi,AE,Gj,AE,BB,hcl]
  .intro L;unfold SI aM;rw[Cr,BN,AS]
 have e10:OQ h ()=some (IQ h.BO h.Ap.length&&M4 h.BP h.Ap.length):=by
  unfold OQ IQ;rw[HS (n:=h.BO.length) (E:=OR h ()) (OK h.BO h.Ap.length) (by omega) ?_ ?_,e13,CS]
  .intro L i hi;unfold OK;rw[B3 hi];unfold SH SG;rw[Bq hi,BL,BK hi,AE,bf,AE,BB,CG (by omega),AU,Zc (by rw[BQ];omega),AE,AS,AS,Bc hi (by omega),BL,hcl];cases inB h.BO[i] 0 (w64 ((h.AR.Ae.length:Int)-1))<;>cases (h.BO.take i).any (fun y=>y==h.BO[i])<;>rfl
  .intro L;unfold SH;rw[Cr,BN,AS]
 have e7:Qg h ()=some (Kc h&&(IQ h.BO h.Ap.length&&M4 h.BP h.Ap.length)):=by
  unfold Qg Kc;rw[HS (n:=h.Ap.length) (E:=OQ h ()) (Z7 h) (by omega) ?_ ?_,e10,CS]
  .intro L i hi;have hj9:∀b,Na L i b=br (!b) (L ((i+1:Nat):Int)) (some false):=by intro b;unfold Na;rw[Bc hi (by omega)];cases b<;>rfl
   unfold Z7;rw[B3 hi,B3 (show i<h.AR.Ae.length by omega)];unfold V7;rw[Bq hi,BL,BK hi,AE,BK (show i<h.AR.Ae.length by omega),AE,fJ (by omega),AE];by_cases hc:D2 h.AK i>h.AR.Room
   .rw[decide_eq_true hc];simp only[AS,hj9,bne,BL];cases h.Ap[i].Ae.Total==h.AR.Ae[i]<;>cases Jb h.AR h.Ap[i] h.AK i h.Now<;>rfl
   .rw[decide_eq_false hc,nZ (by omega) (hh.HW _ (BH hi)) h2 (by omega),AE];simp only[AS,hj9,bne,BN];cases h.Ap[i].Ae.Total==h.AR.Ae[i]<;>cases Jb h.AR h.Ap[i] h.AK i h.Now<;>rfl
  .intro L;unfold V7;rw[Cr,BN,AS]
 have hj1:∀b,I2 h b=some (!b&&(!(decide ((h.AK.length:Int)>40))&&(KI h&&(Kc h&&(IQ h.BO h.Ap.length&&M4 h.BP h.Ap.length))))):=by
  intro b;unfold I2 KI;rw[HS (n:=h.AK.length) (E:=Qg h ()) (bn h) (by omega) ?_ ?_,e7,CS,Fh,Fh]
  .intro L i hi;unfold bn;rw[B3 hi];have hj3:∀b,LW h L i h.AK[i] b=br (!b&&Gl (fun k=>HJ h.AK k fun q=>!(JF q h.AK[i])) 0 i) (L ((i+1:Nat):Int)) (some false):=by
    intro b;unfold LW;rw[CG (by omega),HS (n:=i) (E:=L ((i+1:Nat):Int)) (fun k=>HJ h.AK k fun q=>!(JF q h.AK[i])) (by omega) ?_ ?_]
    .cases b<;>rfl
    .intro L' k hk;have hkl:k<h.AK.length:=by omega
     have hj5:∀b,I3 L' k b=br (!b) (L' ((k+1:Nat):Int)) (some false):=by intro b;unfold I3;rw[Bc hk (by omega)];cases b<;>rfl
     have hlen:(h.AK.take i).length=i:=by rw[BQ];omega
     have hat:at? (h.AK.take i) (k:Int)=some h.AK[k]:=by rw[BK (by omega)];simp
     rw[B3 hkl];unfold V6 JF;rw[AU,hlen,Bq hk,BL,hat,AE];have eb:(h.AK[i].A4==h.AK[k].A4)=(h.AK[k].A4==h.AK[i].A4):=BEq.comm;simp only[AS,hj5,gt_iff_lt,eb];cases h.AK[k].A4==h.AK[i].A4<;>cases decide (h.AK[k].A4<h.AK[i].A4)<;>cases decide (h.AK[i].Since<h.AK[k].Since)<;>cases decide (h.AK[i].A4<h.AK[k].A4)<;>cases decide (h.AK[k].Since<h.AK[i].Since)<;>rfl
    .intro L';have hlen:(h.AK.take i).length=i:=by rw[BQ];omega
     unfold V6 kg;rw[AU,hlen,Cr,BN,AS,Bc hi (by omega)]
   unfold V5;rw[Bq hi,BL,BK hi,AE,MX (by omega),AE,BB,UQ];simp only[AS,hj3];generalize Gl (fun k=>HJ h.AK k fun q=>!(JF q h.AK[i])) 0 i=X;by_cases h0:0<i
   .rw[decide_eq_true h0,BL,if_pos h0,HO i h0 (by omega),BK (show i-1<h.AK.length by omega),AE,B3 (show i-1<h.AK.length by omega)];cases FO h.AR h.AK[i] h.Now<;>cases decide (h.AK[i].A4>=h.A4)<;>cases decide (h.AK[i-1].Id>=h.AK[i].Id)<;>rfl
   .rw[decide_eq_false h0,BN,if_neg h0];cases FO h.AR h.AK[i] h.Now<;>cases decide (h.AK[i].A4>=h.A4)<;>rfl
  .intro L;unfold V5;rw[Cr,BN,AS]
 have e:((h.Ap.length:Int)==(h.AR.Ae.length:Int))=true:=by rw[beq_iff_eq];omega
 simp only[GG (show h.AR.Ae.length<2 ^ 62 by omega),Gj,AE,BB,AS,hj1,Bm,BJ,CS,Fh,bne,Cq,e,BL,GV,Bool.true_and];congr 1;ac_rfl
def XW(n:Int):Bool:=inB n 0 9999
theorem AHI(n:Int):My n=some (XW n):=by unfold My XW;rw[Gt,AE]
theorem AE0(n:Int):M0 n=some (XW n):=by unfold M0 XW;rw[Gj,AE]
def cy(q:Cb):Bool:=
 if q.Kind=1 then XW q.Id&&(XW q.Bf&&(inB q.Ci (-1) 9999&&(XW q.BW&&XW q.DG)))
 else if q.Kind=2\/q.Kind=4\/q.Kind=5\/q.Kind=7 then XW q.Id&&(q.Bf==0&&(q.Ci==0&&(q.BW==0&&q.DG==0)))
 else if q.Kind=3 then XW q.Bf&&(XW q.BW&&(q.Id==0&&(q.Ci==0&&q.DG==0)))
 else if q.Kind=6 then q.Id==0&&(q.Bf==0&&(q.Ci==0&&(q.BW==0&&q.DG==0)))
 else false
theorem AHH(q:Cb):xL q=some (cy q):=by
 obtain⟨k,a,b,c,d,e⟩:=q;unfold xL GN NQ GN cy;simp only[AS,AHI,AE,Gt,CS,GM,beq_iff_eq]
 grind
theorem AEz(q:Cb):yB q=some (cy q):=by
 obtain⟨k,a,b,c,d,e⟩:=q;unfold yB GO Nc GO cy;simp only[AS,AE0,AE,Gj,CS,GM,beq_iff_eq]
 grind
structure DU(e:Ay):Prop where
 GR:CU e.Av
 log:e.Bu.Log.Data.length<=1048576
 even:e.Bu.Fw.Data.length<=1048576
 odd:e.Bu.Odd.Data.length<=1048576
 laid:e.Laid.length<=1048576
def RA(e:Ay):Bool:=FN e.Av&&(ZH e.Bu&&(!(decide ((e.Laid.length:Int)>8))&&(inB e.Seq e.Laid.length 1000000&&e.Laid.all cy)))
theorem Zm{e:Ay}(he:DU e):xM e=some (RA e):=by
 have h1:=he.laid;have hj:∀b,LO e b=some (!b&&e.Laid.all cy):=by
  intro b;unfold LO;rw[Zz (l:=e.Laid) cy (E:=some true) (by omega) ?_ ?_,CS,B9,Fh]
  .intro L i h;unfold U5;rw[Bq h,BL,BK h,AE,AHH,AE,BB]
  .grind[U5,ja,BN,AS]
 unfold xM RA;simp only[Jl he.GR,iL,Gt,AE,BB,AS,hj,Bm,BJ,CS,Fh,Cq]
theorem Zd{e:Ay}(he:DU e):yC e=some (RA e):=by
 have h1:=he.laid;have hj:∀b,LX e b=some (!b&&e.Laid.all cy):=by
  intro b;unfold LX;rw[Zz (l:=e.Laid) cy (E:=some true) (by omega) ?_ ?_,CS,B9,Fh]
  .intro L i h;unfold V9;rw[Bq h,BL,BK h,AE,AEz,AE,BB]
  .grind[V9,kh,BN,AS]
 unfold yC RA;simp only[G1 he.GR,fS,Gj,AE,BB,AS,hj,Bm,BJ,CS,Fh,Cq]
theorem XS{n:Nat}{F:(Int->AA Bool)->Int->AA Bool}(hl:n<2 ^ 63)(step:∀L (i:Nat),i<n->F L (i:Int)=L (w64 ((i:Int)+1)))(stop:∀L,F L (n:Int)=some true) :
 br ((n:Int) != (n:Int)) (some false) (Aw F big 0)=some true:=by
 rw[GM,if_neg (by simp)];exact AHr hl (fun L i h=>by rw[step L i h,Bc h hl]) stop
theorem ne_self(a:Int):(a != a)=false:=by simp
def Sz(x:AA Int)(d:Int)(P:Prop):Prop:=∃r,x=some r/\(r<0\/0<=r/\r<=d/\P)
theorem ALL{n:Nat}(hn:n<9223372036854775808){d:Int}(h0:0<=d)(h1:d<=1048576) :
 br (decide (w64 (d-(n:Int))<0)) (some (-1)) (some (w64 (d-(n:Int))))=some (if d-n<0 then -1 else d-n):=by
 grind[Ao,BD]
theorem TZ{n:Nat}(hn:n<9223372036854775808){d:Int}(h0:0<=d)(h1:d<=1048576) :
 ∃r,br (decide (w64 (d-(n:Int))<0)) (some (-1)) (some (w64 (d-(n:Int))))=some r/\(r<0\/0<=r/\r+n=d):=by
 grind[ALL]
theorem AAy(x:AP):yE x x=some true:=by
 unfold yE;simp only[ne_self,BN]
theorem qO(x:Cm):yG x x=some true:=by
 unfold yG;simp only[ne_self,BN]
theorem AAx(x:Ac):yH x x=some true:=by
 unfold yH;simp only[ne_self,BN]
theorem AIf(x:Ax):yJ x x=some true:=by
 unfold yJ;simp only[ne_self,BN]
theorem AIg(x:Cb):aJ x x=some true:=by
 unfold aJ;simp only[ne_self,BN]
theorem AD4(x:B2):aI x x=some true:=by
 grind[aI,GM]
theorem XU{l:List Int}(hl:l.length<9223372036854775808):aN l l=some true:=by
 grind[aN,XS,kl,BL,BK,AE,BN,kj,AS]
theorem qP{l:List AP}(hl:l.length<9223372036854775808):yF l l=some true:=by
 unfold yF
 grind[XS,ko,BL,BK,AE,AAy,km,BN,AS]
theorem qN{l:List Ac}(hl:l.length<9223372036854775808):yI l l=some true:=by
 unfold yI
 grind[XS,kr,BL,BK,AE,AAx,kq,BN,AS]
theorem AD5{l:List Ax}(hl:l.length<9223372036854775808):yK l l=some true:=by
 unfold yK
 grind[XS,kv,BL,BK,AE,AIf,ku,BN,AS]
theorem AD6{l:List Cb}(hl:l.length<9223372036854775808):xv l l=some true:=by
 unfold xv
 grind[XS,kS,BL,BK,AE,AIg,kR,BN,AS]
theorem AAz{l:List (List Ax)}(hl:l.length<9223372036854775808)(hp:∀x∈l,x.length<9223372036854775808):yL l l=some true:=by
 unfold yL
 grind[XS,ky,BL,BK,AE,AD5,List.getElem_mem,kx,BN,AS]
theorem AA0(s:B5):xu s s=some true:=by
 unfold xu;simp only[AD4,AE,BB,BL]
theorem ZQ{l:List Int}(hl:l.length<=1048576):AAr l=some l:=by
 unfold AAr;rw[CG (by unfold lim;omega),AU];refine J6 (by omega) ?_ ?_
 .grind[dI,BL,BK,AE,Bc]
 grind[dI,zH,BN,AS]
theorem wA{l:List AP}(hl:l.length<=1048576):AIN l=some l:=by
 unfold AIN;rw[CG (by unfold lim;omega),AU];refine J6 (by omega) ?_ ?_
 .grind[dJ,BL,BK,AE,AKO,Bc]
 grind[dJ,zI,BN,AS]
theorem vz{l:List Ac}(hl:l.length<=1048576):AIO l=some l:=by
 unfold AIO;rw[CG (by unfold lim;omega),AU];refine J6 (by omega) ?_ ?_
 .grind[dK,BL,BK,AE,AKQ,Bc]
 grind[dK,zJ,BN,AS]
theorem AHd{l:List Ax}(hl:l.length<=1048576):AIP l=some l:=by
 unfold AIP;rw[CG (by unfold lim;omega),AU];refine J6 (by omega) ?_ ?_
 .grind[dL,BL,BK,AE,AKR,Bc]
 grind[dL,zK,BN,AS]
theorem AHe{l:List Cb}(hl:l.length<=1048576):AIH l=some l:=by
 unfold AIH;rw[CG (by unfold lim;omega),AU];refine J6 (by omega) ?_ ?_
 .grind[dG,BL,BK,AE,AKG,Bc]
 grind[dG,xH,BN,AS]
theorem AC8{l:List (List Ax)}(hl:l.length<=1048576)(hp:∀x∈l,x.length<=1048576):AIQ l=some l:=by
 unfold AIQ;rw[CG (by unfold lim;omega),AU];refine J6 (by omega) ?_ ?_
 .grind[dM,BL,BK,AE,AHd,Bc]
 grind[dM,zL,BN,AS]
theorem n9{l:List (List Ax)}{x:List Ax}(h:x∈l):x.length<=l.flatten.length:=by
 grind[List.getElem_of_mem,Im]
theorem ADB{w:Aq}(hw:DE w):AIR w=some w:=by
 unfold AIR;rw[AC8 hw.1 fun x hx=>Nat.le_trans (n9 hx) hw.2,AE]
theorem AC6{c:Aa}(hc:Dl c):AIS c=some c:=by
 unfold AIS;rw[show AKP c.Ae=some c.Ae from rfl,AE,vz hc.1,AE,ADB hc.2,AE]
theorem vu{l:List Aa}(hl:l.length<=1048576)(hp:∀x∈l,Dl x):AID l=some l:=by
 unfold AID;rw[CG (by unfold lim;omega),AU];refine J6 (by omega) ?_ ?_
 .grind[dF,BL,BK,AE,AC6,List.getElem_mem,Bc]
 grind[dF,xG,BN,AS]
theorem AC9{r:AW}(hr:r.Ae.length<=1048576):AIM r=some r:=by
 unfold AIM;rw[ZQ hr,AE]
theorem AC7{h:AH}(hh:CU h):AIE h=some h:=by
 unfold AIE;rw[AC9 hh.FJ,AE,wA hh.Db,AE,vu hh.H3 hh.HW,AE,ZQ hh.todo,AE,ZQ hh.K5,AE]
theorem ADA(s:B5):AIF s=some s:=by
 unfold AIF ADe;simp only[AE]
theorem Io{e:Ay}(he:DU e):Uz e=some e:=by
 unfold Uz;rw[AC7 he.GR,AE,ADA,AE,AHe he.laid,AE]
theorem ZM{l:List Int}(hl:l.length<9223372036854775808){d:Int}(h0:0<=d)(h1:d<=1048576):∃r,ADf l d=some r/\(r<0\/0<=r/\r+l.length=d):=TZ hl h0 h1
theorem vq{l:List AP}(hl:l.length<9223372036854775808){d:Int}(h0:0<=d)(h1:d<=1048576):∃r,AKI l d=some r/\(r<0\/0<=r/\r+l.length=d):=TZ hl h0 h1
theorem vn{l:List Ac}(hl:l.length<9223372036854775808){d:Int}(h0:0<=d)(h1:d<=1048576):∃r,AKJ l d=some r/\(r<0\/0<=r/\r+l.length=d):=TZ hl h0 h1
theorem AHN{l:List Ax}(hl:l.length<9223372036854775808){d:Int}(h0:0<=d)(h1:d<=1048576):∃r,AKK l d=some r/\(r<0\/0<=r/\r+l.length=d):=TZ hl h0 h1
theorem AHO{l:List Cb}(hl:l.length<9223372036854775808){d:Int}(h0:0<=d)(h1:d<=1048576):∃r,AKN l d=some r/\(r<0\/0<=r/\r+l.length=d):=TZ hl h0 h1
theorem ZK{a:B2}(hl:a.Data.length<9223372036854775808){d:Int}(h0:0<=d)(h1:d<=1048576):∃r,ADz a d=some r/\(r<0\/0<=r/\r+a.Data.length=d):=TZ hl h0 h1
theorem AC3{l:List (List Ax)}(hl:okL (okL N9) l){d:Int}(h0:0<=d)(h1:d<=1048576):∃r,AII l d=some r/\(r<0\/0<=r/\r+l.length+l.flatten.length=d):=by
 have hn:=hl.1;unfold AII;rw[Ao (n:=d-(l.length:Int)) (by omega) (by omega),BD];split
 .grind
 rename_i hd;refine Ts (n:=l.length) (fun i (v:Int)=>(v,(i:Int))) (fun i v=>0<=v/\v+l.length+(l.take i).flatten.length=d) _ (by omega) ?_ (v:=d-l.length) ⟨by omega,by simp⟩;rintro L i v ⟨hv0,hv⟩ hi ih;unfold ym yl;dsimp only;rcases AY i l.length with h|h
 .obtain⟨r,e,hr⟩:=AHN (hl.2 _ (BH h)).1 hv0 (by omega)
  grind[BK,AE,BD,Bc,List.take_add_one]
 grind[BN,AS]
theorem AC1{c:Aa}(hc:KH c){d:Int}(h0:0<=d)(h1:d<=1048576):Sz (AIJ c d) d (Dl c):=by
 unfold AIJ AKL;obtain⟨r,e,hr⟩:=vn hc.2.1.1 h0 h1;rw[e,AE,BD];split
 .exact⟨_,rfl,.inl (by omega)⟩
 obtain⟨s,e,hs⟩:=AC3 hc.2.2.1.1 (d:=r) (by omega) (by omega);rw[e,AE,BD];split
 .rw[AE];exact⟨_,rfl,.inl (by omega)⟩
 .rw[AE,BD,if_neg (by omega)];refine⟨_,rfl,.inr ⟨by omega,by omega,by omega,by omega,by omega⟩⟩
theorem vm{l:List Aa}(hl:okL KH l){d:Int}(h0:0<=d)(h1:d<=1048576):Sz (AIK l d) d (l.length<=1048576/\∀c∈l,Dl c):=by
 have hn:=hl.1;unfold AIK Sz;rw[Ao (n:=d-(l.length:Int)) (by omega) (by omega),BD];split
 .grind
 rename_i hd;refine Ts (n:=l.length) (fun i (v:Int)=>(v,(i:Int))) (fun i v=>0<=v/\v<=d-l.length/\∀c∈l.take i,Dl c) _ (by omega) ?_ (v:=d-l.length) ⟨by omega,by omega,by simp⟩;rintro L i v ⟨hv0,hv,hf⟩ hi ih;unfold zG zF;dsimp only;rcases AY i l.length with h|h
 .obtain⟨r,e,hr⟩:=AC1 (hl.2 _ (BH h)) hv0 (by omega)
  grind[BK,AE,BD,Bc,List.take_add_one]
 grind[BN,AS]
theorem AC2{h:AH}(hh:RV h){d:Int}(h0:0<=d)(h1:d<=1048576):Sz (AIL h d) d (CU h):=by
 obtain⟨g1,g2,g3,g4,g5,g6,g7,_⟩:=hh;unfold AIL AKH;obtain⟨a,e,ha⟩:=ZM g1.1.1 h0 h1;rw[e,AE,BD];split
 .rw[AE];exact⟨_,rfl,.inl (by omega)⟩
 rw[AE,BD,if_neg (by omega)];obtain⟨b,e,hb⟩:=vq g4.1 (d:=a) (by omega) (by omega);rw[e,AE,BD];split
 .exact⟨_,rfl,.inl (by omega)⟩
 obtain⟨c,e,hc⟩:=vm g5 (d:=b) (by omega) (by omega);rw[e,AE,BD];split
 .exact⟨_,rfl,.inl (by omega)⟩
 obtain⟨k1,k2,k3,k4⟩:=hc.resolve_left (by omega);obtain⟨t,e,ht⟩:=ZM g6.1 (d:=c) (by omega) (by omega);rw[e,AE,BD];split
 .exact⟨_,rfl,.inl (by omega)⟩
 obtain⟨j,e,hj⟩:=ZM g7.1 (d:=t) (by omega) (by omega);rw[e,AE,BD];split
 .exact⟨_,rfl,.inl (by omega)⟩
 exact⟨_,rfl,.inr ⟨by omega,by omega,by omega,by omega,k3,k4,by omega,by omega⟩⟩
theorem ZL{e:Ay}(he:Lq e):Sz (AD0 e 1048576) 1048576 (DU e):=by
 obtain⟨g1,g2,g3,g4,_⟩:=he;unfold AD0 AKM;obtain⟨a,q,ha⟩:=AC2 g1 (d:=1048576) (by omega) (by omega);rw[q,AE,BD];split
 .exact⟨_,rfl,.inl (by omega)⟩
 obtain⟨k1,k2,k3⟩:=ha.resolve_left (by omega);obtain⟨b,q,hb⟩:=ZK (a:=e.Bu.Log) g2.1.1 (d:=a) (by omega) (by omega);rw[q,AE,BD];split
 .rw[AE];exact⟨_,rfl,.inl (by omega)⟩
 obtain⟨c,q,hc⟩:=ZK (a:=e.Bu.Fw) g2.2.1.1 (d:=b) (by omega) (by omega);rw[q,AE,BD];split
 .rw[AE];exact⟨_,rfl,.inl (by omega)⟩
 obtain⟨o,q,ho⟩:=ZK (a:=e.Bu.Odd) g2.2.2.1.1 (d:=c) (by omega) (by omega);rw[q,AE,BD];split
 .rw[AE];exact⟨_,rfl,.inl (by omega)⟩
 rw[AE,BD,if_neg (by omega)];obtain⟨r,q,hr⟩:=AHO g4.1 (d:=o) (by omega) (by omega);rw[q,AE,BD];split
 .exact⟨_,rfl,.inl (by omega)⟩
 exact⟨_,rfl,.inr ⟨by omega,by omega,k3,by omega,by omega,by omega,by omega⟩⟩
end Lv.P
