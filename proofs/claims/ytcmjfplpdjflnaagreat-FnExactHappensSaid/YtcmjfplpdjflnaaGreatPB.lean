/- Plain laws about what the program computes. -/
import Derived.Test.YtcmjfplpdjflnaaGreatPA
noncomputable section
set_option linter.unusedVariables false
set_option linter.unusedSimpArgs false
set_option linter.unusedSectionVars false
open Bool renaming and_eq_true->AE,and_false->C7,and_true->Ck,eq_iff_iff->HT,false_and->Bj,not_eq_true'->BF,not_false->Ho,not_not->DQ,not_true->CK
open Int renaming toNat_natCast->Aa
open List renaming drop_length->ES,foldl_cons->Bv,getElem_mem->Ao,getElem_of_mem->Fy,length_append->AP,length_cons->AJ,length_take->Bb,map_cons->AI,mem_cons->Ar,mem_flatten->EU,pairwise_iff_getElem->CV
open Nat renaming add_sub_cancel->Co,lt_or_ge->Ab,sub_self->Dk,zero_add->As
namespace Lv.P
open Go (IntKind BinOp UnOp)
def P2(p:A7):Bool:=inB p.At 1 1000008&&inB p.Id 1 999
structure Nn(w:Av):Prop where
 nine:w.An.length=9
 few:w.An.flatten.length<=10
 pins:∀p∈w.An.flatten,P2 p=true
 ids:w.An.flatten.Pairwise fun a b=>a.Id≠b.Id
 at_:∀i (h:i<w.An.length) k (hk:k<w.An[i].length),w.An[i][k].At.tmod 9=(i:Int)
 srt:∀i (h:i<w.An.length) k (hk:k+1<w.An[i].length),ltP w.An[i][k] w.An[i][k+1]=true
def Ht(w:Av):Bool:=@decide (Nn w) (Classical.propDecidable _)
theorem Dq{w:Av}:Ht w=true↔Nn w:=by grind[Ht]
def DP(w:Av):Prop:=w.An.length<=1048576/\w.An.flatten.length<=1048576
theorem V5{α:Type}{l:List (List α)}{i:Nat}(h:i<l.length):(l.take i).flatten.length+l[i].length<=l.flatten.length:=by
 grind[DR,List.take_append_drop]
theorem IY{l:List (List A7)}{i:Nat}(h:i<l.length):l[i].length<=l.flatten.length:=by have:=V5 h;omega
theorem lB{w:Av}(a:DP w):w7 w=some w.An.flatten:=by
 have hlim:lim=268435456:=rfl;have c:=a.1;have e:=a.2;unfold w7;refine(DA (n:=w.An.length) (fun i (v:List A7)=>(v,(i:Int))) (fun i v=>v=(w.An.take i).flatten) (fun i v=>some w.An.flatten) (by omega) ?_ (by simp));intro L i v g hi j;unfold w9 w8;dsimp only;rcases Ab i w.An.length with h|h
 .have:=V5 h
  grind[BL,BG,AB,B4,Bp,List.take_add_one]
 grind[BO,AU]
def Zv(s:List A7)(i:Nat)(k:Nat):Bool:=I3 s k fun p=>(p.At.tmod 9==(i:Int))&&(if 0<k then I3 s (k-1) (fun d=>ltP d p) else true)
def ot(l:List A7)(i:Nat):Bool:=I3 l i fun p=>P2 p&&H7 (fun k=>I3 l k fun q=>!(q.Id==p.Id)) 0 i
theorem KA{w:Av}(H:DP w):Y7 w=some (Ht w):=by
 have Z:=H.1;have h2:=H.2;have G:Un w ()=some (H7 (fun i=>I3 w.An i fun s=>H7 (Zv s i) 0 s.length) 0 w.An.length):=by
  unfold Un;rw[JI (n:=w.An.length) (E:=some true) (fun i=>I3 w.An i fun s=>H7 (Zv s i) 0 s.length) (by omega) ?_ ?_,Cr,Ck]
  .intro L i h;have hs:=IY h;rw[CP h];unfold bW;rw[B6 h,BL];refine JI (n:=w.An[i].length) (E:=L ((i+1:Nat):Int)) (Zv w.An[i] i) (by omega) ?_ ?_
   .intro L' k a;have I:=Bp a (show w.An[i].length<2 ^ 63 by omega);unfold Zv;rw[CP a];unfold bX Uo;rw[BG h,AB,B6 a,BL,aH];simp only[AB,BG a,AU,I,BL,BO];by_cases c:0<k
    .rw[decide_eq_true c,BL,AW c,JB k c (by omega),BG (show k-1<w.An[i].length by omega),AB,Zu,AB,CP (show k-1<w.An[i].length by omega),bne];cases w.An[i][k].At.tmod 9==(i:Int)<;>cases ltP w.An[i][k-1] w.An[i][k]<;>rfl
    .rw[decide_eq_false c,BO,AT c,bne];cases w.An[i][k].At.tmod 9==(i:Int)<;>rfl
   .intro L';unfold bX ma;rw[BG h,AB,C5,BO,AU,Bp h (by omega)]
  .intro L;unfold bW mb;rw[C5,BO,AU]
 have e:∀b,Ul w w.An.flatten b=some (!b&&(H7 (ot w.An.flatten) 0 w.An.flatten.length&&H7 (fun i=>I3 w.An i fun s=>H7 (Zv s i) 0 s.length) 0 w.An.length)):=by
  intro b;unfold Ul;rw[JI (n:=w.An.flatten.length) (E:=Un w ()) (ot w.An.flatten) (by omega) ?_ ?_,G,Cr,G8]
  .intro L i h;unfold ot;rw[CP h];have B:∀b,Um w.An.flatten L i b=br (!b&&H7 (fun k=>I3 w.An.flatten k fun q=>!(q.Id==w.An.flatten[i].Id)) 0 i) (L ((i+1:Nat):Int)) (some false):=by
    intro b;unfold Um;rw[JI (n:=i) (E:=L ((i+1:Nat):Int)) (fun k=>I3 w.An.flatten k fun q=>!(q.Id==w.An.flatten[i].Id)) (by omega) ?_ ?_]
    .cases b<;>rfl
    .intro L' k a;rw[CP (show k<w.An.flatten.length by omega)];unfold bV;rw[B6 a,BL];simp only[BG h,BG (show k<w.An.flatten.length by omega),AB,Bp a (show i<2 ^ 63 by omega)];cases w.An.flatten[k].Id==w.An.flatten[i].Id<;>rfl
    .intro L';unfold bV xB;rw[C5,BO,AU,Bp h (by omega)]
   unfold bU P2;rw[B6 h,BL];simp only[BG h,AB,GL,BK,AU,B];generalize H7 (fun k=>I3 w.An.flatten k fun q=>!(q.Id==w.An.flatten[i].Id)) 0 i=X;cases inB w.An.flatten[i].At 1 1000008<;>cases inB w.An.flatten[i].Id 1 999<;>rfl
  .intro L;unfold bU;rw[C5,BO,AU]
 unfold Y7;rw[lB H,AB,AU,AU,e,e,CK,Bj,bne,BK,Cr];congr 1;rw[HT,Dq];simp only[AE,beq_iff_eq,BF,decide_eq_false_iff_not,Je];constructor
 .rintro⟨J,O,a3,a4⟩;refine⟨by omega,by omega,?_,?_,?_,?_⟩
  .intro p Y;obtain⟨k,a,rfl⟩:=Fy Y;have:=a3 k a;unfold ot at this;rw[CP a,AE]at this;exact this.1
  .rw[CV];intro i j hi g y;have:=a3 j g;unfold ot at this;rw[CP g,AE,Je]at this;have:=this.2 i y;rw[CP hi]at this;simpa using this
  .intro i h k a;have:=a4 i h;rw[CP h,Je]at this;have:=this k a;unfold Zv at this;rw[CP a,AE,beq_iff_eq]at this;exact this.1
  .intro i h k a;have:=a4 i h;rw[CP h,Je]at this;have:=this (k+1) a;unfold Zv at this;rw[CP a,AE,AW (by omega),Co,CP (by omega)]at this;exact this.2
 .rintro⟨J,O,a3,a4,Q,S⟩;refine⟨by omega,by omega,?_,?_⟩
  .intro k a;unfold ot;rw[CP a,AE,Je];refine⟨a3 _ (Ao _),fun j g=>?_⟩;rw[CP (by omega)];rw[CV]at a4;have:=a4 j k (by omega) a g;simpa using this
  .intro i h;rw[CP h,Je];intro k a;unfold Zv;rw[CP a,AE,beq_iff_eq];refine⟨Q i h k a,?_⟩;split
   .rename_i c;obtain⟨k,rfl⟩:∃j,k=j+1:=⟨k-1,by omega⟩;rw[Co,CP (by omega)];exact S i h k a
   .rfl
def NP(m:List (Int×Int))(p:A7):List (Int×Int):=Iq m p.Id (w64 (Lc m p.Id+1))
theorem AVJ:∀{m:List (Int×Int)} {n v:Int},n∈m.map (·.1)->(Iq m n v).map (·.1)=m.map (·.1)
 | [],n,v,h=>by simp at h|(k,w)::m,n,v,h=>by
  unfold Iq;by_cases e:n=k
  .rw[AW e];rfl
  .rw[AT e];rw[AI,Ar]at h;rw[AI,AVJ (h.resolve_left e)];rfl
theorem AKS:∀{m:List (Int×Int)} {n v:Int},n∉m.map (·.1)->(Iq m n v).map (·.1)=m.map (·.1)++[n]
 | [],n,v,h=>rfl|(k,w)::m,n,v,h=>by
  unfold Iq;rw[AI,Ar,not_or]at h;rw[AT h.1,AI,AKS h.2];rfl
theorem ANw:∀(l:List A7) (m:List (Int×Int)),(l.foldl NP m).length<=m.length+l.length/\((l.foldl NP m).length=m.length+l.length↔(∀p∈l,p.Id∉m.map (·.1))/\l.Pairwise fun a b=>a.Id≠b.Id)
 | [],m=>by simp|p::l,m=>by
  rw[Bv];have c:=ANw l (NP m p);by_cases h:p.Id∈m.map (·.1)
  .have e:(NP m p).map (·.1)=m.map (·.1):=AVJ h;have el:(NP m p).length=m.length:=by simpa using congrArg List.length e
   rw[el]at c;refine⟨by rw[AJ];omega,?_⟩;constructor
   .intro g;rw[AJ]at g;omega
   .intro g;exact absurd h (g.1 p List.mem_cons_self)
  .have e:(NP m p).map (·.1)=m.map (·.1)++[p.Id]:=AKS h;have el:(NP m p).length=m.length+1:=by simpa using congrArg List.length e
   grind[List.pairwise_cons]
theorem T0(p:A7):mo p=some (P2 p):=by
 unfold mo cI P2;simp only[E9,AB,AU,Cr]
def UH(s:List A7)(i:Nat)(k:Nat):Bool:=I3 s k fun p=>P2 p&&((p.At.tmod 9==(i:Int))&&(if 0<k then I3 s (k-1) (fun d=>!(ltP p d)) else true))
theorem o8(p:Nat->Bool){i n:Nat}(h:i<n):H7 p i (n-i)=(p i&&H7 p (i+1) (n-(i+1))):=by rw[show n-i=(n-(i+1))+1 by omega];rfl
theorem AGf{s:List A7}(I:s.length<=1048576){L:List (Int×Int)×Int×Int->AA Bool}{i:Nat}(hi:i<9){m:List (Int×Int)}{n:Nat}(H:n<=2 ^ 50) :
 A3 (cL L i s) big (m,(n:Int),0)=br (H7 (UH s i) 0 s.length) (L (s.foldl NP m,((n+s.length:Nat):Int),((i+1:Nat):Int))) (some false):=by
 refine(DA (n:=s.length) (fun k (v:List (Int×Int)×Nat)=>(v.1,(v.2:Int),(k:Int))) (fun k v=>v.2=n+k) (fun k v=>br (H7 (UH s i) k (s.length-k)) (L ((s.drop k).foldl NP v.1,((n+s.length:Nat):Int),((i+1:Nat):Int))) (some false)) (by omega) ?_ (v:=(m,n)) rfl);rintro L' k ⟨m,g⟩ j G q;dsimp only at j q ⊢;unfold cL Qo;dsimp only;rcases Ab k s.length with h|h
 .have e:=q (NP m s[k],g+1) (by dsimp only;omega) h;dsimp only at e;have ew:w64 ((g:Int)+1)=((g+1:Nat):Int):=by rw[Aq (by omega) (by omega)];rfl
  rw[B6 h,BL,BG h,AB,T0,AB,BK,o8 _ h,DR h,Bv,aH];simp only[AU,BL,BO,Bp h (show s.length<2 ^ 63 by omega),ew];have ed:Iq m s[k].Id (w64 (Lc m s[k].Id+1))=NP m s[k]:=rfl;rw[ed,e];unfold UH;rw[CP h];generalize H7 _ (k+1) (s.length-(k+1))=X;generalize L _=Z;by_cases a:0<k
  .obtain⟨c,y,E,B⟩:=MX s[k-1] s[k];rw[decide_eq_true a,BL,AW a,JB k a (by omega),BG (show k-1<s.length by omega),AB,y,AB,B,CP (show k-1<s.length by omega),bne];cases P2 s[k]<;>cases s[k].At.tmod 9==(i:Int)<;>cases ltP s[k] s[k-1]<;>rfl
  .rw[decide_eq_false a,BO,AT a,bne];cases P2 s[k]<;>cases s[k].At.tmod 9==(i:Int)<;>rfl
 .obtain rfl:k=s.length:=by omega
  unfold xX;dsimp only;rw[C5,BO,AU,Bp (i:=i) (n:=9) hi (by omega),Dk,ES,j];rfl
theorem Jy{w:Av}(I:DP w):Sq w=some (Ht w):=by
 have h1:=I.1;have h2:=I.2;unfold Sq;rw[bne,BK];by_cases B:w.An.length=9
 .have g:((w.An.length:Int)==9)=true:=by rw[beq_iff_eq];omega
  rw[g,BL];have:=(DA (F:=cK w) (n:=w.An.length) (fun k (v:List (Int×Int)×Nat)=>(v.1,(v.2:Int),(k:Int))) (fun k v=>v.2=(w.An.take k).flatten.length) (fun k v=>br (H7 (fun i=>I3 w.An i fun s=>H7 (UH s i) 0 s.length) k (w.An.length-k)) (Uw ((w.An.drop k).flatten.foldl NP v.1,((v.2+(w.An.drop k).flatten.length:Nat):Int))) (some false)) (by omega) ?_ (v:=([],0)) (by simp))
  .refine Eq.trans this ?_;unfold Uw cJ;simp only[List.drop_zero,As,AU,Cr,Nat.sub_zero];congr 1;have E:=ANw w.An.flatten [];rw[List.length_nil,As]at E;rw[HT,Dq];simp only[AE,beq_iff_eq,decide_eq_true_iff,Je];have Y:((w.An.flatten.foldl NP []).length:Int)=(w.An.flatten.length:Int)↔w.An.flatten.Pairwise fun a b=>a.Id≠b.Id:=by
    rw[Int.ofNat_inj,E.2];simp
   rw[Y];constructor
   .rintro⟨y,O,a3⟩;have c:∀i (h:i<w.An.length) k (c:k<w.An[i].length),P2 w.An[i][k]=true/\w.An[i][k].At.tmod 9=(i:Int)/\(if 0<k then I3 w.An[i] (k-1) (fun d=>!(ltP w.An[i][k] d)) else true)=true:=by
     intro i h k c;have:=y i h;rw[CP h,Je]at this;have:=this k c;unfold UH at this;rw[CP c,AE,AE,beq_iff_eq]at this;exact this
    refine⟨B,by omega,?_,a3,fun i h k e=>(c i h k e).2.1,?_⟩
    .intro p q;obtain⟨s,hs,q⟩:=EU.1 q;obtain⟨i,hi,rfl⟩:=Fy hs;obtain⟨k,e,rfl⟩:=Fy q;exact(c i hi k e).1
    .intro i h k e;have:=(c i h (k+1) e).2.2;rw[AW (by omega),Co,CP (by omega),BF,jf]at this;have G:=(List.pairwise_flatten.1 a3).1 _ (Ao h);rw[CV]at G;have:=G k (k+1) (by omega) e (by omega);rw[Pv];omega
   .rintro⟨y,O,a3,a4,Q,S⟩;refine⟨?_,by omega,a4⟩;intro i h;rw[CP h,Je];intro k c;unfold UH;rw[CP c,AE,AE,beq_iff_eq];refine⟨a3 _ (EU.2 ⟨_,Ao h,Ao c⟩),Q i h k c,?_⟩;split
    .obtain⟨k,rfl⟩:∃j,k=j+1:=⟨k-1,by omega⟩;rw[Co,CP (by omega),BF];exact Ei.qD _ _ (S i h k c)
    .rfl
  .rintro L k ⟨m,n⟩ H c J;dsimp only at H J ⊢;unfold cK;dsimp only;rcases Ab k w.An.length with h|h
   .have hf:=V5 h;rw[B6 h,BL,BG h,AB,AGf (by omega) (by omega) (by omega),o8 _ h,CP h];have ef:(w.An.take (k+1)).flatten=(w.An.take k).flatten++w.An[k]:=by rw[List.take_add_one,List.getElem?_eq_getElem h,List.flatten_append];simp
    have:=J (w.An[k].foldl NP m,n+w.An[k].length) (by dsimp only;rw[ef,AP,H]) h;dsimp only at this;rw[this,DR h,List.flatten_cons,List.foldl_append,AP,Nat.add_assoc];generalize H7 _ (k+1) _=X;generalize Uw _=Z;cases H7 (UH w.An[k] k) 0 w.An[k].length<;>rfl
   .obtain rfl:k=w.An.length:=by omega
    rw[C5,BO,AU,Dk,ES];rfl
 .have g:((w.An.length:Int)==9)=false:=by rw[beq_eq_false_iff_ne];omega
  rw[g,BO];congr 1;have:¬(Ht w=true):=by rw[Dq];exact fun h=>B h.nine
  rw[Bool.not_eq_true]at this;exact this.symm
def FL(w:Av):List A7:=if Ht w=true then DK ltP w.An.flatten else []
theorem Zr{w:Av}(a:DP w):xF w=some (FL w):=by
 have hlim:lim=268435456:=rfl;have c:=a.2;unfold xF FL;rw[KA a,AB,BK,lB a,AB,CJ];split
 .rw[RC (l:=w.An.flatten) (fun v p=>put ltP p v) (fun i v=>v.length<=i) some (by omega) ?_ ?_ ?_ (by simp),<-YN Ei aS]
  .grind[bn,BL,BG,AB,UG]
  .intro i h v e;rw[FR];omega
  grind[bn,xG,BO,AU]
 .rfl
theorem ZW{w:Av}(c:DP w):xP w=some (FL w):=by
 have hlim:lim=268435456:=rfl;have g:=c.1;have j:=c.2;unfold xP FL;rw[Jy c,AB,BK,CJ];split
 .rename_i a;have a:=Dq.1 a;refine(DA (n:=w.An.length) (fun i (v:List A7)=>(v,(i:Int))) (fun i v=>v=(w.An.take i).flatten) (fun i v=>some (DK ltP w.An.flatten)) (by omega) ?_ (by simp));intro L i v e hi q;unfold xR xQ;dsimp only;rcases Ab i w.An.length with h|h
  .have:=V5 h
   grind[BL,BG,AB,B4,Bp,List.take_add_one]
  .obtain rfl:i=w.An.length:=by omega
   have:=a.few;rw[C5,BO,AU,e,List.take_length,AZz (by omega),AB]
 .rfl
def EC(c:AX):Prop:=c.Row.length<=1048576/\DP c.Bq
structure By(h:AF):Prop where
 Dr:h.AQ.AZ.length<=1048576
 CN:h.AG.length<=1048576
 EN:h.AH.length<=1048576
 Dw:∀c∈h.AH,EC c
 todo:h.BE.length<=1048576
 F5:h.BC.length<=1048576
def Qg(c:AX):Bool:=FE c.AZ&&(J5 c.Row&&Ht c.Bq)
theorem uc{c:AX}(a:EC c):AHC c=some (Qg c):=by
 have:=a.1;unfold AHC Up Qg;simp only[TH,uo c.Row (by omega),KA a.2,AB,AU,Cr]
theorem sj{c:AX}(a:EC c):AHM c=some (Qg c):=by
 have:=a.1;unfold AHM Ux Qg;simp only[Gq,WG c.Row (by omega),Jy a.2,AB,AU,Cr]
theorem Kr{w:Av}(a:DP w):(FL w).length<=1048576:=by
 unfold FL;split
 .rw[IV];exact a.2
 .simp
def Jk(r:Ae)(c:AX)(l:List AM)(k now:Int):Bool:=
 Qg c&&(IN eqE c.Row (Dp r l k now)&&(IN eqP (FL c.Bq) (Fo l k)&&((c.AZ.EZ==II l k)&&(c.AZ.Fa==Ik l k))))
theorem ACl{r:Ae}(g:r.AZ.length<2 ^ 62){c:AX}(a:EC c){l:List AM}(e:l.length<=1048576)(k now:Int):AHH r c l k now=some (Jk r c l k now):=by
 have h:=a.1;have j:=Kr a.2;unfold AHH OO Jk;simp only[uc a,QC g e,uu (show c.Row.length<2 ^ 62 by omega),Zr a.2,Zq e,mA (show (FL c.Bq).length<2 ^ 62 by omega),Zp (show l.length<2 ^ 58 by omega),Zs (show l.length<2 ^ 58 by omega),AB,AU,Cr]
theorem ABY{r:Ae}(h:r.AZ.length<2 ^ 62){c:AX}(a:EC c){l:List AM}(g:l.length<=1048576){k:Int}(e:DG l k<=19)(now:Int):AHX r c l k now=some (Jk r c l k now):=by
 have j:=a.1;have q:=Kr a.2;unfold AHX OR Jk;simp only[sj a,Pp h g e,ABb (show c.Row.length<2 ^ 62 by omega),ZW a.2,ZV g e,ABd (show (FL c.Bq).length<2 ^ 62 by omega),ZU (show l.length<2 ^ 58 by omega),ZY (show l.length<2 ^ 58 by omega),AB,AU,Cr]
def Hr(q p:AM):Bool:=(q.Ay==p.Ay)||((decide (q.Ay<p.Ay)&&decide (p.Since<q.Since))||(decide (p.Ay<q.Ay)&&decide (q.Since<p.Since)))
def Ze(h:AF)(i:Nat):Bool:=
 I3 h.AG i fun p=>Dn h.AQ p h.Now&&(!(decide (p.Ay>=h.Ay))&&((if 0<i then I3 h.AG (i-1) (fun q=>!(decide (q.Id>=p.Id))) else true)&&H7 (fun k=>I3 h.AG k fun q=>!(Hr q p)) 0 i))
def J3(h:AF):Bool:=H7 (Ze h) 0 h.AG.length
theorem Z9{h:AF}(e:By h):AG9 h=some (J3 h):=by
 have y:=e.Dr;have B:=e.CN;unfold AG9 J3;rw[JI (n:=h.AG.length) (E:=some true) (Ze h) (by omega) ?_ ?_,Cr,Ck]
 .intro L i hi;unfold Ze;rw[CP hi];have j:∀b,OM h L i h.AG[i] b=br (!b&&H7 (fun k=>I3 h.AG k fun q=>!(Hr q h.AG[i])) 0 i) (L ((i+1:Nat):Int)) (some false):=by
   intro b;unfold OM;rw[JI (n:=i) (E:=L ((i+1:Nat):Int)) (fun k=>I3 h.AG k fun q=>!(Hr q h.AG[i])) (by omega) ?_ ?_]
   .cases b<;>rfl
   .intro L' k g;have a:k<h.AG.length:=by omega
    have c:∀b,K9 L' k b=br (!b) (L' ((k+1:Nat):Int)) (some false):=by intro b;unfold K9;rw[Bp g (by omega)];cases b<;>rfl
    rw[CP a];unfold bO Hr;rw[B6 g,BL,BG a,AB];simp only[AU,c,gt_iff_lt];cases h.AG[k].Ay==h.AG[i].Ay<;>cases decide (h.AG[k].Ay<h.AG[i].Ay)<;>cases decide (h.AG[i].Since<h.AG[k].Since)<;>cases decide (h.AG[i].Ay<h.AG[k].Ay)<;>cases decide (h.AG[k].Since<h.AG[i].Since)<;>rfl
   .intro L';unfold bO wV;rw[C5,BO,AU,Bp hi (by omega)]
  unfold bN
  grind[BL,BG,AB,MP,BK,AU,I3,JB,Dn,decide_eq_false]
 grind[bN,wW,BO,AU]
theorem UF{l:List Int}(c:l.length<2 ^ 62)(x:Int):mX l x=some (l.any (fun y=>y==x)):=by
 unfold mX;refine(DA (n:=l.length) (fun i (_:Unit)=>(i:Int)) (fun _ _=>True) (fun i _=>some ((l.drop i).any (fun y=>y==x))) (by omega) ?_ (v:=()) trivial);intro L i _ _ hi a;unfold wg wa;rcases Ab i l.length with h|h
 .rw[B6 h,BL,BG h,AB,Bp h (by omega),DR h,List.any_cons];cases l[i]==x with|true=>rfl|false=>rw[BO,a () trivial h];rfl
 grind[BO,AU]
theorem Nx{l:List Int}(a:l.length<2 ^ 62)(x:Int):my l x=some (l.any (fun y=>y==x)):=by
 unfold my AOT;rw[PR (l:=l) (p:=fun y=>x==y) (by omega) ?_ ?_,AB]
 .congr 1;rw[HT,decide_eq_true_iff,List.any_eq_true];have:=av (p:=fun y=>x==y) (l:=l) (s:=0)
  grind
 .grind[cm,BL,BG,AB]
 grind[cm,xl,BO,AU]
def Ry(t:List Int)(n:Int)(i:Nat):Bool:=I3 t i fun k=>inB k 0 (w64 (n-1))&&!((t.take i).any fun y=>y==k)
def IQ(t:List Int)(n:Int):Bool:=H7 (Ry t n) 0 t.length
def L7(t:List Int)(n:Int):Bool:=t.all fun x=>inB x (-1) (w64 (n-1))
theorem ux{h:AF}(a:By h):AHA h=some (IQ h.BE h.AH.length&&(L7 h.BC h.AH.length&&((h.BC.length:Int)==h.AQ.C3))):=by
 have e:=a.todo;have g:=a.F5;have c:Ui h ()=some (L7 h.BC h.AH.length&&((h.BC.length:Int)==h.AQ.C3)):=by
  unfold Ui L7;rw[mL (l:=h.BC) (fun x=>inB x (-1) (w64 ((h.AH.length:Int)-1))) (E:=some ((h.BC.length:Int)==h.AQ.C3)) (by omega) ?_ ?_,Cr]
  .intro L i hi;unfold bR;rw[B6 hi,BL,BG hi,AB,GL,AB,BK]
  .intro L;unfold bR wu;rw[C5,BO,AU]
 unfold AHA IQ;rw[JI (n:=h.BE.length) (E:=Ui h ()) (Ry h.BE h.AH.length) (by omega) ?_ ?_,c,Cr]
 .intro L i hi;unfold Ry;rw[CP hi];unfold bQ bP
  grind[BL,BG,AB,GL,BK,B4,UF,AU,Bp,inB]
 grind[bQ,BO,AU]
def Y1(h:AF)(i:Nat):Bool:=
 I3 h.AH i fun c=>I3 h.AQ.AZ i (fun s=>c.AZ.Total==s)&&(Jk h.AQ c h.AG i h.Now&&!(decide (DG h.AG i>h.AQ.Room)))
def ME(h:AF):Bool:=H7 (Y1 h) 0 h.AH.length
def D6(h:AF):Bool:=
 EO h.AQ&&(inB h.Now 0 1000000&&(inB h.Ay 1 1000001&&(!(decide ((h.AG.length:Int)>40))&&(((h.AH.length:Int)==(h.AQ.AZ.length:Int))&&(J3 h&&((IQ h.BE h.AH.length&&(L7 h.BC h.AH.length&&((h.BC.length:Int)==h.AQ.C3)))&&ME h))))))
theorem IW{h:AF}(a:By h):Ud h=some (D6 h):=by
 have G:=a.Dr;have q:=a.CN;have H:=a.EN;have B:K8 h true=some false:=rfl;unfold Ud D6;by_cases y:h.AH.length=h.AQ.AZ.length
 .have g:∀b,Ue h b=some (!b&&ME h):=by
   intro b;unfold Ue ME;rw[JI (n:=h.AH.length) (E:=some true) (Y1 h) (by omega) ?_ ?_,Cr,Ck,G8]
   .intro L i hi;have j:∀b,Qk L i b=br (!b) (L ((i+1:Nat):Int)) (some false):=by intro b;unfold Qk;rw[Bp hi (by omega)];cases b<;>rfl
    unfold Y1;rw[CP hi,CP (show i<h.AQ.AZ.length by omega)];unfold bJ;rw[B6 hi,BL,BG hi,AB,BG (show i<h.AQ.AZ.length by omega),AB,AB,ACl (by omega) (a.Dw _ (Ao hi)) q,AB,BK,P9 (by omega),AB];simp only[AU,j,bne];cases h.AH[i].AZ.Total==h.AQ.AZ[i]<;>cases Jk h.AQ h.AH[i] h.AG i h.Now<;>cases decide (DG h.AG i>h.AQ.Room)<;>rfl
   .intro L;unfold bJ wP;rw[C5,BO,AU]
  have c:∀b,K8 h b=some (!b&&(J3 h&&((IQ h.BE h.AH.length&&(L7 h.BC h.AH.length&&((h.BC.length:Int)==h.AQ.C3)))&&ME h))):=by
   intro b;unfold K8;simp only[Z9 a,ux a,AB,BK,AU,g,CK,Bj,DQ,Cr,G8]
  simp only[J9 (show h.AQ.AZ.length<2 ^ 62 by omega),GL,AB,BK,AU,c,CK,Bj,Cr,G8,bne,DQ]
 .have e:((h.AH.length:Int)==(h.AQ.AZ.length:Int))=false:=by rw[beq_eq_false_iff_ne];omega
  simp only[J9 (show h.AQ.AZ.length<2 ^ 62 by omega),GL,AB,BK,AU,bne,e,Ho,B,AGp,Bj,C7]
theorem GZ{h:AF}(g:By h):Sr h=some (D6 h):=by
 have h1:=g.Dr;have h2:=g.CN;have h3:=g.EN;have h4:=g.todo;have h5:=g.F5;have ht:LB h true=some false:=rfl;unfold Sr D6;by_cases Y:EO h.AQ=false
 .rw[Ha (by omega),AB,Y,BK,BO,AU,ht];rfl
 rw[Bool.not_eq_false]at Y;have hrm:=(CR Y).2.2.1;by_cases c:h.AH.length≠h.AQ.AZ.length
 .have e:((h.AH.length:Int)==(h.AQ.AZ.length:Int))=false:=by rw[beq_eq_false_iff_ne];omega
  simp only[Ha (show h.AQ.AZ.length<2 ^ 62 by omega),E9,AB,BK,AU,bne,e,Ho,ht,BL,AGp,Bj,C7]
 have c:=Classical.not_not.1 c;have H:SF h ()=some (L7 h.BC h.AH.length):=by
  unfold SF L7;rw[mL (l:=h.BC) (fun x=>inB x (-1) (w64 ((h.AH.length:Int)-1))) (E:=some true) (by omega) ?_ ?_,Cr,Ck]
  .intro L i hi;unfold XO;rw[B6 hi,BL,BG hi,AB,E9,AB,BK,c]
  .intro L;unfold XO mz;rw[C5,BO,AU]
 have G:SE h ()=some (IQ h.BE h.AH.length&&L7 h.BC h.AH.length):=by
  unfold SE IQ;rw[JI (n:=h.BE.length) (E:=SF h ()) (Ry h.BE h.AH.length) (by omega) ?_ ?_,H,Cr]
  .intro L i hi;unfold Ry;rw[CP hi];unfold XN XM;rw[B6 hi,BL,BG hi,AB,WL,AB,BK,B4 (by omega),Aa,Nx (by rw[Bb];omega),AB,AU,AU,Bp hi (by omega),BL,c];cases inB h.BE[i] 0 (w64 ((h.AQ.AZ.length:Int)-1))<;>cases (h.BE.take i).any (fun y=>y==h.BE[i])<;>rfl
  .intro L;unfold XN;rw[C5,BO,AU]
 have e7:U6 h ()=some (ME h&&(IQ h.BE h.AH.length&&L7 h.BC h.AH.length)):=by
  unfold U6 ME;rw[JI (n:=h.AH.length) (E:=SE h ()) (Y1 h) (by omega) ?_ ?_,G,Cr]
  .intro L i hi;have B:∀b,Qt L i b=br (!b) (L ((i+1:Nat):Int)) (some false):=by intro b;unfold Qt;rw[Bp hi (by omega)];cases b<;>rfl
   unfold Y1;rw[CP hi,CP (show i<h.AQ.AZ.length by omega)];unfold cw;rw[B6 hi,BL,BG hi,AB,BG (show i<h.AQ.AZ.length by omega),AB,Pn (by omega),AB];by_cases Z:DG h.AG i>h.AQ.Room
   .rw[decide_eq_true Z];simp only[AU,B,bne,BL];cases h.AH[i].AZ.Total==h.AQ.AZ[i]<;>cases Jk h.AQ h.AH[i] h.AG i h.Now<;>rfl
   .rw[decide_eq_false Z,ABY (by omega) (g.Dw _ (Ao hi)) h2 (by omega),AB];simp only[AU,B,bne,BO];cases h.AH[i].AZ.Total==h.AQ.AZ[i]<;>cases Jk h.AQ h.AH[i] h.AG i h.Now<;>rfl
  .intro L;unfold cw;rw[C5,BO,AU]
 have J:∀b,LB h b=some (!b&&(!(decide ((h.AG.length:Int)>40))&&(J3 h&&(ME h&&(IQ h.BE h.AH.length&&L7 h.BC h.AH.length))))):=by
  intro b;unfold LB J3;rw[JI (n:=h.AG.length) (E:=U6 h ()) (Ze h) (by omega) ?_ ?_,e7,Cr,G8,G8]
  .intro L i hi;unfold Ze;rw[CP hi];have O:∀b,OS h L i h.AG[i] b=br (!b&&H7 (fun k=>I3 h.AG k fun q=>!(Hr q h.AG[i])) 0 i) (L ((i+1:Nat):Int)) (some false):=by
    intro b;unfold OS;rw[B4 (by omega),JI (n:=i) (E:=L ((i+1:Nat):Int)) (fun k=>I3 h.AG k fun q=>!(Hr q h.AG[i])) (by omega) ?_ ?_]
    .cases b<;>rfl
    .intro L' k hk;have S:k<h.AG.length:=by omega
     have Q:∀b,LC L' k b=br (!b) (L' ((k+1:Nat):Int)) (some false):=by intro b;unfold LC;rw[Bp hk (by omega)];cases b<;>rfl
     have a:(h.AG.take i).length=i:=by rw[Bb];omega
     have I:at? (h.AG.take i) (k:Int)=some h.AG[k]:=by rw[BG (by omega)];simp
     rw[CP S];unfold cr Hr;rw[Aa,a,B6 hk,BL,I,AB];have eb:(h.AG[i].Ay==h.AG[k].Ay)=(h.AG[k].Ay==h.AG[i].Ay):=BEq.comm;simp only[AU,Q,gt_iff_lt,eb];cases h.AG[k].Ay==h.AG[i].Ay<;>cases decide (h.AG[k].Ay<h.AG[i].Ay)<;>cases decide (h.AG[i].Since<h.AG[k].Since)<;>cases decide (h.AG[i].Ay<h.AG[k].Ay)<;>cases decide (h.AG[k].Since<h.AG[i].Since)<;>rfl
    .intro L';have a:(h.AG.take i).length=i:=by rw[Bb];omega
     unfold cr xm;rw[Aa,a,C5,BO,AU,Bp hi (by omega)]
   unfold cq;rw[B6 hi,BL,BG hi,AB,MI (by omega),AB,BK,aH];simp only[AU,O];generalize H7 (fun k=>I3 h.AG k fun q=>!(Hr q h.AG[i])) 0 i=X;by_cases j:0<i
   .rw[decide_eq_true j,BL,AW j,JB i j (by omega),BG (show i-1<h.AG.length by omega),AB,CP (show i-1<h.AG.length by omega)];cases Dn h.AQ h.AG[i] h.Now<;>cases decide (h.AG[i].Ay>=h.Ay)<;>cases decide (h.AG[i-1].Id>=h.AG[i].Id)<;>rfl
   .rw[decide_eq_false j,BO,AT j];cases Dn h.AQ h.AG[i] h.Now<;>cases decide (h.AG[i].Ay>=h.Ay)<;>rfl
  .intro L;unfold cq;rw[C5,BO,AU]
 have e:((h.AH.length:Int)==(h.AQ.AZ.length:Int))=true:=by rw[beq_iff_eq];omega
 simp only[Ha (show h.AQ.AZ.length<2 ^ 62 by omega),E9,AB,BK,AU,J,CK,Bj,Cr,G8,bne,DQ,e,BL,Ho,Bool.true_and];congr 1;ac_rfl
def QX(n:Int):Bool:=inB n 0 9999
theorem AVP(n:Int):QM n=some (QX n):=by unfold QM QX;rw[GL,AB]
theorem AS6(n:Int):QN n=some (QX n):=by unfold QN QX;rw[E9,AB]
def KE(q:Bo):Bool:=
 if q.Kind=1 then QX q.Id&&(QX q.AY&&(inB q.Bk (-1) 9999&&(QX q.BB&&QX q.Cv)))
 else if q.Kind=2\/q.Kind=4\/q.Kind=5\/q.Kind=7 then QX q.Id&&(q.AY==0&&(q.Bk==0&&(q.BB==0&&q.Cv==0)))
 else if q.Kind=3 then QX q.AY&&(QX q.BB&&(q.Id==0&&(q.Bk==0&&q.Cv==0)))
 else if q.Kind=6 then q.Id==0&&(q.AY==0&&(q.Bk==0&&(q.BB==0&&q.Cv==0)))
 else false
theorem ky(q:Bo):Ug q=some (KE q):=by
 obtain⟨k,a,b,c,d,e⟩:=q;unfold Ug GW OK GW KE;simp only[AU,AVP,AB,GL,Cr,CJ,beq_iff_eq]
 grind
theorem jQ(q:Bo):U8 q=some (KE q):=by
 obtain⟨k,a,b,c,d,e⟩:=q;unfold U8 GX OU GX KE;simp only[AU,AS6,AB,E9,Cr,CJ,beq_iff_eq]
 grind
structure Cw(e:BD):Prop where
 FY:By e.Az
 log:e.Bl.Log.Data.length<=1048576
 even:e.Bl.EJ.Data.length<=1048576
 odd:e.Bl.Odd.Data.length<=1048576
 laid:e.Laid.length<=1048576
def FO(e:BD):Bool:=D6 e.Az&&(NI e.Bl&&(!(decide ((e.Laid.length:Int)>8))&&(inB e.Seq e.Laid.length 1000000&&e.Laid.all KE)))
theorem I8{e:BD}(a:Cw e):Y5 e=some (FO e):=by
 have g:=a.laid;have c:∀b,OL e b=some (!b&&e.Laid.all KE):=by
  intro b;unfold OL;rw[mL (l:=e.Laid) KE (E:=some true) (by omega) ?_ ?_,Cr,Ck,G8]
  .intro L i h;unfold bL;rw[B6 h,BL,BG h,AB,ky,AB,BK]
  .grind[bL,wS,BO,AU]
 unfold Y5 FO;simp only[IW a.FY,QD,GL,AB,BK,AU,c,CK,Bj,Cr,G8,DQ]
theorem I4{e:BD}(a:Cw e):ZA e=some (FO e):=by
 have g:=a.laid;have c:∀b,OV e b=some (!b&&e.Laid.all KE):=by
  intro b;unfold OV;rw[mL (l:=e.Laid) KE (E:=some true) (by omega) ?_ ?_,Cr,Ck,G8]
  .intro L i h;unfold cz;rw[B6 h,BL,BG h,AB,jQ,AB,BK]
  .grind[cz,xp,BO,AU]
 unfold ZA FO;simp only[GZ a.FY,WH,E9,AB,BK,AU,c,CK,Bj,Cr,G8,DQ]
theorem ZO{n:Nat}{F:(Int->AA Bool)->Int->AA Bool}(a:n<2 ^ 63)(step:∀L (i:Nat),i<n->F L (i:Int)=L (w64 ((i:Int)+1)))(stop:∀L,F L (n:Int)=some true) :
 br ((n:Int) != (n:Int)) (some false) (A3 F big 0)=some true:=by
 rw[CJ,AT (by simp)];exact AVz a (fun L i h=>by rw[step L i h,Bp h a]) stop
theorem ne_self(a:Int):(a != a)=false:=by simp
def Sz(x:AA Int)(d:Int)(P:Prop):Prop:=∃r,x=some r/\(r<0\/0<=r/\r<=d/\P)
theorem AZ2{n:Nat}(e:n<9223372036854775808){d:Int}(a:0<=d)(c:d<=1048576) :
 br (decide (w64 (d-(n:Int))<0)) (some (-1)) (some (w64 (d-(n:Int))))=some (if d-n<0 then -1 else d-n):=by
 grind[Aq,BH]
theorem Yt{n:Nat}(e:n<9223372036854775808){d:Int}(a:0<=d)(c:d<=1048576) :
 ∃r,br (decide (w64 (d-(n:Int))<0)) (some (-1)) (some (w64 (d-(n:Int))))=some r/\(r<0\/0<=r/\r+n=d):=by
 grind[AZ2]
theorem AK7(x:AM):AHZ x x=some true:=by
 unfold AHZ;simp only[ne_self,BO]
theorem ADY(x:BJ):AHb x x=some true:=by
 unfold AHb;simp only[ne_self,BO]
theorem AK6(x:Ad):AHc x x=some true:=by
 unfold AHc;simp only[ne_self,BO]
theorem AWo(x:A7):AHe x x=some true:=by
 unfold AHe;simp only[ne_self,BO]
theorem AJi(x:Bo):cQ x x=some true:=by
 unfold cQ;simp only[ne_self,BO]
theorem APA(x:B3):mu x x=some true:=by
 grind[mu,CJ]
theorem RA{l:List Int}(a:l.length<9223372036854775808):ZB l l=some true:=by
 grind[ZB,ZO,xt,BL,BG,AB,BO,xq,AU]
theorem ADZ{l:List AM}(a:l.length<9223372036854775808):AHa l l=some true:=by
 unfold AHa
 grind[ZO,xv,BL,BG,AB,AK7,xu,BO,AU]
theorem ADX{l:List Ad}(a:l.length<9223372036854775808):AHd l l=some true:=by
 unfold AHd
 grind[ZO,xx,BL,BG,AB,AK6,xw,BO,AU]
theorem APB{l:List A7}(a:l.length<9223372036854775808):AHf l l=some true:=by
 unfold AHf
 grind[ZO,xz,BL,BG,AB,AWo,xy,BO,AU]
theorem ABG{l:List Bo}(a:l.length<9223372036854775808):xa l l=some true:=by
 unfold xa
 grind[ZO,xc,BL,BG,AB,AJi,xb,BO,AU]
theorem AK8{l:List (List A7)}(a:l.length<9223372036854775808)(c:∀x∈l,x.length<9223372036854775808):AHg l l=some true:=by
 unfold AHg
 grind[ZO,yB,BL,BG,AB,APB,List.getElem_mem,yA,BO,AU]
theorem AK9(s:Br):AHT s s=some true:=by
 unfold AHT;simp only[APA,AB,BK,BL]
theorem Rz{l:List Int}(a:l.length<=1048576):AA6 l=some l:=by
 unfold AA6;rw[B4 (by unfold lim;omega),Aa];refine K7 (by omega) ?_ ?_
 .grind[qT,BL,BG,AB,Bp]
 grind[qT,AJV,BO,AU]
theorem AGb{l:List AM}(a:l.length<=1048576):AWY l=some l:=by
 unfold AWY;rw[B4 (by unfold lim;omega),Aa];refine K7 (by omega) ?_ ?_
 .grind[qU,BL,BG,AB,AZA,Bp]
 grind[qU,AJW,BO,AU]
theorem AGa{l:List Ad}(a:l.length<=1048576):AWZ l=some l:=by
 unfold AWZ;rw[B4 (by unfold lim;omega),Aa];refine K7 (by omega) ?_ ?_
 .grind[qV,BL,BG,AB,AZC,Bp]
 grind[qV,AJX,BO,AU]
theorem AVm{l:List A7}(a:l.length<=1048576):AWa l=some l:=by
 unfold AWa;rw[B4 (by unfold lim;omega),Aa];refine K7 (by omega) ?_ ?_
 .grind[qW,BL,BG,AB,AZD,Bp]
 grind[qW,AJY,BO,AU]
theorem AC1{l:List Bo}(a:l.length<=1048576):AOL l=some l:=by
 unfold AOL;rw[B4 (by unfold lim;omega),Aa];refine K7 (by omega) ?_ ?_
 .grind[qR,BL,BG,AB,AOK,Bp]
 grind[qR,AG7,BO,AU]
theorem ANj{l:List (List A7)}(a:l.length<=1048576)(c:∀x∈l,x.length<=1048576):AWb l=some l:=by
 unfold AWb;rw[B4 (by unfold lim;omega),Aa];refine K7 (by omega) ?_ ?_
 .grind[qX,BL,BG,AB,AVm,Bp]
 grind[qX,AJZ,BO,AU]
theorem ABt{l:List (List A7)}{x:List A7}(h:x∈l):x.length<=l.flatten.length:=by
 grind[List.getElem_of_mem,IY]
theorem ANn{w:Av}(a:DP w):AWc w=some w:=by
 unfold AWc;rw[ANj a.1 fun x c=>Nat.le_trans (ABt c) a.2,AB]
theorem ANh{c:AX}(a:EC c):AWd c=some c:=by
 unfold AWd;rw[show AZB c.AZ=some c.AZ from rfl,AB,AGa a.1,AB,ANn a.2,AB]
theorem AGY{l:List AX}(a:l.length<=1048576)(c:∀x∈l,EC x):AWN l=some l:=by
 unfold AWN;rw[B4 (by unfold lim;omega),Aa];refine K7 (by omega) ?_ ?_
 .grind[qQ,BL,BG,AB,ANh,List.getElem_mem,Bp]
 grind[qQ,AG6,BO,AU]
theorem ANl{r:Ae}(a:r.AZ.length<=1048576):AWX r=some r:=by
 unfold AWX;rw[Rz a,AB]
theorem ANi{h:AF}(a:By h):AWO h=some h:=by
 unfold AWO;rw[ANl a.Dr,AB,AGb a.CN,AB,AGY a.EN a.Dw,AB,Rz a.todo,AB,Rz a.F5,AB]
theorem ANm(s:Br):AWP s=some s:=by
 unfold AWP AOJ;simp only[AB]
theorem AGZ{e:BD}(a:Cw e):AWQ e=some e:=by
 unfold AWQ;rw[ANi a.FY,AB,ANm,AB,AC1 a.laid,AB]
theorem Rv{l:List Int}(e:l.length<9223372036854775808){d:Int}(a:0<=d)(c:d<=1048576):∃r,ADQ l d=some r/\(r<0\/0<=r/\r+l.length=d):=Yt e a c
theorem AGU{l:List AM}(e:l.length<9223372036854775808){d:Int}(a:0<=d)(c:d<=1048576):∃r,AY5 l d=some r/\(r<0\/0<=r/\r+l.length=d):=Yt e a c
theorem AGT{l:List Ad}(e:l.length<9223372036854775808){d:Int}(a:0<=d)(c:d<=1048576):∃r,AY6 l d=some r/\(r<0\/0<=r/\r+l.length=d):=Yt e a c
theorem AVU{l:List A7}(e:l.length<9223372036854775808){d:Int}(a:0<=d)(c:d<=1048576):∃r,AY7 l d=some r/\(r<0\/0<=r/\r+l.length=d):=Yt e a c
theorem ACu{l:List Bo}(e:l.length<9223372036854775808){d:Int}(a:0<=d)(c:d<=1048576):∃r,AWV l d=some r/\(r<0\/0<=r/\r+l.length=d):=Yt e a c
theorem lF{a:B3}(g:a.Data.length<9223372036854775808){d:Int}(c:0<=d)(e:d<=1048576):∃r,AOz a d=some r/\(r<0\/0<=r/\r+a.Data.length=d):=Yt g c e
theorem ANe{l:List (List A7)}(c:okL (okL jy) l){d:Int}(g:0<=d)(j:d<=1048576):∃r,AWR l d=some r/\(r<0\/0<=r/\r+l.length+l.flatten.length=d):=by
 have y:=c.1;unfold AWR;rw[Aq (n:=d-(l.length:Int)) (by omega) (by omega),BH];split
 .grind
 rename_i q;refine V7 (n:=l.length) (fun i (v:Int)=>(v,(i:Int))) (fun i v=>0<=v/\v+l.length+(l.take i).flatten.length=d) _ (by omega) ?_ (v:=d-l.length) ⟨by omega,by simp⟩;rintro L i v ⟨a,E⟩ hi G;unfold AHz AHy;dsimp only;rcases Ab i l.length with h|h
 .obtain⟨r,e,B⟩:=AVU (c.2 _ (Ao h)).1 a (by omega)
  grind[BG,AB,BH,Bp,List.take_add_one]
 grind[BO,AU]
theorem ANc{c:AX}(a:Re c){d:Int}(g:0<=d)(h:d<=1048576):Sz (AWS c d) d (EC c):=by
 unfold AWS AY8;obtain⟨r,e,j⟩:=AGT a.2.1.1 g h;rw[e,AB,BH];split
 .exact⟨_,rfl,.inl (by omega)⟩
 obtain⟨s,e,q⟩:=ANe a.2.2.1.1 (d:=r) (by omega) (by omega);rw[e,AB,BH];split
 .rw[AB];exact⟨_,rfl,.inl (by omega)⟩
 .rw[AB,BH,AT (by omega)];refine⟨_,rfl,.inr ⟨by omega,by omega,by omega,by omega,by omega⟩⟩
theorem AGS{l:List AX}(g:okL Re l){d:Int}(j:0<=d)(q:d<=1048576):Sz (AWT l d) d (l.length<=1048576/\∀c∈l,EC c):=by
 have E:=g.1;unfold AWT Sz;rw[Aq (n:=d-(l.length:Int)) (by omega) (by omega),BH];split
 .grind
 rename_i y;refine V7 (n:=l.length) (fun i (v:Int)=>(v,(i:Int))) (fun i v=>0<=v/\v<=d-l.length/\∀c∈l.take i,EC c) _ (by omega) ?_ (v:=d-l.length) ⟨by omega,by omega,by simp⟩;rintro L i v ⟨a,H,B⟩ hi I;unfold AIl AIk;dsimp only;rcases Ab i l.length with h|h
 .obtain⟨r,e,G⟩:=ANc (g.2 _ (Ao h)) a (by omega)
  grind[BG,AB,BH,Bp,List.take_add_one]
 grind[BO,AU]
theorem ANd{h:AF}(J:jw h){d:Int}(G:0<=d)(H:d<=1048576):Sz (AWU h d) d (By h):=by
 obtain⟨g,Q,S,q,y,B,E,_⟩:=J;unfold AWU AY4;obtain⟨a,e,X⟩:=Rv g.1.1 G H;rw[e,AB,BH];split
 .rw[AB];exact⟨_,rfl,.inl (by omega)⟩
 rw[AB,BH,AT (by omega)];obtain⟨b,e,Y⟩:=AGU q.1 (d:=a) (by omega) (by omega);rw[e,AB,BH];split
 .exact⟨_,rfl,.inl (by omega)⟩
 obtain⟨c,e,I⟩:=AGS y (d:=b) (by omega) (by omega);rw[e,AB,BH];split
 .exact⟨_,rfl,.inl (by omega)⟩
 obtain⟨k1,k2,L,O⟩:=I.resolve_left (by omega);obtain⟨t,e,ht⟩:=Rv B.1 (d:=c) (by omega) (by omega);rw[e,AB,BH];split
 .exact⟨_,rfl,.inl (by omega)⟩
 obtain⟨j,e,Z⟩:=Rv E.1 (d:=t) (by omega) (by omega);rw[e,AB,BH];split
 .exact⟨_,rfl,.inl (by omega)⟩
 exact⟨_,rfl,.inr ⟨by omega,by omega,by omega,by omega,L,O,by omega,by omega⟩⟩
theorem ACt{e:BD}(B:Yc e):∃r,AWW e 1048576=some r/\(r<0\/0<=r/\r+e.Laid.length<=1048576/\Cw e):=by
 obtain⟨h,g,G,j,_⟩:=B;unfold AWW AY9;obtain⟨a,q,y⟩:=ANd h (d:=1048576) (by omega) (by omega);rw[q,AB,BH];split
 .exact⟨_,rfl,.inl (by omega)⟩
 obtain⟨O,Q,E⟩:=y.resolve_left (by omega);obtain⟨b,q,H⟩:=lF (a:=e.Bl.Log) g.1.1 (d:=a) (by omega) (by omega);rw[q,AB,BH];split
 .rw[AB];exact⟨_,rfl,.inl (by omega)⟩
 obtain⟨c,q,I⟩:=lF (a:=e.Bl.EJ) g.2.1.1 (d:=b) (by omega) (by omega);rw[q,AB,BH];split
 .rw[AB];exact⟨_,rfl,.inl (by omega)⟩
 obtain⟨o,q,J⟩:=lF (a:=e.Bl.Odd) g.2.2.1.1 (d:=c) (by omega) (by omega);rw[q,AB,BH];split
 .rw[AB];exact⟨_,rfl,.inl (by omega)⟩
 rw[AB,BH,AT (by omega)];obtain⟨r,q,L⟩:=ACu j.1 (d:=o) (by omega) (by omega);rw[q,AB,BH];split
 .exact⟨_,rfl,.inl (by omega)⟩
 exact⟨_,rfl,.inr ⟨by omega,by omega,E,by omega,by omega,by omega,by omega⟩⟩
end Lv.P
