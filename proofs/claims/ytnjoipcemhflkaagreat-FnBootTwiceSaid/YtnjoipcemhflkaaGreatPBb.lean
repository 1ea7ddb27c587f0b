/- Plain laws about what the program computes. -/
import Derived.Test.YtnjoipcemhflkaaGreatPAb
noncomputable section
set_option linter.unusedVariables false
set_option linter.unusedSimpArgs false
set_option linter.unusedSectionVars false
open Bool renaming and_eq_true->AF,and_false->DK,and_true->CP,eq_iff_iff->H2,false_and->Bm,not_eq_true'->BF,not_false->IZ,not_not->Df,not_true->Bs
open Int renaming toNat_natCast->Ac
open List renaming drop_length->Ey,foldl_cons->B0,getElem_mem->Ah,getElem_of_mem->GZ,length_append->AK,length_cons->AI,length_take->BL,map_cons->AJ,mem_cons->Ag,mem_flatten->E0,pairwise_iff_getElem->CW
open Nat renaming add_sub_cancel->Cq,lt_or_ge->AZ,sub_self->EB,zero_add->Aq
namespace Lv.P
open Go (IntKind BinOp UnOp)
def RG(p:BY):Bool:=inB p.At 1 1000008&&inB p.Id 1 999
structure Ov(w:Aw):Prop where
 nine:w.Ar.length=9
 few:w.Ar.flatten.length<=10
 pins:∀p∈w.Ar.flatten,RG p=true
 ids:w.Ar.flatten.Pairwise fun a b=>a.Id≠b.Id
 at_:∀i (h:i<w.Ar.length) k (hk:k<w.Ar[i].length),w.Ar[i][k].At.tmod 9=(i:Int)
 srt:∀i (h:i<w.Ar.length) k (hk:k+1<w.Ar[i].length),ltP w.Ar[i][k] w.Ar[i][k+1]=true
def G2(w:Aw):Bool:=@decide (Ov w) (Classical.propDecidable _)
theorem EF{w:Aw}:G2 w=true↔Ov w:=by grind[G2]
def DV(w:Aw):Prop:=w.Ar.length<=1048576/\w.Ar.flatten.length<=1048576
theorem Xc{α:Type}{l:List (List α)}{i:Nat}(h:i<l.length):(l.take i).flatten.length+l[i].length<=l.flatten.length:=by
 grind[Dg,List.take_append_drop]
theorem Lm{l:List (List BY)}{i:Nat}(h:i<l.length):l[i].length<=l.flatten.length:=by have:=Xc h;omega
theorem oN{w:Aw}(a:DV w):AQv w=some w.Ar.flatten:=by
 have hlim:lim=268435456:=rfl;have c:=a.1;have e:=a.2;unfold AQv;refine(C3 (n:=w.Ar.length) (fun i (v:List BY)=>(v,(i:Int))) (fun i v=>v=(w.Ar.take i).flatten) (fun i v=>some w.Ar.flatten) (by omega) ?_ (by simp));intro L i v g hi j;unfold ALb ALa;dsimp only;rcases AZ i w.Ar.length with h|h
 .have:=Xc h
  grind[BP,BG,AB,B8,Bn,List.take_add_one]
 grind[Bb,AV]
def cI(s:List BY)(i:Nat)(k:Nat):Bool:=Jq s k fun p=>(p.At.tmod 9==(i:Int))&&(if 0<k then Jq s (k-1) (fun d=>ltP d p) else true)
def sg(l:List BY)(i:Nat):Bool:=Jq l i fun p=>RG p&&Iu (fun k=>Jq l k fun q=>!(q.Id==p.Id)) 0 i
theorem HK{w:Aw}(H:DV w):pB w=some (G2 w):=by
 have Z:=H.1;have h2:=H.2;have G:dL w ()=some (Iu (fun i=>Jq w.Ar i fun s=>Iu (cI s i) 0 s.length) 0 w.Ar.length):=by
  unfold dL;rw[J1 (n:=w.Ar.length) (E:=some true) (fun i=>Jq w.Ar i fun s=>Iu (cI s i) 0 s.length) (by omega) ?_ ?_,CX,CP]
  .intro L i h;have hs:=Lm h;rw[CO h];unfold ur;rw[B9 h,BP];refine J1 (n:=w.Ar[i].length) (E:=L ((i+1:Nat):Int)) (cI w.Ar[i] i) (by omega) ?_ ?_
   .intro L' k a;have I:=Bn a (show w.Ar[i].length<2 ^ 63 by omega);unfold cI;rw[CO a];unfold uu dM;rw[BG h,AB,B9 a,BP,dQ];simp only[AB,BG a,AV,I,BP,Bb];by_cases c:0<k
    .rw[decide_eq_true c,BP,AW c,Ju k c (by omega),BG (show k-1<w.Ar[i].length by omega),AB,cH,AB,CO (show k-1<w.Ar[i].length by omega),bne];cases w.Ar[i][k].At.tmod 9==(i:Int)<;>cases ltP w.Ar[i][k-1] w.Ar[i][k]<;>rfl
    .rw[decide_eq_false c,Bb,AR c,bne];cases w.Ar[i][k].At.tmod 9==(i:Int)<;>rfl
   .intro L';unfold uu ADA;rw[BG h,AB,Cr,Bb,AV,Bn h (by omega)]
  .intro L;unfold ur ADB;rw[Cr,Bb,AV]
 have e:∀b,dJ w w.Ar.flatten b=some (!b&&(Iu (sg w.Ar.flatten) 0 w.Ar.flatten.length&&Iu (fun i=>Jq w.Ar i fun s=>Iu (cI s i) 0 s.length) 0 w.Ar.length)):=by
  intro b;unfold dJ;rw[J1 (n:=w.Ar.flatten.length) (E:=dL w ()) (sg w.Ar.flatten) (by omega) ?_ ?_,G,CX,Hg]
  .intro L i h;unfold sg;rw[CO h];have B:∀b,dK w.Ar.flatten L i b=br (!b&&Iu (fun k=>Jq w.Ar.flatten k fun q=>!(q.Id==w.Ar.flatten[i].Id)) 0 i) (L ((i+1:Nat):Int)) (some false):=by
    intro b;unfold dK;rw[J1 (n:=i) (E:=L ((i+1:Nat):Int)) (fun k=>Jq w.Ar.flatten k fun q=>!(q.Id==w.Ar.flatten[i].Id)) (by omega) ?_ ?_]
    .cases b<;>rfl
    .intro L' k a;rw[CO (show k<w.Ar.flatten.length by omega)];unfold uq;rw[B9 a,BP];simp only[BG h,BG (show k<w.Ar.flatten.length by omega),AB,Bn a (show i<2 ^ 63 by omega)];cases w.Ar.flatten[k].Id==w.Ar.flatten[i].Id<;>rfl
    .intro L';unfold uq ALd;rw[Cr,Bb,AV,Bn h (by omega)]
   unfold uo RG;rw[B9 h,BP];simp only[BG h,AB,Gk,BK,AV,B];generalize Iu (fun k=>Jq w.Ar.flatten k fun q=>!(q.Id==w.Ar.flatten[i].Id)) 0 i=X;cases inB w.Ar.flatten[i].At 1 1000008<;>cases inB w.Ar.flatten[i].Id 1 999<;>rfl
  .intro L;unfold uo;rw[Cr,Bb,AV]
 unfold pB;rw[oN H,AB,AV,AV,e,e,Bs,Bm,bne,BK,CX];congr 1;rw[H2,EF];simp only[AF,beq_iff_eq,BF,decide_eq_false_iff_not,JY];constructor
 .rintro⟨J,O,a3,a4⟩;refine⟨by omega,by omega,?_,?_,?_,?_⟩
  .intro p Y;obtain⟨k,a,rfl⟩:=GZ Y;have:=a3 k a;unfold sg at this;rw[CO a,AF]at this;exact this.1
  .rw[CW];intro i j hi g y;have:=a3 j g;unfold sg at this;rw[CO g,AF,JY]at this;have:=this.2 i y;rw[CO hi]at this;simpa using this
  .intro i h k a;have:=a4 i h;rw[CO h,JY]at this;have:=this k a;unfold cI at this;rw[CO a,AF,beq_iff_eq]at this;exact this.1
  .intro i h k a;have:=a4 i h;rw[CO h,JY]at this;have:=this (k+1) a;unfold cI at this;rw[CO a,AF,AW (by omega),Cq,CO (by omega)]at this;exact this.2
 .rintro⟨J,O,a3,a4,Q,S⟩;refine⟨by omega,by omega,?_,?_⟩
  .intro k a;unfold sg;rw[CO a,AF,JY];refine⟨a3 _ (Ah _),fun j g=>?_⟩;rw[CO (by omega)];rw[CW]at a4;have:=a4 j k (by omega) a g;simpa using this
  .intro i h;rw[CO h,JY];intro k a;unfold cI;rw[CO a,AF,beq_iff_eq];refine⟨Q i h k a,?_⟩;split
   .rename_i c;obtain⟨k,rfl⟩:∃j,k=j+1:=⟨k-1,by omega⟩;rw[Cq,CO (by omega)];exact S i h k a
   .rfl
def OQ(m:List (Int×Int))(p:BY):List (Int×Int):=Jf m p.Id (w64 (Mh m p.Id+1))
theorem AVF:∀{m:List (Int×Int)} {n v:Int},n∈m.map (·.1)->(Jf m n v).map (·.1)=m.map (·.1)
 | [],n,v,h=>by simp at h|(k,w)::m,n,v,h=>by
  unfold Jf;by_cases e:n=k
  .rw[AW e];rfl
  .rw[AR e];rw[AJ,Ag]at h;rw[AJ,AVF (h.resolve_left e)];rfl
theorem AMm:∀{m:List (Int×Int)} {n v:Int},n∉m.map (·.1)->(Jf m n v).map (·.1)=m.map (·.1)++[n]
 | [],n,v,h=>rfl|(k,w)::m,n,v,h=>by
  unfold Jf;rw[AJ,Ag,not_or]at h;rw[AR h.1,AJ,AMm h.2];rfl
theorem APu:∀(l:List BY) (m:List (Int×Int)),(l.foldl OQ m).length<=m.length+l.length/\((l.foldl OQ m).length=m.length+l.length↔(∀p∈l,p.Id∉m.map (·.1))/\l.Pairwise fun a b=>a.Id≠b.Id)
 | [],m=>by simp|p::l,m=>by
  rw[B0];have c:=APu l (OQ m p);by_cases h:p.Id∈m.map (·.1)
  .have e:(OQ m p).map (·.1)=m.map (·.1):=AVF h;have el:(OQ m p).length=m.length:=by simpa using congrArg List.length e
   rw[el]at c;refine⟨by rw[AI];omega,?_⟩;constructor
   .intro g;rw[AI]at g;omega
   .intro g;exact absurd h (g.1 p List.mem_cons_self)
  .have e:(OQ m p).map (·.1)=m.map (·.1)++[p.Id]:=AMm h;have el:(OQ m p).length=m.length+1:=by simpa using congrArg List.length e
   grind[List.pairwise_cons]
theorem VV(p:BY):pw p=some (RG p):=by
 unfold pw fA RG;simp only[Fb,AB,AV,CX]
def Vo(s:List BY)(i:Nat)(k:Nat):Bool:=Jq s k fun p=>RG p&&((p.At.tmod 9==(i:Int))&&(if 0<k then Jq s (k-1) (fun d=>!(ltP p d)) else true))
theorem s4(p:Nat->Bool){i n:Nat}(h:i<n):Iu p i (n-i)=(p i&&Iu p (i+1) (n-(i+1))):=by rw[show n-i=(n-(i+1))+1 by omega];rfl
theorem AI5{s:List BY}(I:s.length<=1048576){L:List (Int×Int)×Int×Int->AA Bool}{i:Nat}(hi:i<9){m:List (Int×Int)}{n:Nat}(H:n<=2 ^ 50) :
 BD (fD L i s) big (m,(n:Int),0)=br (Iu (Vo s i) 0 s.length) (L (s.foldl OQ m,((n+s.length:Nat):Int),((i+1:Nat):Int))) (some false):=by
 refine(C3 (n:=s.length) (fun k (v:List (Int×Int)×Nat)=>(v.1,(v.2:Int),(k:Int))) (fun k v=>v.2=n+k) (fun k v=>br (Iu (Vo s i) k (s.length-k)) (L ((s.drop k).foldl OQ v.1,((n+s.length:Nat):Int),((i+1:Nat):Int))) (some false)) (by omega) ?_ (v:=(m,n)) rfl);rintro L' k ⟨m,g⟩ j G q;dsimp only at j q ⊢;unfold fD SJ;dsimp only;rcases AZ k s.length with h|h
 .have e:=q (OQ m s[k],g+1) (by dsimp only;omega) h;dsimp only at e;have ew:w64 ((g:Int)+1)=((g+1:Nat):Int):=by rw[A2 (by omega) (by omega)];rfl
  rw[B9 h,BP,BG h,AB,VV,AB,BK,s4 _ h,Dg h,B0,dQ];simp only[AV,BP,Bb,Bn h (show s.length<2 ^ 63 by omega),ew];have ed:Jf m s[k].Id (w64 (Mh m s[k].Id+1))=OQ m s[k]:=rfl;rw[ed,e];unfold Vo;rw[CO h];generalize Iu _ (k+1) (s.length-(k+1))=X;generalize L _=Z;by_cases a:0<k
  .obtain⟨c,y,E,B⟩:=NR s[k-1] s[k];rw[decide_eq_true a,BP,AW a,Ju k a (by omega),BG (show k-1<s.length by omega),AB,y,AB,B,CO (show k-1<s.length by omega),bne];cases RG s[k]<;>cases s[k].At.tmod 9==(i:Int)<;>cases ltP s[k] s[k-1]<;>rfl
  .rw[decide_eq_false a,Bb,AR a,bne];cases RG s[k]<;>cases s[k].At.tmod 9==(i:Int)<;>rfl
 .obtain rfl:k=s.length:=by omega
  unfold AAl;dsimp only;rw[Cr,Bb,AV,Bn (i:=i) (n:=9) hi (by omega),EB,Ey,j];rfl
theorem IC{w:Aw}(I:DV w):Rg w=some (G2 w):=by
 have h1:=I.1;have h2:=I.2;unfold Rg;rw[bne,BK];by_cases B:w.Ar.length=9
 .have g:((w.Ar.length:Int)==9)=true:=by rw[beq_iff_eq];omega
  rw[g,BP];have:=(C3 (F:=fC w) (n:=w.Ar.length) (fun k (v:List (Int×Int)×Nat)=>(v.1,(v.2:Int),(k:Int))) (fun k v=>v.2=(w.Ar.take k).flatten.length) (fun k v=>br (Iu (fun i=>Jq w.Ar i fun s=>Iu (Vo s i) 0 s.length) k (w.Ar.length-k)) (WN ((w.Ar.drop k).flatten.foldl OQ v.1,((v.2+(w.Ar.drop k).flatten.length:Nat):Int))) (some false)) (by omega) ?_ (v:=([],0)) (by simp))
  .refine Eq.trans this ?_;unfold WN fB;simp only[List.drop_zero,Aq,AV,CX,Nat.sub_zero];congr 1;have E:=APu w.Ar.flatten [];rw[List.length_nil,Aq]at E;rw[H2,EF];simp only[AF,beq_iff_eq,decide_eq_true_iff,JY];have Y:((w.Ar.flatten.foldl OQ []).length:Int)=(w.Ar.flatten.length:Int)↔w.Ar.flatten.Pairwise fun a b=>a.Id≠b.Id:=by
    rw[Int.ofNat_inj,E.2];simp
   rw[Y];constructor
   .rintro⟨y,O,a3⟩;have c:∀i (h:i<w.Ar.length) k (c:k<w.Ar[i].length),RG w.Ar[i][k]=true/\w.Ar[i][k].At.tmod 9=(i:Int)/\(if 0<k then Jq w.Ar[i] (k-1) (fun d=>!(ltP w.Ar[i][k] d)) else true)=true:=by
     intro i h k c;have:=y i h;rw[CO h,JY]at this;have:=this k c;unfold Vo at this;rw[CO c,AF,AF,beq_iff_eq]at this;exact this
    refine⟨B,by omega,?_,a3,fun i h k e=>(c i h k e).2.1,?_⟩
    .intro p q;obtain⟨s,hs,q⟩:=E0.1 q;obtain⟨i,hi,rfl⟩:=GZ hs;obtain⟨k,e,rfl⟩:=GZ q;exact(c i hi k e).1
    .intro i h k e;have:=(c i h (k+1) e).2.2;rw[AW (by omega),Cq,CO (by omega),BF,ml]at this;have G:=(List.pairwise_flatten.1 a3).1 _ (Ah h);rw[CW]at G;have:=G k (k+1) (by omega) e (by omega);rw[Q7];omega
   .rintro⟨y,O,a3,a4,Q,S⟩;refine⟨?_,by omega,a4⟩;intro i h;rw[CO h,JY];intro k c;unfold Vo;rw[CO c,AF,AF,beq_iff_eq];refine⟨a3 _ (E0.2 ⟨_,Ah h,Ah c⟩),Q i h k c,?_⟩;split
    .obtain⟨k,rfl⟩:∃j,k=j+1:=⟨k-1,by omega⟩;rw[Cq,CO (by omega),BF];exact FF.uE _ _ (S i h k c)
    .rfl
  .rintro L k ⟨m,n⟩ H c J;dsimp only at H J ⊢;unfold fC;dsimp only;rcases AZ k w.Ar.length with h|h
   .have hf:=Xc h;rw[B9 h,BP,BG h,AB,AI5 (by omega) (by omega) (by omega),s4 _ h,CO h];have ef:(w.Ar.take (k+1)).flatten=(w.Ar.take k).flatten++w.Ar[k]:=by rw[List.take_add_one,List.getElem?_eq_getElem h,List.flatten_append];simp
    have:=J (w.Ar[k].foldl OQ m,n+w.Ar[k].length) (by dsimp only;rw[ef,AK,H]) h;dsimp only at this;rw[this,Dg h,List.flatten_cons,List.foldl_append,AK,Nat.add_assoc];generalize Iu _ (k+1) _=X;generalize WN _=Z;cases Iu (Vo w.Ar[k] k) 0 w.Ar[k].length<;>rfl
   .obtain rfl:k=w.Ar.length:=by omega
    rw[Cr,Bb,AV,EB,Ey];rfl
 .have g:((w.Ar.length:Int)==9)=false:=by rw[beq_eq_false_iff_ne];omega
  rw[g,Bb];congr 1;have:¬(G2 w=true):=by rw[EF];exact fun h=>B h.nine
  rw[Bool.not_eq_true]at this;exact this.symm
def Eu(w:Aw):List BY:=if G2 w=true then DZ ltP w.Ar.flatten else []
theorem MS{w:Aw}(a:DV w):AFT w=some (Eu w):=by
 have hlim:lim=268435456:=rfl;have c:=a.2;unfold AFT Eu;rw[HK a,AB,BK,oN a,AB,Bi];split
 .rw[Sj (l:=w.Ar.flatten) (fun v p=>put ltP p v) (fun i v=>v.length<=i) some (by omega) ?_ ?_ ?_ (by simp),<-Z7 FF dh]
  .grind[vF,BP,BG,AB,Vn]
  .intro i h v e;rw[Ft];omega
  grind[vF,ALh,Bb,AV]
 .rfl
theorem Of{w:Aw}(c:DV w):eU w=some (Eu w):=by
 have hlim:lim=268435456:=rfl;have g:=c.1;have j:=c.2;unfold eU Eu;rw[IC c,AB,BK,Bi];split
 .rename_i a;have a:=EF.1 a;refine(C3 (n:=w.Ar.length) (fun i (v:List BY)=>(v,(i:Int))) (fun i v=>v=(w.Ar.take i).flatten) (fun i v=>some (DZ ltP w.Ar.flatten)) (by omega) ?_ (by simp));intro L i v e hi q;unfold AAe AAd;dsimp only;rcases AZ i w.Ar.length with h|h
  .have:=Xc h
   grind[BP,BG,AB,B8,Bn,List.take_add_one]
  .obtain rfl:i=w.Ar.length:=by omega
   have:=a.few;rw[Cr,Bb,AV,e,List.take_length,AZA (by omega),AB]
 .rfl
def FD(c:Ae):Prop:=c.Row.length<=1048576/\DV c.By
structure Bt(h:AE):Prop where
 De:h.AQ.AY.length<=1048576
 CM:h.AG.length<=1048576
 Ds:h.AH.length<=1048576
 ED:∀c∈h.AH,FD c
 todo:h.BB.length<=1048576
 Fk:h.A9.length<=1048576
def LR(c:Ae):Bool:=Ed c.AY&&(Kw c.Row&&G2 c.By)
theorem NH{c:Ae}(a:FD c):ANO c=some (LR c):=by
 have:=a.1;unfold ANO dN LR;simp only[PL,zJ c.Row (by omega),HK a.2,AB,AV,CX]
theorem Qx{c:Ae}(a:FD c):px c=some (LR c):=by
 have:=a.1;unfold px WO LR;simp only[GO,Xn c.Row (by omega),IC a.2,AB,AV,CX]
theorem IF{w:Aw}(a:DV w):(Eu w).length<=1048576:=by
 unfold Eu;split
 .rw[JN];exact a.2
 .simp
def Jv(r:Aa)(c:Ae)(l:List AU)(k now:Int):Bool:=
 LR c&&(ES eqE c.Row (Dy r l k now)&&(ES eqP (Eu c.By) (GP l k)&&((c.AY.FA==JA l k)&&(c.AY.F8==Ja l k))))
theorem AEo{r:Aa}(g:r.AY.length<2 ^ 62){c:Ae}(a:FD c){l:List AU}(e:l.length<=1048576)(k now:Int):AWE r c l k now=some (Jv r c l k now):=by
 have h:=a.1;have j:=IF a.2;unfold AWE Tr Jv;simp only[NH a,RS g e,RT (show c.Row.length<2 ^ 62 by omega),MS a.2,cE e,PN (show (Eu c.By).length<2 ^ 62 by omega),cD (show l.length<2 ^ 58 by omega),cF (show l.length<2 ^ 58 by omega),AB,AV,CX]
theorem ADf{r:Aa}(h:r.AY.length<2 ^ 62){c:Ae}(a:FD c){l:List AU}(g:l.length<=1048576){k:Int}(e:DS l k<=19)(now:Int):AJm r c l k now=some (Jv r c l k now):=by
 have j:=a.1;have q:=IF a.2;unfold AJm Pe Jv;simp only[Qx a,Q1 h g e,bY (show c.Row.length<2 ^ 62 by omega),Of a.2,bc g e,bZ (show (Eu c.By).length<2 ^ 62 by omega),ba (show l.length<2 ^ 58 by omega),bg (show l.length<2 ^ 58 by omega),AB,AV,CX]
def Ic(q p:AU):Bool:=(q.A0==p.A0)||((decide (q.A0<p.A0)&&decide (p.Since<q.Since))||(decide (p.A0<q.A0)&&decide (q.Since<p.Since)))
def bt(h:AE)(i:Nat):Bool:=
 Jq h.AG i fun p=>Dq h.AQ p h.Now&&(!(decide (p.A0>=h.A0))&&((if 0<i then Jq h.AG (i-1) (fun q=>!(decide (q.Id>=p.Id))) else true)&&Iu (fun k=>Jq h.AG k fun q=>!(Ic q p)) 0 i))
def Ku(h:AE):Bool:=Iu (bt h) 0 h.AG.length
theorem cX{h:AE}(e:Bt h):AWF h=some (Ku h):=by
 have y:=e.De;have B:=e.CM;unfold AWF Ku;rw[J1 (n:=h.AG.length) (E:=some true) (bt h) (by omega) ?_ ?_,CX,CP]
 .intro L i hi;unfold bt;rw[CO hi];have j:∀b,Ty h L i h.AG[i] b=br (!b&&Iu (fun k=>Jq h.AG k fun q=>!(Ic q h.AG[i])) 0 i) (L ((i+1:Nat):Int)) (some false):=by
   intro b;unfold Ty;rw[J1 (n:=i) (E:=L ((i+1:Nat):Int)) (fun k=>Jq h.AG k fun q=>!(Ic q h.AG[i])) (by omega) ?_ ?_]
   .cases b<;>rfl
   .intro L' k g;have a:k<h.AG.length:=by omega
    have c:∀b,OX L' k b=br (!b) (L' ((k+1:Nat):Int)) (some false):=by intro b;unfold OX;rw[Bn g (by omega)];cases b<;>rfl
    rw[CO a];unfold uh Ic;rw[B9 g,BP,BG a,AB];simp only[AV,c,gt_iff_lt];cases h.AG[k].A0==h.AG[i].A0<;>cases decide (h.AG[k].A0<h.AG[i].A0)<;>cases decide (h.AG[i].Since<h.AG[k].Since)<;>cases decide (h.AG[i].A0<h.AG[k].A0)<;>cases decide (h.AG[k].Since<h.AG[i].Since)<;>rfl
   .intro L';unfold uh AJp;rw[Cr,Bb,AV,Bn hi (by omega)]
  unfold ug
  grind[BP,BG,AB,NI,BK,AV,Jq,Ju,Dq,decide_eq_false]
 grind[ug,AJq,Bb,AV]
theorem Vm{l:List Int}(c:l.length<2 ^ 62)(x:Int):ANM l x=some (l.any (fun y=>y==x)):=by
 unfold ANM;refine(C3 (n:=l.length) (fun i (_:Unit)=>(i:Int)) (fun _ _=>True) (fun i _=>some ((l.drop i).any (fun y=>y==x))) (by omega) ?_ (v:=()) trivial);intro L i _ _ hi a;unfold AJ4 AJ3;rcases AZ i l.length with h|h
 .rw[B9 h,BP,BG h,AB,Bn h (by omega),Dg h,List.any_cons];cases l[i]==x with|true=>rfl|false=>rw[Bb,a () trivial h];rfl
 grind[Bb,AV]
theorem O6{l:List Int}(a:l.length<2 ^ 62)(x:Int):qD l x=some (l.any (fun y=>y==x)):=by
 unfold qD AQX;rw[Qb (l:=l) (p:=fun y=>x==y) (by omega) ?_ ?_,AB]
 .congr 1;rw[H2,decide_eq_true_iff,List.any_eq_true];have:=eC (p:=fun y=>x==y) (l:=l) (s:=0)
  grind
 .grind[fU,BP,BG,AB]
 grind[fU,AAy,Bb,AV]
def RW(t:List Int)(n:Int)(i:Nat):Bool:=Jq t i fun k=>inB k 0 (w64 (n-1))&&!((t.take i).any fun y=>y==k)
def HW(t:List Int)(n:Int):Bool:=Iu (RW t n) 0 t.length
def JX(t:List Int)(n:Int):Bool:=t.all fun x=>inB x (-1) (w64 (n-1))
theorem zN{h:AE}(a:Bt h):AWG h=some (HW h.BB h.AH.length&&(JX h.A9 h.AH.length&&((h.A9.length:Int)==h.AQ.Cu))):=by
 have e:=a.todo;have g:=a.Fk;have c:dG h ()=some (JX h.A9 h.AH.length&&((h.A9.length:Int)==h.AQ.Cu)):=by
  unfold dG JX;rw[pc (l:=h.A9) (fun x=>inB x (-1) (w64 ((h.AH.length:Int)-1))) (E:=some ((h.A9.length:Int)==h.AQ.Cu)) (by omega) ?_ ?_,CX]
  .intro L i hi;unfold uk;rw[B9 hi,BP,BG hi,AB,Gk,AB,BK]
  .intro L;unfold uk AKG;rw[Cr,Bb,AV]
 unfold AWG HW;rw[J1 (n:=h.BB.length) (E:=dG h ()) (RW h.BB h.AH.length) (by omega) ?_ ?_,c,CX]
 .intro L i hi;unfold RW;rw[CO hi];unfold uj ui
  grind[BP,BG,AB,Gk,BK,B8,Vm,AV,Bn,inB]
 grind[uj,Bb,AV]
def WB(h:AE)(i:Nat):Bool:=
 Jq h.AH i fun c=>Jq h.AQ.AY i (fun s=>c.AY.Total==s)&&(Jv h.AQ c h.AG i h.Now&&!(decide (DS h.AG i>h.AQ.Room)))
def M6(h:AE):Bool:=Iu (WB h) 0 h.AH.length
def DD(h:AE):Bool:=
 Dz h.AQ&&(inB h.Now 0 1000000&&(inB h.A0 1 1000001&&(!(decide ((h.AG.length:Int)>40))&&(((h.AH.length:Int)==(h.AQ.AY.length:Int))&&(Ku h&&((HW h.BB h.AH.length&&(JX h.A9 h.AH.length&&((h.A9.length:Int)==h.AQ.Cu)))&&M6 h))))))
theorem GJ{h:AE}(a:Bt h):eP h=some (DD h):=by
 have G:=a.De;have q:=a.CM;have H:=a.Ds;have B:OV h true=some false:=rfl;unfold eP DD;by_cases y:h.AH.length=h.AQ.AY.length
 .have g:∀b,dC h b=some (!b&&M6 h):=by
   intro b;unfold dC M6;rw[J1 (n:=h.AH.length) (E:=some true) (WB h) (by omega) ?_ ?_,CX,CP,Hg]
   .intro L i hi;have j:∀b,WH L i b=br (!b) (L ((i+1:Nat):Int)) (some false):=by intro b;unfold WH;rw[Bn hi (by omega)];cases b<;>rfl
    unfold WB;rw[CO hi,CO (show i<h.AQ.AY.length by omega)];unfold uZ;rw[B9 hi,BP,BG hi,AB,BG (show i<h.AQ.AY.length by omega),AB,AB,AEo (by omega) (a.ED _ (Ah hi)) q,AB,BK,RP (by omega),AB];simp only[AV,j,bne];cases h.AH[i].AY.Total==h.AQ.AY[i]<;>cases Jv h.AQ h.AH[i] h.AG i h.Now<;>cases decide (DS h.AG i>h.AQ.Room)<;>rfl
   .intro L;unfold uZ AJZ;rw[Cr,Bb,AV]
  have c:∀b,OV h b=some (!b&&(Ku h&&((HW h.BB h.AH.length&&(JX h.A9 h.AH.length&&((h.A9.length:Int)==h.AQ.Cu)))&&M6 h))):=by
   intro b;unfold OV;simp only[cX a,zN a,AB,BK,AV,g,Bs,Bm,Df,CX,Hg]
  simp only[IH (show h.AQ.AY.length<2 ^ 62 by omega),Gk,AB,BK,AV,c,Bs,Bm,CX,Hg,bne,Df]
 .have e:((h.AH.length:Int)==(h.AQ.AY.length:Int))=false:=by rw[beq_eq_false_iff_ne];omega
  simp only[IH (show h.AQ.AY.length<2 ^ 62 by omega),Gk,AB,BK,AV,bne,e,IZ,B,WA,Bm,DK]
theorem Fe{h:AE}(g:Bt h):Rh h=some (DD h):=by
 have h1:=g.De;have h2:=g.CM;have h3:=g.Ds;have h4:=g.todo;have h5:=g.Fk;have ht:MD h true=some false:=rfl;unfold Rh DD;by_cases Y:Dz h.AQ=false
 .rw[HD (by omega),AB,Y,BK,Bb,AV,ht];rfl
 rw[Bool.not_eq_false]at Y;have hrm:=(CI Y).2.2.1;by_cases c:h.AH.length≠h.AQ.AY.length
 .have e:((h.AH.length:Int)==(h.AQ.AY.length:Int))=false:=by rw[beq_eq_false_iff_ne];omega
  simp only[HD (show h.AQ.AY.length<2 ^ 62 by omega),Fb,AB,BK,AV,bne,e,IZ,ht,BP,WA,Bm,DK]
 have c:=Classical.not_not.1 c;have H:Tx h ()=some (JX h.A9 h.AH.length):=by
  unfold Tx JX;rw[pc (l:=h.A9) (fun x=>inB x (-1) (w64 ((h.AH.length:Int)-1))) (E:=some true) (by omega) ?_ ?_,CX,CP]
  .intro L i hi;unfold Y2;rw[B9 hi,BP,BG hi,AB,Fb,AB,BK,c]
  .intro L;unfold Y2 qE;rw[Cr,Bb,AV]
 have G:Tw h ()=some (HW h.BB h.AH.length&&JX h.A9 h.AH.length):=by
  unfold Tw HW;rw[J1 (n:=h.BB.length) (E:=Tx h ()) (RW h.BB h.AH.length) (by omega) ?_ ?_,H,CX]
  .intro L i hi;unfold RW;rw[CO hi];unfold Y1 Y0;rw[B9 hi,BP,BG hi,AB,Xs,AB,BK,B8 (by omega),Ac,O6 (by rw[BL];omega),AB,AV,AV,Bn hi (by omega),BP,c];cases inB h.BB[i] 0 (w64 ((h.AQ.AY.length:Int)-1))<;>cases (h.BB.take i).any (fun y=>y==h.BB[i])<;>rfl
  .intro L;unfold Y1;rw[Cr,Bb,AV]
 have e7:WX h ()=some (M6 h&&(HW h.BB h.AH.length&&JX h.A9 h.AH.length)):=by
  unfold WX M6;rw[J1 (n:=h.AH.length) (E:=Tw h ()) (WB h) (by omega) ?_ ?_,G,CX]
  .intro L i hi;have B:∀b,SM L i b=br (!b) (L ((i+1:Nat):Int)) (some false):=by intro b;unfold SM;rw[Bn hi (by omega)];cases b<;>rfl
   unfold WB;rw[CO hi,CO (show i<h.AQ.AY.length by omega)];unfold fY;rw[B9 hi,BP,BG hi,AB,BG (show i<h.AQ.AY.length by omega),AB,Qy (by omega),AB];by_cases Z:DS h.AG i>h.AQ.Room
   .rw[decide_eq_true Z];simp only[AV,B,bne,BP];cases h.AH[i].AY.Total==h.AQ.AY[i]<;>cases Jv h.AQ h.AH[i] h.AG i h.Now<;>rfl
   .rw[decide_eq_false Z,ADf (by omega) (g.ED _ (Ah hi)) h2 (by omega),AB];simp only[AV,B,bne,Bb];cases h.AH[i].AY.Total==h.AQ.AY[i]<;>cases Jv h.AQ h.AH[i] h.AG i h.Now<;>rfl
  .intro L;unfold fY;rw[Cr,Bb,AV]
 have J:∀b,MD h b=some (!b&&(!(decide ((h.AG.length:Int)>40))&&(Ku h&&(M6 h&&(HW h.BB h.AH.length&&JX h.A9 h.AH.length))))):=by
  intro b;unfold MD Ku;rw[J1 (n:=h.AG.length) (E:=WX h ()) (bt h) (by omega) ?_ ?_,e7,CX,Hg,Hg]
  .intro L i hi;unfold bt;rw[CO hi];have O:∀b,Pf h L i h.AG[i] b=br (!b&&Iu (fun k=>Jq h.AG k fun q=>!(Ic q h.AG[i])) 0 i) (L ((i+1:Nat):Int)) (some false):=by
    intro b;unfold Pf;rw[B8 (by omega),J1 (n:=i) (E:=L ((i+1:Nat):Int)) (fun k=>Jq h.AG k fun q=>!(Ic q h.AG[i])) (by omega) ?_ ?_]
    .cases b<;>rfl
    .intro L' k hk;have S:k<h.AG.length:=by omega
     have Q:∀b,ME L' k b=br (!b) (L' ((k+1:Nat):Int)) (some false):=by intro b;unfold ME;rw[Bn hk (by omega)];cases b<;>rfl
     have a:(h.AG.take i).length=i:=by rw[BL];omega
     have I:at? (h.AG.take i) (k:Int)=some h.AG[k]:=by rw[BG (by omega)];simp
     rw[CO S];unfold fW Ic;rw[Ac,a,B9 hk,BP,I,AB];have eb:(h.AG[i].A0==h.AG[k].A0)=(h.AG[k].A0==h.AG[i].A0):=BEq.comm;simp only[AV,Q,gt_iff_lt,eb];cases h.AG[k].A0==h.AG[i].A0<;>cases decide (h.AG[k].A0<h.AG[i].A0)<;>cases decide (h.AG[i].Since<h.AG[k].Since)<;>cases decide (h.AG[i].A0<h.AG[k].A0)<;>cases decide (h.AG[k].Since<h.AG[i].Since)<;>rfl
    .intro L';have a:(h.AG.take i).length=i:=by rw[BL];omega
     unfold fW AAz;rw[Ac,a,Cr,Bb,AV,Bn hi (by omega)]
   unfold fV;rw[B9 hi,BP,BG hi,AB,M9 (by omega),AB,BK,dQ];simp only[AV,O];generalize Iu (fun k=>Jq h.AG k fun q=>!(Ic q h.AG[i])) 0 i=X;by_cases j:0<i
   .rw[decide_eq_true j,BP,AW j,Ju i j (by omega),BG (show i-1<h.AG.length by omega),AB,CO (show i-1<h.AG.length by omega)];cases Dq h.AQ h.AG[i] h.Now<;>cases decide (h.AG[i].A0>=h.A0)<;>cases decide (h.AG[i-1].Id>=h.AG[i].Id)<;>rfl
   .rw[decide_eq_false j,Bb,AR j];cases Dq h.AQ h.AG[i] h.Now<;>cases decide (h.AG[i].A0>=h.A0)<;>rfl
  .intro L;unfold fV;rw[Cr,Bb,AV]
 have e:((h.AH.length:Int)==(h.AQ.AY.length:Int))=true:=by rw[beq_iff_eq];omega
 simp only[HD (show h.AQ.AY.length<2 ^ 62 by omega),Fb,AB,BK,AV,J,Bs,Bm,CX,Hg,bne,Df,e,BP,IZ,Bool.true_and];congr 1;ac_rfl
def Rv(n:Int):Bool:=inB n 0 9999
theorem AVL(n:Int):cQ n=some (Rv n):=by unfold cQ Rv;rw[Gk,AB]
theorem ASt(n:Int):Ri n=some (Rv n):=by unfold Ri Rv;rw[Fb,AB]
def KT(q:B3):Bool:=
 if q.Kind=1 then Rv q.Id&&(Rv q.Ab&&(inB q.Bu (-1) 9999&&(Rv q.BE&&Rv q.DJ)))
 else if q.Kind=2\/q.Kind=4\/q.Kind=5\/q.Kind=7 then Rv q.Id&&(q.Ab==0&&(q.Bu==0&&(q.BE==0&&q.DJ==0)))
 else if q.Kind=3 then Rv q.Ab&&(Rv q.BE&&(q.Id==0&&(q.Bu==0&&q.DJ==0)))
 else if q.Kind=6 then q.Id==0&&(q.Ab==0&&(q.Bu==0&&(q.BE==0&&q.DJ==0)))
 else false
theorem oJ(q:B3):ub q=some (KT q):=by
 obtain⟨k,a,b,c,d,e⟩:=q;unfold ub Im Ts Im KT;simp only[AV,AVL,AB,Gk,CX,Bi,beq_iff_eq]
 grind
theorem mW(q:B3):WZ q=some (KT q):=by
 obtain⟨k,a,b,c,d,e⟩:=q;unfold WZ G9 Ph G9 KT;simp only[AV,ASt,AB,Fb,CX,Bi,beq_iff_eq]
 grind
structure Cc(e:Ap):Prop where
 EY:Bt e.BO
 log:e.BH.Log.Data.length<=1048576
 even:e.BH.DW.Data.length<=1048576
 odd:e.BH.Odd.Data.length<=1048576
 laid:e.Laid.length<=1048576
def D7(e:Ap):Bool:=DD e.BO&&(II e.BH&&(!(decide ((e.Laid.length:Int)>8))&&(inB e.Seq e.Laid.length 1000000&&e.Laid.all KT)))
theorem HQ{e:Ap}(a:Cc e):uc e=some (D7 e):=by
 have g:=a.laid;have c:∀b,Tt e b=some (!b&&e.Laid.all KT):=by
  intro b;unfold Tt;rw[pc (l:=e.Laid) KT (E:=some true) (by omega) ?_ ?_,CX,CP,Hg]
  .intro L i h;unfold ud;rw[B9 h,BP,BG h,AB,oJ,AB,BK]
  .grind[ud,AJa,Bb,AV]
 unfold uc D7;simp only[GJ a.EY,RU,Gk,AB,BK,AV,c,Bs,Bm,CX,Hg,Df]
theorem IV{e:Ap}(a:Cc e):AbR e=some (D7 e):=by
 have g:=a.laid;have c:∀b,cw e b=some (!b&&e.Laid.all KT):=by
  intro b;unfold cw;rw[pc (l:=e.Laid) KT (E:=some true) (by omega) ?_ ?_,CX,CP,Hg]
  .intro L i h;unfold yd;rw[B9 h,BP,BG h,AB,mW,AB,BK]
  .grind[yd,AbV,Bb,AV]
 unfold AbR D7;simp only[Fe a.EY,Xo,Fb,AB,BK,AV,c,Bs,Bm,CX,Hg,Df]
theorem AZe{n:Nat}{F:(Int->AA Bool)->Int->AA Bool}(a:n<2 ^ 63)(step:∀L (i:Nat),i<n->F L (i:Int)=L (w64 ((i:Int)+1)))(stop:∀L,F L (n:Int)=some true) :
 br ((n:Int) != (n:Int)) (some false) (BD F big 0)=some true:=by
 rw[Bi,AR (by simp)];exact AVq a (fun L i h=>by rw[step L i h,Bn h a]) stop
theorem ne_self(a:Int):(a != a)=false:=by simp
end Lv.P
