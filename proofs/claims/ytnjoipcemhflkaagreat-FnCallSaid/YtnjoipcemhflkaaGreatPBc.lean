/- Plain laws about what the program computes. -/
import Derived.Test.YtnjoipcemhflkaaGreatPAc
noncomputable section
set_option linter.unusedVariables false
set_option linter.unusedSimpArgs false
set_option linter.unusedSectionVars false
open Bool renaming and_eq_true->AF,and_false->Cw,and_true->CA,eq_iff_iff->HS,false_and->BW,not_eq_true'->A6,not_false->H2,not_not->DD,not_true->Bp
open Int renaming toNat_natCast->Ac
open List renaming drop_length->EG,foldl_cons->Bj,getElem_mem->BC,getElem_of_mem->Fm,length_append->AN,length_cons->AI,length_take->BH,map_cons->AJ,mem_cons->Ak,mem_flatten->EI,pairwise_iff_getElem->CJ
open Nat renaming add_sub_cancel->CZ,lt_or_ge->AV,sub_self->Dc,zero_add->Ao
namespace Lv.P
open Go (IntKind BinOp UnOp)
def Q7(p:BB):Bool:=inB p.At 1 1000008&&inB p.Id 1 999
structure Oy(w:Aj):Prop where
 nine:w.Ag.length=9
 few:w.Ag.flatten.length<=10
 pins:∀p∈w.Ag.flatten,Q7 p=true
 ids:w.Ag.flatten.Pairwise fun a b=>a.Id≠b.Id
 at_:∀i (h:i<w.Ag.length) k (hk:k<w.Ag[i].length),w.Ag[i][k].At.tmod 9=(i:Int)
 srt:∀i (h:i<w.Ag.length) k (hk:k+1<w.Ag[i].length),ltP w.Ag[i][k] w.Ag[i][k+1]=true
def HK(w:Aj):Bool:=@decide (Oy w) (Classical.propDecidable _)
theorem DT{w:Aj}:HK w=true↔Oy w:=by grind[HK]
def Cv(w:Aj):Prop:=w.Ag.length<=1048576/\w.Ag.flatten.length<=1048576
theorem Wf{α:Type}{l:List (List α)}{i:Nat}(h:i<l.length):(l.take i).flatten.length+l[i].length<=l.flatten.length:=by
 grind[Dw,List.take_append_drop]
theorem KB{l:List (List BB)}{i:Nat}(h:i<l.length):l[i].length<=l.flatten.length:=by have:=Wf h;omega
theorem jU{w:Aj}(a:Cv w):AKR w=some w.Ag.flatten:=by
 have hlim:lim=268435456:=rfl;have c:=a.1;have e:=a.2;unfold AKR;refine(DE (n:=w.Ag.length) (fun i (v:List BB)=>(v,(i:Int))) (fun i v=>v=(w.Ag.take i).flatten) (fun i v=>some w.Ag.flatten) (by omega) ?_ (by simp));intro L i v g hi j;unfold AFY AFX;dsimp only;rcases AV i w.Ag.length with h|h
 .have:=Wf h
  grind[BP,A9,AB,Bt,BX,List.take_add_one]
 grind[BS,AT]
def Zt(s:List BB)(i:Nat)(k:Nat):Bool:=JU s k fun p=>(p.At.tmod 9==(i:Int))&&(if 0<k then JU s (k-1) (fun d=>ltP d p) else true)
def mb(l:List BB)(i:Nat):Bool:=JU l i fun p=>Q7 p&&IT (fun k=>JU l k fun q=>!(q.Id==p.Id)) 0 i
theorem I1{w:Aj}(H:Cv w):jt w=some (HK w):=by
 have Z:=H.1;have h2:=H.2;have G:aK w ()=some (IT (fun i=>JU w.Ag i fun s=>IT (Zt s i) 0 s.length) 0 w.Ag.length):=by
  unfold aK;rw[Jk (n:=w.Ag.length) (E:=some true) (fun i=>JU w.Ag i fun s=>IT (Zt s i) 0 s.length) (by omega) ?_ ?_,Cf,CA]
  .intro L i h;have hs:=KB h;rw[CC h];unfold oW;rw[Bw h,BP];refine Jk (n:=w.Ag[i].length) (E:=L ((i+1:Nat):Int)) (Zt w.Ag[i] i) (by omega) ?_ ?_
   .intro L' k a;have I:=BX a (show w.Ag[i].length<2 ^ 63 by omega);unfold Zt;rw[CC a];unfold oX aM;rw[A9 h,AB,Bw a,BP,aQ];simp only[AB,A9 a,AT,I,BP,BS];by_cases c:0<k
    .rw[decide_eq_true c,BP,if_pos c,Jb k c (by omega),A9 (show k-1<w.Ag[i].length by omega),AB,Zs,AB,CC (show k-1<w.Ag[i].length by omega),bne];cases w.Ag[i][k].At.tmod 9==(i:Int)<;>cases ltP w.Ag[i][k-1] w.Ag[i][k]<;>rfl
    .rw[decide_eq_false c,BS,if_neg c,bne];cases w.Ag[i][k].At.tmod 9==(i:Int)<;>rfl
   .intro L';unfold oX yH;rw[A9 h,AB,Cc,BS,AT,BX h (by omega)]
  .intro L;unfold oW yI;rw[Cc,BS,AT]
 have e:∀b,aI w w.Ag.flatten b=some (!b&&(IT (mb w.Ag.flatten) 0 w.Ag.flatten.length&&IT (fun i=>JU w.Ag i fun s=>IT (Zt s i) 0 s.length) 0 w.Ag.length)):=by
  intro b;unfold aI;rw[Jk (n:=w.Ag.flatten.length) (E:=aK w ()) (mb w.Ag.flatten) (by omega) ?_ ?_,G,Cf,G0]
  .intro L i h;unfold mb;rw[CC h];have B:∀b,aJ w.Ag.flatten L i b=br (!b&&IT (fun k=>JU w.Ag.flatten k fun q=>!(q.Id==w.Ag.flatten[i].Id)) 0 i) (L ((i+1:Nat):Int)) (some false):=by
    intro b;unfold aJ;rw[Jk (n:=i) (E:=L ((i+1:Nat):Int)) (fun k=>JU w.Ag.flatten k fun q=>!(q.Id==w.Ag.flatten[i].Id)) (by omega) ?_ ?_]
    .cases b<;>rfl
    .intro L' k a;rw[CC (show k<w.Ag.flatten.length by omega)];unfold oV;rw[Bw a,BP];simp only[A9 h,A9 (show k<w.Ag.flatten.length by omega),AB,BX a (show i<2 ^ 63 by omega)];cases w.Ag.flatten[k].Id==w.Ag.flatten[i].Id<;>rfl
    .intro L';unfold oV AFZ;rw[Cc,BS,AT,BX h (by omega)]
   unfold oU Q7;rw[Bw h,BP];simp only[A9 h,AB,GC,BN,AT,B];generalize IT (fun k=>JU w.Ag.flatten k fun q=>!(q.Id==w.Ag.flatten[i].Id)) 0 i=X;cases inB w.Ag.flatten[i].At 1 1000008<;>cases inB w.Ag.flatten[i].Id 1 999<;>rfl
  .intro L;unfold oU;rw[Cc,BS,AT]
 unfold jt;rw[jU H,AB,AT,AT,e,e,Bp,BW,bne,BN,Cf];congr 1;rw[HS,DT];simp only[AF,beq_iff_eq,A6,decide_eq_false_iff_not,JY];constructor
 .rintro⟨J,O,a3,a4⟩;refine⟨by omega,by omega,?_,?_,?_,?_⟩
  .intro p Y;obtain⟨k,a,rfl⟩:=Fm Y;have:=a3 k a;unfold mb at this;rw[CC a,AF]at this;exact this.1
  .rw[CJ];intro i j hi g y;have:=a3 j g;unfold mb at this;rw[CC g,AF,JY]at this;have:=this.2 i y;rw[CC hi]at this;simpa using this
  .intro i h k a;have:=a4 i h;rw[CC h,JY]at this;have:=this k a;unfold Zt at this;rw[CC a,AF,beq_iff_eq]at this;exact this.1
  .intro i h k a;have:=a4 i h;rw[CC h,JY]at this;have:=this (k+1) a;unfold Zt at this;rw[CC a,AF,if_pos (by omega),CZ,CC (by omega)]at this;exact this.2
 .rintro⟨J,O,a3,a4,Q,S⟩;refine⟨by omega,by omega,?_,?_⟩
  .intro k a;unfold mb;rw[CC a,AF,JY];refine⟨a3 _ (BC _),fun j g=>?_⟩;rw[CC (by omega)];rw[CJ]at a4;have:=a4 j k (by omega) a g;simpa using this
  .intro i h;rw[CC h,JY];intro k a;unfold Zt;rw[CC a,AF,beq_iff_eq];refine⟨Q i h k a,?_⟩;split
   .rename_i c;obtain⟨k,rfl⟩:∃j,k=j+1:=⟨k-1,by omega⟩;rw[CZ,CC (by omega)];exact S i h k a
   .rfl
def OM(m:List (Int×Int))(p:BB):List (Int×Int):=JL m p.Id (w64 (Mb m p.Id+1))
theorem APq:∀{m:List (Int×Int)} {n v:Int},n∈m.map (·.1)->(JL m n v).map (·.1)=m.map (·.1)
 | [],n,v,h=>by simp at h|(k,w)::m,n,v,h=>by
  unfold JL;by_cases e:n=k
  .rw[if_pos e];rfl
  .rw[if_neg e];rw[AJ,Ak]at h;rw[AJ,APq (h.resolve_left e)];rfl
theorem AGY:∀{m:List (Int×Int)} {n v:Int},n∉m.map (·.1)->(JL m n v).map (·.1)=m.map (·.1)++[n]
 | [],n,v,h=>rfl|(k,w)::m,n,v,h=>by
  unfold JL;rw[AJ,Ak,not_or]at h;rw[if_neg h.1,AJ,AGY h.2];rfl
theorem AJX:∀(l:List BB) (m:List (Int×Int)),(l.foldl OM m).length<=m.length+l.length/\((l.foldl OM m).length=m.length+l.length↔(∀p∈l,p.Id∉m.map (·.1))/\l.Pairwise fun a b=>a.Id≠b.Id)
 | [],m=>by simp|p::l,m=>by
  rw[Bj];have c:=AJX l (OM m p);by_cases h:p.Id∈m.map (·.1)
  .have e:(OM m p).map (·.1)=m.map (·.1):=APq h;have el:(OM m p).length=m.length:=by simpa using congrArg List.length e
   rw[el]at c;refine⟨by rw[AI];omega,?_⟩;constructor
   .intro g;rw[AI]at g;omega
   .intro g;exact absurd h (g.1 p List.mem_cons_self)
  .have e:(OM m p).map (·.1)=m.map (·.1)++[p.Id]:=AGY h;have el:(OM m p).length=m.length+1:=by simpa using congrArg List.length e
   grind[List.pairwise_cons]
theorem Uu(p:BB):km p=some (Q7 p):=by
 unfold km bg Q7;simp only[FE,AB,AT,Cf]
def VD(s:List BB)(i:Nat)(k:Nat):Bool:=JU s k fun p=>Q7 p&&((p.At.tmod 9==(i:Int))&&(if 0<k then JU s (k-1) (fun d=>!(ltP p d)) else true))
theorem mi(p:Nat->Bool){i n:Nat}(h:i<n):IT p i (n-i)=(p i&&IT p (i+1) (n-(i+1))):=by rw[show n-i=(n-(i+1))+1 by omega];rfl
theorem ADG{s:List BB}(I:s.length<=1048576){L:List (Int×Int)×Int×Int->AA Bool}{i:Nat}(hi:i<9){m:List (Int×Int)}{n:Nat}(H:n<=2 ^ 50) :
 A7 (bk L i s) big (m,(n:Int),0)=br (IT (VD s i) 0 s.length) (L (s.foldl OM m,((n+s.length:Nat):Int),((i+1:Nat):Int))) (some false):=by
 refine(DE (n:=s.length) (fun k (v:List (Int×Int)×Nat)=>(v.1,(v.2:Int),(k:Int))) (fun k v=>v.2=n+k) (fun k v=>br (IT (VD s i) k (s.length-k)) (L ((s.drop k).foldl OM v.1,((n+s.length:Nat):Int),((i+1:Nat):Int))) (some false)) (by omega) ?_ (v:=(m,n)) rfl);rintro L' k ⟨m,g⟩ j G q;dsimp only at j q ⊢;unfold bk R0;dsimp only;rcases AV k s.length with h|h
 .have e:=q (OM m s[k],g+1) (by dsimp only;omega) h;dsimp only at e;have ew:w64 ((g:Int)+1)=((g+1:Nat):Int):=by rw[A4 (by omega) (by omega)];rfl
  rw[Bw h,BP,A9 h,AB,Uu,AB,BN,mi _ h,Dw h,Bj,aQ];simp only[AT,BP,BS,BX h (show s.length<2 ^ 63 by omega),ew];have ed:JL m s[k].Id (w64 (Mb m s[k].Id+1))=OM m s[k]:=rfl;rw[ed,e];unfold VD;rw[CC h];generalize IT _ (k+1) (s.length-(k+1))=X;generalize L _=Z;by_cases a:0<k
  .obtain⟨c,y,E,B⟩:=NQ s[k-1] s[k];rw[decide_eq_true a,BP,if_pos a,Jb k a (by omega),A9 (show k-1<s.length by omega),AB,y,AB,B,CC (show k-1<s.length by omega),bne];cases Q7 s[k]<;>cases s[k].At.tmod 9==(i:Int)<;>cases ltP s[k] s[k-1]<;>rfl
  .rw[decide_eq_false a,BS,if_neg a,bne];cases Q7 s[k]<;>cases s[k].At.tmod 9==(i:Int)<;>rfl
 .obtain rfl:k=s.length:=by omega
  unfold uk;dsimp only;rw[Cc,BS,AT,BX (i:=i) (n:=9) hi (by omega),Dc,EG,j];rfl
theorem Kg{w:Aj}(I:Cv w):T3 w=some (HK w):=by
 have h1:=I.1;have h2:=I.2;unfold T3;rw[bne,BN];by_cases B:w.Ag.length=9
 .have g:((w.Ag.length:Int)==9)=true:=by rw[beq_iff_eq];omega
  rw[g,BP];have:=(DE (F:=bj w) (n:=w.Ag.length) (fun k (v:List (Int×Int)×Nat)=>(v.1,(v.2:Int),(k:Int))) (fun k v=>v.2=(w.Ag.take k).flatten.length) (fun k v=>br (IT (fun i=>JU w.Ag i fun s=>IT (VD s i) 0 s.length) k (w.Ag.length-k)) (Vf ((w.Ag.drop k).flatten.foldl OM v.1,((v.2+(w.Ag.drop k).flatten.length:Nat):Int))) (some false)) (by omega) ?_ (v:=([],0)) (by simp))
  .refine Eq.trans this ?_;unfold Vf bh;simp only[List.drop_zero,Ao,AT,Cf,Nat.sub_zero];congr 1;have E:=AJX w.Ag.flatten [];rw[List.length_nil,Ao]at E;rw[HS,DT];simp only[AF,beq_iff_eq,decide_eq_true_iff,JY];have Y:((w.Ag.flatten.foldl OM []).length:Int)=(w.Ag.flatten.length:Int)↔w.Ag.flatten.Pairwise fun a b=>a.Id≠b.Id:=by
    rw[Int.ofNat_inj,E.2];simp
   rw[Y];constructor
   .rintro⟨y,O,a3⟩;have c:∀i (h:i<w.Ag.length) k (c:k<w.Ag[i].length),Q7 w.Ag[i][k]=true/\w.Ag[i][k].At.tmod 9=(i:Int)/\(if 0<k then JU w.Ag[i] (k-1) (fun d=>!(ltP w.Ag[i][k] d)) else true)=true:=by
     intro i h k c;have:=y i h;rw[CC h,JY]at this;have:=this k c;unfold VD at this;rw[CC c,AF,AF,beq_iff_eq]at this;exact this
    refine⟨B,by omega,?_,a3,fun i h k e=>(c i h k e).2.1,?_⟩
    .intro p q;obtain⟨s,hs,q⟩:=EI.1 q;obtain⟨i,hi,rfl⟩:=Fm hs;obtain⟨k,e,rfl⟩:=Fm q;exact(c i hi k e).1
    .intro i h k e;have:=(c i h (k+1) e).2.2;rw[if_pos (by omega),CZ,CC (by omega),A6,iH]at this;have G:=(List.pairwise_flatten.1 a3).1 _ (BC h);rw[CJ]at G;have:=G k (k+1) (by omega) e (by omega);rw[Qy];omega
   .rintro⟨y,O,a3,a4,Q,S⟩;refine⟨?_,by omega,a4⟩;intro i h;rw[CC h,JY];intro k c;unfold VD;rw[CC c,AF,AF,beq_iff_eq];refine⟨a3 _ (EI.2 ⟨_,BC h,BC c⟩),Q i h k c,?_⟩;split
    .obtain⟨k,rfl⟩:∃j,k=j+1:=⟨k-1,by omega⟩;rw[CZ,CC (by omega),A6];exact EX.ni _ _ (S i h k c)
    .rfl
  .rintro L k ⟨m,n⟩ H c J;dsimp only at H J ⊢;unfold bj;dsimp only;rcases AV k w.Ag.length with h|h
   .have hf:=Wf h;rw[Bw h,BP,A9 h,AB,ADG (by omega) (by omega) (by omega),mi _ h,CC h];have ef:(w.Ag.take (k+1)).flatten=(w.Ag.take k).flatten++w.Ag[k]:=by rw[List.take_add_one,List.getElem?_eq_getElem h,List.flatten_append];simp
    have:=J (w.Ag[k].foldl OM m,n+w.Ag[k].length) (by dsimp only;rw[ef,AN,H]) h;dsimp only at this;rw[this,Dw h,List.flatten_cons,List.foldl_append,AN,Nat.add_assoc];generalize IT _ (k+1) _=X;generalize Vf _=Z;cases IT (VD w.Ag[k] k) 0 w.Ag[k].length<;>rfl
   .obtain rfl:k=w.Ag.length:=by omega
    rw[Cc,BS,AT,Dc,EG];rfl
 .have g:((w.Ag.length:Int)==9)=false:=by rw[beq_eq_false_iff_ne];omega
  rw[g,BS];congr 1;have:¬(HK w=true):=by rw[DT];exact fun h=>B h.nine
  rw[Bool.not_eq_true]at this;exact this.symm
def Ep(w:Aj):List BB:=if HK w=true then C7 ltP w.Ag.flatten else []
theorem Sz{w:Aj}(a:Cv w):AAw w=some (Ep w):=by
 have hlim:lim=268435456:=rfl;have c:=a.2;unfold AAw Ep;rw[I1 a,AB,BN,jU a,AB,Bb];split
 .rw[SM (l:=w.Ag.flatten) (fun v p=>put ltP p v) (fun i v=>v.length<=i) some (by omega) ?_ ?_ ?_ (by simp),<-YZ EX ah]
  .grind[o6,BP,A9,AB,VC]
  .intro i h v e;rw[Ey];omega
  grind[o6,AFd,BS,AT]
 .rfl
theorem ZZ{w:Aj}(c:Cv w):ub w=some (Ep w):=by
 have hlim:lim=268435456:=rfl;have g:=c.1;have j:=c.2;unfold ub Ep;rw[Kg c,AB,BN,Bb];split
 .rename_i a;have a:=DT.1 a;refine(DE (n:=w.Ag.length) (fun i (v:List BB)=>(v,(i:Int))) (fun i v=>v=(w.Ag.take i).flatten) (fun i v=>some (C7 ltP w.Ag.flatten)) (by omega) ?_ (by simp));intro L i v e hi q;unfold ud uc;dsimp only;rcases AV i w.Ag.length with h|h
  .have:=Wf h
   grind[BP,A9,AB,Bt,BX,List.take_add_one]
  .obtain rfl:i=w.Ag.length:=by omega
   have:=a.few;rw[Cc,BS,AT,e,List.take_length,ATj (by omega),AB]
 .rfl
def EU(c:Ad):Prop:=c.Row.length<=1048576/\Cv c.Bl
structure Bf(h:AE):Prop where
 Df:h.AR.AW.length<=1048576
 B4:h.AG.length<=1048576
 De:h.AH.length<=1048576
 Dk:∀c∈h.AH,EU c
 todo:h.Az.length<=1048576
 E8:h.Ay.length<=1048576
def Nf(c:Ad):Bool:=EW c.AW&&(Km c.Row&&HK c.Bl)
theorem XJ{c:Ad}(a:EU c):AG6 c=some (Nf c):=by
 have:=a.1;unfold AG6 aN Nf;simp only[PE,RF c.Row (by omega),I1 a.2,AB,AT,Cf]
theorem rG{c:Ad}(a:EU c):ADs c=some (Nf c):=by
 have:=a.1;unfold ADs Vg Nf;simp only[Gi,Wp c.Row (by omega),Kg a.2,AB,AT,Cf]
theorem Js{w:Aj}(a:Cv w):(Ep w).length<=1048576:=by
 unfold Ep;split
 .rw[HF];exact a.2
 .simp
def Jd(r:Aa)(c:Ad)(l:List AQ)(k now:Int):Bool:=
 Nf c&&(HQ eqE c.Row (DM r l k now)&&(HQ eqP (Ep c.Bl) (FO l k)&&((c.AW.ER==Im l k)&&(c.AW.FP==JC l k))))
theorem zx{r:Aa}(g:r.AW.length<2 ^ 62){c:Ad}(a:EU c){l:List AQ}(e:l.length<=1048576)(k now:Int):AQo r c l k now=some (Jd r c l k now):=by
 have h:=a.1;have j:=Js a.2;unfold AQo TM Jd;simp only[XJ a,NG g e,XO (show c.Row.length<2 ^ 62 by omega),Sz a.2,Sy e,UM (show (Ep c.Bl).length<2 ^ 62 by omega),Oq (show l.length<2 ^ 58 by omega),Ot (show l.length<2 ^ 58 by omega),AB,AT,Cf]
theorem yk{r:Aa}(h:r.AW.length<2 ^ 62){c:Ad}(a:EU c){l:List AQ}(g:l.length<=1048576){k:Int}(e:C2 l k<=19)(now:Int):AD1 r c l k now=some (Jd r c l k now):=by
 have j:=a.1;have q:=Js a.2;unfold AD1 PV Jd;simp only[rG a,Qs h g e,yn (show c.Row.length<2 ^ 62 by omega),ZZ a.2,ZY g e,yp (show (Ep c.Bl).length<2 ^ 62 by omega),ZX (show l.length<2 ^ 58 by omega),Zb (show l.length<2 ^ 58 by omega),AB,AT,Cf]
def H4(q p:AQ):Bool:=(q.As==p.As)||((decide (q.As<p.As)&&decide (p.Since<q.Since))||(decide (p.As<q.As)&&decide (q.Since<p.Since)))
def Zi(h:AE)(i:Nat):Bool:=
 JU h.AG i fun p=>DL h.AR p h.Now&&(!(decide (p.As>=h.As))&&((if 0<i then JU h.AG (i-1) (fun q=>!(decide (q.Id>=p.Id))) else true)&&IT (fun k=>JU h.AG k fun q=>!(H4 q p)) 0 i))
def Kk(h:AE):Bool:=IT (Zi h) 0 h.AG.length
theorem Z5{h:AE}(e:Bf h):AQq h=some (Kk h):=by
 have y:=e.Df;have B:=e.B4;unfold AQq Kk;rw[Jk (n:=h.AG.length) (E:=some true) (Zi h) (by omega) ?_ ?_,Cf,CA]
 .intro L i hi;unfold Zi;rw[CC hi];have j:∀b,TS h L i h.AG[i] b=br (!b&&IT (fun k=>JU h.AG k fun q=>!(H4 q h.AG[i])) 0 i) (L ((i+1:Nat):Int)) (some false):=by
   intro b;unfold TS;rw[Jk (n:=i) (E:=L ((i+1:Nat):Int)) (fun k=>JU h.AG k fun q=>!(H4 q h.AG[i])) (by omega) ?_ ?_]
   .cases b<;>rfl
   .intro L' k g;have a:k<h.AG.length:=by omega
    have c:∀b,Oa L' k b=br (!b) (L' ((k+1:Nat):Int)) (some false):=by intro b;unfold Oa;rw[BX g (by omega)];cases b<;>rfl
    rw[CC a];unfold oO H4;rw[Bw g,BP,A9 a,AB];simp only[AT,c,gt_iff_lt];cases h.AG[k].As==h.AG[i].As<;>cases decide (h.AG[k].As<h.AG[i].As)<;>cases decide (h.AG[i].Since<h.AG[k].Since)<;>cases decide (h.AG[i].As<h.AG[k].As)<;>cases decide (h.AG[k].Since<h.AG[i].Since)<;>rfl
   .intro L';unfold oO AD6;rw[Cc,BS,AT,BX hi (by omega)]
  unfold oN
  grind[BP,A9,AB,NF,BN,AT,JU,Jb,DL,decide_eq_false]
 grind[oN,AD7,BS,AT]
theorem RG{l:List Int}(c:l.length<2 ^ 62)(x:Int):AG3 l x=some (l.any (fun y=>y==x)):=by
 unfold AG3;refine(DE (n:=l.length) (fun i (_:Unit)=>(i:Int)) (fun _ _=>True) (fun i _=>some ((l.drop i).any (fun y=>y==x))) (by omega) ?_ (v:=()) trivial);intro L i _ _ hi a;unfold AEM AEL;rcases AV i l.length with h|h
 .rw[Bw h,BP,A9 h,AB,BX h (by omega),Dw h,List.any_cons];cases l[i]==x with|true=>rfl|false=>rw[BS,a () trivial h];rfl
 grind[BS,AT]
theorem O4{l:List Int}(a:l.length<2 ^ 62)(x:Int):ku l x=some (l.any (fun y=>y==x)):=by
 unfold ku AJ1;rw[QR (l:=l) (p:=fun y=>x==y) (by omega) ?_ ?_,AB]
 .congr 1;rw[HS,decide_eq_true_iff,List.any_eq_true];have:=bG (p:=fun y=>x==y) (l:=l) (s:=0)
  grind
 .grind[cG,BP,A9,AB]
 grind[cG,vG,BS,AT]
def TB(t:List Int)(n:Int)(i:Nat):Bool:=JU t i fun k=>inB k 0 (w64 (n-1))&&!((t.take i).any fun y=>y==k)
def Gr(t:List Int)(n:Int):Bool:=IT (TB t n) 0 t.length
def JW(t:List Int)(n:Int):Bool:=t.all fun x=>inB x (-1) (w64 (n-1))
theorem tH{h:AE}(a:Bf h):AQr h=some (Gr h.Az h.AH.length&&(JW h.Ay h.AH.length&&((h.Ay.length:Int)==h.AR.Cr))):=by
 have e:=a.todo;have g:=a.E8;have c:aF h ()=some (JW h.Ay h.AH.length&&((h.Ay.length:Int)==h.AR.Cr)):=by
  unfold aF JW;rw[kS (l:=h.Ay) (fun x=>inB x (-1) (w64 ((h.AH.length:Int)-1))) (E:=some ((h.Ay.length:Int)==h.AR.Cr)) (by omega) ?_ ?_,Cf]
  .intro L i hi;unfold oS;rw[Bw hi,BP,A9 hi,AB,GC,AB,BN]
  .intro L;unfold oS AEc;rw[Cc,BS,AT]
 unfold AQr Gr;rw[Jk (n:=h.Az.length) (E:=aF h ()) (TB h.Az h.AH.length) (by omega) ?_ ?_,c,Cf]
 .intro L i hi;unfold TB;rw[CC hi];unfold oR oQ
  grind[BP,A9,AB,GC,BN,Bt,RG,AT,BX,inB]
 grind[oR,BS,AT]
def VU(h:AE)(i:Nat):Bool:=
 JU h.AH i fun c=>JU h.AR.AW i (fun s=>c.AW.Total==s)&&(Jd h.AR c h.AG i h.Now&&!(decide (C2 h.AG i>h.AR.Room)))
def M4(h:AE):Bool:=IT (VU h) 0 h.AH.length
def Dr(h:AE):Bool:=
 Dd h.AR&&(inB h.Now 0 1000000&&(inB h.As 1 1000001&&(!(decide ((h.AG.length:Int)>40))&&(((h.AH.length:Int)==(h.AR.AW.length:Int))&&(Kk h&&((Gr h.Az h.AH.length&&(JW h.Ay h.AH.length&&((h.Ay.length:Int)==h.AR.Cr)))&&M4 h))))))
theorem Hm{h:AE}(a:Bf h):bR h=some (Dr h):=by
 have G:=a.Df;have q:=a.B4;have H:=a.De;have B:OY h true=some false:=rfl;unfold bR Dr;by_cases y:h.AH.length=h.AR.AW.length
 .have g:∀b,aC h b=some (!b&&M4 h):=by
   intro b;unfold aC M4;rw[Jk (n:=h.AH.length) (E:=some true) (VU h) (by omega) ?_ ?_,Cf,CA,G0]
   .intro L i hi;have j:∀b,Va L i b=br (!b) (L ((i+1:Nat):Int)) (some false):=by intro b;unfold Va;rw[BX hi (by omega)];cases b<;>rfl
    unfold VU;rw[CC hi,CC (show i<h.AR.AW.length by omega)];unfold oG;rw[Bw hi,BP,A9 hi,AB,A9 (show i<h.AR.AW.length by omega),AB,AB,zx (by omega) (a.Dk _ (BC hi)) q,AB,BN,ND (by omega),AB];simp only[AT,j,bne];cases h.AH[i].AW.Total==h.AR.AW[i]<;>cases Jd h.AR h.AH[i] h.AG i h.Now<;>cases decide (C2 h.AG i>h.AR.Room)<;>rfl
   .intro L;unfold oG ADl;rw[Cc,BS,AT]
  have c:∀b,OY h b=some (!b&&(Kk h&&((Gr h.Az h.AH.length&&(JW h.Ay h.AH.length&&((h.Ay.length:Int)==h.AR.Cr)))&&M4 h))):=by
   intro b;unfold OY;simp only[Z5 a,tH a,AB,BN,AT,g,Bp,BW,DD,Cf,G0]
  simp only[Hn (show h.AR.AW.length<2 ^ 62 by omega),GC,AB,BN,AT,c,Bp,BW,Cf,G0,bne,DD]
 .have e:((h.AH.length:Int)==(h.AR.AW.length:Int))=false:=by rw[beq_eq_false_iff_ne];omega
  simp only[Hn (show h.AR.AW.length<2 ^ 62 by omega),GC,AB,BN,AT,bne,e,H2,B,ADR,BW,Cw]
theorem GW{h:AE}(g:Bf h):T4 h=some (Dr h):=by
 have h1:=g.Df;have h2:=g.B4;have h3:=g.De;have h4:=g.todo;have h5:=g.E8;have ht:Lq h true=some false:=rfl;unfold T4 Dr;by_cases Y:Dd h.AR=false
 .rw[Hh (by omega),AB,Y,BN,BS,AT,ht];rfl
 rw[Bool.not_eq_false]at Y;have hrm:=(B2 Y).2.2.1;by_cases c:h.AH.length≠h.AR.AW.length
 .have e:((h.AH.length:Int)==(h.AR.AW.length:Int))=false:=by rw[beq_eq_false_iff_ne];omega
  simp only[Hh (show h.AR.AW.length<2 ^ 62 by omega),FE,AB,BN,AT,bne,e,H2,ht,BP,ADR,BW,Cw]
 have c:=Classical.not_not.1 c;have H:TR h ()=some (JW h.Ay h.AH.length):=by
  unfold TR JW;rw[kS (l:=h.Ay) (fun x=>inB x (-1) (w64 ((h.AH.length:Int)-1))) (E:=some true) (by omega) ?_ ?_,Cf,CA]
  .intro L i hi;unfold Xm;rw[Bw hi,BP,A9 hi,AB,FE,AB,BN,c]
  .intro L;unfold Xm kv;rw[Cc,BS,AT]
 have G:TQ h ()=some (Gr h.Az h.AH.length&&JW h.Ay h.AH.length):=by
  unfold TQ Gr;rw[Jk (n:=h.Az.length) (E:=TR h ()) (TB h.Az h.AH.length) (by omega) ?_ ?_,H,Cf]
  .intro L i hi;unfold TB;rw[CC hi];unfold Xl Xk;rw[Bw hi,BP,A9 hi,AB,Wr,AB,BN,Bt (by omega),Ac,O4 (by rw[BH];omega),AB,AT,AT,BX hi (by omega),BP,c];cases inB h.Az[i] 0 (w64 ((h.AR.AW.length:Int)-1))<;>cases (h.Az.take i).any (fun y=>y==h.Az[i])<;>rfl
  .intro L;unfold Xl;rw[Cc,BS,AT]
 have e7:Vl h ()=some (M4 h&&(Gr h.Az h.AH.length&&JW h.Ay h.AH.length)):=by
  unfold Vl M4;rw[Jk (n:=h.AH.length) (E:=TQ h ()) (VU h) (by omega) ?_ ?_,G,Cf]
  .intro L i hi;have B:∀b,R5 L i b=br (!b) (L ((i+1:Nat):Int)) (some false):=by intro b;unfold R5;rw[BX hi (by omega)];cases b<;>rfl
   unfold VU;rw[CC hi,CC (show i<h.AR.AW.length by omega)];unfold cJ;rw[Bw hi,BP,A9 hi,AB,A9 (show i<h.AR.AW.length by omega),AB,Qq (by omega),AB];by_cases Z:C2 h.AG i>h.AR.Room
   .rw[decide_eq_true Z];simp only[AT,B,bne,BP];cases h.AH[i].AW.Total==h.AR.AW[i]<;>cases Jd h.AR h.AH[i] h.AG i h.Now<;>rfl
   .rw[decide_eq_false Z,yk (by omega) (g.Dk _ (BC hi)) h2 (by omega),AB];simp only[AT,B,bne,BS];cases h.AH[i].AW.Total==h.AR.AW[i]<;>cases Jd h.AR h.AH[i] h.AG i h.Now<;>rfl
  .intro L;unfold cJ;rw[Cc,BS,AT]
 have J:∀b,Lq h b=some (!b&&(!(decide ((h.AG.length:Int)>40))&&(Kk h&&(M4 h&&(Gr h.Az h.AH.length&&JW h.Ay h.AH.length))))):=by
  intro b;unfold Lq Kk;rw[Jk (n:=h.AG.length) (E:=Vl h ()) (Zi h) (by omega) ?_ ?_,e7,Cf,G0,G0]
  .intro L i hi;unfold Zi;rw[CC hi];have O:∀b,PW h L i h.AG[i] b=br (!b&&IT (fun k=>JU h.AG k fun q=>!(H4 q h.AG[i])) 0 i) (L ((i+1:Nat):Int)) (some false):=by
    intro b;unfold PW;rw[Bt (by omega),Jk (n:=i) (E:=L ((i+1:Nat):Int)) (fun k=>JU h.AG k fun q=>!(H4 q h.AG[i])) (by omega) ?_ ?_]
    .cases b<;>rfl
    .intro L' k hk;have S:k<h.AG.length:=by omega
     have Q:∀b,Lr L' k b=br (!b) (L' ((k+1:Nat):Int)) (some false):=by intro b;unfold Lr;rw[BX hk (by omega)];cases b<;>rfl
     have a:(h.AG.take i).length=i:=by rw[BH];omega
     have I:at? (h.AG.take i) (k:Int)=some h.AG[k]:=by rw[A9 (by omega)];simp
     rw[CC S];unfold cI H4;rw[Ac,a,Bw hk,BP,I,AB];have eb:(h.AG[i].As==h.AG[k].As)=(h.AG[k].As==h.AG[i].As):=BEq.comm;simp only[AT,Q,gt_iff_lt,eb];cases h.AG[k].As==h.AG[i].As<;>cases decide (h.AG[k].As<h.AG[i].As)<;>cases decide (h.AG[i].Since<h.AG[k].Since)<;>cases decide (h.AG[i].As<h.AG[k].As)<;>cases decide (h.AG[k].Since<h.AG[i].Since)<;>rfl
    .intro L';have a:(h.AG.take i).length=i:=by rw[BH];omega
     unfold cI vH;rw[Ac,a,Cc,BS,AT,BX hi (by omega)]
   unfold cH;rw[Bw hi,BP,A9 hi,AB,M8 (by omega),AB,BN,aQ];simp only[AT,O];generalize IT (fun k=>JU h.AG k fun q=>!(H4 q h.AG[i])) 0 i=X;by_cases j:0<i
   .rw[decide_eq_true j,BP,if_pos j,Jb i j (by omega),A9 (show i-1<h.AG.length by omega),AB,CC (show i-1<h.AG.length by omega)];cases DL h.AR h.AG[i] h.Now<;>cases decide (h.AG[i].As>=h.As)<;>cases decide (h.AG[i-1].Id>=h.AG[i].Id)<;>rfl
   .rw[decide_eq_false j,BS,if_neg j];cases DL h.AR h.AG[i] h.Now<;>cases decide (h.AG[i].As>=h.As)<;>rfl
  .intro L;unfold cH;rw[Cc,BS,AT]
 have e:((h.AH.length:Int)==(h.AR.AW.length:Int))=true:=by rw[beq_iff_eq];omega
 simp only[Hh (show h.AR.AW.length<2 ^ 62 by omega),FE,AB,BN,AT,J,Bp,BW,Cf,G0,bne,DD,e,BP,H2,Bool.true_and];congr 1;ac_rfl
def Rh(n:Int):Bool:=inB n 0 9999
theorem APv(n:Int):Zy n=some (Rh n):=by unfold Zy Rh;rw[GC,AB]
theorem ANh(n:Int):RX n=some (Rh n):=by unfold RX Rh;rw[FE,AB]
def KC(q:B9):Bool:=
 if q.Kind=1 then Rh q.Id&&(Rh q.AX&&(inB q.BY (-1) 9999&&(Rh q.A5&&Rh q.Ci)))
 else if q.Kind=2\/q.Kind=4\/q.Kind=5\/q.Kind=7 then Rh q.Id&&(q.AX==0&&(q.BY==0&&(q.A5==0&&q.Ci==0)))
 else if q.Kind=3 then Rh q.AX&&(Rh q.A5&&(q.Id==0&&(q.BY==0&&q.Ci==0)))
 else if q.Kind=6 then q.Id==0&&(q.AX==0&&(q.BY==0&&(q.A5==0&&q.Ci==0)))
 else false
theorem jS(q:B9):oI q=some (KC q):=by
 obtain⟨k,a,b,c,d,e⟩:=q;unfold oI IF TN IF KC;simp only[AT,APv,AB,GC,Cf,Bb,beq_iff_eq]
 grind
theorem gv(q:B9):Vn q=some (KC q):=by
 obtain⟨k,a,b,c,d,e⟩:=q;unfold Vn GS PX GS KC;simp only[AT,ANh,AB,FE,Cf,Bb,beq_iff_eq]
 grind
structure CR(e:Ap):Prop where
 EN:Bf e.BU
 log:e.Bi.Log.Data.length<=1048576
 even:e.Bi.GG.Data.length<=1048576
 odd:e.Bi.Odd.Data.length<=1048576
 laid:e.Laid.length<=1048576
def GV(e:Ap):Bool:=Dr e.BU&&(S8 e.Bi&&(!(decide ((e.Laid.length:Int)>8))&&(inB e.Seq e.Laid.length 1000000&&e.Laid.all KC)))
theorem Lf{e:Ap}(a:CR e):AG0 e=some (GV e):=by
 have g:=a.laid;have c:∀b,TO e b=some (!b&&e.Laid.all KC):=by
  intro b;unfold TO;rw[kS (l:=e.Laid) KC (E:=some true) (by omega) ?_ ?_,Cf,CA,G0]
  .intro L i h;unfold oJ;rw[Bw h,BP,A9 h,AB,jS,AB,BN]
  .grind[oJ,ADm,BS,AT]
 unfold AG0 GV;simp only[Hm a.EN,tF,GC,AB,BN,AT,c,Bp,BW,Cf,G0,DD]
theorem Lb{e:Ap}(a:CR e):cL e=some (GV e):=by
 have g:=a.laid;have c:∀b,PY e b=some (!b&&e.Laid.all KC):=by
  intro b;unfold PY;rw[kS (l:=e.Laid) KC (E:=some true) (by omega) ?_ ?_,Cf,CA,G0]
  .intro L i h;unfold cM;rw[Bw h,BP,A9 h,AB,gv,AB,BN]
  .grind[cM,vI,BS,AT]
 unfold cL GV;simp only[GW a.EN,rQ,FE,AB,BN,AT,c,Bp,BW,Cf,G0,DD]
def tU(e:Ap)(b:Bool):Int:=if b=true then w64 ((e.Bi.Log.Data.length:Int)-e.Bi.Log.Safe) else 0
theorem yv{e:Ap}(a:CR e):vJ e=some (tU e (GV e)):=by
 unfold vJ tU;rw[Lb a,AB,BN,Bb];split<;>rfl
theorem AUB{n:Nat}{F:(Int->AA Bool)->Int->AA Bool}(a:n<2 ^ 63)(step:∀L (i:Nat),i<n->F L (i:Int)=L (w64 ((i:Int)+1)))(stop:∀L,F L (n:Int)=some true) :
 br ((n:Int) != (n:Int)) (some false) (A7 F big 0)=some true:=by
 rw[Bb,if_neg (by simp)];exact AQT a (fun L i h=>by rw[step L i h,BX h a]) stop
theorem ne_self(a:Int):(a != a)=false:=by simp
end Lv.P
