/- Plain laws about what the program computes. -/
import Derived.Test.YtcmjfplpdjflnaaGreatPAb
noncomputable section
set_option linter.unusedVariables false
set_option linter.unusedSimpArgs false
set_option linter.unusedSectionVars false
open Bool renaming and_eq_true->AF,and_false->C8,and_true->Ci,eq_iff_iff->Hb,false_and->Bj,not_eq_true'->BG,not_false->Hz,not_not->DQ,not_true->CL
open Int renaming toNat_natCast->Ad
open List renaming drop_length->EP,foldl_cons->Bw,getElem_mem->Au,getElem_of_mem->F7,length_append->AP,length_cons->AI,length_take->BS,map_cons->AJ,mem_cons->Ap,mem_flatten->ES,pairwise_iff_getElem->CW
open Nat renaming add_sub_cancel->Cm,lt_or_ge->AZ,sub_self->Dl,zero_add->Ar
namespace Lv.P
open Go (IntKind BinOp UnOp)
def QG(p:BH):Bool:=inB p.At 1 1000008&&inB p.Id 1 999
structure Nv(w:A0):Prop where
 nine:w.Ao.length=9
 few:w.Ao.flatten.length<=10
 pins:∀p∈w.Ao.flatten,QG p=true
 ids:w.Ao.flatten.Pairwise fun a b=>a.Id≠b.Id
 at_:∀i (h:i<w.Ao.length) k (hk:k<w.Ao[i].length),w.Ao[i][k].At.tmod 9=(i:Int)
 srt:∀i (h:i<w.Ao.length) k (hk:k+1<w.Ao[i].length),ltP w.Ao[i][k] w.Ao[i][k+1]=true
def H5(w:A0):Bool:=@decide (Nv w) (Classical.propDecidable _)
theorem Dr{w:A0}:H5 w=true↔Nv w:=by grind[H5]
def DW(w:A0):Prop:=w.Ao.length<=1048576/\w.Ao.flatten.length<=1048576
theorem Vz{α:Type}{l:List (List α)}{i:Nat}(h:i<l.length):(l.take i).flatten.length+l[i].length<=l.flatten.length:=by
 grind[DR,List.take_append_drop]
theorem Ir{l:List (List BH)}{i:Nat}(h:i<l.length):l[i].length<=l.flatten.length:=by have:=Vz h;omega
theorem kC{w:A0}(a:DW w):AOM w=some w.Ao.flatten:=by
 have hlim:lim=268435456:=rfl;have c:=a.1;have e:=a.2;unfold AOM;refine(C1 (n:=w.Ao.length) (fun i (v:List BH)=>(v,(i:Int))) (fun i v=>v=(w.Ao.take i).flatten) (fun i v=>some w.Ao.flatten) (by omega) ?_ (by simp));intro L i v g hi j;unfold AIu AIt;dsimp only;rcases AZ i w.Ao.length with h|h
 .have:=Vz h
  grind[BK,BJ,AB,B8,Bt,List.take_add_one]
 grind[BL,AV]
def Zk(s:List BH)(i:Nat)(k:Nat):Bool:=JG s k fun p=>(p.At.tmod 9==(i:Int))&&(if 0<k then JG s (k-1) (fun d=>ltP d p) else true)
def ng(l:List BH)(i:Nat):Bool:=JG l i fun p=>QG p&&IJ (fun k=>JG l k fun q=>!(q.Id==p.Id)) 0 i
theorem KJ{w:A0}(H:DW w):AAp w=some (H5 w):=by
 have Z:=H.1;have h2:=H.2;have G:aD w ()=some (IJ (fun i=>JG w.Ao i fun s=>IJ (Zk s i) 0 s.length) 0 w.Ao.length):=by
  unfold aD;rw[JT (n:=w.Ao.length) (E:=some true) (fun i=>JG w.Ao i fun s=>IJ (Zk s i) 0 s.length) (by omega) ?_ ?_,Cp,Ci]
  .intro L i h;have hs:=Ir h;rw[CS h];unfold py;rw[B4 h,BK];refine JT (n:=w.Ao[i].length) (E:=L ((i+1:Nat):Int)) (Zk w.Ao[i] i) (by omega) ?_ ?_
   .intro L' k a;have I:=Bt a (show w.Ao[i].length<2 ^ 63 by omega);unfold Zk;rw[CS a];unfold pz aE;rw[BJ h,AB,B4 a,BK,aH];simp only[AB,BJ a,AV,I,BK,BL];by_cases c:0<k
    .rw[decide_eq_true c,BK,AX c,JN k c (by omega),BJ (show k-1<w.Ao[i].length by omega),AB,Zj,AB,CS (show k-1<w.Ao[i].length by omega),bne];cases w.Ao[i][k].At.tmod 9==(i:Int)<;>cases ltP w.Ao[i][k-1] w.Ao[i][k]<;>rfl
    .rw[decide_eq_false c,BL,AU c,bne];cases w.Ao[i][k].At.tmod 9==(i:Int)<;>rfl
   .intro L';unfold pz AAq;rw[BJ h,AB,C0,BL,AV,Bt h (by omega)]
  .intro L;unfold py AAr;rw[C0,BL,AV]
 have e:∀b,aB w w.Ao.flatten b=some (!b&&(IJ (ng w.Ao.flatten) 0 w.Ao.flatten.length&&IJ (fun i=>JG w.Ao i fun s=>IJ (Zk s i) 0 s.length) 0 w.Ao.length)):=by
  intro b;unfold aB;rw[JT (n:=w.Ao.flatten.length) (E:=aD w ()) (ng w.Ao.flatten) (by omega) ?_ ?_,G,Cp,HE]
  .intro L i h;unfold ng;rw[CS h];have B:∀b,aC w.Ao.flatten L i b=br (!b&&IJ (fun k=>JG w.Ao.flatten k fun q=>!(q.Id==w.Ao.flatten[i].Id)) 0 i) (L ((i+1:Nat):Int)) (some false):=by
    intro b;unfold aC;rw[JT (n:=i) (E:=L ((i+1:Nat):Int)) (fun k=>JG w.Ao.flatten k fun q=>!(q.Id==w.Ao.flatten[i].Id)) (by omega) ?_ ?_]
    .cases b<;>rfl
    .intro L' k a;rw[CS (show k<w.Ao.flatten.length by omega)];unfold px;rw[B4 a,BK];simp only[BJ h,BJ (show k<w.Ao.flatten.length by omega),AB,Bt a (show i<2 ^ 63 by omega)];cases w.Ao.flatten[k].Id==w.Ao.flatten[i].Id<;>rfl
    .intro L';unfold px AIv;rw[C0,BL,AV,Bt h (by omega)]
   unfold pw QG;rw[B4 h,BK];simp only[BJ h,AB,GB,BB,AV,B];generalize IJ (fun k=>JG w.Ao.flatten k fun q=>!(q.Id==w.Ao.flatten[i].Id)) 0 i=X;cases inB w.Ao.flatten[i].At 1 1000008<;>cases inB w.Ao.flatten[i].Id 1 999<;>rfl
  .intro L;unfold pw;rw[C0,BL,AV]
 unfold AAp;rw[kC H,AB,AV,AV,e,e,CL,Bj,bne,BB,Cp];congr 1;rw[Hb,Dr];simp only[AF,beq_iff_eq,BG,decide_eq_false_iff_not,Jo];constructor
 .rintro⟨J,O,a3,a4⟩;refine⟨by omega,by omega,?_,?_,?_,?_⟩
  .intro p Y;obtain⟨k,a,rfl⟩:=F7 Y;have:=a3 k a;unfold ng at this;rw[CS a,AF]at this;exact this.1
  .rw[CW];intro i j hi g y;have:=a3 j g;unfold ng at this;rw[CS g,AF,Jo]at this;have:=this.2 i y;rw[CS hi]at this;simpa using this
  .intro i h k a;have:=a4 i h;rw[CS h,Jo]at this;have:=this k a;unfold Zk at this;rw[CS a,AF,beq_iff_eq]at this;exact this.1
  .intro i h k a;have:=a4 i h;rw[CS h,Jo]at this;have:=this (k+1) a;unfold Zk at this;rw[CS a,AF,AX (by omega),Cm,CS (by omega)]at this;exact this.2
 .rintro⟨J,O,a3,a4,Q,S⟩;refine⟨by omega,by omega,?_,?_⟩
  .intro k a;unfold ng;rw[CS a,AF,Jo];refine⟨a3 _ (Au _),fun j g=>?_⟩;rw[CS (by omega)];rw[CW]at a4;have:=a4 j k (by omega) a g;simpa using this
  .intro i h;rw[CS h,Jo];intro k a;unfold Zk;rw[CS a,AF,beq_iff_eq];refine⟨Q i h k a,?_⟩;split
   .rename_i c;obtain⟨k,rfl⟩:∃j,k=j+1:=⟨k-1,by omega⟩;rw[Cm,CS (by omega)];exact S i h k a
   .rfl
def NV(m:List (Int×Int))(p:BH):List (Int×Int):=I6 m p.Id (w64 (Lj m p.Id+1))
theorem AUj:∀{m:List (Int×Int)} {n v:Int},n∈m.map (·.1)->(I6 m n v).map (·.1)=m.map (·.1)
 | [],n,v,h=>by simp at h|(k,w)::m,n,v,h=>by
  unfold I6;by_cases e:n=k
  .rw[AX e];rfl
  .rw[AU e];rw[AJ,Ap]at h;rw[AJ,AUj (h.resolve_left e)];rfl
theorem AJx:∀{m:List (Int×Int)} {n v:Int},n∉m.map (·.1)->(I6 m n v).map (·.1)=m.map (·.1)++[n]
 | [],n,v,h=>rfl|(k,w)::m,n,v,h=>by
  unfold I6;rw[AJ,Ap,not_or]at h;rw[AU h.1,AJ,AJx h.2];rfl
theorem ANI:∀(l:List BH) (m:List (Int×Int)),(l.foldl NV m).length<=m.length+l.length/\((l.foldl NV m).length=m.length+l.length↔(∀p∈l,p.Id∉m.map (·.1))/\l.Pairwise fun a b=>a.Id≠b.Id)
 | [],m=>by simp|p::l,m=>by
  rw[Bw];have c:=ANI l (NV m p);by_cases h:p.Id∈m.map (·.1)
  .have e:(NV m p).map (·.1)=m.map (·.1):=AUj h;have el:(NV m p).length=m.length:=by simpa using congrArg List.length e
   rw[el]at c;refine⟨by rw[AI];omega,?_⟩;constructor
   .intro g;rw[AI]at g;omega
   .intro g;exact absurd h (g.1 p List.mem_cons_self)
  .have e:(NV m p).map (·.1)=m.map (·.1)++[p.Id]:=AJx h;have el:(NV m p).length=m.length+1:=by simpa using congrArg List.length e
   grind[List.pairwise_cons]
theorem T4(p:BH):lf p=some (QG p):=by
 unfold lf bR QG;simp only[FD,AB,AV,Cp]
def UL(s:List BH)(i:Nat)(k:Nat):Bool:=JG s k fun p=>QG p&&((p.At.tmod 9==(i:Int))&&(if 0<k then JG s (k-1) (fun d=>!(ltP p d)) else true))
theorem nn(p:Nat->Bool){i n:Nat}(h:i<n):IJ p i (n-i)=(p i&&IJ p (i+1) (n-(i+1))):=by rw[show n-i=(n-(i+1))+1 by omega];rfl
theorem AFr{s:List BH}(I:s.length<=1048576){L:List (Int×Int)×Int×Int->AA Bool}{i:Nat}(hi:i<9){m:List (Int×Int)}{n:Nat}(H:n<=2 ^ 50) :
 A3 (bV L i s) big (m,(n:Int),0)=br (IJ (UL s i) 0 s.length) (L (s.foldl NV m,((n+s.length:Nat):Int),((i+1:Nat):Int))) (some false):=by
 refine(C1 (n:=s.length) (fun k (v:List (Int×Int)×Nat)=>(v.1,(v.2:Int),(k:Int))) (fun k v=>v.2=n+k) (fun k v=>br (IJ (UL s i) k (s.length-k)) (L ((s.drop k).foldl NV v.1,((n+s.length:Nat):Int),((i+1:Nat):Int))) (some false)) (by omega) ?_ (v:=(m,n)) rfl);rintro L' k ⟨m,g⟩ j G q;dsimp only at j q ⊢;unfold bV Q2;dsimp only;rcases AZ k s.length with h|h
 .have e:=q (NV m s[k],g+1) (by dsimp only;omega) h;dsimp only at e;have ew:w64 ((g:Int)+1)=((g+1:Nat):Int):=by rw[Ah (by omega) (by omega)];rfl
  rw[B4 h,BK,BJ h,AB,T4,AB,BB,nn _ h,DR h,Bw,aH];simp only[AV,BK,BL,Bt h (show s.length<2 ^ 63 by omega),ew];have ed:I6 m s[k].Id (w64 (Lj m s[k].Id+1))=NV m s[k]:=rfl;rw[ed,e];unfold UL;rw[CS h];generalize IJ _ (k+1) (s.length-(k+1))=X;generalize L _=Z;by_cases a:0<k
  .obtain⟨c,y,E,B⟩:=Me s[k-1] s[k];rw[decide_eq_true a,BK,AX a,JN k a (by omega),BJ (show k-1<s.length by omega),AB,y,AB,B,CS (show k-1<s.length by omega),bne];cases QG s[k]<;>cases s[k].At.tmod 9==(i:Int)<;>cases ltP s[k] s[k-1]<;>rfl
  .rw[decide_eq_false a,BL,AU a,bne];cases QG s[k]<;>cases s[k].At.tmod 9==(i:Int)<;>rfl
 .obtain rfl:k=s.length:=by omega
  unfold wD;dsimp only;rw[C0,BL,AV,Bt (i:=i) (n:=9) hi (by omega),Dl,EP,j];rfl
theorem J6{w:A0}(I:DW w):TC w=some (H5 w):=by
 have h1:=I.1;have h2:=I.2;unfold TC;rw[bne,BB];by_cases B:w.Ao.length=9
 .have g:((w.Ao.length:Int)==9)=true:=by rw[beq_iff_eq];omega
  rw[g,BK];have:=(C1 (F:=bU w) (n:=w.Ao.length) (fun k (v:List (Int×Int)×Nat)=>(v.1,(v.2:Int),(k:Int))) (fun k v=>v.2=(w.Ao.take k).flatten.length) (fun k v=>br (IJ (fun i=>JG w.Ao i fun s=>IJ (UL s i) 0 s.length) k (w.Ao.length-k)) (Un ((w.Ao.drop k).flatten.foldl NV v.1,((v.2+(w.Ao.drop k).flatten.length:Nat):Int))) (some false)) (by omega) ?_ (v:=([],0)) (by simp))
  .refine Eq.trans this ?_;unfold Un bS;simp only[List.drop_zero,Ar,AV,Cp,Nat.sub_zero];congr 1;have E:=ANI w.Ao.flatten [];rw[List.length_nil,Ar]at E;rw[Hb,Dr];simp only[AF,beq_iff_eq,decide_eq_true_iff,Jo];have Y:((w.Ao.flatten.foldl NV []).length:Int)=(w.Ao.flatten.length:Int)↔w.Ao.flatten.Pairwise fun a b=>a.Id≠b.Id:=by
    rw[Int.ofNat_inj,E.2];simp
   rw[Y];constructor
   .rintro⟨y,O,a3⟩;have c:∀i (h:i<w.Ao.length) k (c:k<w.Ao[i].length),QG w.Ao[i][k]=true/\w.Ao[i][k].At.tmod 9=(i:Int)/\(if 0<k then JG w.Ao[i] (k-1) (fun d=>!(ltP w.Ao[i][k] d)) else true)=true:=by
     intro i h k c;have:=y i h;rw[CS h,Jo]at this;have:=this k c;unfold UL at this;rw[CS c,AF,AF,beq_iff_eq]at this;exact this
    refine⟨B,by omega,?_,a3,fun i h k e=>(c i h k e).2.1,?_⟩
    .intro p q;obtain⟨s,hs,q⟩:=ES.1 q;obtain⟨i,hi,rfl⟩:=F7 hs;obtain⟨k,e,rfl⟩:=F7 q;exact(c i hi k e).1
    .intro i h k e;have:=(c i h (k+1) e).2.2;rw[AX (by omega),Cm,CS (by omega),BG,iz]at this;have G:=(List.pairwise_flatten.1 a3).1 _ (Au h);rw[CW]at G;have:=G k (k+1) (by omega) e (by omega);rw[QA];omega
   .rintro⟨y,O,a3,a4,Q,S⟩;refine⟨?_,by omega,a4⟩;intro i h;rw[CS h,Jo];intro k c;unfold UL;rw[CS c,AF,AF,beq_iff_eq];refine⟨a3 _ (ES.2 ⟨_,Au h,Au c⟩),Q i h k c,?_⟩;split
    .obtain⟨k,rfl⟩:∃j,k=j+1:=⟨k-1,by omega⟩;rw[Cm,CS (by omega),BG];exact Ei.o9 _ _ (S i h k c)
    .rfl
  .rintro L k ⟨m,n⟩ H c J;dsimp only at H J ⊢;unfold bU;dsimp only;rcases AZ k w.Ao.length with h|h
   .have hf:=Vz h;rw[B4 h,BK,BJ h,AB,AFr (by omega) (by omega) (by omega),nn _ h,CS h];have ef:(w.Ao.take (k+1)).flatten=(w.Ao.take k).flatten++w.Ao[k]:=by rw[List.take_add_one,List.getElem?_eq_getElem h,List.flatten_append];simp
    have:=J (w.Ao[k].foldl NV m,n+w.Ao[k].length) (by dsimp only;rw[ef,AP,H]) h;dsimp only at this;rw[this,DR h,List.flatten_cons,List.foldl_append,AP,Nat.add_assoc];generalize IJ _ (k+1) _=X;generalize Un _=Z;cases IJ (UL w.Ao[k] k) 0 w.Ao[k].length<;>rfl
   .obtain rfl:k=w.Ao.length:=by omega
    rw[C0,BL,AV,Dl,EP];rfl
 .have g:((w.Ao.length:Int)==9)=false:=by rw[beq_eq_false_iff_ne];omega
  rw[g,BL];congr 1;have:¬(H5 w=true):=by rw[Dr];exact fun h=>B h.nine
  rw[Bool.not_eq_true]at this;exact this.symm
def FP(w:A0):List BH:=if H5 w=true then DK ltP w.Ao.flatten else []
theorem Zg{w:A0}(a:DW w):ANf w=some (FP w):=by
 have hlim:lim=268435456:=rfl;have c:=a.2;unfold ANf FP;rw[KJ a,AB,BB,kC a,AB,B7];split
 .rw[RP (l:=w.Ao.flatten) (fun v p=>put ltP p v) (fun i v=>v.length<=i) some (by omega) ?_ ?_ ?_ (by simp),<-YL Ei aS]
  .grind[pQ,BK,BJ,AB,UK]
  .intro i h v e;rw[FX];omega
  grind[pQ,AGJ,BL,AV]
 .rfl
theorem ZM{w:A0}(c:DW w):wW w=some (FP w):=by
 have hlim:lim=268435456:=rfl;have g:=c.1;have j:=c.2;unfold wW FP;rw[J6 c,AB,BB,B7];split
 .rename_i a;have a:=Dr.1 a;refine(C1 (n:=w.Ao.length) (fun i (v:List BH)=>(v,(i:Int))) (fun i v=>v=(w.Ao.take i).flatten) (fun i v=>some (DK ltP w.Ao.flatten)) (by omega) ?_ (by simp));intro L i v e hi q;unfold wg wa;dsimp only;rcases AZ i w.Ao.length with h|h
  .have:=Vz h
   grind[BK,BJ,AB,B8,Bt,List.take_add_one]
  .obtain rfl:i=w.Ao.length:=by omega
   have:=a.few;rw[C0,BL,AV,e,List.take_length,AYy (by omega),AB]
 .rfl
def FJ(c:Ab):Prop:=c.Row.length<=1048576/\DW c.Bq
structure B0(h:AE):Prop where
 Dw:h.AQ.AW.length<=1048576
 CP:h.AG.length<=1048576
 EU:h.AH.length<=1048576
 D1:∀c∈h.AH,FJ c
 todo:h.BF.length<=1048576
 GM:h.BC.length<=1048576
def Qu(c:Ab):Bool:=Et c.AW&&(KF c.Row&&H5 c.Bq)
theorem uL{c:Ab}(a:FJ c):AVv c=some (Qu c):=by
 have:=a.1;unfold AVv aF Qu;simp only[OF,uU c.Row (by omega),KJ a.2,AB,AV,Cp]
theorem sP{c:Ab}(a:FJ c):AGV c=some (Qu c):=by
 have:=a.1;unfold AGV Uo Qu;simp only[Ft,V8 c.Row (by omega),J6 a.2,AB,AV,Cp]
theorem Kz{w:A0}(a:DW w):(FP w).length<=1048576:=by
 unfold FP;split
 .rw[Im];exact a.2
 .simp
def Js(r:Aa)(c:Ab)(l:List AN)(k now:Int):Bool:=
 Qu c&&(Ic eqE c.Row (Dq r l k now)&&(Ic eqP (FP c.Bq) (Fu l k)&&((c.AW.Ee==IY l k)&&(c.AW.Fx==I1 l k))))
theorem ACS{r:Aa}(g:r.AW.length<2 ^ 62){c:Ab}(a:FJ c){l:List AN}(e:l.length<=1048576)(k now:Int):AVp r c l k now=some (Js r c l k now):=by
 have h:=a.1;have j:=Kz a.2;unfold AVp SP Js;simp only[uL a,QQ g e,uX (show c.Row.length<2 ^ 62 by omega),Zg a.2,Zf e,kz (show (FP c.Bq).length<2 ^ 62 by omega),Ze (show l.length<2 ^ 58 by omega),Zh (show l.length<2 ^ 58 by omega),AB,AV,Cp]
theorem ABG{r:Aa}(h:r.AW.length<2 ^ 62){c:Ab}(a:FJ c){l:List AN}(g:l.length<=1048576){k:Int}(e:DF l k<=19)(now:Int):AGl r c l k now=some (Js r c l k now):=by
 have j:=a.1;have q:=Kz a.2;unfold AGl OY Js;simp only[sP a,P4 h g e,ABJ (show c.Row.length<2 ^ 62 by omega),ZM a.2,ZL g e,ABL (show (FP c.Bq).length<2 ^ 62 by omega),ZK (show l.length<2 ^ 58 by omega),ZO (show l.length<2 ^ 58 by omega),AB,AV,Cp]
def H3(q p:AN):Bool:=(q.Az==p.Az)||((decide (q.Az<p.Az)&&decide (p.Since<q.Since))||(decide (p.Az<q.Az)&&decide (q.Since<p.Since)))
def ZU(h:AE)(i:Nat):Bool:=
 JG h.AG i fun p=>Dp h.AQ p h.Now&&(!(decide (p.Az>=h.Az))&&((if 0<i then JG h.AG (i-1) (fun q=>!(decide (q.Id>=p.Id))) else true)&&IJ (fun k=>JG h.AG k fun q=>!(H3 q p)) 0 i))
def KD(h:AE):Bool:=IJ (ZU h) 0 h.AG.length
theorem Zt{h:AE}(e:B0 h):AVs h=some (KD h):=by
 have y:=e.Dw;have B:=e.CP;unfold AVs KD;rw[JT (n:=h.AG.length) (E:=some true) (ZU h) (by omega) ?_ ?_,Cp,Ci]
 .intro L i hi;unfold ZU;rw[CS hi];have j:∀b,SV h L i h.AG[i] b=br (!b&&IJ (fun k=>JG h.AG k fun q=>!(H3 q h.AG[i])) 0 i) (L ((i+1:Nat):Int)) (some false):=by
   intro b;unfold SV;rw[JT (n:=i) (E:=L ((i+1:Nat):Int)) (fun k=>JG h.AG k fun q=>!(H3 q h.AG[i])) (by omega) ?_ ?_]
   .cases b<;>rfl
   .intro L' k g;have a:k<h.AG.length:=by omega
    have c:∀b,Nb L' k b=br (!b) (L' ((k+1:Nat):Int)) (some false):=by intro b;unfold Nb;rw[Bt g (by omega)];cases b<;>rfl
    rw[CS a];unfold pk H3;rw[B4 g,BK,BJ a,AB];simp only[AV,c,gt_iff_lt];cases h.AG[k].Az==h.AG[i].Az<;>cases decide (h.AG[k].Az<h.AG[i].Az)<;>cases decide (h.AG[i].Since<h.AG[k].Since)<;>cases decide (h.AG[i].Az<h.AG[k].Az)<;>cases decide (h.AG[k].Since<h.AG[i].Since)<;>rfl
   .intro L';unfold pk AH9;rw[C0,BL,AV,Bt hi (by omega)]
  unfold pj
  grind[BK,BJ,AB,MV,BB,AV,JG,JN,Dp,decide_eq_false]
 grind[pj,AIA,BL,AV]
theorem UJ{l:List Int}(c:l.length<2 ^ 62)(x:Int):AKY l x=some (l.any (fun y=>y==x)):=by
 unfold AKY;refine(C1 (n:=l.length) (fun i (_:Unit)=>(i:Int)) (fun _ _=>True) (fun i _=>some ((l.drop i).any (fun y=>y==x))) (by omega) ?_ (v:=()) trivial);intro L i _ _ hi a;unfold AIM AIL;rcases AZ i l.length with h|h
 .rw[B4 h,BK,BJ h,AB,Bt h (by omega),DR h,List.any_cons];cases l[i]==x with|true=>rfl|false=>rw[BL,a () trivial h];rfl
 grind[BL,AV]
theorem N5{l:List Int}(a:l.length<2 ^ 62)(x:Int):lj l x=some (l.any (fun y=>y==x)):=by
 unfold lj ANq;rw[Pc (l:=l) (p:=fun y=>x==y) (by omega) ?_ ?_,AB]
 .congr 1;rw[Hb,decide_eq_true_iff,List.any_eq_true];have:=ar (p:=fun y=>x==y) (l:=l) (s:=0)
  grind
 .grind[bm,BK,BJ,AB]
 grind[bm,w9,BL,AV]
def SC(t:List Int)(n:Int)(i:Nat):Bool:=JG t i fun k=>inB k 0 (w64 (n-1))&&!((t.take i).any fun y=>y==k)
def Ig(t:List Int)(n:Int):Bool:=IJ (SC t n) 0 t.length
def MF(t:List Int)(n:Int):Bool:=t.all fun x=>inB x (-1) (w64 (n-1))
theorem uZ{h:AE}(a:B0 h):AVt h=some (Ig h.BF h.AH.length&&(MF h.BC h.AH.length&&((h.BC.length:Int)==h.AQ.Cx))):=by
 have e:=a.todo;have g:=a.GM;have c:Z8 h ()=some (MF h.BC h.AH.length&&((h.BC.length:Int)==h.AQ.Cx)):=by
  unfold Z8 MF;rw[lK (l:=h.BC) (fun x=>inB x (-1) (w64 ((h.AH.length:Int)-1))) (E:=some ((h.BC.length:Int)==h.AQ.Cx)) (by omega) ?_ ?_,Cp]
  .intro L i hi;unfold pq;rw[B4 hi,BK,BJ hi,AB,GB,AB,BB]
  .intro L;unfold pq AIe;rw[C0,BL,AV]
 unfold AVt Ig;rw[JT (n:=h.BF.length) (E:=Z8 h ()) (SC h.BF h.AH.length) (by omega) ?_ ?_,c,Cp]
 .intro L i hi;unfold SC;rw[CS hi];unfold po pn
  grind[BK,BJ,AB,GB,BB,B8,UJ,AV,Bt,inB]
 grind[po,BL,AV]
def Yw(h:AE)(i:Nat):Bool:=
 JG h.AH i fun c=>JG h.AQ.AW i (fun s=>c.AW.Total==s)&&(Js h.AQ c h.AG i h.Now&&!(decide (DF h.AG i>h.AQ.Room)))
def MK(h:AE):Bool:=IJ (Yw h) 0 h.AH.length
def D8(h:AE):Bool:=
 D4 h.AQ&&(inB h.Now 0 1000000&&(inB h.Az 1 1000001&&(!(decide ((h.AG.length:Int)>40))&&(((h.AH.length:Int)==(h.AQ.AW.length:Int))&&(KD h&&((Ig h.BF h.AH.length&&(MF h.BC h.AH.length&&((h.BC.length:Int)==h.AQ.Cx)))&&MK h))))))
theorem Io{h:AE}(a:B0 h):pe h=some (D8 h):=by
 have G:=a.Dw;have q:=a.CP;have H:=a.EU;have B:NZ h true=some false:=rfl;unfold pe D8;by_cases y:h.AH.length=h.AQ.AW.length
 .have g:∀b,Z6 h b=some (!b&&MK h):=by
   intro b;unfold Z6 MK;rw[JT (n:=h.AH.length) (E:=some true) (Yw h) (by omega) ?_ ?_,Cp,Ci,HE]
   .intro L i hi;have j:∀b,Ug L i b=br (!b) (L ((i+1:Nat):Int)) (some false):=by intro b;unfold Ug;rw[Bt hi (by omega)];cases b<;>rfl
    unfold Yw;rw[CS hi,CS (show i<h.AQ.AW.length by omega)];unfold pf;rw[B4 hi,BK,BJ hi,AB,BJ (show i<h.AQ.AW.length by omega),AB,AB,ACS (by omega) (a.D1 _ (Au hi)) q,AB,BB,QN (by omega),AB];simp only[AV,j,bne];cases h.AH[i].AW.Total==h.AQ.AW[i]<;>cases Js h.AQ h.AH[i] h.AG i h.Now<;>cases decide (DF h.AG i>h.AQ.Room)<;>rfl
   .intro L;unfold pf AGP;rw[C0,BL,AV]
  have c:∀b,NZ h b=some (!b&&(KD h&&((Ig h.BF h.AH.length&&(MF h.BC h.AH.length&&((h.BC.length:Int)==h.AQ.Cx)))&&MK h))):=by
   intro b;unfold NZ;simp only[Zt a,uZ a,AB,BB,AV,g,CL,Bj,DQ,Cp,HE]
  simp only[Ip (show h.AQ.AW.length<2 ^ 62 by omega),GB,AB,BB,AV,c,CL,Bj,Cp,HE,bne,DQ]
 .have e:((h.AH.length:Int)==(h.AQ.AW.length:Int))=false:=by rw[beq_eq_false_iff_ne];omega
  simp only[Ip (show h.AQ.AW.length<2 ^ 62 by omega),GB,AB,BB,AV,bne,e,Hz,B,AF1,Bj,C8]
theorem Gi{h:AE}(g:B0 h):TD h=some (D8 h):=by
 have h1:=g.Dw;have h2:=g.CP;have h3:=g.EU;have h4:=g.todo;have h5:=g.GM;have ht:LI h true=some false:=rfl;unfold TD D8;by_cases Y:D4 h.AQ=false
 .rw[Gk (by omega),AB,Y,BB,BL,AV,ht];rfl
 rw[Bool.not_eq_false]at Y;have hrm:=(CM Y).2.2.1;by_cases c:h.AH.length≠h.AQ.AW.length
 .have e:((h.AH.length:Int)==(h.AQ.AW.length:Int))=false:=by rw[beq_eq_false_iff_ne];omega
  simp only[Gk (show h.AQ.AW.length<2 ^ 62 by omega),FD,AB,BB,AV,bne,e,Hz,ht,BK,AF1,Bj,C8]
 have c:=Classical.not_not.1 c;have H:SR h ()=some (MF h.BC h.AH.length):=by
  unfold SR MF;rw[lK (l:=h.BC) (fun x=>inB x (-1) (w64 ((h.AH.length:Int)-1))) (E:=some true) (by omega) ?_ ?_,Cp,Ci]
  .intro L i hi;unfold XI;rw[B4 hi,BK,BJ hi,AB,FD,AB,BB,c]
  .intro L;unfold XI lk;rw[C0,BL,AV]
 have G:SQ h ()=some (Ig h.BF h.AH.length&&MF h.BC h.AH.length):=by
  unfold SQ Ig;rw[JT (n:=h.BF.length) (E:=SR h ()) (SC h.BF h.AH.length) (by omega) ?_ ?_,H,Cp]
  .intro L i hi;unfold SC;rw[CS hi];unfold XH XG;rw[B4 hi,BK,BJ hi,AB,WD,AB,BB,B8 (by omega),Ad,N5 (by rw[BS];omega),AB,AV,AV,Bt hi (by omega),BK,c];cases inB h.BF[i] 0 (w64 ((h.AQ.AW.length:Int)-1))<;>cases (h.BF.take i).any (fun y=>y==h.BF[i])<;>rfl
  .intro L;unfold XH;rw[C0,BL,AV]
 have e7:Uu h ()=some (MK h&&(Ig h.BF h.AH.length&&MF h.BC h.AH.length)):=by
  unfold Uu MK;rw[JT (n:=h.AH.length) (E:=SQ h ()) (Yw h) (by omega) ?_ ?_,G,Cp]
  .intro L i hi;have B:∀b,Q5 L i b=br (!b) (L ((i+1:Nat):Int)) (some false):=by intro b;unfold Q5;rw[Bt hi (by omega)];cases b<;>rfl
   unfold Yw;rw[CS hi,CS (show i<h.AQ.AW.length by omega)];unfold bt;rw[B4 hi,BK,BJ hi,AB,BJ (show i<h.AQ.AW.length by omega),AB,P2 (by omega),AB];by_cases Z:DF h.AG i>h.AQ.Room
   .rw[decide_eq_true Z];simp only[AV,B,bne,BK];cases h.AH[i].AW.Total==h.AQ.AW[i]<;>cases Js h.AQ h.AH[i] h.AG i h.Now<;>rfl
   .rw[decide_eq_false Z,ABG (by omega) (g.D1 _ (Au hi)) h2 (by omega),AB];simp only[AV,B,bne,BL];cases h.AH[i].AW.Total==h.AQ.AW[i]<;>cases Js h.AQ h.AH[i] h.AG i h.Now<;>rfl
  .intro L;unfold bt;rw[C0,BL,AV]
 have J:∀b,LI h b=some (!b&&(!(decide ((h.AG.length:Int)>40))&&(KD h&&(MK h&&(Ig h.BF h.AH.length&&MF h.BC h.AH.length))))):=by
  intro b;unfold LI KD;rw[JT (n:=h.AG.length) (E:=Uu h ()) (ZU h) (by omega) ?_ ?_,e7,Cp,HE,HE]
  .intro L i hi;unfold ZU;rw[CS hi];have O:∀b,OZ h L i h.AG[i] b=br (!b&&IJ (fun k=>JG h.AG k fun q=>!(H3 q h.AG[i])) 0 i) (L ((i+1:Nat):Int)) (some false):=by
    intro b;unfold OZ;rw[B8 (by omega),JT (n:=i) (E:=L ((i+1:Nat):Int)) (fun k=>JG h.AG k fun q=>!(H3 q h.AG[i])) (by omega) ?_ ?_]
    .cases b<;>rfl
    .intro L' k hk;have S:k<h.AG.length:=by omega
     have Q:∀b,LJ L' k b=br (!b) (L' ((k+1:Nat):Int)) (some false):=by intro b;unfold LJ;rw[Bt hk (by omega)];cases b<;>rfl
     have a:(h.AG.take i).length=i:=by rw[BS];omega
     have I:at? (h.AG.take i) (k:Int)=some h.AG[k]:=by rw[BJ (by omega)];simp
     rw[CS S];unfold bq H3;rw[Ad,a,B4 hk,BK,I,AB];have eb:(h.AG[i].Az==h.AG[k].Az)=(h.AG[k].Az==h.AG[i].Az):=BEq.comm;simp only[AV,Q,gt_iff_lt,eb];cases h.AG[k].Az==h.AG[i].Az<;>cases decide (h.AG[k].Az<h.AG[i].Az)<;>cases decide (h.AG[i].Since<h.AG[k].Since)<;>cases decide (h.AG[i].Az<h.AG[k].Az)<;>cases decide (h.AG[k].Since<h.AG[i].Since)<;>rfl
    .intro L';have a:(h.AG.take i).length=i:=by rw[BS];omega
     unfold bq xA;rw[Ad,a,C0,BL,AV,Bt hi (by omega)]
   unfold bn;rw[B4 hi,BK,BJ hi,AB,MP (by omega),AB,BB,aH];simp only[AV,O];generalize IJ (fun k=>JG h.AG k fun q=>!(H3 q h.AG[i])) 0 i=X;by_cases j:0<i
   .rw[decide_eq_true j,BK,AX j,JN i j (by omega),BJ (show i-1<h.AG.length by omega),AB,CS (show i-1<h.AG.length by omega)];cases Dp h.AQ h.AG[i] h.Now<;>cases decide (h.AG[i].Az>=h.Az)<;>cases decide (h.AG[i-1].Id>=h.AG[i].Id)<;>rfl
   .rw[decide_eq_false j,BL,AU j];cases Dp h.AQ h.AG[i] h.Now<;>cases decide (h.AG[i].Az>=h.Az)<;>rfl
  .intro L;unfold bn;rw[C0,BL,AV]
 have e:((h.AH.length:Int)==(h.AQ.AW.length:Int))=true:=by rw[beq_iff_eq];omega
 simp only[Gk (show h.AQ.AW.length<2 ^ 62 by omega),FD,AB,BB,AV,J,CL,Bj,Cp,HE,bne,DQ,e,BK,Hz,Bool.true_and];congr 1;ac_rfl
def Ql(n:Int):Bool:=inB n 0 9999
theorem AUp(n:Int):Qb n=some (Ql n):=by unfold Qb Ql;rw[GB,AB]
theorem ASX(n:Int):Qc n=some (Ql n):=by unfold Qc Ql;rw[FD,AB]
def KN(q:Bp):Bool:=
 if q.Kind=1 then Ql q.Id&&(Ql q.AY&&(inB q.Bi (-1) 9999&&(Ql q.BA&&Ql q.Co)))
 else if q.Kind=2\/q.Kind=4\/q.Kind=5\/q.Kind=7 then Ql q.Id&&(q.AY==0&&(q.Bi==0&&(q.BA==0&&q.Co==0)))
 else if q.Kind=3 then Ql q.AY&&(Ql q.BA&&(q.Id==0&&(q.Bi==0&&q.Co==0)))
 else if q.Kind=6 then q.Id==0&&(q.AY==0&&(q.Bi==0&&(q.BA==0&&q.Co==0)))
 else false
theorem j7(q:Bp):Uk q=some (KN q):=by
 obtain⟨k,a,b,c,d,e⟩:=q;unfold Uk Gf OU Gf KN;simp only[AV,AUp,AB,GB,Cp,B7,beq_iff_eq]
 grind
theorem iY(q:Bp):Uw q=some (KN q):=by
 obtain⟨k,a,b,c,d,e⟩:=q;unfold Uw Gg Ob Gg KN;simp only[AV,ASX,AB,FD,Cp,B7,beq_iff_eq]
 grind
structure Cf(e:A7):Prop where
 FN:B0 e.A2
 log:e.Bg.Log.Data.length<=1048576
 even:e.Bg.EZ.Data.length<=1048576
 odd:e.Bg.Odd.Data.length<=1048576
 laid:e.Laid.length<=1048576
def FF(e:A7):Bool:=D8 e.A2&&(NP e.Bg&&(!(decide ((e.Laid.length:Int)>8))&&(inB e.Seq e.Laid.length 1000000&&e.Laid.all KN)))
theorem Hw{e:A7}(a:Cf e):Y1 e=some (FF e):=by
 have g:=a.laid;have c:∀b,OV e b=some (!b&&e.Laid.all KN):=by
  intro b;unfold OV;rw[lK (l:=e.Laid) KN (E:=some true) (by omega) ?_ ?_,Cp,Ci,HE]
  .intro L i h;unfold bK;rw[B4 h,BK,BJ h,AB,j7,AB,BB]
  .grind[bK,vn,BL,AV]
 unfold Y1 FF;simp only[Io a.FN,QR,GB,AB,BB,AV,c,CL,Bj,Cp,HE,DQ]
theorem JH{e:A7}(a:Cf e):Y3 e=some (FF e):=by
 have g:=a.laid;have c:∀b,Oc e b=some (!b&&e.Laid.all KN):=by
  intro b;unfold Oc;rw[lK (l:=e.Laid) KN (E:=some true) (by omega) ?_ ?_,Cp,Ci,HE]
  .intro L i h;unfold bw;rw[B4 h,BK,BJ h,AB,iY,AB,BB]
  .grind[bw,xC,BL,AV]
 unfold Y3 FF;simp only[Gi a.FN,V9,FD,AB,BB,AV,c,CL,Bj,Cp,HE,DQ]
theorem Vv{n:Nat}{F:(Int->AA Bool)->Int->AA Bool}(a:n<2 ^ 63)(step:∀L (i:Nat),i<n->F L (i:Int)=L (w64 ((i:Int)+1)))(stop:∀L,F L (n:Int)=some true) :
 br ((n:Int) != (n:Int)) (some false) (A3 F big 0)=some true:=by
 rw[B7,AU (by simp)];exact AVP a (fun L i h=>by rw[step L i h,Bt h a]) stop
theorem ne_self(a:Int):(a != a)=false:=by simp
def Sz(x:AA Int)(d:Int)(P:Prop):Prop:=∃r,x=some r/\(r<0\/0<=r/\r<=d/\P)
theorem AY1{n:Nat}(e:n<9223372036854775808){d:Int}(a:0<=d)(c:d<=1048576) :
 br (decide (w64 (d-(n:Int))<0)) (some (-1)) (some (w64 (d-(n:Int))))=some (if d-n<0 then -1 else d-n):=by
 grind[Ah,BQ]
theorem AY2{n:Nat}(e:n<9223372036854775808){d:Int}(a:0<=d)(c:d<=1048576) :
 ∃r,br (decide (w64 (d-(n:Int))<0)) (some (-1)) (some (w64 (d-(n:Int))))=some r/\(r<0\/0<=r/\r+n=d):=by
 grind[AY1]
theorem AKk(x:AN):AGm x x=some true:=by
 unfold AGm;simp only[ne_self,BL]
theorem ADF(x:BE):AGX x x=some true:=by
 unfold AGX;simp only[ne_self,BL]
theorem AKj(x:Af):AGY x x=some true:=by
 unfold AGY;simp only[ne_self,BL]
theorem AWC(x:BH):AGa x x=some true:=by
 unfold AGa;simp only[ne_self,BL]
theorem AI5(x:Bp):b7 x x=some true:=by
 unfold b7;simp only[ne_self,BL]
theorem AOY(x:Bl):ll x x=some true:=by
 grind[ll,B7]
theorem Ok{l:List Int}(a:l.length<9223372036854775808):Qd l l=some true:=by
 grind[Qd,Vv,xE,BK,BJ,AB,BL,xD,AV]
theorem ADG{l:List AN}(a:l.length<9223372036854775808):AGn l l=some true:=by
 unfold AGn
 grind[Vv,xH,BK,BJ,AB,AKk,xG,BL,AV]
theorem ADE{l:List Af}(a:l.length<9223372036854775808):AGZ l l=some true:=by
 unfold AGZ
 grind[Vv,wG,BK,BJ,AB,AKj,wF,BL,AV]
theorem AOZ{l:List BH}(a:l.length<9223372036854775808):AGb l l=some true:=by
 unfold AGb
 grind[Vv,wJ,BK,BJ,AB,AWC,wH,BL,AV]
theorem AA0{l:List Bp}(a:l.length<9223372036854775808):xa l l=some true:=by
 unfold xa
 grind[Vv,xc,BK,BJ,AB,AI5,xb,BL,AV]
theorem AKl{l:List (List BH)}(a:l.length<9223372036854775808)(c:∀x∈l,x.length<9223372036854775808):AGc l l=some true:=by
 unfold AGc
 grind[Vv,wP,BK,BJ,AB,AOZ,List.getElem_mem,wN,BL,AV]
theorem AKm(s:Bk):AGv s s=some true:=by
 unfold AGv;simp only[AOY,AB,BB,BK]
theorem ACh{l:List Int}(a:l.length<=1048576):ANn l=some l:=by
 unfold ANn;rw[B8 (by unfold lim;omega),Ad];refine vg (by omega) ?_ ?_
 .grind[pg,BK,BJ,AB,Bt]
 grind[pg,AGh,BL,AV]
theorem ASt{l:List (List BH)}{x:List BH}(h:x∈l):x.length<=l.flatten.length:=by
 grind[List.getElem_of_mem,Ir]
theorem AM9{r:Aa}(a:r.AW.length<=1048576):AC4 r=some r:=by
 unfold AC4;rw[ACh a,AB]
theorem ACa{l:List Int}(e:l.length<9223372036854775808){d:Int}(a:0<=d)(c:d<=1048576):∃r,AVq l d=some r/\(r<0\/0<=r/\r+l.length=d):=AY2 e a c
end Lv.P
