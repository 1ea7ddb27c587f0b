/- Plain laws about what the program computes. -/
import Derived.Test.YtdmpkjjlnjchkaaGreatPA4
noncomputable section
set_option linter.unusedVariables false
set_option linter.unusedSimpArgs false
set_option linter.unusedSectionVars false
open Bool renaming and_eq_true->AF,and_false->DK,and_true->Cd,eq_iff_iff->IV,false_and->Bv,not_eq_true'->BR,not_false->I2,not_not->Dg,not_true->Br
open Int renaming toNat_natCast->Ac
open List renaming drop_length->Et,foldl_cons->B6,getElem_mem->Am,getElem_of_mem->Gl,length_append->AM,length_cons->AH,length_take->BS,map_cons->AJ,mem_cons->Ag,mem_flatten->Ev,pairwise_iff_getElem->Cl
open Nat renaming add_sub_cancel->C2,lt_or_ge->AT,sub_self->D8,zero_add->Av
namespace Lv.P
open Go (IntKind BinOp UnOp)
def V1(p:A6):Bool:=inB p.At 1 1000008&&inB p.Id 1 999
structure Rs(w:An):Prop where
 nine:w.Ak.length=9
 few:w.Ak.flatten.length<=10
 pins:∀p∈w.Ak.flatten,V1 p=true
 ids:w.Ak.flatten.Pairwise fun a b=>a.Id≠b.Id
 at_:∀i (h:i<w.Ak.length) k (hk:k<w.Ak[i].length),w.Ak[i][k].At.tmod 9=(i:Int)
 srt:∀i (h:i<w.Ak.length) k (hk:k+1<w.Ak[i].length),ltP w.Ak[i][k] w.Ak[i][k+1]=true
def HE(w:An):Bool:=@decide (Rs w) (Classical.propDecidable _)
theorem Du{w:An}:HE w=true↔Rs w:=by grind[HE]
def C1(w:An):Prop:=w.Ak.length<=1048576/\w.Ak.flatten.length<=1048576
theorem iV{α:Type}{l:List (List α)}{i:Nat}(h:i<l.length):(l.take i).flatten.length+l[i].length<=l.flatten.length:=by
 grind[DW,List.take_append_drop]
theorem I0{l:List (List A6)}{i:Nat}(h:i<l.length):l[i].length<=l.flatten.length:=by have:=iV h;omega
theorem zY{w:An}(a:C1 w):AYZ w=some w.Ak.flatten:=by
 have hlim:lim=268435456:=rfl;have c:=a.1;have e:=a.2;unfold AYZ;refine(C6 (n:=w.Ak.length) (fun i (v:List A6)=>(v,(i:Int))) (fun i v=>v=(w.Ak.take i).flatten) (fun i v=>some w.Ak.flatten) (by omega) ?_ (by simp));intro L i v g hi j;unfold BDS BDR;dsimp only;rcases AT i w.Ak.length with h|h
 .have:=iV h
  grind[BH,A7,AB,B9,BU,List.take_add_one]
 grind[BN,AR]
def n9(s:List A6)(i:Nat)(k:Nat):Bool:=KZ s k fun p=>(p.At.tmod 9==(i:Int))&&(if 0<k then KZ s (k-1) (fun d=>ltP d p) else true)
def ACg(l:List A6)(i:Nat):Bool:=KZ l i fun p=>V1 p&&JN (fun k=>KZ l k fun q=>!(q.Id==p.Id)) 0 i
theorem HU{w:An}(H:C1 w):Adc w=some (HE w):=by
 have Z:=H.1;have h2:=H.2;have G:BAJ w ()=some (JN (fun i=>KZ w.Ak i fun s=>JN (n9 s i) 0 s.length) 0 w.Ak.length):=by
  unfold BAJ;rw[Km (n:=w.Ak.length) (E:=some true) (fun i=>KZ w.Ak i fun s=>JN (n9 s i) 0 s.length) (by omega) ?_ ?_,Cv,Cd]
  .intro L i h;have hs:=I0 h;rw[Cc h];unfold BB6;rw[CC h,BH];refine Km (n:=w.Ak[i].length) (E:=L ((i+1:Nat):Int)) (n9 w.Ak[i] i) (by omega) ?_ ?_
   .intro L' k a;have I:=BU a (show w.Ak[i].length<2 ^ 63 by omega);unfold n9;rw[Cc a];unfold BB7 BAK;rw[A7 h,AB,CC a,BH,oZ];simp only[AB,A7 a,AR,I,BH,BN];by_cases c:0<k
    .rw[decide_eq_true c,BH,if_pos c,Kg k c (by omega),A7 (show k-1<w.Ak[i].length by omega),AB,n8,AB,Cc (show k-1<w.Ak[i].length by omega),bne];cases w.Ak[i][k].At.tmod 9==(i:Int)<;>cases ltP w.Ak[i][k-1] w.Ak[i][k]<;>rfl
    .rw[decide_eq_false c,BN,if_neg c,bne];cases w.Ak[i][k].At.tmod 9==(i:Int)<;>rfl
   .intro L';unfold BB7 BCy;rw[A7 h,AB,Cp,BN,AR,BU h (by omega)]
  .intro L;unfold BB6 BCz;rw[Cp,BN,AR]
 have e:∀b,BAH w w.Ak.flatten b=some (!b&&(JN (ACg w.Ak.flatten) 0 w.Ak.flatten.length&&JN (fun i=>KZ w.Ak i fun s=>JN (n9 s i) 0 s.length) 0 w.Ak.length)):=by
  intro b;unfold BAH;rw[Km (n:=w.Ak.flatten.length) (E:=BAJ w ()) (ACg w.Ak.flatten) (by omega) ?_ ?_,G,Cv,Hy]
  .intro L i h;unfold ACg;rw[Cc h];have B:∀b,BAI w.Ak.flatten L i b=br (!b&&JN (fun k=>KZ w.Ak.flatten k fun q=>!(q.Id==w.Ak.flatten[i].Id)) 0 i) (L ((i+1:Nat):Int)) (some false):=by
    intro b;unfold BAI;rw[Km (n:=i) (E:=L ((i+1:Nat):Int)) (fun k=>KZ w.Ak.flatten k fun q=>!(q.Id==w.Ak.flatten[i].Id)) (by omega) ?_ ?_]
    .cases b<;>rfl
    .intro L' k a;rw[Cc (show k<w.Ak.flatten.length by omega)];unfold BB5;rw[CC a,BH];simp only[A7 h,A7 (show k<w.Ak.flatten.length by omega),AB,BU a (show i<2 ^ 63 by omega)];cases w.Ak.flatten[k].Id==w.Ak.flatten[i].Id<;>rfl
    .intro L';unfold BB5 BDT;rw[Cp,BN,AR,BU h (by omega)]
   unfold BB4 V1;rw[CC h,BH];simp only[A7 h,AB,Gv,BI,AR,B];generalize JN (fun k=>KZ w.Ak.flatten k fun q=>!(q.Id==w.Ak.flatten[i].Id)) 0 i=X;cases inB w.Ak.flatten[i].At 1 1000008<;>cases inB w.Ak.flatten[i].Id 1 999<;>rfl
  .intro L;unfold BB4;rw[Cp,BN,AR]
 unfold Adc;rw[zY H,AB,AR,AR,e,e,Br,Bv,bne,BI,Cv];congr 1;rw[IV,Du];simp only[AF,beq_iff_eq,BR,decide_eq_false_iff_not,KD];constructor
 .rintro⟨J,O,a3,a4⟩;refine⟨by omega,by omega,?_,?_,?_,?_⟩
  .intro p Y;obtain⟨k,a,rfl⟩:=Gl Y;have:=a3 k a;unfold ACg at this;rw[Cc a,AF]at this;exact this.1
  .rw[Cl];intro i j hi g y;have:=a3 j g;unfold ACg at this;rw[Cc g,AF,KD]at this;have:=this.2 i y;rw[Cc hi]at this;simpa using this
  .intro i h k a;have:=a4 i h;rw[Cc h,KD]at this;have:=this k a;unfold n9 at this;rw[Cc a,AF,beq_iff_eq]at this;exact this.1
  .intro i h k a;have:=a4 i h;rw[Cc h,KD]at this;have:=this (k+1) a;unfold n9 at this;rw[Cc a,AF,if_pos (by omega),C2,Cc (by omega)]at this;exact this.2
 .rintro⟨J,O,a3,a4,Q,S⟩;refine⟨by omega,by omega,?_,?_⟩
  .intro k a;unfold ACg;rw[Cc a,AF,KD];refine⟨a3 _ (Am _),fun j g=>?_⟩;rw[Cc (by omega)];rw[Cl]at a4;have:=a4 j k (by omega) a g;simpa using this
  .intro i h;rw[Cc h,KD];intro k a;unfold n9;rw[Cc a,AF,beq_iff_eq];refine⟨Q i h k a,?_⟩;split
   .rename_i c;obtain⟨k,rfl⟩:∃j,k=j+1:=⟨k-1,by omega⟩;rw[C2,Cc (by omega)];exact S i h k a
   .rfl
def RJ(m:List (Int×Int))(p:A6):List (Int×Int):=KO m p.Id (w64 (Oh m p.Id+1))
theorem AcI:∀{m:List (Int×Int)} {n v:Int},n∈m.map (·.1)->(KO m n v).map (·.1)=m.map (·.1)
 | [],n,v,h=>by simp at h|(k,w)::m,n,v,h=>by
  unfold KO;by_cases e:n=k
  .rw[if_pos e];rfl
  .rw[if_neg e];rw[AJ,Ag]at h;rw[AJ,AcI (h.resolve_left e)];rfl
theorem AUK:∀{m:List (Int×Int)} {n v:Int},n∉m.map (·.1)->(KO m n v).map (·.1)=m.map (·.1)++[n]
 | [],n,v,h=>rfl|(k,w)::m,n,v,h=>by
  unfold KO;rw[AJ,Ag,not_or]at h;rw[if_neg h.1,AJ,AUK h.2];rfl
theorem AXi:∀(l:List A6) (m:List (Int×Int)),(l.foldl RJ m).length<=m.length+l.length/\((l.foldl RJ m).length=m.length+l.length↔(∀p∈l,p.Id∉m.map (·.1))/\l.Pairwise fun a b=>a.Id≠b.Id)
 | [],m=>by simp|p::l,m=>by
  rw[B6];have c:=AXi l (RJ m p);by_cases h:p.Id∈m.map (·.1)
  .have e:(RJ m p).map (·.1)=m.map (·.1):=AcI h;have el:(RJ m p).length=m.length:=by simpa using congrArg List.length e
   rw[el]at c;refine⟨by rw[AH];omega,?_⟩;constructor
   .intro g;rw[AH]at g;omega
   .intro g;exact absurd h (g.1 p List.mem_cons_self)
  .have e:(RJ m p).map (·.1)=m.map (·.1)++[p.Id]:=AUK h;have el:(RJ m p).length=m.length+1:=by simpa using congrArg List.length e
   grind[List.pairwise_cons]
theorem dP(p:A6):AAo p=some (V1 p):=by
 unfold AAo qI V1;simp only[Fs,AB,AR,Cv]
def di(s:List A6)(i:Nat)(k:Nat):Bool:=KZ s k fun p=>V1 p&&((p.At.tmod 9==(i:Int))&&(if 0<k then KZ s (k-1) (fun d=>!(ltP p d)) else true))
theorem ACl(p:Nat->Bool){i n:Nat}(h:i<n):JN p i (n-i)=(p i&&JN p (i+1) (n-(i+1))):=by rw[show n-i=(n-(i+1))+1 by omega];rfl
theorem APz{s:List A6}(I:s.length<=1048576){L:List (Int×Int)×Int×Int->AA Bool}{i:Nat}(hi:i<9){m:List (Int×Int)}{n:Nat}(H:n<=2 ^ 50) :
 A4 (BAT L i s) big (m,(n:Int),0)=br (JN (di s i) 0 s.length) (L (s.foldl RJ m,((n+s.length:Nat):Int),((i+1:Nat):Int))) (some false):=by
 refine(C6 (n:=s.length) (fun k (v:List (Int×Int)×Nat)=>(v.1,(v.2:Int),(k:Int))) (fun k v=>v.2=n+k) (fun k v=>br (JN (di s i) k (s.length-k)) (L ((s.drop k).foldl RJ v.1,((n+s.length:Nat):Int),((i+1:Nat):Int))) (some false)) (by omega) ?_ (v:=(m,n)) rfl);rintro L' k ⟨m,g⟩ j G q;dsimp only at j q ⊢;unfold BAT qJ;dsimp only;rcases AT k s.length with h|h
 .have e:=q (RJ m s[k],g+1) (by dsimp only;omega) h;dsimp only at e;have ew:w64 ((g:Int)+1)=((g+1:Nat):Int):=by rw[Ai (by omega) (by omega)];rfl
  rw[CC h,BH,A7 h,AB,dP,AB,BI,ACl _ h,DW h,B6,oZ];simp only[AR,BH,BN,BU h (show s.length<2 ^ 63 by omega),ew];have ed:KO m s[k].Id (w64 (Oh m s[k].Id+1))=RJ m s[k]:=rfl;rw[ed,e];unfold di;rw[Cc h];generalize JN _ (k+1) (s.length-(k+1))=X;generalize L _=Z;by_cases a:0<k
  .obtain⟨c,y,E,B⟩:=PZ s[k-1] s[k];rw[decide_eq_true a,BH,if_pos a,Kg k a (by omega),A7 (show k-1<s.length by omega),AB,y,AB,B,Cc (show k-1<s.length by omega),bne];cases V1 s[k]<;>cases s[k].At.tmod 9==(i:Int)<;>cases ltP s[k] s[k-1]<;>rfl
  .rw[decide_eq_false a,BN,if_neg a,bne];cases V1 s[k]<;>cases s[k].At.tmod 9==(i:Int)<;>rfl
 .obtain rfl:k=s.length:=by omega
  unfold Avd;dsimp only;rw[Cp,BN,AR,BU (i:=i) (n:=9) hi (by omega),D8,Et,j];rfl
theorem Il{w:An}(I:C1 w):nA w=some (HE w):=by
 have h1:=I.1;have h2:=I.2;unfold nA;rw[bne,BI];by_cases B:w.Ak.length=9
 .have g:((w.Ak.length:Int)==9)=true:=by rw[beq_iff_eq];omega
  rw[g,BH];have:=(C6 (F:=qM w) (n:=w.Ak.length) (fun k (v:List (Int×Int)×Nat)=>(v.1,(v.2:Int),(k:Int))) (fun k v=>v.2=(w.Ak.take k).flatten.length) (fun k v=>br (JN (fun i=>KZ w.Ak i fun s=>JN (di s i) 0 s.length) k (w.Ak.length-k)) (A9K ((w.Ak.drop k).flatten.foldl RJ v.1,((v.2+(w.Ak.drop k).flatten.length:Nat):Int))) (some false)) (by omega) ?_ (v:=([],0)) (by simp))
  .refine Eq.trans this ?_;unfold A9K BAS;simp only[List.drop_zero,Av,AR,Cv,Nat.sub_zero];congr 1;have E:=AXi w.Ak.flatten [];rw[List.length_nil,Av]at E;rw[IV,Du];simp only[AF,beq_iff_eq,decide_eq_true_iff,KD];have Y:((w.Ak.flatten.foldl RJ []).length:Int)=(w.Ak.flatten.length:Int)↔w.Ak.flatten.Pairwise fun a b=>a.Id≠b.Id:=by
    rw[Int.ofNat_inj,E.2];simp
   rw[Y];constructor
   .rintro⟨y,O,a3⟩;have c:∀i (h:i<w.Ak.length) k (c:k<w.Ak[i].length),V1 w.Ak[i][k]=true/\w.Ak[i][k].At.tmod 9=(i:Int)/\(if 0<k then KZ w.Ak[i] (k-1) (fun d=>!(ltP w.Ak[i][k] d)) else true)=true:=by
     intro i h k c;have:=y i h;rw[Cc h,KD]at this;have:=this k c;unfold di at this;rw[Cc c,AF,AF,beq_iff_eq]at this;exact this
    refine⟨B,by omega,?_,a3,fun i h k e=>(c i h k e).2.1,?_⟩
    .intro p q;obtain⟨s,hs,q⟩:=Ev.1 q;obtain⟨i,hi,rfl⟩:=Gl hs;obtain⟨k,e,rfl⟩:=Gl q;exact(c i hi k e).1
    .intro i h k e;have:=(c i h (k+1) e).2.2;rw[if_pos (by omega),C2,Cc (by omega),BR,yQ]at this;have G:=(List.pairwise_flatten.1 a3).1 _ (Am h);rw[Cl]at G;have:=G k (k+1) (by omega) e (by omega);rw[Vp];omega
   .rintro⟨y,O,a3,a4,Q,S⟩;refine⟨?_,by omega,a4⟩;intro i h;rw[Cc h,KD];intro k c;unfold di;rw[Cc c,AF,AF,beq_iff_eq];refine⟨a3 _ (Ev.2 ⟨_,Am h,Am c⟩),Q i h k c,?_⟩;split
    .obtain⟨k,rfl⟩:∃j,k=j+1:=⟨k-1,by omega⟩;rw[C2,Cc (by omega),BR];exact FG.ADY _ _ (S i h k c)
    .rfl
  .rintro L k ⟨m,n⟩ H c J;dsimp only at H J ⊢;unfold qM;dsimp only;rcases AT k w.Ak.length with h|h
   .have hf:=iV h;rw[CC h,BH,A7 h,AB,APz (by omega) (by omega) (by omega),ACl _ h,Cc h];have ef:(w.Ak.take (k+1)).flatten=(w.Ak.take k).flatten++w.Ak[k]:=by rw[List.take_add_one,List.getElem?_eq_getElem h,List.flatten_append];simp
    have:=J (w.Ak[k].foldl RJ m,n+w.Ak[k].length) (by dsimp only;rw[ef,AM,H]) h;dsimp only at this;rw[this,DW h,List.flatten_cons,List.foldl_append,AM,Nat.add_assoc];generalize JN _ (k+1) _=X;generalize A9K _=Z;cases JN (di w.Ak[k] k) 0 w.Ak[k].length<;>rfl
   .obtain rfl:k=w.Ak.length:=by omega
    rw[Cp,BN,AR,D8,Et];rfl
 .have g:((w.Ak.length:Int)==9)=false:=by rw[beq_eq_false_iff_ne];omega
  rw[g,BN];congr 1;have:¬(HE w=true):=by rw[Du];exact fun h=>B h.nine
  rw[Bool.not_eq_true]at this;exact this.symm
def Eo(w:An):List A6:=if HE w=true then DX ltP w.Ak.flatten else []
theorem N6{w:An}(a:C1 w):Adi w=some (Eo w):=by
 have hlim:lim=268435456:=rfl;have c:=a.2;unfold Adi Eo;rw[HU a,AB,BI,zY a,AB,BZ];split
 .rw[Xg (l:=w.Ak.flatten) (fun v p=>put ltP p v) (fun i v=>v.length<=i) some (by omega) ?_ ?_ ?_ (by simp),<-l9 FG pD]
  .grind[ADr,BH,A7,AB,dh]
  .intro i h v e;rw[Ff];omega
  grind[ADr,ASz,BN,AR]
 .rfl
theorem RZ{w:An}(c:C1 w):eU w=some (Eo w):=by
 have hlim:lim=268435456:=rfl;have g:=c.1;have j:=c.2;unfold eU Eo;rw[Il c,AB,BI,BZ];split
 .rename_i a;have a:=Du.1 a;refine(C6 (n:=w.Ak.length) (fun i (v:List A6)=>(v,(i:Int))) (fun i v=>v=(w.Ak.take i).flatten) (fun i v=>some (DX ltP w.Ak.flatten)) (by omega) ?_ (by simp));intro L i v e hi q;unfold pt AHE;dsimp only;rcases AT i w.Ak.length with h|h
  .have:=iV h
   grind[BH,A7,AB,B9,BU,List.take_add_one]
  .obtain rfl:i=w.Ak.length:=by omega
   have:=a.few;rw[Cp,BN,AR,e,List.take_length,AgY (by omega),AB]
 .rfl
def DI(c:AY):Prop:=c.Row.length<=1048576/\C1 c.Bw
structure Bp(h:AD):Prop where
 Dd:h.AO.AV.length<=1048576
 CS:h.AG.length<=1048576
 EG:h.AI.length<=1048576
 De:∀c∈h.AI,DI c
 todo:h.BC.length<=1048576
 F4:h.A8.length<=1048576
def Mg(c:AY):Bool:=Eh c.AV&&(MC c.Row&&HE c.Bw)
theorem PL{c:AY}(a:DI c):AUu c=some (Mg c):=by
 have:=a.1;unfold AUu BAL Mg;simp only[TJ,WB c.Row (by omega),HU a.2,AB,AR,Cv]
theorem Vf{c:AY}(a:DI c):qN c=some (Mg c):=by
 have:=a.1;unfold qN Asc Mg;simp only[GZ,ij c.Row (by omega),Il a.2,AB,AR,Cv]
theorem Io{w:An}(a:C1 w):(Eo w).length<=1048576:=by
 unfold Eo;split
 .rw[IG];exact a.2
 .simp
def Ki(r:AZ)(c:AY)(l:List AK)(k now:Int):Bool:=
 Mg c&&(Eb eqE c.Row (D3 r l k now)&&(Eb eqP (Eo c.Bw) (GJ l k)&&((c.AV.EH==Jk l k)&&(c.AV.E8==KE l k))))
theorem AMm{r:AZ}(g:r.AV.length<2 ^ 62){c:AY}(a:DI c){l:List AK}(e:l.length<=1048576)(k now:Int):AX6 r c l k now=some (Ki r c l k now):=by
 have h:=a.1;have j:=Io a.2;unfold AX6 A89 Ki;simp only[PL a,PQ g e,WC (show c.Row.length<2 ^ 62 by omega),N6 a.2,Z7 e,TL (show (Eo c.Bw).length<2 ^ 62 by omega),Rj (show l.length<2 ^ 58 by omega),Rl (show l.length<2 ^ 58 by omega),AB,AR,Cv]
theorem ALf{r:AZ}(h:r.AV.length<2 ^ 62){c:AY}(a:DI c){l:List AK}(g:l.length<=1048576){k:Int}(e:DQ l k<=19)(now:Int):AYC r c l k now=some (Ki r c l k now):=by
 have j:=a.1;have q:=Io a.2;unfold AYC A8g Ki;simp only[Vf a,Vj h g e,nW (show c.Row.length<2 ^ 62 by omega),RZ a.2,nZ g e,nX (show (Eo c.Bw).length<2 ^ 62 by omega),nY (show l.length<2 ^ 58 by omega),na (show l.length<2 ^ 58 by omega),AB,AR,Cv]
def I4(q p:AK):Bool:=(q.Ap==p.Ap)||((decide (q.Ap<p.Ap)&&decide (p.Since<q.Since))||(decide (p.Ap<q.Ap)&&decide (q.Since<p.Since)))
def nj(h:AD)(i:Nat):Bool:=
 KZ h.AG i fun p=>D9 h.AO p h.Now&&(!(decide (p.Ap>=h.Ap))&&((if 0<i then KZ h.AG (i-1) (fun q=>!(decide (q.Id>=p.Id))) else true)&&JN (fun k=>KZ h.AG k fun q=>!(I4 q p)) 0 i))
def L0(h:AD):Bool:=JN (nj h) 0 h.AG.length
theorem oS{h:AD}(e:Bp h):Afk h=some (L0 h):=by
 have y:=e.Dd;have B:=e.CS;unfold Afk L0;rw[Km (n:=h.AG.length) (E:=some true) (nj h) (by omega) ?_ ?_,Cv,Cd]
 .intro L i hi;unfold nj;rw[Cc hi];have j:∀b,A9D h L i h.AG[i] b=br (!b&&JN (fun k=>KZ h.AG k fun q=>!(I4 q h.AG[i])) 0 i) (L ((i+1:Nat):Int)) (some false):=by
   intro b;unfold A9D;rw[Km (n:=i) (E:=L ((i+1:Nat):Int)) (fun k=>KZ h.AG k fun q=>!(I4 q h.AG[i])) (by omega) ?_ ?_]
   .cases b<;>rfl
   .intro L' k g;have a:k<h.AG.length:=by omega
    have c:∀b,A8b L' k b=br (!b) (L' ((k+1:Nat):Int)) (some false):=by intro b;unfold A8b;rw[BU g (by omega)];cases b<;>rfl
    rw[Cc a];unfold BB2 I4;rw[CC g,BH,A7 a,AB];simp only[AR,c,gt_iff_lt];cases h.AG[k].Ap==h.AG[i].Ap<;>cases decide (h.AG[k].Ap<h.AG[i].Ap)<;>cases decide (h.AG[i].Since<h.AG[k].Since)<;>cases decide (h.AG[i].Ap<h.AG[k].Ap)<;>cases decide (h.AG[k].Since<h.AG[i].Since)<;>rfl
   .intro L';unfold BB2 BDL;rw[Cp,BN,AR,BU hi (by omega)]
  unfold BB1
  grind[BH,A7,AB,PO,BI,AR,KZ,Kg,D9,decide_eq_false]
 grind[BB1,BDM,BN,AR]
theorem WE{l:List Int}(c:l.length<2 ^ 62)(x:Int):Afl l x=some (l.any (fun y=>y==x)):=by
 unfold Afl;refine(C6 (n:=l.length) (fun i (_:Unit)=>(i:Int)) (fun _ _=>True) (fun i _=>some ((l.drop i).any (fun y=>y==x))) (by omega) ?_ (v:=()) trivial);intro L i _ _ hi a;unfold BDO BDN;rcases AT i l.length with h|h
 .rw[CC h,BH,A7 h,AB,BU h (by omega),DW h,List.any_cons];cases l[i]==x with|true=>rfl|false=>rw[BN,a () trivial h];rfl
 grind[BN,AR]
theorem S7{l:List Int}(a:l.length<2 ^ 62)(x:Int):AAs l x=some (l.any (fun y=>y==x)):=by
 unfold AAs AAr;rw[Uw (l:=l) (p:=fun y=>x==y) (by omega) ?_ ?_,AB]
 .congr 1;rw[IV,decide_eq_true_iff,List.any_eq_true];have:=pV (p:=fun y=>x==y) (l:=l) (s:=0)
  grind
 .grind[Ash,BH,A7,AB]
 grind[Ash,ArO,BN,AR]
def WH(t:List Int)(n:Int)(i:Nat):Bool:=KZ t i fun k=>inB k 0 (w64 (n-1))&&!((t.take i).any fun y=>y==k)
def Jw(t:List Int)(n:Int):Bool:=JN (WH t n) 0 t.length
def Nq(t:List Int)(n:Int):Bool:=t.all fun x=>inB x (-1) (w64 (n-1))
theorem AGL{h:AD}(a:Bp h):AdY h=some (Jw h.BC h.AI.length&&(Nq h.A8 h.AI.length&&((h.A8.length:Int)==h.AO.Cs))):=by
 have e:=a.todo;have g:=a.F4;have c:AxC h ()=some (Nq h.A8 h.AI.length&&((h.A8.length:Int)==h.AO.Cs)):=by
  unfold AxC Nq;rw[AAY (l:=h.A8) (fun x=>inB x (-1) (w64 ((h.AI.length:Int)-1))) (E:=some ((h.A8.length:Int)==h.AO.Cs)) (by omega) ?_ ?_,Cv]
  .intro L i hi;unfold BB3;rw[CC hi,BH,A7 hi,AB,Gv,AB,BI]
  .intro L;unfold BB3 BDP;rw[Cp,BN,AR]
 unfold AdY Jw;rw[Km (n:=h.BC.length) (E:=AxC h ()) (WH h.BC h.AI.length) (by omega) ?_ ?_,c,Cv]
 .intro L i hi;unfold WH;rw[Cc hi];unfold AQ9 AQ8
  grind[BH,A7,AB,Gv,BI,B9,WE,AR,BU,inB]
 grind[AQ9,BN,AR]
def eJ(h:AD)(i:Nat):Bool:=
 KZ h.AI i fun c=>KZ h.AO.AV i (fun s=>c.AV.Total==s)&&(Ki h.AO c h.AG i h.Now&&!(decide (DQ h.AG i>h.AO.Room)))
def O7(h:AD):Bool:=JN (eJ h) 0 h.AI.length
def DR(h:AD):Bool:=
 Dp h.AO&&(inB h.Now 0 1000000&&(inB h.Ap 1 1000001&&(!(decide ((h.AG.length:Int)>40))&&(((h.AI.length:Int)==(h.AO.AV.length:Int))&&(L0 h&&((Jw h.BC h.AI.length&&(Nq h.A8 h.AI.length&&((h.A8.length:Int)==h.AO.Cs)))&&O7 h))))))
theorem GW{h:AD}(a:Bp h):Kr h=some (DR h):=by
 have G:=a.Dd;have q:=a.CS;have H:=a.EG;have B:A8Z h true=some false:=rfl;unfold Kr DR;by_cases y:h.AI.length=h.AO.AV.length
 .have g:∀b,AsN h b=some (!b&&O7 h):=by
   intro b;unfold AsN O7;rw[Km (n:=h.AI.length) (E:=some true) (eJ h) (by omega) ?_ ?_,Cv,Cd,Hy]
   .intro L i hi;have j:∀b,Aw8 L i b=br (!b) (L ((i+1:Nat):Int)) (some false):=by intro b;unfold Aw8;rw[BU hi (by omega)];cases b<;>rfl
    unfold eJ;rw[Cc hi,Cc (show i<h.AO.AV.length by omega)];unfold BBx;rw[CC hi,BH,A7 hi,AB,A7 (show i<h.AO.AV.length by omega),AB,AB,AMm (by omega) (a.De _ (Am hi)) q,AB,BI,PM (by omega),AB];simp only[AR,j,bne];cases h.AI[i].AV.Total==h.AO.AV[i]<;>cases Ki h.AO h.AI[i] h.AG i h.Now<;>cases decide (DQ h.AG i>h.AO.Room)<;>rfl
   .intro L;unfold BBx BDJ;rw[Cp,BN,AR]
  have c:∀b,A8Z h b=some (!b&&(L0 h&&((Jw h.BC h.AI.length&&(Nq h.A8 h.AI.length&&((h.A8.length:Int)==h.AO.Cs)))&&O7 h))):=by
   intro b;unfold A8Z;simp only[oS a,AGL a,AB,BI,AR,g,Br,Bv,Dg,Cv,Hy]
  simp only[HS (show h.AO.AV.length<2 ^ 62 by omega),Gv,AB,BI,AR,c,Br,Bv,Cv,Hy,bne,Dg]
 .have e:((h.AI.length:Int)==(h.AO.AV.length:Int))=false:=by rw[beq_eq_false_iff_ne];omega
  simp only[HS (show h.AO.AV.length<2 ^ 62 by omega),Gv,AB,BI,AR,bne,e,I2,B,eH,Bv,DK]
theorem Fe{h:AD}(g:Bp h):AAt h=some (DR h):=by
 have h1:=g.Dd;have h2:=g.CS;have h3:=g.EG;have h4:=g.todo;have h5:=g.F4;have ht:rM h true=some false:=rfl;unfold AAt DR;by_cases Y:Dp h.AO=false
 .rw[HO (by omega),AB,Y,BI,BN,AR,ht];rfl
 rw[Bool.not_eq_false]at Y;have hrm:=(CT Y).2.2.1;by_cases c:h.AI.length≠h.AO.AV.length
 .have e:((h.AI.length:Int)==(h.AO.AV.length:Int))=false:=by rw[beq_eq_false_iff_ne];omega
  simp only[HO (show h.AO.AV.length<2 ^ 62 by omega),Fs,AB,BI,AR,bne,e,I2,ht,BH,eH,Bv,DK]
 have c:=Classical.not_not.1 c;have H:A9C h ()=some (Nq h.A8 h.AI.length):=by
  unfold A9C Nq;rw[AAY (l:=h.A8) (fun x=>inB x (-1) (w64 ((h.AI.length:Int)-1))) (E:=some true) (by omega) ?_ ?_,Cv,Cd]
  .intro L i hi;unfold A9u;rw[CC hi,BH,A7 hi,AB,Fs,AB,BI,c]
  .intro L;unfold A9u BBQ;rw[Cp,BN,AR]
 have G:A9B h ()=some (Jw h.BC h.AI.length&&Nq h.A8 h.AI.length):=by
  unfold A9B Jw;rw[Km (n:=h.BC.length) (E:=A9C h ()) (WH h.BC h.AI.length) (by omega) ?_ ?_,H,Cv]
  .intro L i hi;unfold WH;rw[Cc hi];unfold A9t A9s;rw[CC hi,BH,A7 hi,AB,iv,AB,BI,B9 (by omega),Ac,S7 (by rw[BS];omega),AB,AR,AR,BU hi (by omega),BH,c];cases inB h.BC[i] 0 (w64 ((h.AO.AV.length:Int)-1))<;>cases (h.BC.take i).any (fun y=>y==h.BC[i])<;>rfl
  .intro L;unfold A9t;rw[Cp,BN,AR]
 have e7:A9S h ()=some (O7 h&&(Jw h.BC h.AI.length&&Nq h.A8 h.AI.length)):=by
  unfold A9S O7;rw[Km (n:=h.AI.length) (E:=A9B h ()) (eJ h) (by omega) ?_ ?_,G,Cv]
  .intro L i hi;have B:∀b,A8z L i b=br (!b) (L ((i+1:Nat):Int)) (some false):=by intro b;unfold A8z;rw[BU hi (by omega)];cases b<;>rfl
   unfold eJ;rw[Cc hi,Cc (show i<h.AO.AV.length by omega)];unfold BAh;rw[CC hi,BH,A7 hi,AB,A7 (show i<h.AO.AV.length by omega),AB,Vg (by omega),AB];by_cases Z:DQ h.AG i>h.AO.Room
   .rw[decide_eq_true Z];simp only[AR,B,bne,BH];cases h.AI[i].AV.Total==h.AO.AV[i]<;>cases Ki h.AO h.AI[i] h.AG i h.Now<;>rfl
   .rw[decide_eq_false Z,ALf (by omega) (g.De _ (Am hi)) h2 (by omega),AB];simp only[AR,B,bne,BN];cases h.AI[i].AV.Total==h.AO.AV[i]<;>cases Ki h.AO h.AI[i] h.AG i h.Now<;>rfl
  .intro L;unfold BAh;rw[Cp,BN,AR]
 have J:∀b,rM h b=some (!b&&(!(decide ((h.AG.length:Int)>40))&&(L0 h&&(O7 h&&(Jw h.BC h.AI.length&&Nq h.A8 h.AI.length))))):=by
  intro b;unfold rM L0;rw[Km (n:=h.AG.length) (E:=A9S h ()) (nj h) (by omega) ?_ ?_,e7,Cv,Hy,Hy]
  .intro L i hi;unfold nj;rw[Cc hi];have O:∀b,A8h h L i h.AG[i] b=br (!b&&JN (fun k=>KZ h.AG k fun q=>!(I4 q h.AG[i])) 0 i) (L ((i+1:Nat):Int)) (some false):=by
    intro b;unfold A8h;rw[B9 (by omega),Km (n:=i) (E:=L ((i+1:Nat):Int)) (fun k=>KZ h.AG k fun q=>!(I4 q h.AG[i])) (by omega) ?_ ?_]
    .cases b<;>rfl
    .intro L' k hk;have S:k<h.AG.length:=by omega
     have Q:∀b,A8R L' k b=br (!b) (L' ((k+1:Nat):Int)) (some false):=by intro b;unfold A8R;rw[BU hk (by omega)];cases b<;>rfl
     have a:(h.AG.take i).length=i:=by rw[BS];omega
     have I:at? (h.AG.take i) (k:Int)=some h.AG[k]:=by rw[A7 (by omega)];simp
     rw[Cc S];unfold BAg I4;rw[Ac,a,CC hk,BH,I,AB];have eb:(h.AG[i].Ap==h.AG[k].Ap)=(h.AG[k].Ap==h.AG[i].Ap):=BEq.comm;simp only[AR,Q,gt_iff_lt,eb];cases h.AG[k].Ap==h.AG[i].Ap<;>cases decide (h.AG[k].Ap<h.AG[i].Ap)<;>cases decide (h.AG[i].Since<h.AG[k].Since)<;>cases decide (h.AG[i].Ap<h.AG[k].Ap)<;>cases decide (h.AG[k].Since<h.AG[i].Since)<;>rfl
    .intro L';have a:(h.AG.take i).length=i:=by rw[BS];omega
     unfold BAg BCS;rw[Ac,a,Cp,BN,AR,BU hi (by omega)]
   unfold BAf;rw[CC hi,BH,A7 hi,AB,PD (by omega),AB,BI,oZ];simp only[AR,O];generalize JN (fun k=>KZ h.AG k fun q=>!(I4 q h.AG[i])) 0 i=X;by_cases j:0<i
   .rw[decide_eq_true j,BH,if_pos j,Kg i j (by omega),A7 (show i-1<h.AG.length by omega),AB,Cc (show i-1<h.AG.length by omega)];cases D9 h.AO h.AG[i] h.Now<;>cases decide (h.AG[i].Ap>=h.Ap)<;>cases decide (h.AG[i-1].Id>=h.AG[i].Id)<;>rfl
   .rw[decide_eq_false j,BN,if_neg j];cases D9 h.AO h.AG[i] h.Now<;>cases decide (h.AG[i].Ap>=h.Ap)<;>rfl
  .intro L;unfold BAf;rw[Cp,BN,AR]
 have e:((h.AI.length:Int)==(h.AO.AV.length:Int))=true:=by rw[beq_iff_eq];omega
 simp only[HO (show h.AO.AV.length<2 ^ 62 by omega),Fs,AB,BI,AR,J,Br,Bv,Cv,Hy,bne,Dg,e,BH,I2,Bool.true_and];congr 1;ac_rfl
def Wk(n:Int):Bool:=inB n 0 9999
theorem AcP(n:Int):Ee n=some (Wk n):=by unfold Ee Wk;rw[Gv,AB]
theorem AZ4(n:Int):AAu n=some (Wk n):=by unfold AAu Wk;rw[Fs,AB]
def LR(q:BX):Bool:=
 if q.Kind=1 then Wk q.Id&&(Wk q.Aa&&(inB q.Bl (-1) 9999&&(Wk q.A2&&Wk q.Cj)))
 else if q.Kind=2\/q.Kind=4\/q.Kind=5\/q.Kind=7 then Wk q.Id&&(q.Aa==0&&(q.Bl==0&&(q.A2==0&&q.Cj==0)))
 else if q.Kind=3 then Wk q.Aa&&(Wk q.A2&&(q.Id==0&&(q.Bl==0&&q.Cj==0)))
 else if q.Kind=6 then q.Id==0&&(q.Aa==0&&(q.Bl==0&&(q.A2==0&&q.Cj==0)))
 else false
theorem zW(q:BX):z8 q=some (LR q):=by
 obtain⟨k,a,b,c,d,e⟩:=q;unfold z8 U3 AsO U3 LR;simp only[AR,AcP,AB,Gv,Cv,BZ,beq_iff_eq]
 grind
theorem xy(q:BX):AYD q=some (LR q):=by
 obtain⟨k,a,b,c,d,e⟩:=q;unfold AYD fH A8i fH LR;simp only[AR,AZ4,AB,Fs,Cv,BZ,beq_iff_eq]
 grind
structure CW(e:Ae):Prop where
 EL:Bp e.BD
 log:e.BO.Log.Data.length<=1048576
 even:e.BO.Dl.Data.length<=1048576
 odd:e.BO.Odd.Data.length<=1048576
 laid:e.Laid.length<=1048576
def Ef(e:Ae):Bool:=DR e.BD&&(KP e.BO&&(!(decide ((e.Laid.length:Int)>8))&&(inB e.Seq e.Laid.length 1000000&&e.Laid.all LR)))
theorem Ga{e:Ae}(a:CW e):ANV e=some (Ef e):=by
 have g:=a.laid;have c:∀b,RQ e b=some (!b&&e.Laid.all LR):=by
  intro b;unfold RQ;rw[AAY (l:=e.Laid) LR (E:=some true) (by omega) ?_ ?_,Cv,Cd,Hy]
  .intro L i h;unfold BBz;rw[CC h,BH,A7 h,AB,zW,AB,BI]
  .grind[BBz,aK,BN,AR]
 unfold ANV Ef;simp only[GW a.EL,WD,Gv,AB,BI,AR,c,Br,Bv,Cv,Hy,Dg]
theorem Hb{e:Ae}(a:CW e):AQa e=some (Ef e):=by
 have g:=a.laid;have c:∀b,ArQ e b=some (!b&&e.Laid.all LR):=by
  intro b;unfold ArQ;rw[AAY (l:=e.Laid) LR (E:=some true) (by omega) ?_ ?_,Cv,Cd,Hy]
  .intro L i h;unfold BAj;rw[CC h,BH,A7 h,AB,xy,AB,BI]
  .grind[BAj,BCT,BN,AR]
 unfold AQa Ef;simp only[Fe a.EL,ik,Fs,AB,BI,AR,c,Br,Bv,Cv,Hy,Dg]
def WI(e:Ae)(b:Bool):Int:=if b=true then w64 ((e.BO.Log.Data.length:Int)-e.BO.Log.Safe) else 0
theorem AMq{e:Ae}(a:CW e):AAv e=some (WI e (Ef e)):=by
 unfold AAv WI;rw[Ga a,AB,BI,BZ];split<;>rfl
theorem ALm{e:Ae}(a:CW e):AQb e=some (WI e (Ef e)):=by
 unfold AQb WI;rw[Hb a,AB,BI,BZ];split<;>rfl
theorem iR{n:Nat}{F:(Int->AA Bool)->Int->AA Bool}(a:n<2 ^ 63)(step:∀L (i:Nat),i<n->F L (i:Int)=L (w64 ((i:Int)+1)))(stop:∀L,F L (n:Int)=some true) :
 br ((n:Int) != (n:Int)) (some false) (A4 F big 0)=some true:=by
 rw[BZ,if_neg (by simp)];exact AdA a (fun L i h=>by rw[step L i h,BU h a]) stop
theorem ne_self(a:Int):(a != a)=false:=by simp
end Lv.P
