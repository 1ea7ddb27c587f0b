/- Plain laws about what the program computes. -/
import Derived.Test.YtcmjfplpdjflnaaGreatPAc
noncomputable section
set_option linter.unusedVariables false
set_option linter.unusedSimpArgs false
set_option linter.unusedSectionVars false
open Bool renaming and_eq_true->AF,and_false->DF,and_true->CS,eq_iff_iff->H2,false_and->Bm,not_eq_true'->BG,not_false->EU,not_not->Db,not_true->Br
open Int renaming toNat_natCast->Ah
open List renaming drop_length->Eo,foldl_cons->Bw,getElem_mem->As,getElem_of_mem->GZ,length_append->AK,length_cons->AH,length_take->BI,map_cons->AJ,mem_cons->Ag,mem_flatten->Er,pairwise_iff_getElem->CZ
open Nat renaming add_sub_cancel->Cr,lt_or_ge->AV,sub_self->D3,zero_add->Au
namespace Lv.P
open Go (IntKind BinOp UnOp)
def RE(p:BO):Bool:=inB p.At 1 1000008&&inB p.Id 1 999
structure O1(w:Aq):Prop where
 nine:w.Am.length=9
 few:w.Am.flatten.length<=10
 pins:∀p∈w.Am.flatten,RE p=true
 ids:w.Am.flatten.Pairwise fun a b=>a.Id≠b.Id
 at_:∀i (h:i<w.Am.length) k (hk:k<w.Am[i].length),w.Am[i][k].At.tmod 9=(i:Int)
 srt:∀i (h:i<w.Am.length) k (hk:k+1<w.Am[i].length),ltP w.Am[i][k] w.Am[i][k+1]=true
def Gx(w:Aq):Bool:=@decide (O1 w) (Classical.propDecidable _)
theorem Ds{w:Aq}:Gx w=true↔O1 w:=by grind[Gx]
def Cz(w:Aq):Prop:=w.Am.length<=1048576/\w.Am.flatten.length<=1048576
theorem XL{α:Type}{l:List (List α)}{i:Nat}(h:i<l.length):(l.take i).flatten.length+l[i].length<=l.flatten.length:=by
 grind[Dc,List.take_append_drop]
theorem KY{l:List (List BO)}{i:Nat}(h:i<l.length):l[i].length<=l.flatten.length:=by have:=XL h;omega
theorem mc{w:Aq}(a:Cz w):ANq w=some w.Am.flatten:=by
 have hlim:lim=268435456:=rfl;have c:=a.1;have e:=a.2;unfold ANq;refine(C9 (n:=w.Am.length) (fun i (v:List BO)=>(v,(i:Int))) (fun i v=>v=(w.Am.take i).flatten) (fun i v=>some w.Am.flatten) (by omega) ?_ (by simp));intro L i v g hi j;unfold AIb AIa;dsimp only;rcases AV i w.Am.length with h|h
 .have:=XL h
  grind[BJ,BH,AB,B6,Bg,List.take_add_one]
 grind[BT,AR]
def bQ(s:List BO)(i:Nat)(k:Nat):Bool:=Jr s k fun p=>(p.At.tmod 9==(i:Int))&&(if 0<k then Jr s (k-1) (fun d=>ltP d p) else true)
def qS(l:List BO)(i:Nat):Bool:=Jr l i fun p=>RE p&&Is (fun k=>Jr l k fun q=>!(q.Id==p.Id)) 0 i
theorem HD{w:Aq}(H:Cz w):nB w=some (Gx w):=by
 have Z:=H.1;have h2:=H.2;have G:cE w ()=some (Is (fun i=>Jr w.Am i fun s=>Is (bQ s i) 0 s.length) 0 w.Am.length):=by
  unfold cE;rw[J5 (n:=w.Am.length) (E:=some true) (fun i=>Jr w.Am i fun s=>Is (bQ s i) 0 s.length) (by omega) ?_ ?_,Cf,CS]
  .intro L i h;have hs:=KY h;rw[CR h];unfold sx;rw[B7 h,BJ];refine J5 (n:=w.Am[i].length) (E:=L ((i+1:Nat):Int)) (bQ w.Am[i] i) (by omega) ?_ ?_
   .intro L' k a;have I:=Bg a (show w.Am[i].length<2 ^ 63 by omega);unfold bQ;rw[CR a];unfold sy cF;rw[BH h,AB,B7 a,BJ,cJ];simp only[AB,BH a,AR,I,BJ,BT];by_cases c:0<k
    .rw[decide_eq_true c,BJ,AX c,Jx k c (by omega),BH (show k-1<w.Am[i].length by omega),AB,bP,AB,CR (show k-1<w.Am[i].length by omega),bne];cases w.Am[i][k].At.tmod 9==(i:Int)<;>cases ltP w.Am[i][k-1] w.Am[i][k]<;>rfl
    .rw[decide_eq_false c,BT,AU c,bne];cases w.Am[i][k].At.tmod 9==(i:Int)<;>rfl
   .intro L';unfold sy ABX;rw[BH h,AB,Cl,BT,AR,Bg h (by omega)]
  .intro L;unfold sx ABY;rw[Cl,BT,AR]
 have e:∀b,cC w w.Am.flatten b=some (!b&&(Is (qS w.Am.flatten) 0 w.Am.flatten.length&&Is (fun i=>Jr w.Am i fun s=>Is (bQ s i) 0 s.length) 0 w.Am.length)):=by
  intro b;unfold cC;rw[J5 (n:=w.Am.flatten.length) (E:=cE w ()) (qS w.Am.flatten) (by omega) ?_ ?_,G,Cf,Hb]
  .intro L i h;unfold qS;rw[CR h];have B:∀b,cD w.Am.flatten L i b=br (!b&&Is (fun k=>Jr w.Am.flatten k fun q=>!(q.Id==w.Am.flatten[i].Id)) 0 i) (L ((i+1:Nat):Int)) (some false):=by
    intro b;unfold cD;rw[J5 (n:=i) (E:=L ((i+1:Nat):Int)) (fun k=>Jr w.Am.flatten k fun q=>!(q.Id==w.Am.flatten[i].Id)) (by omega) ?_ ?_]
    .cases b<;>rfl
    .intro L' k a;rw[CR (show k<w.Am.flatten.length by omega)];unfold sv;rw[B7 a,BJ];simp only[BH h,BH (show k<w.Am.flatten.length by omega),AB,Bg a (show i<2 ^ 63 by omega)];cases w.Am.flatten[k].Id==w.Am.flatten[i].Id<;>rfl
    .intro L';unfold sv AIc;rw[Cl,BT,AR,Bg h (by omega)]
   unfold su RE;rw[B7 h,BJ];simp only[BH h,AB,GN,BP,AR,B];generalize Is (fun k=>Jr w.Am.flatten k fun q=>!(q.Id==w.Am.flatten[i].Id)) 0 i=X;cases inB w.Am.flatten[i].At 1 1000008<;>cases inB w.Am.flatten[i].Id 1 999<;>rfl
  .intro L;unfold su;rw[Cl,BT,AR]
 unfold nB;rw[mc H,AB,AR,AR,e,e,Br,Bm,bne,BP,Cf];congr 1;rw[H2,Ds];simp only[AF,beq_iff_eq,BG,decide_eq_false_iff_not,JT];constructor
 .rintro⟨J,O,a3,a4⟩;refine⟨by omega,by omega,?_,?_,?_,?_⟩
  .intro p Y;obtain⟨k,a,rfl⟩:=GZ Y;have:=a3 k a;unfold qS at this;rw[CR a,AF]at this;exact this.1
  .rw[CZ];intro i j hi g y;have:=a3 j g;unfold qS at this;rw[CR g,AF,JT]at this;have:=this.2 i y;rw[CR hi]at this;simpa using this
  .intro i h k a;have:=a4 i h;rw[CR h,JT]at this;have:=this k a;unfold bQ at this;rw[CR a,AF,beq_iff_eq]at this;exact this.1
  .intro i h k a;have:=a4 i h;rw[CR h,JT]at this;have:=this (k+1) a;unfold bQ at this;rw[CR a,AF,AX (by omega),Cr,CR (by omega)]at this;exact this.2
 .rintro⟨J,O,a3,a4,Q,S⟩;refine⟨by omega,by omega,?_,?_⟩
  .intro k a;unfold qS;rw[CR a,AF,JT];refine⟨a3 _ (As _),fun j g=>?_⟩;rw[CR (by omega)];rw[CZ]at a4;have:=a4 j k (by omega) a g;simpa using this
  .intro i h;rw[CR h,JT];intro k a;unfold bQ;rw[CR a,AF,beq_iff_eq];refine⟨Q i h k a,?_⟩;split
   .rename_i c;obtain⟨k,rfl⟩:∃j,k=j+1:=⟨k-1,by omega⟩;rw[Cr,CR (by omega)];exact S i h k a
   .rfl
def OR(m:List (Int×Int))(p:BO):List (Int×Int):=Jf m p.Id (w64 (Mh m p.Id+1))
theorem ATY:∀{m:List (Int×Int)} {n v:Int},n∈m.map (·.1)->(Jf m n v).map (·.1)=m.map (·.1)
 | [],n,v,h=>by simp at h|(k,w)::m,n,v,h=>by
  unfold Jf;by_cases e:n=k
  .rw[AX e];rfl
  .rw[AU e];rw[AJ,Ag]at h;rw[AJ,ATY (h.resolve_left e)];rfl
theorem AJf:∀{m:List (Int×Int)} {n v:Int},n∉m.map (·.1)->(Jf m n v).map (·.1)=m.map (·.1)++[n]
 | [],n,v,h=>rfl|(k,w)::m,n,v,h=>by
  unfold Jf;rw[AJ,Ag,not_or]at h;rw[AU h.1,AJ,AJf h.2];rfl
theorem AMo:∀(l:List BO) (m:List (Int×Int)),(l.foldl OR m).length<=m.length+l.length/\((l.foldl OR m).length=m.length+l.length↔(∀p∈l,p.Id∉m.map (·.1))/\l.Pairwise fun a b=>a.Id≠b.Id)
 | [],m=>by simp|p::l,m=>by
  rw[Bw];have c:=AMo l (OR m p);by_cases h:p.Id∈m.map (·.1)
  .have e:(OR m p).map (·.1)=m.map (·.1):=ATY h;have el:(OR m p).length=m.length:=by simpa using congrArg List.length e
   rw[el]at c;refine⟨by rw[AH];omega,?_⟩;constructor
   .intro g;rw[AH]at g;omega
   .intro g;exact absurd h (g.1 p List.mem_cons_self)
  .have e:(OR m p).map (·.1)=m.map (·.1)++[p.Id]:=AJf h;have el:(OR m p).length=m.length+1:=by simpa using congrArg List.length e
   grind[List.pairwise_cons]
theorem VL(p:BO):oA p=some (RE p):=by
 unfold oA dq RE;simp only[Fq,AB,AR,Cf]
def Vd(s:List BO)(i:Nat)(k:Nat):Bool:=Jr s k fun p=>RE p&&((p.At.tmod 9==(i:Int))&&(if 0<k then Jr s (k-1) (fun d=>!(ltP p d)) else true))
theorem qX(p:Nat->Bool){i n:Nat}(h:i<n):Is p i (n-i)=(p i&&Is p (i+1) (n-(i+1))):=by rw[show n-i=(n-(i+1))+1 by omega];rfl
theorem AGH{s:List BO}(I:s.length<=1048576){L:List (Int×Int)×Int×Int->AA Bool}{i:Nat}(hi:i<9){m:List (Int×Int)}{n:Nat}(H:n<=2 ^ 50) :
 BB (dv L i s) big (m,(n:Int),0)=br (Is (Vd s i) 0 s.length) (L (s.foldl OR m,((n+s.length:Nat):Int),((i+1:Nat):Int))) (some false):=by
 refine(C9 (n:=s.length) (fun k (v:List (Int×Int)×Nat)=>(v.1,(v.2:Int),(k:Int))) (fun k v=>v.2=n+k) (fun k v=>br (Is (Vd s i) k (s.length-k)) (L ((s.drop k).foldl OR v.1,((n+s.length:Nat):Int),((i+1:Nat):Int))) (some false)) (by omega) ?_ (v:=(m,n)) rfl);rintro L' k ⟨m,g⟩ j G q;dsimp only at j q ⊢;unfold dv SK;dsimp only;rcases AV k s.length with h|h
 .have e:=q (OR m s[k],g+1) (by dsimp only;omega) h;dsimp only at e;have ew:w64 ((g:Int)+1)=((g+1:Nat):Int):=by rw[A6 (by omega) (by omega)];rfl
  rw[B7 h,BJ,BH h,AB,VL,AB,BP,qX _ h,Dc h,Bw,cJ];simp only[AR,BJ,BT,Bg h (show s.length<2 ^ 63 by omega),ew];have ed:Jf m s[k].Id (w64 (Mh m s[k].Id+1))=OR m s[k]:=rfl;rw[ed,e];unfold Vd;rw[CR h];generalize Is _ (k+1) (s.length-(k+1))=X;generalize L _=Z;by_cases a:0<k
  .obtain⟨c,y,E,B⟩:=NY s[k-1] s[k];rw[decide_eq_true a,BJ,AX a,Jx k a (by omega),BH (show k-1<s.length by omega),AB,y,AB,B,CR (show k-1<s.length by omega),bne];cases RE s[k]<;>cases s[k].At.tmod 9==(i:Int)<;>cases ltP s[k] s[k-1]<;>rfl
  .rw[decide_eq_false a,BT,AU a,bne];cases RE s[k]<;>cases s[k].At.tmod 9==(i:Int)<;>rfl
 .obtain rfl:k=s.length:=by omega
  unfold yp;dsimp only;rw[Cl,BT,AR,Bg (i:=i) (n:=9) hi (by omega),D3,Eo,j];rfl
theorem ID{w:Aq}(I:Cz w):Ri w=some (Gx w):=by
 have h1:=I.1;have h2:=I.2;unfold Ri;rw[bne,BP];by_cases B:w.Am.length=9
 .have g:((w.Am.length:Int)==9)=true:=by rw[beq_iff_eq];omega
  rw[g,BJ];have:=(C9 (F:=du w) (n:=w.Am.length) (fun k (v:List (Int×Int)×Nat)=>(v.1,(v.2:Int),(k:Int))) (fun k v=>v.2=(w.Am.take k).flatten.length) (fun k v=>br (Is (fun i=>Jr w.Am i fun s=>Is (Vd s i) 0 s.length) k (w.Am.length-k)) (V9 ((w.Am.drop k).flatten.foldl OR v.1,((v.2+(w.Am.drop k).flatten.length:Nat):Int))) (some false)) (by omega) ?_ (v:=([],0)) (by simp))
  .refine Eq.trans this ?_;unfold V9 dt;simp only[List.drop_zero,Au,AR,Cf,Nat.sub_zero];congr 1;have E:=AMo w.Am.flatten [];rw[List.length_nil,Au]at E;rw[H2,Ds];simp only[AF,beq_iff_eq,decide_eq_true_iff,JT];have Y:((w.Am.flatten.foldl OR []).length:Int)=(w.Am.flatten.length:Int)↔w.Am.flatten.Pairwise fun a b=>a.Id≠b.Id:=by
    rw[Int.ofNat_inj,E.2];simp
   rw[Y];constructor
   .rintro⟨y,O,a3⟩;have c:∀i (h:i<w.Am.length) k (c:k<w.Am[i].length),RE w.Am[i][k]=true/\w.Am[i][k].At.tmod 9=(i:Int)/\(if 0<k then Jr w.Am[i] (k-1) (fun d=>!(ltP w.Am[i][k] d)) else true)=true:=by
     intro i h k c;have:=y i h;rw[CR h,JT]at this;have:=this k c;unfold Vd at this;rw[CR c,AF,AF,beq_iff_eq]at this;exact this
    refine⟨B,by omega,?_,a3,fun i h k e=>(c i h k e).2.1,?_⟩
    .intro p q;obtain⟨s,hs,q⟩:=Er.1 q;obtain⟨i,hi,rfl⟩:=GZ hs;obtain⟨k,e,rfl⟩:=GZ q;exact(c i hi k e).1
    .intro i h k e;have:=(c i h (k+1) e).2.2;rw[AX (by omega),Cr,CR (by omega),BG,lE]at this;have G:=(List.pairwise_flatten.1 a3).1 _ (As h);rw[CZ]at G;have:=G k (k+1) (by omega) e (by omega);rw[Q7];omega
   .rintro⟨y,O,a3,a4,Q,S⟩;refine⟨?_,by omega,a4⟩;intro i h;rw[CR h,JT];intro k c;unfold Vd;rw[CR c,AF,AF,beq_iff_eq];refine⟨a3 _ (Er.2 ⟨_,As h,As c⟩),Q i h k c,?_⟩;split
    .obtain⟨k,rfl⟩:∃j,k=j+1:=⟨k-1,by omega⟩;rw[Cr,CR (by omega),BG];exact E7.rz _ _ (S i h k c)
    .rfl
  .rintro L k ⟨m,n⟩ H c J;dsimp only at H J ⊢;unfold du;dsimp only;rcases AV k w.Am.length with h|h
   .have hf:=XL h;rw[B7 h,BJ,BH h,AB,AGH (by omega) (by omega) (by omega),qX _ h,CR h];have ef:(w.Am.take (k+1)).flatten=(w.Am.take k).flatten++w.Am[k]:=by rw[List.take_add_one,List.getElem?_eq_getElem h,List.flatten_append];simp
    have:=J (w.Am[k].foldl OR m,n+w.Am[k].length) (by dsimp only;rw[ef,AK,H]) h;dsimp only at this;rw[this,Dc h,List.flatten_cons,List.foldl_append,AK,Nat.add_assoc];generalize Is _ (k+1) _=X;generalize V9 _=Z;cases Is (Vd w.Am[k] k) 0 w.Am[k].length<;>rfl
   .obtain rfl:k=w.Am.length:=by omega
    rw[Cl,BT,AR,D3,Eo];rfl
 .have g:((w.Am.length:Int)==9)=false:=by rw[beq_eq_false_iff_ne];omega
  rw[g,BT];congr 1;have:¬(Gx w=true):=by rw[Ds];exact fun h=>B h.nine
  rw[Bool.not_eq_true]at this;exact this.symm
def Ek(w:Aq):List BO:=if Gx w=true then DV ltP w.Am.flatten else []
theorem MU{w:Aq}(a:Cz w):ADm w=some (Ek w):=by
 have hlim:lim=268435456:=rfl;have c:=a.2;unfold ADm Ek;rw[HD a,AB,BP,mc a,AB,Bn];split
 .rw[Sp (l:=w.Am.flatten) (fun v p=>put ltP p v) (fun i v=>v.length<=i) some (by omega) ?_ ?_ ?_ (by simp),<-ZW E7 cX]
  .grind[tF,BJ,BH,AB,Vc]
  .intro i h v e;rw[Fi];omega
  grind[tF,AIg,BT,AR]
 .rfl
theorem Og{w:Aq}(c:Cz w):dh w=some (Ek w):=by
 have hlim:lim=268435456:=rfl;have g:=c.1;have j:=c.2;unfold dh Ek;rw[ID c,AB,BP,Bn];split
 .rename_i a;have a:=Ds.1 a;refine(C9 (n:=w.Am.length) (fun i (v:List BO)=>(v,(i:Int))) (fun i v=>v=(w.Am.take i).flatten) (fun i v=>some (DV ltP w.Am.flatten)) (by omega) ?_ (by simp));intro L i v e hi q;unfold yi yh;dsimp only;rcases AV i w.Am.length with h|h
  .have:=XL h
   grind[BJ,BH,AB,B6,Bg,List.take_add_one]
  .obtain rfl:i=w.Am.length:=by omega
   have:=a.few;rw[Cl,BT,AR,e,List.take_length,AXe (by omega),AB]
 .rfl
def EE(c:Ae):Prop:=c.Row.length<=1048576/\Cz c.By
structure Bk(h:AE):Prop where
 Dj:h.AS.AY.length<=1048576
 CJ:h.AG.length<=1048576
 EL:h.AI.length<=1048576
 Dq:∀c∈h.AI,EE c
 todo:h.BA.length<=1048576
 GV:h.A4.length<=1048576
def LN(c:Ae):Bool:=FL c.AY&&(Kv c.Row&&Gx c.By)
theorem NK{c:Ae}(a:EE c):AKE c=some (LN c):=by
 have:=a.1;unfold AKE cG LN;simp only[PM,RT c.Row (by omega),HD a.2,AB,AR,Cf]
theorem Qz{c:Ae}(a:EE c):oB c=some (LN c):=by
 have:=a.1;unfold oB WA LN;simp only[HI,XW c.Row (by omega),ID a.2,AB,AR,Cf]
theorem IF{w:Aq}(a:Cz w):(Ek w).length<=1048576:=by
 unfold Ek;split
 .rw[Ho];exact a.2
 .simp
def Jy(r:Ab)(c:Ae)(l:List AQ)(k now:Int):Bool:=
 LN c&&(EZ eqE c.Row (Dw r l k now)&&(EZ eqP (Ek c.By) (F9 l k)&&((c.AY.Eg==I5 l k)&&(c.AY.Fw==JU l k))))
theorem ACz{r:Ab}(g:r.AY.length<2 ^ 62){c:Ae}(a:EE c){l:List AQ}(e:l.length<=1048576)(k now:Int):AUd r c l k now=some (Jy r c l k now):=by
 have h:=a.1;have j:=IF a.2;unfold AUd Ti Jy;simp only[NK a,NN g e,RU (show c.Row.length<2 ^ 62 by omega),MU a.2,TV e,PO (show (Ek c.By).length<2 ^ 62 by omega),Ot (show l.length<2 ^ 58 by omega),Ou (show l.length<2 ^ 58 by omega),AB,AR,Cf]
theorem ABv{r:Ab}(h:r.AY.length<2 ^ 62){c:Ae}(a:EE c){l:List AQ}(g:l.length<=1048576){k:Int}(e:DO l k<=19)(now:Int):AG0 r c l k now=some (Jy r c l k now):=by
 have j:=a.1;have q:=IF a.2;unfold AG0 Ph Jy;simp only[Qz a,Q1 h g e,ak (show c.Row.length<2 ^ 62 by omega),Og a.2,av g e,aq (show (Ek c.By).length<2 ^ 62 by omega),au (show l.length<2 ^ 58 by omega),aw (show l.length<2 ^ 58 by omega),AB,AR,Cf]
def IZ(q p:AQ):Bool:=(q.Av==p.Av)||((decide (q.Av<p.Av)&&decide (p.Since<q.Since))||(decide (p.Av<q.Av)&&decide (q.Since<p.Since)))
def bE(h:AE)(i:Nat):Bool:=
 Jr h.AG i fun p=>D6 h.AS p h.Now&&(!(decide (p.Av>=h.Av))&&((if 0<i then Jr h.AG (i-1) (fun q=>!(decide (q.Id>=p.Id))) else true)&&Is (fun k=>Jr h.AG k fun q=>!(IZ q p)) 0 i))
def Kt(h:AE):Bool:=Is (bE h) 0 h.AG.length
theorem bg{h:AE}(e:Bk h):AUe h=some (Kt h):=by
 have y:=e.Dj;have B:=e.CJ;unfold AUe Kt;rw[J5 (n:=h.AG.length) (E:=some true) (bE h) (by omega) ?_ ?_,Cf,CS]
 .intro L i hi;unfold bE;rw[CR hi];have j:∀b,Tp h L i h.AG[i] b=br (!b&&Is (fun k=>Jr h.AG k fun q=>!(IZ q h.AG[i])) 0 i) (L ((i+1:Nat):Int)) (some false):=by
   intro b;unfold Tp;rw[J5 (n:=i) (E:=L ((i+1:Nat):Int)) (fun k=>Jr h.AG k fun q=>!(IZ q h.AG[i])) (by omega) ?_ ?_]
   .cases b<;>rfl
   .intro L' k g;have a:k<h.AG.length:=by omega
    have c:∀b,OX L' k b=br (!b) (L' ((k+1:Nat):Int)) (some false):=by intro b;unfold OX;rw[Bg g (by omega)];cases b<;>rfl
    rw[CR a];unfold sb IZ;rw[B7 g,BJ,BH a,AB];simp only[AR,c,gt_iff_lt];cases h.AG[k].Av==h.AG[i].Av<;>cases decide (h.AG[k].Av<h.AG[i].Av)<;>cases decide (h.AG[i].Since<h.AG[k].Since)<;>cases decide (h.AG[i].Av<h.AG[k].Av)<;>cases decide (h.AG[k].Since<h.AG[i].Since)<;>rfl
   .intro L';unfold sb AG3;rw[Cl,BT,AR,Bg hi (by omega)]
  unfold sa
  grind[BJ,BH,AB,NM,BP,AR,Jr,Jx,D6,decide_eq_false]
 grind[sa,AG4,BT,AR]
theorem RW{l:List Int}(c:l.length<2 ^ 62)(x:Int):AKB l x=some (l.any (fun y=>y==x)):=by
 unfold AKB;refine(C9 (n:=l.length) (fun i (_:Unit)=>(i:Int)) (fun _ _=>True) (fun i _=>some ((l.drop i).any (fun y=>y==x))) (by omega) ?_ (v:=()) trivial);intro L i _ _ hi a;unfold AHH AHG;rcases AV i l.length with h|h
 .rw[B7 h,BJ,BH h,AB,Bg h (by omega),Dc h,List.any_cons];cases l[i]==x with|true=>rfl|false=>rw[BT,a () trivial h];rfl
 grind[BT,AR]
theorem PD{l:List Int}(a:l.length<2 ^ 62)(x:Int):oF l x=some (l.any (fun y=>y==x)):=by
 unfold oF ANQ;rw[Qd (l:=l) (p:=fun y=>x==y) (by omega) ?_ ?_,AB]
 .congr 1;rw[H2,decide_eq_true_iff,List.any_eq_true];have:=dM (p:=fun y=>x==y) (l:=l) (s:=0)
  grind
 .grind[eP,BJ,BH,AB]
 grind[eP,y8,BT,AR]
def RY(t:List Int)(n:Int)(i:Nat):Bool:=Jr t i fun k=>inB k 0 (w64 (n-1))&&!((t.take i).any fun y=>y==k)
def JD(t:List Int)(n:Int):Bool:=Is (RY t n) 0 t.length
def M4(t:List Int)(n:Int):Bool:=t.all fun x=>inB x (-1) (w64 (n-1))
theorem xZ{h:AE}(a:Bk h):AUf h=some (JD h.BA h.AI.length&&(M4 h.A4 h.AI.length&&((h.A4.length:Int)==h.AS.C5))):=by
 have e:=a.todo;have g:=a.GV;have c:bz h ()=some (M4 h.A4 h.AI.length&&((h.A4.length:Int)==h.AS.C5)):=by
  unfold bz M4;rw[ng (l:=h.A4) (fun x=>inB x (-1) (w64 ((h.AI.length:Int)-1))) (E:=some ((h.A4.length:Int)==h.AS.C5)) (by omega) ?_ ?_,Cf]
  .intro L i hi;unfold si;rw[B7 hi,BJ,BH hi,AB,GN,AB,BP]
  .intro L;unfold si AHV;rw[Cl,BT,AR]
 unfold AUf JD;rw[J5 (n:=h.BA.length) (E:=bz h ()) (RY h.BA h.AI.length) (by omega) ?_ ?_,c,Cf]
 .intro L i hi;unfold RY;rw[CR hi];unfold sg se
  grind[BJ,BH,AB,GN,BP,B6,RW,AR,Bg,inB]
 grind[sg,BT,AR]
def Vw(h:AE)(i:Nat):Bool:=
 Jr h.AI i fun c=>Jr h.AS.AY i (fun s=>c.AY.Total==s)&&(Jy h.AS c h.AG i h.Now&&!(decide (DO h.AG i>h.AS.Room)))
def M8(h:AE):Bool:=Is (Vw h) 0 h.AI.length
def DE(h:AE):Bool:=
 D7 h.AS&&(inB h.Now 0 1000000&&(inB h.Av 1 1000001&&(!(decide ((h.AG.length:Int)>40))&&(((h.AI.length:Int)==(h.AS.AY.length:Int))&&(Kt h&&((JD h.BA h.AI.length&&(M4 h.A4 h.AI.length&&((h.A4.length:Int)==h.AS.C5)))&&M8 h))))))
theorem GK{h:AE}(a:Bk h):dZ h=some (DE h):=by
 have G:=a.Dj;have q:=a.CJ;have H:=a.EL;have B:OV h true=some false:=rfl;unfold dZ DE;by_cases y:h.AI.length=h.AS.AY.length
 .have g:∀b,bt h b=some (!b&&M8 h):=by
   intro b;unfold bt M8;rw[J5 (n:=h.AI.length) (E:=some true) (Vw h) (by omega) ?_ ?_,Cf,CS,Hb]
   .intro L i hi;have j:∀b,V4 L i b=br (!b) (L ((i+1:Nat):Int)) (some false):=by intro b;unfold V4;rw[Bg hi (by omega)];cases b<;>rfl
    unfold Vw;rw[CR hi,CR (show i<h.AS.AY.length by omega)];unfold sU;rw[B7 hi,BJ,BH hi,AB,BH (show i<h.AS.AY.length by omega),AB,AB,ACz (by omega) (a.Dq _ (As hi)) q,AB,BP,NL (by omega),AB];simp only[AR,j,bne];cases h.AI[i].AY.Total==h.AS.AY[i]<;>cases Jy h.AS h.AI[i] h.AG i h.Now<;>cases decide (DO h.AG i>h.AS.Room)<;>rfl
   .intro L;unfold sU AGn;rw[Cl,BT,AR]
  have c:∀b,OV h b=some (!b&&(Kt h&&((JD h.BA h.AI.length&&(M4 h.A4 h.AI.length&&((h.A4.length:Int)==h.AS.C5)))&&M8 h))):=by
   intro b;unfold OV;simp only[bg a,xZ a,AB,BP,AR,g,Br,Bm,Db,Cf,Hb]
  simp only[IH (show h.AS.AY.length<2 ^ 62 by omega),GN,AB,BP,AR,c,Br,Bm,Cf,Hb,bne,Db]
 .have e:((h.AI.length:Int)==(h.AS.AY.length:Int))=false:=by rw[beq_eq_false_iff_ne];omega
  simp only[IH (show h.AS.AY.length<2 ^ 62 by omega),GN,AB,BP,AR,bne,e,EU,B,Vv,Bm,DF]
theorem Fh{h:AE}(g:Bk h):Rj h=some (DE h):=by
 have h1:=g.Dj;have h2:=g.CJ;have h3:=g.EL;have h4:=g.todo;have h5:=g.GV;have ht:MA h true=some false:=rfl;unfold Rj DE;by_cases Y:D7 h.AS=false
 .rw[IB (by omega),AB,Y,BP,BT,AR,ht];rfl
 rw[Bool.not_eq_false]at Y;have hrm:=(CK Y).2.2.1;by_cases c:h.AI.length≠h.AS.AY.length
 .have e:((h.AI.length:Int)==(h.AS.AY.length:Int))=false:=by rw[beq_eq_false_iff_ne];omega
  simp only[IB (show h.AS.AY.length<2 ^ 62 by omega),Fq,AB,BP,AR,bne,e,EU,ht,BJ,Vv,Bm,DF]
 have c:=Classical.not_not.1 c;have H:To h ()=some (M4 h.A4 h.AI.length):=by
  unfold To M4;rw[ng (l:=h.A4) (fun x=>inB x (-1) (w64 ((h.AI.length:Int)-1))) (E:=some true) (by omega) ?_ ?_,Cf,CS]
  .intro L i hi;unfold Yj;rw[B7 hi,BJ,BH hi,AB,Fq,AB,BP,c]
  .intro L;unfold Yj oG;rw[Cl,BT,AR]
 have G:Tn h ()=some (JD h.BA h.AI.length&&M4 h.A4 h.AI.length):=by
  unfold Tn JD;rw[J5 (n:=h.BA.length) (E:=To h ()) (RY h.BA h.AI.length) (by omega) ?_ ?_,H,Cf]
  .intro L i hi;unfold RY;rw[CR hi];unfold Yi Yh;rw[B7 hi,BJ,BH hi,AB,Xb,AB,BP,B6 (by omega),Ah,PD (by rw[BI];omega),AB,AR,AR,Bg hi (by omega),BJ,c];cases inB h.BA[i] 0 (w64 ((h.AS.AY.length:Int)-1))<;>cases (h.BA.take i).any (fun y=>y==h.BA[i])<;>rfl
  .intro L;unfold Yi;rw[Cl,BT,AR]
 have e7:WJ h ()=some (M8 h&&(JD h.BA h.AI.length&&M4 h.A4 h.AI.length)):=by
  unfold WJ M8;rw[J5 (n:=h.AI.length) (E:=Tn h ()) (Vw h) (by omega) ?_ ?_,G,Cf]
  .intro L i hi;have B:∀b,SN L i b=br (!b) (L ((i+1:Nat):Int)) (some false):=by intro b;unfold SN;rw[Bg hi (by omega)];cases b<;>rfl
   unfold Vw;rw[CR hi,CR (show i<h.AS.AY.length by omega)];unfold eS;rw[B7 hi,BJ,BH hi,AB,BH (show i<h.AS.AY.length by omega),AB,Q0 (by omega),AB];by_cases Z:DO h.AG i>h.AS.Room
   .rw[decide_eq_true Z];simp only[AR,B,bne,BJ];cases h.AI[i].AY.Total==h.AS.AY[i]<;>cases Jy h.AS h.AI[i] h.AG i h.Now<;>rfl
   .rw[decide_eq_false Z,ABv (by omega) (g.Dq _ (As hi)) h2 (by omega),AB];simp only[AR,B,bne,BT];cases h.AI[i].AY.Total==h.AS.AY[i]<;>cases Jy h.AS h.AI[i] h.AG i h.Now<;>rfl
  .intro L;unfold eS;rw[Cl,BT,AR]
 have J:∀b,MA h b=some (!b&&(!(decide ((h.AG.length:Int)>40))&&(Kt h&&(M8 h&&(JD h.BA h.AI.length&&M4 h.A4 h.AI.length))))):=by
  intro b;unfold MA Kt;rw[J5 (n:=h.AG.length) (E:=WJ h ()) (bE h) (by omega) ?_ ?_,e7,Cf,Hb,Hb]
  .intro L i hi;unfold bE;rw[CR hi];have O:∀b,Pj h L i h.AG[i] b=br (!b&&Is (fun k=>Jr h.AG k fun q=>!(IZ q h.AG[i])) 0 i) (L ((i+1:Nat):Int)) (some false):=by
    intro b;unfold Pj;rw[B6 (by omega),J5 (n:=i) (E:=L ((i+1:Nat):Int)) (fun k=>Jr h.AG k fun q=>!(IZ q h.AG[i])) (by omega) ?_ ?_]
    .cases b<;>rfl
    .intro L' k hk;have S:k<h.AG.length:=by omega
     have Q:∀b,MC L' k b=br (!b) (L' ((k+1:Nat):Int)) (some false):=by intro b;unfold MC;rw[Bg hk (by omega)];cases b<;>rfl
     have a:(h.AG.take i).length=i:=by rw[BI];omega
     have I:at? (h.AG.take i) (k:Int)=some h.AG[k]:=by rw[BH (by omega)];simp
     rw[CR S];unfold eR IZ;rw[Ah,a,B7 hk,BJ,I,AB];have eb:(h.AG[i].Av==h.AG[k].Av)=(h.AG[k].Av==h.AG[i].Av):=BEq.comm;simp only[AR,Q,gt_iff_lt,eb];cases h.AG[k].Av==h.AG[i].Av<;>cases decide (h.AG[k].Av<h.AG[i].Av)<;>cases decide (h.AG[i].Since<h.AG[k].Since)<;>cases decide (h.AG[i].Av<h.AG[k].Av)<;>cases decide (h.AG[k].Since<h.AG[i].Since)<;>rfl
    .intro L';have a:(h.AG.take i).length=i:=by rw[BI];omega
     unfold eR y9;rw[Ah,a,Cl,BT,AR,Bg hi (by omega)]
   unfold eQ;rw[B7 hi,BJ,BH hi,AB,NC (by omega),AB,BP,cJ];simp only[AR,O];generalize Is (fun k=>Jr h.AG k fun q=>!(IZ q h.AG[i])) 0 i=X;by_cases j:0<i
   .rw[decide_eq_true j,BJ,AX j,Jx i j (by omega),BH (show i-1<h.AG.length by omega),AB,CR (show i-1<h.AG.length by omega)];cases D6 h.AS h.AG[i] h.Now<;>cases decide (h.AG[i].Av>=h.Av)<;>cases decide (h.AG[i-1].Id>=h.AG[i].Id)<;>rfl
   .rw[decide_eq_false j,BT,AU j];cases D6 h.AS h.AG[i] h.Now<;>cases decide (h.AG[i].Av>=h.Av)<;>rfl
  .intro L;unfold eQ;rw[Cl,BT,AR]
 have e:((h.AI.length:Int)==(h.AS.AY.length:Int))=true:=by rw[beq_iff_eq];omega
 simp only[IB (show h.AS.AY.length<2 ^ 62 by omega),Fq,AB,BP,AR,J,Br,Bm,Cf,Hb,bne,Db,e,BJ,EU,Bool.true_and];congr 1;ac_rfl
def Ry(n:Int):Bool:=inB n 0 9999
theorem ATe(n:Int):bX n=some (Ry n):=by unfold bX Ry;rw[GN,AB]
theorem ARL(n:Int):Rk n=some (Ry n):=by unfold Rk Ry;rw[Fq,AB]
def KZ(q:B1):Bool:=
 if q.Kind=1 then Ry q.Id&&(Ry q.Aa&&(inB q.Bl (-1) 9999&&(Ry q.BC&&Ry q.Cs)))
 else if q.Kind=2\/q.Kind=4\/q.Kind=5\/q.Kind=7 then Ry q.Id&&(q.Aa==0&&(q.Bl==0&&(q.BC==0&&q.Cs==0)))
 else if q.Kind=3 then Ry q.Aa&&(Ry q.BC&&(q.Id==0&&(q.Bl==0&&q.Cs==0)))
 else if q.Kind=6 then q.Id==0&&(q.Aa==0&&(q.Bl==0&&(q.BC==0&&q.Cs==0)))
 else false
theorem ma(q:B1):sW q=some (KZ q):=by
 obtain⟨k,a,b,c,d,e⟩:=q;unfold sW Ig Tj Ig KZ;simp only[AR,ATe,AB,GN,Cf,Bn,beq_iff_eq]
 grind
theorem AB1(q:B1):aN q=some (KZ q):=by
 obtain⟨k,a,b,c,d,e⟩:=q;unfold aN G2 Pl G2 KZ;simp only[AR,ARL,AB,Fq,Cf,Bn,beq_iff_eq]
 grind
structure B5(e:Af):Prop where
 EB:Bk e.Bb
 log:e.A9.Log.Data.length<=1048576
 even:e.A9.FH.Data.length<=1048576
 odd:e.A9.Odd.Data.length<=1048576
 laid:e.Laid.length<=1048576
def Ev(e:Af):Bool:=DE e.Bb&&(II e.A9&&(!(decide ((e.Laid.length:Int)>8))&&(inB e.Seq e.Laid.length 1000000&&e.Laid.all KZ)))
theorem GR{e:Af}(a:B5 e):yc e=some (Ev e):=by
 have g:=a.laid;have c:∀b,Tl e b=some (!b&&e.Laid.all KZ):=by
  intro b;unfold Tl;rw[ng (l:=e.Laid) KZ (E:=some true) (by omega) ?_ ?_,Cf,CS,Hb]
  .intro L i h;unfold sX;rw[B7 h,BJ,BH h,AB,ma,AB,BP]
  .grind[sX,AGo,BT,AR]
 unfold yc Ev;simp only[GK a.EB,RV,GN,AB,BP,AR,c,Br,Bm,Cf,Hb,Db]
theorem Uc{e:Af}(a:B5 e):zB e=some (Ev e):=by
 have g:=a.laid;have c:∀b,Pm e b=some (!b&&e.Laid.all KZ):=by
  intro b;unfold Pm;rw[ng (l:=e.Laid) KZ (E:=some true) (by omega) ?_ ?_,Cf,CS,Hb]
  .intro L i h;unfold eU;rw[B7 h,BJ,BH h,AB,AB1,AB,BP]
  .grind[eU,zC,BT,AR]
 unfold zB Ev;simp only[Fh a.EB,XX,Fq,AB,BP,AR,c,Br,Bm,Cf,Hb,Db]
theorem AX9{n:Nat}{F:(Int->AA Bool)->Int->AA Bool}(a:n<2 ^ 63)(step:∀L (i:Nat),i<n->F L (i:Int)=L (w64 ((i:Int)+1)))(stop:∀L,F L (n:Int)=some true) :
 br ((n:Int) != (n:Int)) (some false) (BB F big 0)=some true:=by
 rw[Bn,AU (by simp)];exact AUI a (fun L i h=>by rw[step L i h,Bg h a]) stop
theorem ne_self(a:Int):(a != a)=false:=by simp
end Lv.P
