/- Plain laws about what the program computes. -/
import Derived.Test.YtdmpkjjlnjchkaaGreatPB3
import Derived.Test.YtdmpkjjlnjchkaaGreatPC3
set_option linter.unusedVariables false
set_option linter.unusedSimpArgs false
set_option linter.unusedSectionVars false
open Int renaming toNat_natCast->Ac
open List renaming map_cons->AJ,set_set->DC,sum_cons->NV
open Nat renaming lt_or_ge->AT
namespace Lv.P
open Go (IntKind BinOp UnOp)
def LO(r:AZ):List Int:=[r.CJ,r.Room,r.A2,r.CB,r.Bq,r.Rest,r.CL,r.Cs]++r.AV
def Ma(p:AK):List Int:=[p.Id,p.Aa,w64 (p.Bl+1),p.A2,p.Cj,p.Since,p.Ap,p.State,p.Cf,p.Cu]
def GH(h:AD):List Int:=
 (([((LO h.AO).length:Int)]++LO h.AO++[h.Now,h.Ap,(h.AG.length:Int)]++h.AG.flatMap Ma)++h.AI.flatMap (fun c=>[c.AV.DT]))++[(h.BC.length:Int)]++h.BC++h.A8.flatMap (fun x=>[w64 (x+1)])
theorem J0{h:AD}(a:DR h=true):Dp h.AO=true/\(0<=h.Now/\h.Now<=1000000)/\(1<=h.Ap/\h.Ap<=1000001)/\h.AG.length<=40/\h.AI.length=h.AO.AV.length/\L0 h=true/\Jw h.BC h.AI.length=true/\Nq h.A8 h.AI.length=true/\(h.A8.length:Int)=h.AO.Cs/\O7 h=true:=by
 grind[DR,CY]
noncomputable def IS(h:AD)(q:Int):List UInt8:=if DR h=true/\inB q 0 1000000=true then four ((LI (pL (q::GH h)):Nat):Int)++pL (q::GH h) else []
inductive Hi{α:Type}(Q:Int->α->Int->Prop):Int->List α->Int->Prop|nil(k:Int):Hi Q k [] k|cons {k k1 k2:Int} {x:α} {l:List α} (h:Q k x k1) (t:Hi Q k1 l k2):Hi Q k (x::l) k2
section
variable{α:Type}{Q:Int->α->Int->Prop}
theorem Hi.snoc{k c e:Int}{l:List α}{x:α}(h:Hi Q k l c)(a:Q c x e):Hi Q k (l++[x]) e:=by
 induction h with
 |nil k=>exact .cons a (.nil _)|cons h t g=>exact .cons h (g a)
theorem AcT{l:List α}(cst:α->Nat){i:Nat}(h:i<l.length):((l.take (i+1)).map cst).sum=((l.take i).map cst).sum+cst l[i]:=by
 grind[List.take_add_one]
theorem Aga{l:List α}(cst:α->Nat)(i:Nat):((l.take i).map cst).sum<=(l.map cst).sum:=by
 grind[List.take_append_drop]
theorem Ph(c:Nat):∀l:List α,(l.map (fun _=>c)).sum=c*l.length| []=>by simp|x::l=>by rw[AJ,NV,Ph c l,List.length_cons,Nat.mul_add];omega
theorem AXI{l:List α}{cst:α->Nat}{m:Nat}(h:∀x∈l,cst x<=m):(l.map cst).sum<=m*l.length:=by
 induction l with
 |nil=>simp|cons x l a=>
  grind[Nat.mul_add]
theorem Qi{l:List α}(cst:α->Nat)(M:Int){F:(List α×Int×Int->AA (Int×List α))->List α×Int×Int->AA (Int×List α)}(hl:l.length<=1048576){a:Int}(Y:0<=a)(Z:a+((l.map cst).sum:Nat)<=M)
 (step:∀L (v:List α) (k:Int) (i:Nat) (h:i<l.length),v.length=l.length->v[i]?=some l[i]->0<=k->k+cst l[i]<=M ->
  ∃c g,F L (v,k,(i:Int))=L (v.set i g,c,w64 ((i:Int)+1))/\Q k g c/\k<=c/\c<=k+cst l[i])
 (stop:∀L v k,v.length=l.length->F L (v,k,(l.length:Int))=some (k,v)) :
 ∃r,A4 F big (l,a,0)=some r/\(Hi Q a r.2 r.1/\r.2.length=l.length/\a<=r.1/\r.1<=a+((l.map cst).sum:Nat)):=by
 refine Hl (n:=l.length) (fun i (v:List α×Int)=>(v.1,v.2,(i:Int))) (fun i v=>v.1.length=l.length/\v.1.drop i=l.drop i/\Hi Q a (v.1.take i) v.2/\a<=v.2/\v.2<=a+(((l.take i).map cst).sum:Nat)) _ (by omega) ?_ (v:=(l,a)) ⟨rfl,rfl,by simpa using Hi.nil a,Int.le_refl _,by simp⟩;rintro L i ⟨v,k⟩ ⟨j,B,q,E,y⟩ hi H;dsimp only at j B q E y H ⊢;rcases AT i l.length with h|h
 .have G:i<v.length:=by omega
  have e:v[i]=l[i]:=by
   grind[DW]
  have hs:=AcT cst h;have O:=Aga (l:=l) cst (i+1);obtain⟨c,g,I,J,S,X⟩:=step L v k i h j (by rw[List.getElem?_eq_getElem G,e]) (by omega) (by omega);rw[I,BU h (by omega)];refine H (v.set i g,c) ⟨by simp[j],?_,?_,by dsimp only;omega,by dsimp only;omega⟩ h
  .dsimp only;rw[List.drop_set_of_lt (by omega)];have:=congrArg (List.drop 1) B;simpa[List.drop_drop,Nat.add_comm] using this
  .dsimp only;have:(v.set i g).take (i+1)=v.take i++[g]:=by
    rw[List.take_add_one,List.take_set_of_le (by omega)];simp[G]
   rw[this];exact q.snoc J
 .obtain rfl:i=l.length:=by omega
  rw[stop L v k j];rw[List.take_of_length_le (by omega)]at q;rw[List.take_length]at y;exact⟨_,rfl,q,j,E,y⟩
theorem Qe{l:List α}{k c:Int}(g:Hi Q k l c){G:(Int×Int->AA Int)->Int×Int->AA Int}(B:l.length<=1048576)
 (step:∀L i (h:i<l.length) k e,Q k l[i] e->G L (k,(i:Int))=L (e,w64 ((i:Int)+1))) (stop:∀L k,G L (k,(l.length:Int))=some k):A4 G big (k,0)=some c:=by
 refine(C6 (n:=l.length) (fun i (k:Int)=>(k,(i:Int))) (fun i k=>Hi Q k (l.drop i) c) (fun _ _=>some c) (by omega) ?_ (by simpa using g));intro L i k a hi y;rcases AT i l.length with h|h
 .rw[DW h]at a;cases a with
  |cons j q=>
   rw[step L i h _ _ j,BU h (by omega)];exact y _ q h
 .obtain rfl:i=l.length:=by omega
  rw[List.drop_length]at a;cases a;exact stop _ _
end
theorem eD{α:Type}{v:List α}{i:Nat}(h:i<v.length)(a:α):at? (v.set i a) (i:Int)=some a:=by rw[Fu];simp[h]
def AgQ(k:Int)(x:Int)(k1:Int):Prop:=x=k/\k1=k+1/\0<=k/\k<=2 ^ 60
theorem i6{l:List Int}(c:l.length<=1048576){k:Int}(a:0<=k)(B:k<=2 ^ 59) :
 ∃r,AIQ l k=some r/\(Hi AgQ k r.2 r.1/\r.2.length=l.length/\k<=r.1/\r.1<=k+1*l.length):=by
 have e:=Ph 1 l;unfold AIQ;have key:=Qi (l:=l) (Q:=AgQ) (F:=AtA) (fun _=>1) (2 ^ 60) c a (by rw[e];omega) ?_ ?_
 .grind
 .intro L v k i h E g j kb;have hi:i<v.length:=by omega
  have y:at? v (i:Int)=some l[i]:=by rw[Fu];exact g
  have q:w64 (k+1)=k+1:=Ai (by omega) (by omega);refine⟨k+1,k,?_,⟨rfl,rfl,j,by omega⟩,by omega,by omega⟩;unfold AtA AwX A3D
  grind[BH,AB,AR]
 grind[AtA,A3D,BN,AR]
theorem ic{l:List Int}(e:l.length<=1048576){k a:Int}(c:Hi AgQ k l a):AYG l k=some a:=by
 unfold AYG;refine Qe c e ?_ ?_
 .rintro L i h k q ⟨g,rfl,j,kb⟩
  grind[Ai,AYK,BH,A7,AB,BN]
 grind[AYK,AYH,BN,AR]
def APL(k:Int)(x:AK)(k1:Int):Prop:=x=⟨k,k+1,k+1+1,k+1+1+1,k+1+1+1+1,k+1+1+1+1+1,k+1+1+1+1+1+1,k+1+1+1+1+1+1+1,k+1+1+1+1+1+1+1+1,k+1+1+1+1+1+1+1+1+1⟩/\k1=k+1+1+1+1+1+1+1+1+1+1/\0<=k/\k<=2 ^ 60
theorem AOj{l:List AK}(hl:l.length<=1048576){k:Int}(Z:0<=k)(hb:k<=2 ^ 59) :
 ∃r,AA6 l k=some r/\(Hi APL k r.2 r.1/\r.2.length=l.length/\k<=r.1/\r.1<=k+10*l.length):=by
 have c:=Ph 10 l;unfold AA6;have key:=Qi (l:=l) (Q:=APL) (F:=Al8) (fun _=>10) (2 ^ 60) hl Z (by rw[c];omega) ?_ ?_
 .obtain⟨r,J,O,S,X,Y⟩:=key;exact⟨r,J,O,S,X,by rw[c]at Y;omega⟩
 .intro L v k i h e hx k0 kb;have hi:i<v.length:=by omega
  have ha:at? v (i:Int)=some l[i]:=by rw[Fu];exact hx
  have g:w64 (k+1)=k+1:=Ai (by omega) (by omega);have j:w64 (k+1+1)=k+1+1:=Ai (by omega) (by omega);have q:w64 (k+1+1+1)=k+1+1+1:=Ai (by omega) (by omega);have y:w64 (k+1+1+1+1)=k+1+1+1+1:=Ai (by omega) (by omega);have B:w64 (k+1+1+1+1+1)=k+1+1+1+1+1:=Ai (by omega) (by omega);have E:w64 (k+1+1+1+1+1+1)=k+1+1+1+1+1+1:=Ai (by omega) (by omega);have G:w64 (k+1+1+1+1+1+1+1)=k+1+1+1+1+1+1+1:=Ai (by omega) (by omega);have H:w64 (k+1+1+1+1+1+1+1+1)=k+1+1+1+1+1+1+1+1:=Ai (by omega) (by omega);have I:w64 (k+1+1+1+1+1+1+1+1+1)=k+1+1+1+1+1+1+1+1+1:=Ai (by omega) (by omega);have a:w64 (k+1+1+1+1+1+1+1+1+1+1)=k+1+1+1+1+1+1+1+1+1+1:=Ai (by omega) (by omega);refine⟨k+1+1+1+1+1+1+1+1+1+1,⟨k,k+1,k+1+1,k+1+1+1,k+1+1+1+1,k+1+1+1+1+1,k+1+1+1+1+1+1,k+1+1+1+1+1+1+1,k+1+1+1+1+1+1+1+1,k+1+1+1+1+1+1+1+1+1⟩,?_,⟨rfl,rfl,k0,by omega⟩,by omega,by omega⟩;unfold Al8 Al7 A4h A4i A4j A4k A4l A4m A4n A4M A4N A2l;dsimp only;rw[CC hi,BH];simp only[ha,AB,AR,Ac,eD hi,DC,g,j,q,y,B,E,G,H,I,a]
 .intro L v k e;unfold Al8 A2l;dsimp only;rw[e,Cp,BN,AR]
theorem AOX{l:List AK}(J:l.length<=1048576){k c:Int}(I:Hi APL k l c):AQ4 l k=some c:=by
 unfold AQ4;refine Qe I J ?_ ?_
 .rintro L i h k X ⟨O,rfl,S,kb⟩;have e:w64 (k+1)=k+1:=Ai (by omega) (by omega);have g:w64 (k+1+1)=k+1+1:=Ai (by omega) (by omega);have j:w64 (k+1+1+1)=k+1+1+1:=Ai (by omega) (by omega);have q:w64 (k+1+1+1+1)=k+1+1+1+1:=Ai (by omega) (by omega);have y:w64 (k+1+1+1+1+1)=k+1+1+1+1+1:=Ai (by omega) (by omega);have B:w64 (k+1+1+1+1+1+1)=k+1+1+1+1+1+1:=Ai (by omega) (by omega);have E:w64 (k+1+1+1+1+1+1+1)=k+1+1+1+1+1+1+1:=Ai (by omega) (by omega);have G:w64 (k+1+1+1+1+1+1+1+1)=k+1+1+1+1+1+1+1+1:=Ai (by omega) (by omega);have H:w64 (k+1+1+1+1+1+1+1+1+1)=k+1+1+1+1+1+1+1+1+1:=Ai (by omega) (by omega);have a:w64 (k+1+1+1+1+1+1+1+1+1+1)=k+1+1+1+1+1+1+1+1+1+1:=Ai (by omega) (by omega);unfold fh;dsimp only;rw[CC h,BH];simp only[A7 h,AB,O,ne_self,BN,e,g,j,q,y,B,E,G,H,a]
 .intro L k;unfold fh AIo;dsimp only;rw[Cp,BN,AR]
def AFu(k:Int)(x:Ad)(k1:Int):Prop:=x=⟨k,k+1,k+1+1,k+1+1+1⟩/\k1=k+1+1+1+1/\0<=k/\k<=2 ^ 60
theorem AOi{l:List Ad}(y:l.length<=1048576){k:Int}(j:0<=k)(H:k<=2 ^ 59) :
 ∃r,AIR l k=some r/\(Hi AFu k r.2 r.1/\r.2.length=l.length/\k<=r.1/\r.1<=k+4*l.length):=by
 have B:=Ph 4 l;unfold AIR;have key:=Qi (l:=l) (Q:=AFu) (F:=sE) (fun _=>4) (2 ^ 60) y j (by rw[B];omega) ?_ ?_
 .grind
 .intro L v k i h I E G kb;have hi:i<v.length:=by omega
  have q:at? v (i:Int)=some l[i]:=by rw[Fu];exact E
  have a:w64 (k+1)=k+1:=Ai (by omega) (by omega);have c:w64 (k+1+1)=k+1+1:=Ai (by omega) (by omega);have e:w64 (k+1+1+1)=k+1+1+1:=Ai (by omega) (by omega);have g:w64 (k+1+1+1+1)=k+1+1+1+1:=Ai (by omega) (by omega);refine⟨k+1+1+1+1,⟨k,k+1,k+1+1,k+1+1+1⟩,?_,⟨rfl,rfl,G,by omega⟩,by omega,by omega⟩;unfold sE fT A4o fU A4p AIS;dsimp only;rw[CC hi,BH];simp only[q,AB,AR,Ac,eD hi,DC,a,c,e,g]
 grind[sE,AIS,BN,AR]
theorem AOW{l:List Ad}(e:l.length<=1048576){k a:Int}(c:Hi AFu k l a):AQ5 l k=some a:=by
 unfold AQ5;refine Qe c e ?_ ?_
 .rintro L i h k q ⟨g,rfl,j,kb⟩
  grind[Ai,fj,BH,A7,AB,BN]
 grind[fj,AIq,BN,AR]
def AeT(k:Int)(x:A6)(k1:Int):Prop:=x=⟨k,k+1⟩/\k1=k+1+1/\0<=k/\k<=2 ^ 60
theorem AaP{l:List A6}(c:l.length<=1048576){k:Int}(a:0<=k)(E:k<=2 ^ 59) :
 ∃r,fV l k=some r/\(Hi AeT k r.2 r.1/\r.2.length=l.length/\k<=r.1/\r.1<=k+2*l.length):=by
 have e:=Ph 2 l;unfold fV;have key:=Qi (l:=l) (Q:=AeT) (F:=AIU) (fun _=>2) (2 ^ 60) c a (by rw[e];omega) ?_ ?_
 .grind
 .intro L v k i h G g j kb;have hi:i<v.length:=by omega
  have B:at? v (i:Int)=some l[i]:=by rw[Fu];exact g
  have q:w64 (k+1)=k+1:=Ai (by omega) (by omega);have y:w64 (k+1+1)=k+1+1:=Ai (by omega) (by omega);refine⟨k+1+1,⟨k,k+1⟩,?_,⟨rfl,rfl,j,by omega⟩,by omega,by omega⟩;unfold AIU AIT Ajm Al9
  grind[BH,AB,AR,eD,List.set_set]
 grind[AIU,Al9,BN,AR]
theorem AZ0{l:List A6}(e:l.length<=1048576){k a:Int}(c:Hi AeT k l a):AQ6 l k=some a:=by
 unfold AQ6;refine Qe c e ?_ ?_
 .rintro L i h k q ⟨g,rfl,j,kb⟩
  grind[Ai,fk,BH,A7,AB,BN]
 grind[fk,AIr,BN,AR]
def AgR(k:Int)(x:BX)(k1:Int):Prop:=x=⟨k,k+1,k+1+1,k+1+1+1,k+1+1+1+1,k+1+1+1+1+1⟩/\k1=k+1+1+1+1+1+1/\0<=k/\k<=2 ^ 60
theorem AaQ{l:List BX}(E:l.length<=1048576){k:Int}(y:0<=k)(J:k<=2 ^ 59) :
 ∃r,AYN l k=some r/\(Hi AgR k r.2 r.1/\r.2.length=l.length/\k<=r.1/\r.1<=k+6*l.length):=by
 have G:=Ph 6 l;unfold AYN;have key:=Qi (l:=l) (Q:=AgR) (F:=AtF) (fun _=>6) (2 ^ 60) E y (by rw[G];omega) ?_ ?_
 .grind
 .intro L v k i h O H I kb;have hi:i<v.length:=by omega
  have B:at? v (i:Int)=some l[i]:=by rw[Fu];exact H
  have a:w64 (k+1)=k+1:=Ai (by omega) (by omega);have c:w64 (k+1+1)=k+1+1:=Ai (by omega) (by omega);have e:w64 (k+1+1+1)=k+1+1+1:=Ai (by omega) (by omega);have g:w64 (k+1+1+1+1)=k+1+1+1+1:=Ai (by omega) (by omega);have j:w64 (k+1+1+1+1+1)=k+1+1+1+1+1:=Ai (by omega) (by omega);have q:w64 (k+1+1+1+1+1+1)=k+1+1+1+1+1+1:=Ai (by omega) (by omega);refine⟨k+1+1+1+1+1+1,⟨k,k+1,k+1+1,k+1+1+1,k+1+1+1+1,k+1+1+1+1+1⟩,?_,⟨rfl,rfl,I,by omega⟩,by omega,by omega⟩;unfold AtF Awa A4s A4t A4u A4v A4w A3E;dsimp only;rw[CC hi,BH];simp only[B,AB,AR,Ac,eD hi,DC,a,c,e,g,j,q]
 grind[AtF,A3E,BN,AR]
theorem AZ1{l:List BX}(e:l.length<=1048576){k a:Int}(c:Hi AgR k l a):AQu l k=some a:=by
 unfold AQu;refine Qe c e ?_ ?_
 .rintro L i h k I ⟨G,rfl,H,kb⟩;have g:w64 (k+1)=k+1:=Ai (by omega) (by omega);have j:w64 (k+1+1)=k+1+1:=Ai (by omega) (by omega);have q:w64 (k+1+1+1)=k+1+1+1:=Ai (by omega) (by omega);have y:w64 (k+1+1+1+1)=k+1+1+1+1:=Ai (by omega) (by omega);have B:w64 (k+1+1+1+1+1)=k+1+1+1+1+1:=Ai (by omega) (by omega);have E:w64 (k+1+1+1+1+1+1)=k+1+1+1+1+1+1:=Ai (by omega) (by omega);unfold A29
  grind[BH,A7,AB,BN]
 grind[A29,A4e,BN,AR]
theorem Afz{α:Type}{v:List α}{i:Nat}(h:i<v.length)(a:α):(v.set i a)[i]?=some a:=by simp[h]
def AT7(k:Int)(s:List A6)(k1:Int):Prop:=s.length<=1048576/\Hi AeT k s k1/\0<=k/\0<=k1
theorem ALU:∀l:List (List A6),(l.map (fun s=>2*s.length)).sum=2*l.flatten.length| []=>rfl|s::l=>by rw[AJ,NV,ALU l,List.flatten_cons,List.length_append];omega
theorem AOk{w:An}(a:C1 w){k:Int}(q:0<=k)(O:k<=2 ^ 58) :
 ∃r,AIV w.Ak k=some r/\(Hi AT7 k r.2 r.1/\r.2.length=w.Ak.length/\k<=r.1/\r.1<=k+2*w.Ak.flatten.length):=by
 have B:=ALU w.Ak;have y:=a.1;have I:=a.2;unfold AIV;have key:=Qi (l:=w.Ak) (Q:=AT7) (F:=sH) (fun s=>2*s.length) (2 ^ 59) y q (by rw[B];omega) ?_ ?_
 .grind
 .intro L v k i h X E c kb;have hi:i<v.length:=by omega
  have J:at? v (i:Int)=some w.Ak[i]:=by rw[Fu];exact E
  have S:=I0 h;obtain⟨r,e,g,G,j,H⟩:=AaP (l:=w.Ak[i]) (by omega) c (by omega);refine⟨r.1,r.2,?_,⟨by omega,g,c,by omega⟩,j,by push_cast;omega⟩
  grind[sH,BH,AB,B9]
 grind[sH,AIW,BN,AR]
theorem AOY{l:List (List A6)}(g:l.length<=1048576){k a:Int}(e:Hi AT7 k l a):AIy l k=some a:=by
 unfold AIy;refine Qe e g ?_ ?_
 .rintro L i h k B ⟨j,c,y,q⟩;unfold AmD;dsimp only;rw[CC h,BH,A7 h,AB,AZ0 j c,AB,BA,if_neg (by omega)]
 grind[AmD,AmC,BN,AR]
def APK(k:Int)(c:AY)(k1:Int):Prop:=
 c.AV=⟨k,k+1,k+1+1,k+1+1+1,k+1+1+1+1⟩/\(0<=k/\k<=2 ^ 60)/\c.Row.length<=1048576/\c.Bw.Ak.length<=1048576/\0<=k1/\∃a,Hi AFu (k+1+1+1+1+1) c.Row a/\0<=a/\Hi AT7 a c.Bw.Ak k1
def AdV(c:AY):Nat:=5+4*c.Row.length+2*c.Bw.Ak.flatten.length
theorem ALu{l:List AY}(S:l.length<=1048576)(j:∀c∈l,DI c){k:Int}(J:0<=k)(hb:k<=2 ^ 56) :
 ∃r,AIX l k=some r/\(Hi APK k r.2 r.1/\r.2.length=l.length/\k<=r.1/\r.1<=k+2 ^ 50):=by
 have hs:=AXI (l:=l) (cst:=AdV) (m:=6291461) fun c e=>by
  have:=j c e;have h1:=this.1;have h2:=this.2.2;unfold AdV;omega
 unfold AIX;have key:=Qi (l:=l) (Q:=APK) (F:=sJ) AdV (2 ^ 57) S J (by omega) ?_ ?_
 .grind
 .intro L v k i h hv hx k0 kb;have hi:i<v.length:=by omega
  have O:at? v (i:Int)=some l[i]:=by rw[Fu];exact hx
  have e:=j _ (List.getElem_mem h);have X:=e.1;have Y:=e.2.1;have Z:=e.2.2;have g:AdV l[i]=5+4*l[i].Row.length+2*l[i].Bw.Ak.flatten.length:=rfl;have B:w64 (k+1)=k+1:=Ai (by omega) (by omega);have E:w64 (k+1+1)=k+1+1:=Ai (by omega) (by omega);have G:w64 (k+1+1+1)=k+1+1+1:=Ai (by omega) (by omega);have H:w64 (k+1+1+1+1)=k+1+1+1+1:=Ai (by omega) (by omega);have I:w64 (k+1+1+1+1+1)=k+1+1+1+1+1:=Ai (by omega) (by omega);obtain⟨a,ea,q,a2,a3,a4⟩:=AOi (l:=l[i].Row) X (k:=k+1+1+1+1+1) (by omega) (by omega);obtain⟨b,eb,y,b2,b3,b4⟩:=AOk (w:=l[i].Bw) e.2 (k:=a.1) (by omega) (by omega);refine⟨b.1,⟨⟨k,k+1,k+1+1,k+1+1+1,k+1+1+1+1⟩,a.2,⟨b.2⟩⟩,?_,⟨rfl,⟨k0,by omega⟩,by dsimp only;omega,by dsimp only;omega,by omega,a.1,q,by omega,y⟩,by omega,by omega⟩;unfold sJ Aoc sI AIY AIZ Aod A4q;dsimp only;rw[CC hi,BH];simp only[O,AB,AR,Ac,eD hi,DC,B,E,G,H,I,ea,eb,Afz hi];rw[B9 trivial,B9 trivial]
 grind[sJ,A4r,BN,AR]
theorem ALc{l:List AY}(H:l.length<=1048576){k c:Int}(E:Hi APK k l c):sS l k=some c:=by
 unfold sS;refine Qe E H ?_ ?_
 .rintro L i h k S ⟨J,⟨Y,kb⟩,I,O,X,a,ca,a0,cb⟩;have e:w64 (k+1)=k+1:=Ai (by omega) (by omega);have g:w64 (k+1+1)=k+1+1:=Ai (by omega) (by omega);have j:w64 (k+1+1+1)=k+1+1+1:=Ai (by omega) (by omega);have q:w64 (k+1+1+1+1)=k+1+1+1+1:=Ai (by omega) (by omega);have y:w64 (k+1+1+1+1+1)=k+1+1+1+1+1:=Ai (by omega) (by omega);have B:decide (a<0)=false:=by rw[decide_eq_false_iff_not];omega
  have G:decide (S<0)=false:=by rw[decide_eq_false_iff_not];omega
  unfold sT;dsimp only;rw[CC h,BH];simp only[A7 h,AB,J,ne_self,BN,e,g,j,q,y,AOW I ca,AOY O cb,B,G]
 grind[sT,AIz,BN,AR]
theorem yT{h:AD}(g:Bp h){k:Int}(S:0<=k)(hb:k<=2 ^ 50) :
 ∃j s ps cs td js,AA7 h k=some (j,⟨⟨s,h.AO.CJ,h.AO.Room,h.AO.A2,h.AO.CB,h.AO.Bq,h.AO.Rest,h.AO.CL,h.AO.Cs⟩,h.Now,h.Ap,ps,cs,td,js⟩)/\(k<=j/\j<=2 ^ 55) /\
  ∀r:AD,r.AO.AV=s->r.AG=ps->r.AI=cs->r.BC=td->r.A8=js->HB r k=some j:=by
 have H:=g.Dd;have I:=g.CS;have J:=g.EG;have L:=g.todo;have O:=g.F4;obtain⟨a,ea,q,a2,a3,a4⟩:=i6 (l:=h.AO.AV) H S (by omega);obtain⟨b,eb,y,b2,b3,b4⟩:=AOj (l:=h.AG) I (k:=a.1) (by omega) (by omega);obtain⟨c,ec,B,c2,c3,c4⟩:=ALu (l:=h.AI) J g.De (k:=b.1) (by omega) (by omega);obtain⟨d,ed,E,d2,d3,d4⟩:=i6 (l:=h.BC) L (k:=c.1) (by omega) (by omega);obtain⟨e,ee,G,e2,e3,e4⟩:=i6 (l:=h.A8) O (k:=d.1) (by omega) (by omega);refine⟨e.1,a.2,b.2,c.2,d.2,e.2,?_,⟨by omega,by omega⟩,?_⟩
 .grind[AA7,AA5,AB]
 .rintro r X Y Z h4 h5;have n1:decide (a.1<0)=false:=by rw[decide_eq_false_iff_not];omega
  have n2:decide (b.1<0)=false:=by rw[decide_eq_false_iff_not];omega
  have n3:decide (c.1<0)=false:=by rw[decide_eq_false_iff_not];omega
  have n4:decide (d.1<0)=false:=by rw[decide_eq_false_iff_not];omega
  have n5:decide (e.1<0)=false:=by rw[decide_eq_false_iff_not];omega
  unfold HB AQ3;simp only[X,Y,Z,h4,h5,ic (l:=a.2) (by omega) q,AOX (l:=b.2) (by omega) y,ALc (l:=c.2) (by omega) B,ic (l:=d.2) (by omega) E,ic (l:=e.2) (by omega) G,AB,n1,n2,n3,n4,n5,BN]
theorem ACe{r:AZ}(a:r.AV.length<=1048576):AQ0 r=some r:=by
 unfold AQ0;rw[B9 (by unfold lim;omega),List.nil_append]
theorem ACd{r:AZ}(a:r.AV.length<=1048576):AQ1 r=some r:=by
 unfold AQ1 AA8;rw[B9 (by unfold lim;omega),AB]
theorem AUz{w:An}(a:C1 w):AQs w w=some true:=by
 unfold AQs;have:=a.1;rw[AU3 (by omega) fun x c=>by have:=ALv c;have:=a.2;omega,AB,BI,BH]
theorem AUx{c:AY}(a:DI c):AQt c c=some true:=by
 have:=a.1;unfold AQt;rw[ANb,AB,BI,BH,ANa (by omega),AB,BI,BH,AUz a.2,AB,BI,BH]
theorem ANY{l:List AY}(a:l.length<=1048576)(c:∀x∈l,DI x):AQd l l=some true:=by
 unfold AQd;refine iR (by omega) ?_ ?_
 .grind[rS,BH,A7,AB,AUx,BI]
 grind[rS,AHp,BN,AR]
theorem AUy{r:AZ}(a:r.AV.length<=1048576):AQj r r=some true:=by
 grind[AQj,Xe,AB,BI,BH]
theorem ACA{h:AD}(a:Bp h):AAx h h=some true:=by
 have c:=a.Dd;have g:=a.CS;have e:=a.EG;have j:=a.todo;have q:=a.F4;unfold AAx;rw[AUy c,AB,BI,BH,ne_self,BN,ne_self,BN,ANc (by omega),AB,BI,BH,ANY e a.De,AB,BI,BH,Xe (by omega),AB,BI,BH,Xe (by omega),AB,BI,BH]
theorem P3{e:Ae}(a:CW e):XA e e=some true:=by
 have:=a.laid;unfold XA;rw[ACA a.EL,AB,BI,BH,AU4,AB,BI,BH,ne_self,BN,ALR (by omega),AB,BI,BH]
theorem Zb{e:Ae}(g:CW e){k:Int}(h:0<=k)(j:k<=2 ^ 50) :
 ∃c s ps cs td js ld,AQ2 e k=some (c,⟨⟨⟨s,e.BD.AO.CJ,e.BD.AO.Room,e.BD.AO.A2,e.BD.AO.CB,e.BD.AO.Bq,e.BD.AO.Rest,e.BD.AO.CL,e.BD.AO.Cs⟩,e.BD.Now,e.BD.Ap,ps,cs,td,js⟩,e.BO,e.Seq,ld⟩)/\(k<=c/\c<=2 ^ 56) /\
  ∀r:Ae,r.BD.AO.AV=s->r.BD.AG=ps->r.BD.AI=cs->r.BD.BC=td->r.BD.A8=js->r.Laid=ld->rl r k=some c:=by
 have q:=g.laid;obtain⟨a,s,ps,cs,td,js,ea,⟨y,B⟩,ah⟩:=yT g.EL h j;obtain⟨b,eb,E,G,H,I⟩:=AaQ (l:=e.Laid) q (k:=a) (by omega) (by omega);refine⟨b.1,s,ps,cs,td,js,b.2,?_,⟨by omega,by omega⟩,?_⟩
 .grind[AQ2,AB]
 grind[rl,AB,BN,AZ1]
end Lv.P
