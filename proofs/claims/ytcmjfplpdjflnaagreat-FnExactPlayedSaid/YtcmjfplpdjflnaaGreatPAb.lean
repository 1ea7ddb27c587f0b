/- Plain laws about what the program computes. -/
import Derived.Test.YtcmjfplpdjflnaaGreatKCb
set_option linter.unusedVariables false
set_option linter.unusedSimpArgs false
set_option linter.unusedSectionVars false
open Bool renaming and_eq_true->AF,and_false->C8,and_true->Ci,false_and->Bj,false_eq_true->BM,not_not->DQ,not_true->CL,true_and->Ga
open Int renaming toNat_natCast->Ad
open List renaming append_nil->Ju,cons_append->EO,drop_length->EP,foldl_cons->Bw,foldr_cons->Jv,getElem?_eq_getElem->AT,mem_cons->Ap,mem_cons_self->Bc,nil_append->B9,pairwise_cons->BU,take_add_one->B6,take_of_length_le->BI
open List.cons renaming injEq->CY
open Nat renaming add_sub_cancel->Cm,lt_or_ge->AZ,sub_self->Dl
namespace Lv.P
open Go (IntKind BinOp UnOp)
theorem W4{n:Int}(a:-9223372036854775808<=n)(c:n<9223372036854775808):IntKind.i64.wrap n=n:=by
 simp only[IntKind.wrap,IntKind.bits,IntKind.signed];simp;omega
theorem Ah{n:Int}(a:-9223372036854775808<=n)(c:n<9223372036854775808):w64 n=n:=W4 a c
theorem AVG{n:Int}(a:0<=n)(c:n<256):IntKind.u8.wrap n=n:=by
 simp only[IntKind.wrap,IntKind.bits,IntKind.signed];simp;omega
theorem AJ1{n:Nat}(h:n<256):toB (n:Int)=UInt8.ofNat n:=by
 unfold toB;rw[AVG (by omega) (by omega)];rfl
@[simp] theorem Es{α:Type}(l:List α)(i:Nat):at? l (i:Int)=l[i]?:=by simp[at?]
@[simp] theorem Ub{α:Type}(l:List α):at? l 0=l[0]?:=by simp[at?]
theorem Il(k:Nat)(h:k<2 ^ 64):k<big:=by have:=Nw;omega
theorem Qt(k:Nat)(h:k<2 ^ 64):∃n,big=n+1+k:=⟨big-1-k,by have:=Nw;omega⟩
section
variable{σ γ:Type}
theorem ABV{F:(σ->AA γ)->σ->AA γ}(R:σ->AA γ)(I:σ->Prop)(μ:σ->Nat)
 (step:∀(L:σ->AA γ) x,I x->(∀y,I y->μ y<μ x->L y=R y)->F L x=R x):∀n x,I x->μ x<n->A3 F n x=R x
 |0,x,_,h=>by omega|n+1,x,hI,e=>by
  rw[Dh];exact step _ x hI fun y a c=>ABV R I μ step n y a (by omega)
theorem YS{F:(σ->AA γ)->σ->AA γ}(R:σ->AA γ)(I:σ->Prop)(μ:σ->Nat)
 (step:∀(L:σ->AA γ) x,I x->(∀y,I y->μ y<μ x->L y=R y)->F L x=R x) {x:σ} (hI:I x) (a:μ x<2 ^ 64):A3 F big x=R x:=
 ABV R I μ step big x hI (Il _ a)
end
section
variable{α γ:Type}
@[simp] theorem BK(x y:AA γ):br true x y=x:=rfl
@[simp] theorem BL(x y:AA γ):br false x y=y:=rfl
@[simp] theorem BQ(p:Prop) [Decidable p] (x y:AA γ):br (decide p) x y=if p then x else y:=by unfold br;by_cases h:p<;>simp[h]
@[simp] theorem BB(b:Bool)(x y:AA γ):br (!b) x y=br b y x:=by cases b<;>rfl
@[simp] theorem AB(a:α)(f:α->AA γ):bd (some a) f=f a:=by rw[ACx];rfl
@[simp] theorem AVY(f:α->AA γ):bd none f=none:=by rw[ACx];rfl
@[simp] theorem AV(F:α->AA γ)(x:α):jn F x=F x:=ASf F x
theorem B8{p:Prop} [Decidable p] (h:p) (x:AA γ):gd p x=x:=by rw[AOj,AX h]
theorem B7(b:Bool)(x y:AA γ):br b x y=if b=true then x else y:=rfl
end
theorem C1{τ σ γ:Type}{F:(τ->AA γ)->τ->AA γ}(st:Nat->σ->τ)(I:Nat->σ->Prop)(R:Nat->σ->AA γ){n:Nat}(B:n<2 ^ 63)
 (step:∀L i v,I i v->i<=n->(∀a,I (i+1) a->i<n->L (st (i+1) a)=R (i+1) a)->F L (st i v)=R i v) {v:σ} (c:I 0 v):A3 F big (st 0 v)=R 0 v:=by
 have key:∀(m i k:Nat) (v:σ),i+m=n->m<k->I i v->A3 F k (st i v)=R i v:=by
  intro m
  induction m with
  |zero=>
   intro i k v hi q h;obtain⟨k,rfl⟩:∃j,k=j+1:=⟨k-1,by omega⟩;rw[Dh];exact step _ i v h (by omega) fun a _ g=>by omega
  |succ m y=>
   intro i k v hi q h;obtain⟨k,rfl⟩:∃j,k=j+1:=⟨k-1,by omega⟩;rw[Dh];exact step _ i v h (by omega) fun a e g=>y (i+1) k a (by omega) (by omega) e
 exact key n 0 big v (by omega) (Il _ (by omega)) c
theorem BJ{α:Type}{l:List α}{i:Nat}(h:i<l.length):at? l (i:Int)=some l[i]:=by rw[Es,AT h]
theorem dec_lt{l:Nat}{i:Nat}:decide ((i:Int)<(l:Int))=decide (i<l):=by rw[decide_eq_decide];omega
theorem Bt{i n:Nat}(h:i<n)(a:n<2 ^ 63):w64 ((i:Int)+1)=((i+1:Nat):Int):=by rw[Ah (by omega) (by omega)];rfl
theorem vg{α:Type}{l:List α}{z:α}{F:(List α×Int->AA (List α))->List α×Int->AA (List α)}(e:l.length<2 ^ 63)
 (step:∀L v (i:Nat),v.length=l.length->(hi:i<l.length)->F L (v,(i:Int))=L (v.set i l[i],((i+1:Nat):Int))) (stop:∀L v,F L (v,(l.length:Int))=some v) :
 A3 F big (List.replicate l.length z,0)=some l:=by
 have:=C1 (F:=F) (n:=l.length) (fun i v=>(v,(i:Int))) (fun i v=>v.length=l.length/\v.take i=l.take i) (fun _ _=>some l) e ?_ (v:=List.replicate l.length z) ⟨by simp,by simp⟩
 .exact this
 .rintro L i v ⟨a,c⟩ hi g;rcases AZ i l.length with h|h
  .rw[step L v i a h];refine g _ ⟨by simpa using a,?_⟩ h;rw[B6,B6,List.take_set_of_le (by omega),c];simp[h,a]
  .obtain rfl:i=l.length:=by omega
   rw[stop];rw[BI (by omega),BI (by omega)]at c;rw[c]
theorem AVP{n:Nat}{F:(Int->AA Bool)->Int->AA Bool}(a:n<2 ^ 63)
 (step:∀L (i:Nat),i<n->F L (i:Int)=L ((i+1:Nat):Int)) (stop:∀L,F L (n:Int)=some true):A3 F big 0=some true:=by
 have:=C1 (F:=F) (n:=n) (fun i (_:Unit)=>(i:Int)) (fun _ _=>True) (fun _ _=>some true) a ?_ (v:=()) trivial
 .exact this
 .intro L i v _ hi c;rcases AZ i n with h|h
  .rw[step L i h];exact c () trivial h
  .obtain rfl:i=n:=by omega
   exact stop L
theorem DR{α:Type}{l:List α}{i:Nat}(h:i<l.length):l.drop i=l[i]::l.drop (i+1):=List.drop_eq_getElem_cons h
theorem J9{σ γ:Type}{F:(σ->AA γ)->σ->AA γ}(I:σ->Prop)(μ:σ->Nat)(Q:γ->Prop)
 (step:∀(L:σ->AA γ) x,I x->(∀y,I y->μ y<μ x->∃r,L y=some r/\Q r)->∃r,F L x=some r/\Q r):∀n x,I x->μ x<n->∃r,A3 F n x=some r/\Q r
 |0,x,_,h=>by omega|n+1,x,hI,e=>by
  rw[Dh];exact step _ x hI fun y a c=>J9 I μ Q step n y a (by omega)
theorem gx{τ σ γ:Type}{F:(τ->AA γ)->τ->AA γ}(st:Nat->σ->τ)(I:Nat->σ->Prop)(Q:γ->Prop){n:Nat}(B:n<2 ^ 63)
 (step:∀L i v,I i v->i<=n->(∀a,I (i+1) a->i<n->∃r,L (st (i+1) a)=some r/\Q r)->∃r,F L (st i v)=some r/\Q r) {v:σ} (c:I 0 v):∃r,A3 F big (st 0 v)=some r/\Q r:=by
 have key:∀(m i k:Nat) (v:σ),i+m=n->m<k->I i v->∃r,A3 F k (st i v)=some r/\Q r:=by
  intro m
  induction m with
  |zero=>
   intro i k v hi q h;obtain⟨k,rfl⟩:∃j,k=j+1:=⟨k-1,by omega⟩;rw[Dh];exact step _ i v h (by omega) fun a _ g=>by omega
  |succ m y=>
   intro i k v hi q h;obtain⟨k,rfl⟩:∃j,k=j+1:=⟨k-1,by omega⟩;rw[Dh];exact step _ i v h (by omega) fun a e g=>y (i+1) k a (by omega) (by omega) e
 exact key n 0 big v (by omega) (Il _ (by omega)) c
def inB(a b c:Int):Bool:=decide (b<=a/\a<=c)
theorem CQ{a b c:Int}:inB a b c=true↔b<=a/\a<=c:=by grind[inB]
theorem GB(a b c:Int):EE a b c=some (inB a b c):=by
 grind[EE,Z7,inB,BQ,AV]
theorem FD(a b c:Int):C3 a b c=some (inB a b c):=by
 grind[C3,Ul,inB,BQ,AV]
theorem WD(a b:Int):Ly a b=some (inB a 0 (w64 (b-1))):=by unfold Ly;rw[FD,AB]
theorem Cp(a b:Bool):br a (some b) (some false)=some (a&&b):=by cases a<;>rfl
theorem AF0(a b:Bool):br a (some true) (some b)=some (a||b):=by cases a<;>rfl
theorem HE(a b:Bool):br a (some false) (some b)=some (!a&&b):=by cases a<;>rfl
theorem AF1{γ:Type}(a:Bool)(x:AA γ):br a x x=x:=by cases a<;>rfl
def IJ(p:Nat->Bool):Nat->Nat->Bool|_,0=>true|i,m+1=>p i&&IJ p (i+1) m
theorem AB0{p:Nat->Bool}:∀{m i:Nat},IJ p i m=true↔∀k,i<=k->k<i+m->p k=true
 |0,i=>by simp[IJ];omega|m+1,i=>by
  unfold IJ;rw[AF,AB0]
  grind
theorem Jo{p:Nat->Bool}{n:Nat}:IJ p 0 n=true↔∀k,k<n->p k=true:=by
 grind[AB0]
theorem JT{n:Nat}{F:(Int->AA Bool)->Int->AA Bool}{E:AA Bool}(p:Nat->Bool)(a:n<2 ^ 63)
 (step:∀L (i:Nat),i<n->F L (i:Int)=br (p i) (L ((i+1:Nat):Int)) (some false)) (stop:∀L,F L (n:Int)=E):A3 F big 0=br (IJ p 0 n) E (some false):=by
 have:=C1 (F:=F) (n:=n) (fun i (_:Unit)=>(i:Int)) (fun _ _=>True) (fun i _=>br (IJ p i (n-i)) E (some false)) a ?_ (v:=()) trivial
 .exact this
 .intro L i v _ hi c;rcases AZ i n with h|h
  .rw[step L i h,c () trivial h,show n-i=(n-(i+1))+1 by omega,show IJ p i (n-(i+1)+1)=(p i&&IJ p (i+1) (n-(i+1))) from rfl];cases p i<;>rfl
  .obtain rfl:i=n:=by omega
   rw[stop,Dl];rfl
theorem ANM{α:Type}(l:List α)(p:α->Bool)(q:Nat->Bool)(h:∀k (a:k<l.length),q k=p l[k]):IJ q 0 l.length=l.all p:=by
 grind[Jo,List.getElem_of_mem]
theorem B4{i n:Nat}(h:i<n):decide ((i:Int)<(n:Int))=true:=by rw[decide_eq_true_iff];omega
theorem C0(n:Nat):decide ((n:Int)<(n:Int))=false:=by rw[decide_eq_false_iff_not];omega
theorem lK{α:Type}{l:List α}{F:(Int->AA Bool)->Int->AA Bool}{E:AA Bool}(p:α->Bool)(a:l.length<2 ^ 63)
 (step:∀L (i:Nat) (h:i<l.length),F L (i:Int)=br (p l[i]) (L (w64 ((i:Int)+1))) (some false)) (stop:∀L,F L (l.length:Int)=E):A3 F big 0=br (l.all p) E (some false):=by
 have:=JT (F:=F) (n:=l.length) (E:=E) (fun i=>match l[i]? with|some x=>p x|none=>true) a ?_ stop
 .grind[ANM]
 .intro L i h;rw[step L i h,Bt h a];simp[h]
def D4(r:Aa):Bool:=inB r.AW.length 1 4&&(inB r.Cb 1 5&&(inB r.Room 1 10&&(inB r.BA 1 6&&(inB r.CG 1 12&&(r.AW.all (fun x=>inB x 1 60)&&(inB r.B1 1 8&&(inB r.Rest 0 8&&(inB r.Ca 1 4&&inB r.Cx 1 3))))))))
theorem Ip{r:Aa}(c:r.AW.length<2 ^ 62):zN r=some (D4 r):=by
 have a:∀b,Ph r b=some (!b&&(r.AW.all (fun x=>inB x 1 60)&&(inB r.B1 1 8&&(inB r.Rest 0 8&&(inB r.Ca 1 4&&inB r.Cx 1 3))))):=by
  intro b;unfold Ph;rw[lK (l:=r.AW) (fun x=>inB x 1 60) (E:=some (inB r.B1 1 8&&(inB r.Rest 0 8&&(inB r.Ca 1 4&&inB r.Cx 1 3)))) (by omega) ?_ ?_,Cp,HE]
  .intro L i h;unfold ph;rw[B4 h,BK,BJ h,AB,GB,AB,BB]
  .intro L;unfold ph AHc VS;rw[C0,BL];simp only[AV,GB,AB,Cp]
 unfold zN;simp only[GB,AB,BB,AV,a,CL,Bj,Cp,DQ];rfl
theorem Gk{r:Aa}(a:r.AW.length<2 ^ 62):Um r=some (D4 r):=by
 unfold Um;rw[FD,AB,BB];rw[lK (l:=r.AW) (fun x=>inB x 1 60) (E:=some (inB r.Cb 1 5&&(inB r.Room 1 10&&(inB r.BA 1 6&&(inB r.CG 1 12&&(inB r.B1 1 8&&(inB r.Ca 1 4&&(inB r.Cx 1 3&&inB r.Rest 0 8)))))))) (by omega) ?_ ?_,Cp,Cp]
 .unfold D4;congr 1;ac_rfl
 .intro L i h;unfold bL;rw[B4 h,BK,BJ h,AB,FD,AB,BB]
 .intro L;unfold bL vq J1;rw[C0,BL];simp only[AV,FD,AB,Cp]
theorem CM{r:Aa}(h:D4 r=true):(1<=r.AW.length/\r.AW.length<=4)/\(1<=r.Cb/\r.Cb<=5)/\(1<=r.Room/\r.Room<=10)/\(1<=r.BA/\r.BA<=6)/\(1<=r.CG/\r.CG<=12)/\(∀x∈r.AW,1<=x/\x<=60)/\(1<=r.B1/\r.B1<=8)/\(0<=r.Rest/\r.Rest<=8)/\(1<=r.Ca/\r.Ca<=4)/\(1<=r.Cx/\r.Cx<=3):=by
 grind[D4,CQ]
def Dp(r:Aa)(p:AN)(now:Int):Bool:=
 D4 r&&(inB now 0 1000000&&(inB p.Id 1 999&&(inB p.AY 0 (w64 ((r.AW.length:Int)-1))&&(inB p.Bi (-1) (w64 ((r.AW.length:Int)-1))&&(!(p.Bi==p.AY)&&(inB p.BA 1 r.BA&&(inB p.Co 0 (w64 (r.Cb-1))&&(inB p.Since 0 now&&(inB p.Az 1 1000000&&(inB p.DH 0 (w64 (r.Ca-1))&&(((p.State==1)&&inB p.Cq 0 (w64 (now+r.Rest)))||((p.State==2)&&inB p.Cq 1 (w64 (now+r.B1))))))))))))))
theorem MV{r:Aa}(e:r.AW.length<2 ^ 62)(p:AN)(now:Int):AC5 r p now=some (Dp r p now):=by
 have c:∀b,Pj r p now b=some (!b&&(((p.State==1)&&inB p.Cq 0 (w64 (now+r.Rest)))||((p.State==2)&&inB p.Cq 1 (w64 (now+r.B1))))):=by
  intro b;unfold Pj SU;simp only[GB,AB,AV,Cp,AF0];cases p.State==1<;>cases b<;>rfl
 have a:∀b,Na r p now b=some (!b&&(inB p.BA 1 r.BA&&(inB p.Co 0 (w64 (r.Cb-1))&&(inB p.Since 0 now&&(inB p.Az 1 1000000&&(inB p.DH 0 (w64 (r.Ca-1))&&(((p.State==1)&&inB p.Cq 0 (w64 (now+r.Rest)))||((p.State==2)&&inB p.Cq 1 (w64 (now+r.B1)))))))))):=by
  intro b;unfold Na;simp only[GB,AB,AV,BB,c,CL,Bj,Cp,HE,DQ]
 unfold AC5;simp only[Ip e,GB,AB,AV,BB,a,CL,Bj,Cp];rfl
theorem MP{r:Aa}(e:r.AW.length<2 ^ 62)(p:AN)(now:Int):bM r p now=some (Dp r p now):=by
 have c:∀b,Mx r p now b=some (!b&&(((p.State==1)&&inB p.Cq 0 (w64 (now+r.Rest)))||((p.State==2)&&inB p.Cq 1 (w64 (now+r.B1))))):=by
  intro b;unfold Mx OW;simp only[FD,AB,AV,Cp,AF0];cases p.State==1<;>cases b<;>rfl
 have a:∀b,LG r p now b=some (!b&&(inB p.BA 1 r.BA&&(inB p.Co 0 (w64 (r.Cb-1))&&(inB p.Since 0 now&&(inB p.Az 1 1000000&&(inB p.DH 0 (w64 (r.Ca-1))&&(((p.State==1)&&inB p.Cq 0 (w64 (now+r.Rest)))||((p.State==2)&&inB p.Cq 1 (w64 (now+r.B1)))))))))):=by
  intro b;unfold LG;simp only[FD,WD,AB,AV,BB,c,CL,Bj,Cp,HE,DQ]
 unfold bM;simp only[Gk e,FD,WD,AB,AV,BB,a,CL,Bj,Cp];rfl
def YQ(r:Aa)(tier waited:Int):Int:=if 0>w64 (tier-w64 (waited.tdiv r.CG)) then 0 else w64 (tier-w64 (waited.tdiv r.CG))
theorem ij(a b:Int):qA a b=some (if a>b then a else b):=by
 unfold qA;rw[BQ];split<;>rfl
theorem uc{r:Aa}(a:r.CG≠0)(t w:Int):AVw r t w=some (YQ r t w):=by
 unfold AVw;rw[B8 a,ij,AB];rfl
theorem nZ(r:Aa)(t w:Int):0<=YQ r t w:=by unfold YQ;split<;>omega
theorem E6{r:Aa}{p:AN}{now:Int}(h:Dp r p now=true):D4 r=true/\(0<=now/\now<=1000000)/\(1<=p.Id/\p.Id<=999)/\(0<=p.AY/\p.AY<=r.AW.length-1)/\(-1<=p.Bi/\p.Bi<=r.AW.length-1)/\p.Bi≠p.AY/\(1<=p.BA/\p.BA<=r.BA)/\(0<=p.Co/\p.Co<=r.Cb-1)/\(0<=p.Since/\p.Since<=now)/\(1<=p.Az/\p.Az<=1000000)/\(0<=p.DH/\p.DH<=r.Ca-1)/\(p.State=1/\0<=p.Cq/\p.Cq<=now+r.Rest\/p.State=2/\1<=p.Cq/\p.Cq<=now+r.B1):=by
 grind[Dp,CQ,CM,Ah]
def IB(r:Aa)(p:AN)(now:Int):Int:=if Dp r p now=true then YQ r p.Co (w64 (now-p.Since)) else -1
theorem uQ{r:Aa}(a:r.AW.length<2 ^ 62)(p:AN)(now:Int):AVx r p now=some (IB r p now):=by
 unfold AVx IB;rw[MV a,AB,BB,B7];split
 .rename_i h;have:=(CM (E6 h).1).2.2.2.2.1;rw[uc (by omega),AB]
 .rfl
theorem sT{r:Aa}(c:r.AW.length<2 ^ 62)(p:AN)(now:Int):AGW r p now=some (IB r p now):=by
 unfold AGW IB;rw[MP c,AB,BB,B7];split
 .rename_i h;have a:=E6 h;have j:=CM a.1;unfold ANm Up;rw[Gk c,a.1,AB,BB,BK,WD,AB,BB];have e:inB p.Co 0 (w64 (r.Cb-1))=true:=by rw[CQ,Ah (by omega) (by omega)];omega
  have g:decide (w64 (now-p.Since)<0)=false:=by rw[Ah (by omega) (by omega)];simp;omega
  rw[e,BK,AV,g,BL,B8 (by omega),AB,AX rfl]
  grind[YQ]
 .rfl
def EX(r:Aa)(p:AN)(now:Int):Af×Bool:=if Dp r p now=true/\p.State=1 then (⟨IB r p now,p.Az,p.Id,p.BA⟩,true) else (⟨0,0,0,0⟩,false)
theorem Wl{r:Aa}(a:r.AW.length<2 ^ 62)(p:AN)(now:Int):AKa r p now=some (EX r p now):=by
 unfold AKa qC EX;rw[uQ a,AB,BQ,AV,AV,BK];by_cases h:Dp r p now=true
 .have:=nZ r p.Co (w64 (now-p.Since))
  grind[IB,B7]
 grind[IB]
theorem MO{r:Aa}(a:r.AW.length<2 ^ 62)(p:AN)(now:Int):lg r p now=some (EX r p now):=by
 grind[lg,bW,EX,MP,AB,B7,AV,sT]
def Et(l:BE):Bool:=inB l.Total 1 60&&(inB l.Db 0 l.Total&&(inB l.Ee 0 l.Total&&(inB l.FY 0 l.Total&&((w64 (w64 (l.Db+l.Ee)+l.FY)==l.Total)&&inB l.Fx 0 l.FY))))
theorem OF(l:BE):AC6 l=some (Et l):=by
 unfold AC6 Pk Et;simp only[GB,AB,AV,Cp]
theorem Ft(l:BE):LH l=some (Et l):=by
 unfold LH My Et;simp only[FD,AB,AV,Cp]
def H9(a:Bl):Bool:=decide ((a.Data.length:Int)<=20000)&&inB a.Safe 0 a.Data.length
theorem HZ(a:Bl):Qa a=some (H9 a):=by
 unfold Qa bJ H9;simp only[GB,AB,AV,Cp]
theorem HX(a:Bl):Oa a=some (H9 a):=by
 unfold Oa bu H9;simp only[FD,AB,AV,Cp]
def NP(s:Bk):Bool:=H9 s.Log&&(H9 s.EZ&&H9 s.Odd)
theorem QR(s:Bk):lV s=some (NP s):=by
 unfold lV Uj NP;simp only[HZ,AB,AV,Cp]
theorem V9(s:Bk):xB s=some (NP s):=by
 unfold xB Uv NP;simp only[HX,AB,AV,Cp]
section
variable{α:Type}(lt:α->α->Bool)
def put(x:α):List α->List α| []=>[x]|z::l=>if lt z x=true then z::put x l else x::z::l
def ins(x:α):List α->List α| []=>[x]|z::l=>if lt x z=true then x::z::l else z::ins x l
structure Swo:Prop where
 o9:∀a b,lt a b=true->lt b a=false
 neg:∀a b c,lt a c=true->lt a b=true\/lt b c=true
def DK(l:List α):List α:=l.foldr (put lt) []
variable {lt}
theorem Swo.trans(h:Swo lt){a b c:α}(g:lt a b=true)(j:lt b c=true):lt a c=true:=by
 rcases h.neg a c b g with e|e
 .exact e
 .rw[h.o9 _ _ j]at e;cases e
theorem AJQ(h:Swo lt)(x y:α):∀l,ins lt x (put lt y l)=put lt y (ins lt x l)
 | []=>by simp only[put,ins]|z::l=>by
  cases c:lt z y with
  |true=>
   cases a:lt x z with
   |true=>simp only[put,ins,c,a,h.trans a c,if_true]|false=>simp[put,ins,c,a,AJQ h x y l]
  |false=>
   cases a:lt x y with
   |true=>
    have e:lt x z=true:=(h.neg x z y a).resolve_right (by simp[c]);simp[put,ins,c,a,e]
   |false=>
    grind[put,ins]
theorem tt(h:Swo lt)(j:∀a b,lt a b=false->lt b a=false->a=b)(x y:α):∀l,put lt x (put lt y l)=put lt y (put lt x l)
 | []=>by
  simp only[put];cases c:lt y x with
  |true=>simp[h.o9 _ _ c]|false=>
   cases e:lt x y with
   |true=>simp|false=>simp[j _ _ c e]
 |z::l=>by
  cases c:lt z y with
  |true=>
   cases e:lt z x with
   |true=>simp only[put,c,e,if_true];rw[tt h j x y l]|false=>
    have g:lt x y=true:=(h.neg z x y c).resolve_left (by simp[e]);simp[put,c,e,g]
  |false=>
   cases e:lt z x with
   |true=>
    have g:lt y x=true:=(h.neg z y x e).resolve_left (by simp[c]);simp[put,c,e,g]
   |false=>
    cases g:lt y x with
    |true=>simp[put,c,e,g,h.o9 _ _ g]|false=>
     cases q:lt x y with
     |true=>simp[put,c,e,g,q]|false=>simp[j _ _ g q]
theorem nG(h:Swo lt):∀(l acc:List α) (a:α),l.foldl (fun s x=>ins lt x s) (put lt a acc)=put lt a (l.foldl (fun s x=>ins lt x s) acc)| [],_,_=>rfl|x::l,acc,a=>by rw[Bw,AJQ h,nG h l,Bw]
theorem nU(h:Swo lt):∀l:List α,l.foldl (fun s x=>ins lt x s) []=DK lt l
 | []=>rfl|a::l=>by
  rw[Bw,show ins lt a []=put lt a [] from rfl,nG h,nU h l];rfl
theorem nH(h:Swo lt)(c:∀a b,lt a b=false->lt b a=false->a=b):∀(l acc:List α) (a:α),l.foldl (fun s x=>put lt x s) (put lt a acc)=put lt a (l.foldl (fun s x=>put lt x s) acc)| [],_,_=>rfl|x::l,acc,a=>by rw[Bw,tt h c,nH h c l,Bw]
theorem YL(h:Swo lt)(c:∀a b,lt a b=false->lt b a=false->a=b):∀l:List α,l.foldl (fun s x=>put lt x s) []=DK lt l| []=>rfl|a::l=>by rw[Bw,nH h c,YL h c l];rfl
theorem FX(x:α):∀l,(put lt x l).length=l.length+1| []=>rfl|z::l=>by unfold put;split<;>simp[FX x l]
theorem AJN(x:α):∀l,(ins lt x l).length=l.length+1| []=>rfl|z::l=>by unfold ins;split<;>simp[AJN x l]
theorem Im:∀l:List α,(DK lt l).length=l.length
 | []=>rfl|a::l=>by
  have:=Im l;unfold DK at this ⊢;rw[Jv,FX,this];rfl
theorem Sp{x a:α}:∀{l},a∈put lt x l↔a=x\/a∈l
 | []=>by simp[put]|z::l=>by
  unfold put;split
  .rw[Ap,Sp,Ap]
   grind
  .simp
theorem AJO{x a:α}:∀{l},a∈ins lt x l↔a=x\/a∈l
 | []=>by simp[ins]|z::l=>by
  unfold ins;split
  .simp
  .rw[Ap,AJO,Ap]
   grind
theorem Ox{a:α}:∀{l:List α},a∈DK lt l↔a∈l
 | []=>by simp[DK]|z::l=>by
  have:=Ox (a:=a) (l:=l);unfold DK at this ⊢;rw[Jv,Sp,this,Ap]
def Srt(lt:α->α->Bool)(l:List α):Prop:=l.Pairwise fun a b=>lt b a=false
theorem AJR(h:Swo lt)(x:α):∀l,Srt lt l->Srt lt (ins lt x l)
 | [],_=>by simp[ins,Srt]|z::l,a=>by
  unfold Srt at a;rw[BU]at a;unfold ins Srt;split
  .rename_i g;rw[BU,BU];refine⟨?_,a⟩;intro b c;rcases Ap.1 c with rfl|c
   .exact h.o9 _ _ g
   .cases e:lt b x with|false=>rfl|true=>exact absurd (h.trans e g) (by simp[a.1 b c])
  .rename_i g;rw[BU];refine⟨?_,AJR h x l a.2⟩
   grind[AJO]
theorem YI{x:α}{e:List α}(h:∀b∈e,lt x b=true):∀{s1:List α},(∀a∈s1,lt x a=false)->ins lt x (s1++e)=s1++x::e
 | [],_=>by
  cases e with
  |nil=>rfl|cons b s=>unfold ins;rw[B9];simp[h b Bc]
 |a::s1,g=>by
  rw[EO];unfold ins;rw[g a Bc,AU (by simp),YI h fun c j=>g c (List.mem_cons_of_mem _ j)];rfl
theorem YH{γ:Type}(h:Swo lt){G:(List α×Int->AA γ)->List α×Int->AA γ}{E:List α->AA γ}{x:α}{r:List α}{M:Nat}
 (I:∀L t z w,t.length<M->lt x z=true->G L (t++z::x::w,((t.length+1:Nat):Int))=L (t++x::z::w,(t.length:Int)))
 (J:∀L t z w,t.length<M->lt x z=false->G L (t++z::x::w,((t.length+1:Nat):Int))=E (t++z::x::w)) (O:∀L w,G L (x::w,0)=E (x::w)) :
 ∀(k N:Nat) (s1 c:List α),s1.length=k->k<=M->k<N->(∀b∈c,lt x b=true)->Srt lt s1->A3 G N (s1++x::(c++r),(k:Int))=E (ins lt x (s1++c)++r)
 |k,0,s1,c,q,hM,hN,y,j=>by omega|0,N+1,s1,c,q,hM,hN,y,j=>by
  obtain rfl:=List.eq_nil_of_length_eq_zero q;rw[Dh,B9,YI (s1:=[]) y (by simp)];exact O _ _
 |k+1,N+1,s1,c,q,hM,hN,y,j=>by
  rcases List.eq_nil_or_concat s1 with rfl|⟨t,z,rfl⟩
  .simp at q
  simp only[List.concat_eq_append]at q j ⊢;have S:t.length=k:=by simpa using q
  have Q:Srt lt t/\∀a∈t,lt z a=false:=by
   unfold Srt at j ⊢;rw[List.pairwise_append]at j;exact⟨j.1,fun a g=>j.2.2 a g z (by simp)⟩
  rw[Dh];subst S;cases H:lt x z with
  |true=>
   have e:t++[z]++x::(c++r)=t++z::x::(c++r):=by simp
   rw[e,I _ _ _ _ (by omega) H];have:=YH (r:=r) h I J O t.length N t (z::c) rfl (by omega) (by omega) (by simpa[H] using y) Q.1;rw[EO]at this;rw[this];simp
  |false=>
   have e:t++[z]++x::(c++r)=t++z::x::(c++r):=by simp
   rw[e,J _ _ _ _ (by omega) H,YI y ?_]
   .simp
   .intro a g;rw[List.mem_append]at g;rcases g with g|g
    .cases e:lt x a with
     |false=>rfl|true=>
      rcases h.neg x z a e with B|B
      .rw[H]at B;cases B
      .rw[Q.2 a g]at B;cases B
    .rw[List.mem_singleton]at g;subst g;exact H
theorem nS(h:Swo lt){F:(List α×Int->AA (List α))->List α×Int->AA (List α)}{v0:List α}(B:v0.length<2 ^ 62)
 (step:∀L s x r,s.length+1+r.length=v0.length->0<s.length->Srt lt s->F L (s++x::r,(s.length:Int))=L (ins lt x s++r,((s.length+1:Nat):Int)))
 (stop:∀L v (i:Nat),v0.length<=i->F L (v,(i:Int))=some v):A3 F big (v0,1)=some (DK lt v0):=by
 cases v0 with
 |nil=>
  have:=Qt 0 (by omega);obtain⟨n,q⟩:=this;rw[q,Nat.add_zero,Dh];exact stop _ _ 1 (by simp)
 |cons a l=>
  have:=C1 (F:=F) (n:=l.length) (fun i (v:List α×List α)=>(v.1++v.2,((i+1:Nat):Int))) (fun i v=>v.1.length=i+1/\v.2.length+i=l.length/\Srt lt v.1) (fun i v=>some (v.2.foldl (fun s x=>ins lt x s) v.1)) (by simp at B;omega) ?_ (v:=([a],l)) ⟨rfl,rfl,by simp[Srt]⟩
  .rw[<-nU h];exact this
  .rintro L i ⟨s,r⟩ ⟨e,c,g⟩ hi j;dsimp only at e c g j ⊢;cases r with
   |nil=>
    rw[stop _ _ _ (by simp at c ⊢;omega)];simp
   |cons x r=>
    have y:s.length+1+r.length=(a::l).length:=by simp at c ⊢;omega
    rw[<-e,step L s x r y (by omega) g,Bw];have:=j (ins lt x s,r) ⟨by dsimp only;rw[AJN,e],by dsimp only;simp at c ⊢;omega,AJR h x s g⟩ (by simp at c;omega);rw[<-this,e]
theorem Rv{γ:Type}{F:(Int->AA γ)->Int->AA γ}{l:List α}{x:α}(J:List α->AA γ)(g:l.length<2 ^ 62)
 (step:∀L (i:Nat) (h:i<l.length),F L (i:Int)=br (lt l[i] x) (L (w64 ((i:Int)+1))) (J (l.take i++x::l.drop i)))
 (stop:∀L,F L (l.length:Int)=J (l++[x])):A3 F big 0=J (put lt x l):=by
 refine(C1 (n:=l.length) (fun i (_:Unit)=>(i:Int)) (fun _ _=>True) (fun i _=>J (l.take i++put lt x (l.drop i))) (by omega) ?_ (v:=()) trivial).trans (by simp);intro L i _ _ hi c;rcases AZ i l.length with h|h
 .rw[step L i h,Bt h (by omega),DR h,put];cases e:lt l[i] x with
  |true=>
   have a:l.take (i+1)=l.take i++[l[i]]:=by rw[B6,AT h];rfl
   rw[BK,c () trivial h,a,List.append_assoc];rfl
  |false=>rfl
 grind[put]
end
theorem UY{α:Type}(t w:List α)(z:α):at? (t++z::w) (t.length:Int)=some z:=by rw[Es];simp
theorem UZ{α:Type}(t w:List α)(z x:α):at? (t++z::x::w) ((t.length+1:Nat):Int)=some x:=by rw[Es];simp
theorem ACN{α:Type}(t w:List α)(z a:α):(t++z::w).set t.length a=t++a::w:=by simp
theorem ACO{α:Type}(t w:List α)(z x a:α):(t++z::x::w).set (t.length+1) a=t++z::a::w:=by
 rw[List.set_append_right _ _ (by omega),show t.length+1-t.length=1 by omega];rfl
theorem JN(n:Nat)(h:0<n)(a:n<2 ^ 63):w64 ((n:Int)-1)=((n-1:Nat):Int):=by grind[Ah]
theorem pK(a b:Int):bP a b=some (if a<b then -1 else if a>b then 1 else 0):=by
 grind[bP,AGU,AB,BQ]
def ltE(a b:Af):Bool:=decide (a.Level<b.Level)||((a.Level==b.Level)&&decide (a.Az<b.Az))
theorem Sd{a b:Af}:ltE a b=true↔a.Level<b.Level\/a.Level=b.Level/\a.Az<b.Az:=by simp[ltE]
theorem ASr{a b:Af}:ltE a b=false↔¬(a.Level<b.Level\/a.Level=b.Level/\a.Az<b.Az):=by rw[<-Sd];simp
def ltP(a b:BH):Bool:=decide (a.At<b.At)||((a.At==b.At)&&decide (a.Id<b.Id))
theorem QA{a b:BH}:ltP a b=true↔a.At<b.At\/a.At=b.At/\a.Id<b.Id:=by simp[ltP]
theorem iz{a b:BH}:ltP a b=false↔¬(a.At<b.At\/a.At=b.At/\a.Id<b.Id):=by rw[<-QA];simp
theorem aR:Swo ltE:=⟨fun a b h=>by rw[Sd]at h;rw[ASr];omega,fun a b c h=>by rw[Sd]at *;rw[Sd];omega⟩
theorem Ei:Swo ltP:=⟨fun a b h=>by rw[QA]at h;rw[iz];omega,fun a b c h=>by rw[QA]at *;rw[QA];omega⟩
theorem aS(a b:BH)(c:ltP a b=false)(e:ltP b a=false):a=b:=by
 rw[iz]at c e;obtain⟨x,y⟩:=a;obtain⟨z,w⟩:=b
 grind
theorem R6(a b:Af):AOL a b=some (ltE a b):=by
 unfold AOL Z9 ltE;simp only[AV,Cp,AF0]
theorem Zj(a b:BH):AON a b=some (ltP a b):=by
 unfold AON aA ltP;simp only[AV,Cp,AF0]
theorem Ov(a b:Af):∃c,TB a b=some c/\decide (c<0)=ltE a b:=by
 unfold TB;rw[pK,AB,B7,pK,AB];refine⟨if a.Level<b.Level then -1 else if a.Level>b.Level then 1 else if a.Az<b.Az then -1 else if a.Az>b.Az then 1 else 0,?_,?_⟩
 .split<;>split<;>simp_all
 grind[Sd]
theorem Ra(a b:Af):vt a b=some (ltE a b):=by
 unfold vt;obtain⟨c,e,g⟩:=Ov a b;rw[e,AB,g]
theorem Me(a b:BH):∃c,Q1 a b=some c/\decide (c<0)=ltP a b/\decide (c>0)=ltP b a:=by
 unfold Q1;rw[pK,AB,B7,pK,AB];refine⟨if a.At<b.At then -1 else if a.At>b.At then 1 else if a.Id<b.Id then -1 else if a.Id>b.Id then 1 else 0,?_,?_,?_⟩
 .split<;>split<;>simp_all
 .grind[QA]
 grind[QA]
theorem AZ2{l:List Af}(H:l.length<2 ^ 62):AGQ l 0 l.length=some (DK ltE l):=by
 unfold AGQ DD;refine nS aR H ?_ ?_
 .intro L s x r J O g;unfold DU;dsimp only;rw[B4 (by omega),BK];have:=YH (G:=DV TB 0 L s.length) (E:=fun v=>L (v,((s.length+1:Nat):Int))) (x:=x) (r:=r) (M:=s.length) aR ?_ ?_ ?_ s.length big s [] rfl (by omega) (Il _ (by omega)) (by simp) g
  .rw[B9,Ju]at this;exact this
  all_goals unfold DV DT Dx
  .intro L' t z w I B;obtain⟨c,q,a⟩:=Ov x z;have e:=JN (t.length+1) (by omega) (by omega);have h:((t.length+1:Nat):Int)>0:=by omega
   dsimp only;have y:c<0:=by rw[B,decide_eq_true_iff]at a;exact a
   simp only[BQ,AV,e,Cm,UY,UZ,AB,q,ACN,ACO,Ad,h,y,if_true]
  .intro L' t z w I B;obtain⟨c,q,a⟩:=Ov x z;have e:=JN (t.length+1) (by omega) (by omega);have h:((t.length+1:Nat):Int)>0:=by omega
   have j:=Bt (i:=s.length) (n:=s.length+1) (by omega) (by omega);dsimp only;have y:¬c<0:=by rw[B,decide_eq_false_iff_not]at a;exact a
   simp only[BQ,AV,e,Cm,UY,UZ,AB,q,h,y,if_true,if_false,j]
  .intro L' w;have j:=Bt (i:=s.length) (n:=s.length+1) (by omega) (by omega);dsimp only;rw[BQ,AU (by omega),AV,BL,AV,j]
 grind[DU,BQ]
theorem AXj{l:List BH}(H:l.length<2 ^ 62):wT l 0 l.length=some (DK ltP l):=by
 unfold wT DD;refine nS Ei H ?_ ?_
 .intro L s x r J O g;unfold DU;dsimp only;rw[B4 (by omega),BK];have:=YH (G:=DV Q1 0 L s.length) (E:=fun v=>L (v,((s.length+1:Nat):Int))) (x:=x) (r:=r) (M:=s.length) Ei ?_ ?_ ?_ s.length big s [] rfl (by omega) (Il _ (by omega)) (by simp) g
  .rw[B9,Ju]at this;exact this
  all_goals unfold DV DT Dx
  .intro L' t z w I B;obtain⟨c,q,a,_⟩:=Me x z;have e:=JN (t.length+1) (by omega) (by omega);have h:((t.length+1:Nat):Int)>0:=by omega
   dsimp only;have y:c<0:=by rw[B,decide_eq_true_iff]at a;exact a
   simp only[BQ,AV,e,Cm,UY,UZ,AB,q,ACN,ACO,Ad,h,y,if_true]
  .intro L' t z w I B;obtain⟨c,q,a,_⟩:=Me x z;have e:=JN (t.length+1) (by omega) (by omega);have h:((t.length+1:Nat):Int)>0:=by omega
   have j:=Bt (i:=s.length) (n:=s.length+1) (by omega) (by omega);dsimp only;have y:¬c<0:=by rw[B,decide_eq_false_iff_not]at a;exact a
   simp only[BQ,AV,e,Cm,UY,UZ,AB,q,h,y,if_true,if_false,j]
  .intro L' w;have j:=Bt (i:=s.length) (n:=s.length+1) (by omega) (by omega);dsimp only;rw[BQ,AU (by omega),AV,BL,AV,j]
 grind[DU,BQ]
theorem AW1{l:List Af}(e:l.length<=19):lU l=some (DK ltE l):=by
 unfold lU AGR Fy;obtain⟨n,c⟩:=Qt 0 (by omega);have a:=AZ2 (l:=l) (by omega);unfold AGQ at a
 grind[Fc,Dh,BQ,AV,HF,AB,Fe]
theorem AW2{l:List BH}(e:l.length<=19):lh l=some (DK ltP l):=by
 unfold lh AGj Fy;obtain⟨n,c⟩:=Qt 0 (by omega);have a:=AXj (l:=l) (by omega);unfold wT at a
 grind[Fc,Dh,BQ,AV,HF,AB,Fe]
set_option maxRecDepth 100000
theorem AVb{n:Nat}(a:n<256):∃c,AGT (IntKind.u64.wrap (n:Int))=some c:=by
 have e:IntKind.u64.wrap (n:Int)=n:=by
  simp only[IntKind.wrap,IntKind.bits,IntKind.signed];simp;omega
 unfold AGT ANj;rw[e,BQ,AU (by omega),AV];unfold bG;dsimp only;rw[BQ,AU (by omega),AV];unfold bH;dsimp only;rw[BQ,AU (by omega),AV];unfold bI;dsimp only;rw[BJ (UInt8.toNat_lt (toB (n:Int))),AB,AB];exact⟨_,rfl⟩
theorem AYy{l:List BH}(g:l.length<=12):AGi l=some (DK ltP l):=by
 unfold AGi ANo;obtain⟨c,a⟩:=AVb (n:=l.length) (by omega);rw[a,AB];obtain⟨n,e⟩:=Qt 0 (by omega)
 grind[Dh,wV,BQ,Ah,AXj,AB]
section
variable{α σ γ:Type}
theorem RP{l:List α}{F:(σ×Int->AA γ)->σ×Int->AA γ}(f:σ->α->σ)(I:Nat->σ->Prop)(J:σ->AA γ)(a:l.length<2 ^ 63)
 (step:∀L i (h:i<l.length) v,I i v->F L (v,(i:Int))=L (f v l[i],w64 ((i:Int)+1))) (E4:∀i (h:i<l.length) v,I i v->I (i+1) (f v l[i]))
 (stop:∀L v,I l.length v->F L (v,(l.length:Int))=J v) {v0:σ} (e:I 0 v0):A3 F big (v0,0)=J (l.foldl f v0):=by
 refine(C1 (n:=l.length) (fun i (v:σ)=>(v,(i:Int))) I (fun i v=>J ((l.drop i).foldl f v)) a ?_ e);intro L i v c hi g;rcases AZ i l.length with h|h
 .rw[step L i h v c,Bt h a,DR h,Bw];exact g _ (E4 i h v c) h
 grind
def Ic(eq:α->α->Bool):List α->List α->Bool| [],[]=>true|x::a,y::b=>eq x y&&Ic eq a b|_,_=>false
theorem Jq{eq:α->α->Bool}(c:∀x y,eq x y=true↔x=y):∀{a b:List α},Ic eq a b=true↔a=b| [],[]=>by simp[Ic]| [],y::b=>by simp[Ic]|x::a,[]=>by simp[Ic]|x::a,y::b=>by rw[Ic,AF,c,Jq c,CY]
theorem ACI{eq:α->α->Bool}:∀{a b:List α},a.length≠b.length->Ic eq a b=false| [],[],h=>by simp at h| [],y::b,h=>rfl|x::a,[],h=>rfl|x::a,y::b,h=>by rw[Ic,ACI (a:=a) (b:=b) (by simpa using h),C8]
theorem AUg{eq:α->α->Bool}{a b:List α}{F:(Int->AA Bool)->Int->AA Bool}(c:a.length<2 ^ 63)(e:a.length=b.length)
 (step:∀L i (h:i<a.length) (j:i<b.length),F L (i:Int)=br (!(eq a[i] b[i])) (some false) (L (w64 ((i:Int)+1)))) (stop:∀L,F L (a.length:Int)=some true):A3 F big 0=some (Ic eq a b):=by
 refine(C1 (n:=a.length) (fun i (_:Unit)=>(i:Int)) (fun _ _=>True) (fun i _=>some (Ic eq (a.drop i) (b.drop i))) c ?_ (v:=()) trivial);intro L i _ _ hi g;rcases AZ i a.length with h|h
 .rw[step L i h (by omega),Bt h c,DR h,DR (l:=b) (i:=i) (by omega),Ic,BB];cases eq a[i] b[i] with|true=>rw[BK,g () trivial h];rfl|false=>rfl
 .obtain rfl:i=a.length:=by omega
  rw[stop,EP,List.drop_eq_nil_of_le (by omega)];rfl
theorem Yk{eq:α->α->Bool}{a b:List α}{F:(Int->AA Bool)->Int->AA Bool}(c:a.length<2 ^ 63)
 (step:∀L i (h:i<a.length) (g:i<b.length),F L (i:Int)=br (!(eq a[i] b[i])) (some false) (L (w64 ((i:Int)+1)))) (stop:∀L,F L (a.length:Int)=some true) :
 br ((a.length:Int) != (b.length:Int)) (some false) (A3 F big 0)=some (Ic eq a b):=by
 by_cases h:a.length=b.length
 .have e:((a.length:Int) != (b.length:Int))=false:=by simp[h]
  rw[e,BL,AUg c h step stop]
 .have e:((a.length:Int) != (b.length:Int))=true:=by simp;omega
  rw[e,BK,ACI h]
def atF(p:α->Bool):List α->Nat->Int| [],_=>-1|x::l,i=>if p x=true then (i:Int) else atF p l (i+1)
theorem Pc{p:α->Bool}{l:List α}{F:(Int->AA Int)->Int->AA Int}(a:l.length<2 ^ 63)
 (step:∀L i (h:i<l.length),F L (i:Int)=br (p l[i]) (some (i:Int)) (L (w64 ((i:Int)+1)))) (stop:∀L,F L (l.length:Int)=some (-1)):A3 F big 0=some (atF p l 0):=by
 refine(C1 (n:=l.length) (fun i (_:Unit)=>(i:Int)) (fun _ _=>True) (fun i _=>some (atF p (l.drop i) i)) a ?_ (v:=()) trivial);intro L i _ _ hi c;rcases AZ i l.length with h|h
 .rw[step L i h,Bt h a,DR h,atF];cases p l[i] with|true=>rfl|false=>rw[BL,c () trivial h];simp
 .obtain rfl:i=l.length:=by omega
  rw[stop,EP];rfl
theorem ar{p:α->Bool}:∀{l:List α} {s:Nat},atF p l s<0↔∀x∈l,p x=false
 | [],s=>by simp[atF]|x::l,s=>by
  unfold atF;split
  .rename_i h;simp[h]
  .rename_i h;rw[ar];simp[h]
theorem vP{p:α->Bool}:∀{l:List α} {i:Nat} (s:Nat) (h:i<l.length),p l[i]=true->((atF p l s != ((s+i:Nat):Int))=decide (atF p (l.take i) s>=0))
 | [],i,s,h,a=>by simp at h|x::l,0,s,h,a=>by
  simp only[List.getElem_cons_zero]at a;simp[atF,a]
 |x::l,i+1,s,h,a=>by
  simp only[List.getElem_cons_succ]at a;rw[List.take_succ_cons,atF,atF];by_cases c:p x=true
  .grind
  .rw[AU c,AU c];have:=vP (l:=l) (i:=i) (s+1) (by simpa using h) a;rw[<-this,show s+1+i=s+(i+1) by omega]
end
def LZ(cabin:Int)(n:Int)(p:AN):Int:=if (p.AY==cabin)=true then n+1 else n
def DF(l:List AN)(cabin:Int):Int:=l.foldl (LZ cabin) 0
def TI(cabin:Int)(n:Int)(p:AN):Int:=if ((p.State==2)&&((p.AY==cabin)&&inB p.BA 1 6))=true then n+p.BA else n
def IY(l:List AN)(cabin:Int):Int:=l.foldl (TI cabin) 0
def Tb(cabin:Int)(n:Int)(p:AN):Int:=if ((p.Bi==cabin)&&inB p.BA 1 6)=true then n+p.BA else n
def I1(l:List AN)(cabin:Int):Int:=l.foldl (Tb cabin) 0
theorem lR(cabin:Int)(p:AN){i:Nat}{n:Int}(h:0<=n/\n<=i):0<=LZ cabin n p/\LZ cabin n p<=((i+1:Nat):Int):=by unfold LZ;split<;>omega
theorem V5(cabin:Int)(p:AN){i:Nat}{n:Int}(h:0<=n/\n<=6*i):0<=TI cabin n p/\TI cabin n p<=6*((i+1:Nat):Int):=by
 grind[TI,CQ]
theorem Ww(cabin:Int)(p:AN){i:Nat}{n:Int}(h:0<=n/\n<=6*i):0<=Tb cabin n p/\Tb cabin n p<=6*((i+1:Nat):Int):=by
 grind[Tb,CQ]
theorem QN{l:List AN}(e:l.length<2 ^ 58)(c:Int):AKV l c=some (DF l c):=by
 unfold AKV;refine RP (l:=l) (LZ c) (fun i n=>0<=n/\n<=i) some (by omega) ?_ (fun i h v a=>lR c _ a) ?_ (by simp)
 .grind[pd,pc,LZ,BJ,AB,AV,Ah,B7]
 grind[pd,AGO,BL,AV]
theorem P2{l:List AN}(e:l.length<2 ^ 58)(c:Int):lW l c=some (DF l c):=by
 unfold lW;refine RP (l:=l) (LZ c) (fun i n=>0<=n/\n<=i) some (by omega) ?_ (fun i h v a=>lR c _ a) ?_ (by simp)
 .grind[bO,bN,LZ,BJ,AB,AV,Ah,B7]
 grind[bO,vr,BL,AV]
theorem Ze{l:List AN}(y:l.length<2 ^ 58)(c:Int):ANh l c=some (IY l c):=by
 unfold ANh;refine RP (l:=l) (TI c) (fun i n=>0<=n/\n<=6*i) some (by omega) ?_ (fun i h v a=>V5 c _ a) ?_ (by simp)
 .intro L i h v a;have e:=V5 c l[i] a;unfold TI at e ⊢;unfold pX Z5 pW;dsimp only;rw[B4 h,BK];simp only[BJ h,AB,AV,GB,BL];cases g:l[i].State==2<;>cases j:l[i].AY==c<;>cases q:inB l[i].BA 1 6<;>simp only[BK,BL,Ga,Bj,if_true,BM,if_false]
  grind[Ah]
 grind[pX,AGM,BL,AV]
theorem ZK{l:List AN}(y:l.length<2 ^ 58)(c:Int):ba l c=some (IY l c):=by
 unfold ba;refine RP (l:=l) (TI c) (fun i n=>0<=n/\n<=6*i) some (by omega) ?_ (fun i h v a=>V5 c _ a) ?_ (by simp)
 .intro L i h v a;have e:=V5 c l[i] a;unfold TI at e ⊢;unfold bg Ut bc;dsimp only;rw[B4 h,BK];simp only[BJ h,AB,AV,FD,BL];cases g:l[i].State==2<;>cases j:l[i].AY==c<;>cases q:inB l[i].BA 1 6<;>simp only[BK,BL,Ga,Bj,if_true,BM,if_false]
  grind[Ah]
 grind[bg,wv,BL,AV]
theorem Zh{l:List AN}(q:l.length<2 ^ 58)(c:Int):AKU l c=some (I1 l c):=by
 unfold AKU;refine RP (l:=l) (Tb c) (fun i n=>0<=n/\n<=6*i) some (by omega) ?_ (fun i h v a=>Ww c _ a) ?_ (by simp)
 .intro L i h v a;have e:=Ww c l[i] a;unfold Tb at e ⊢;unfold pb pY pZ;dsimp only;rw[B4 h,BK];simp only[BJ h,AB,AV,GB,BL];cases g:l[i].Bi==c<;>cases j:inB l[i].BA 1 6<;>simp only[BK,BL,Ga,Bj,if_true,BM,if_false]
  grind[Ah]
 grind[pb,AGN,BL,AV]
theorem ZO{l:List AN}(q:l.length<2 ^ 58)(c:Int):Y2 l c=some (I1 l c):=by
 unfold Y2;refine RP (l:=l) (Tb c) (fun i n=>0<=n/\n<=6*i) some (by omega) ?_ (fun i h v a=>Ww c _ a) ?_ (by simp)
 .intro L i h v a;have e:=Ww c l[i] a;unfold Tb at e ⊢;unfold bk bh bj;dsimp only;rw[B4 h,BK];simp only[BJ h,AB,AV,FD,BL];cases g:l[i].Bi==c<;>cases j:inB l[i].BA 1 6<;>simp only[BK,BL,Ga,Bj,if_true,BM,if_false]
  grind[Ah]
 grind[bk,wy,BL,AV]
def eqE(x y:Af):Bool:=x.Level==y.Level&&(x.Az==y.Az&&(x.Id==y.Id&&(x.BA==y.BA&&true)))
theorem qM(x y:Af):eqE x y=true↔x=y:=by
 obtain⟨a,b,c,d⟩:=x;obtain⟨e,f,g,h⟩:=y;simp[eqE]
def eqP(x y:BH):Bool:=x.At==y.At&&(x.Id==y.Id&&true)
theorem qO(x y:BH):eqP x y=true↔x=y:=by
 obtain⟨a,b⟩:=x;obtain⟨c,d⟩:=y;simp[eqP]
theorem uX{a b:List Af}(e:a.length<2 ^ 62):AVn a b=some (Ic eqE a b):=by
 unfold AVn;refine Yk (by omega) ?_ ?_
 .intro L i h c;unfold pM;rw[B4 h,BK,BJ h,AB,BJ c,AB];rfl
 grind[pM,AGI,BL,AV]
theorem ABJ{a b:List Af}(e:a.length<2 ^ 62):AGS a b=some (Ic eqE a b):=by
 unfold AGS;refine Yk (by omega) ?_ ?_
 .intro L i h c;unfold bF;rw[B4 h,BK,BJ h,AB,BJ c,AB];rfl
 grind[bF,vm,BL,AV]
theorem kz{a b:List BH}(e:a.length<2 ^ 62):AVo a b=some (Ic eqP a b):=by
 unfold AVo;refine Yk (by omega) ?_ ?_
 .intro L i h c;unfold pV;rw[B4 h,BK,BJ h,AB,BJ c,AB];rfl
 grind[pV,AGL,BL,AV]
theorem ABL{a b:List BH}(e:a.length<2 ^ 62):AGk a b=some (Ic eqP a b):=by
 unfold AGk;refine Yk (by omega) ?_ ?_
 .intro L i h c;unfold bZ;rw[B4 h,BK,BJ h,AB,BJ c,AB];rfl
 grind[bZ,wu,BL,AV]
def JG{α:Type}(l:List α)(k:Nat)(p:α->Bool):Bool:=match l[k]? with|some x=>p x|none=>true
theorem CS{α:Type}{l:List α}{k:Nat}(h:k<l.length)(p:α->Bool):JG l k p=p l[k]:=by unfold JG;rw[AT h]
theorem aH(i:Nat):decide ((i:Int)>0)=decide (0<i):=by rw[decide_eq_decide];omega
theorem Li{α:Type}(l:List α)(x:α):l.length+[x].length=l.length+1:=rfl
theorem QP{l:List Af}(a:l.length<2 ^ 62)(id:Int):AKZ l id=some (atF (fun x=>x.Id==id) l 0):=by
 grind[AKZ,Pc,AIr,BK,BJ,AB,AIq,BL,AV]
theorem V7{l:List Af}(a:l.length<2 ^ 62)(id:Int):lY l id=some (atF (fun x=>x.Id==id) l 0):=by
 unfold lY ANl
 grind[Pc,AB,vz,ANk,BK,BJ,vu,BL,AV]
def AOW(e:Af):Bool:=inB e.Level 0 4&&(inB e.Az 1 1000000&&(inB e.Id 1 999&&inB e.BA 1 6))
def qAt(l:List Af)(i:Nat):Bool:=
 JG l i fun e=>AOW e&&((if 0<i then JG l (i-1) (fun d=>ltE d e) else true)&&!(decide (atF (fun x=>x.Id==e.Id) (l.take i) 0>=0)))
def KF(l:List Af):Bool:=!(decide ((l.length:Int)>10))&&IJ (qAt l) 0 l.length
theorem uU(l:List Af)(g:l.length<2 ^ 62):AVu l=some (KF l):=by
 unfold AVu KF;rw[JT (n:=l.length) (E:=some true) (qAt l) (by omega) ?_ ?_,Cp,Ci,HE]
 .intro L i h;have q:=Bt h (show l.length<2 ^ 63 by omega);unfold qAt;rw[CS h];unfold pt;rw[B4 h,BK,BJ h,AB];have a:∀b,Vu L i b=br (!b) (L ((i+1:Nat):Int)) (some false):=by intro b;unfold Vu;rw[q];cases b<;>rfl
  have j:(atF (fun x=>x.Id==l[i].Id) l 0 != (i:Int))=decide (atF (fun x=>x.Id==l[i].Id) (l.take i) 0>=0):=by
   grind[vP]
  have e:∀b,SW l L i l[i] b=br (!b&&((if 0<i then JG l (i-1) (fun d=>ltE d l[i]) else true)&&!(decide (atF (fun x=>x.Id==l[i].Id) (l.take i) 0>=0)))) (L ((i+1:Nat):Int)) (some false):=by
   intro b;unfold SW;rw[aH];by_cases c:0<i
   .rw[decide_eq_true c,BK,AX c,JN i c (by omega),BJ (show i-1<l.length by omega),AB,R6,AB,BB,QP g,AB,AV,AV,a,a,j,CS (by omega)];cases b<;>cases ltE l[i-1] l[i]<;>rfl
   .rw[decide_eq_false c,BL,AU c,QP g,AB,AV,a,j];cases b<;>rfl
  unfold AOW;simp only[GB,AB,AV,BB,e];generalize ((if 0<i then JG l (i-1) (fun d=>ltE d l[i]) else true)&&!(decide (atF (fun x=>x.Id==l[i].Id) (l.take i) 0>=0)))=X;cases inB l[i].Level 0 4<;>cases inB l[i].Az 1 1000000<;>cases inB l[i].Id 1 999<;>cases inB l[i].BA 1 6<;>rfl
 grind[pt,AIs,BL,AV]
theorem V8(l:List Af)(q:l.length<2 ^ 62):lZ l=some (KF l):=by
 unfold lZ KF;rw[JT (n:=l.length) (E:=some true) (qAt l) (by omega) ?_ ?_,Cp,Ci,HE]
 .intro L i h;have g:=Bt h (show l.length<2 ^ 63 by omega);unfold qAt;rw[CS h];unfold bQ;rw[B4 h,BK,BJ h,AB];have a:∀b,OX L i b=br (!b) (L ((i+1:Nat):Int)) (some false):=by intro b;unfold OX;rw[g];cases b<;>rfl
  have e:∀b,Q0 L i l[i] b=br (!b&&AOW l[i]) (L ((i+1:Nat):Int)) (some false):=by
   intro b;unfold Q0 AOW;have c:w64 (5-1)=4:=by rw[Ah]<;>omega
   simp only[FD,WD,AB,AV,BB,a,c];cases b<;>cases inB l[i].Level 0 4<;>cases inB l[i].Az 1 1000000<;>cases inB l[i].Id 1 999<;>cases inB l[i].BA 1 6<;>rfl
  have j:(0:Int)<=(i:Int)/\(i:Int)<=(l.length:Int):=by omega
  grind[BK,JN,BJ,AB,Ra,B8,V7,AV,CS,ltE,BL]
 grind[bQ,wA,BL,AV]
theorem SA{l:List Af}(a:l.length<=lim):qD l=some l:=by
 unfold qD;rw[B8 (by omega),B9]
theorem j9{l:List Af}(c:l.length+1<=lim)(e:Af):AC7 l e=some (put ltE e l):=by
 have a:∀i:Nat,i<=l.length->qE l e i=some (l.take i++e::l.drop i):=by
  grind[qE,B8,SA,AB,Ce]
 have hlim:lim=268435456:=rfl;unfold AC7;refine Rv some (by omega) ?_ ?_
 .grind[qF,aG,BK,BJ,AB,R6,AV]
 grind[qF,aG,BL,AV]
theorem UK{l:List BH}(c:l.length+1<=lim)(e:BH):AKT l e=some (put ltP e l):=by
 have a:∀i:Nat,i<=l.length->pO l e i=some (l.take i++e::l.drop i):=by
  grind[pO,B8]
 have hlim:lim=268435456:=rfl;unfold AKT;refine Rv some (by omega) ?_ ?_
 .grind[pP,Z4,BK,BJ,AB,Zj,AV]
 grind[pP,Z4,BL,AV]
def K0(r:Aa)(cabin now:Int)(p:AN):AA Af:=if ((EX r p now).2&&(p.AY==cabin))=true then some (EX r p now).1 else none
def Dq(r:Aa)(l:List AN)(cabin now:Int):List Af:=DK ltE (l.filterMap (K0 r cabin now))
theorem QQ{r:Aa}(j:r.AW.length<2 ^ 62){l:List AN}(G:l.length<=1048576)(c now:Int):AKb r l c now=some (Dq r l c now):=by
 have hlim:lim=268435456:=rfl;have e:w64 ((l.length:Int)-1)=(l.length:Int)-1-((0:Nat):Int):=by rw[Ah (by omega) (by omega)];omega
 unfold AKb Dq;rw[e];refine(C1 (n:=l.length) (fun i (v:List Af)=>(v,(l.length:Int)-1-(i:Int))) (fun i v=>v.length<=i) (fun i v=>some ((((l.take (l.length-i)).filterMap (K0 r c now)).foldr (put ltE) v))) (by omega) ?_ (v:=[]) (by simp)).trans (by rw[Nat.sub_zero,List.take_length];rfl);intro L i v H hi I;unfold AIx qG qH;dsimp only;rcases AZ i l.length with h|h
 .obtain⟨k,E⟩:∃k,l.length=i+(k+1):=⟨l.length-i-1,by omega⟩;have g:(l.length:Int)-1-(i:Int)=(k:Int):=by omega
  have a:k<l.length:=by omega
  have y:w64 ((k:Int)-1)=(l.length:Int)-1-((i+1:Nat):Int):=by rw[Ah (by omega) (by omega)];omega
  have B:l.take (l.length-i)=l.take (l.length-(i+1))++[l[k]]:=by
   rw[show l.length-i=k+1 by omega,show l.length-(i+1)=k by omega,B6,AT a];rfl
  rw[g,BQ,AX (by omega)];simp only[BJ a,AB,Wl j,Ce,uj,AV,BL];have key:(br (EX r l[k] now).2 (br (l[k].AY==c) (bd (AC7 v (EX r l[k] now).1) fun q=>L (q,w64 ((k:Int)-1))) (L (v,w64 ((k:Int)-1)))) (L (v,w64 ((k:Int)-1))))=some ((((l.take (l.length-i)).filterMap (K0 r c now)).foldr (put ltE) v)):=by
   grind[j9,AB,K0,EX,BK,BL,FX]
  exact key
 .obtain rfl:i=l.length:=by omega
  unfold AIw;rw[BQ,AU (by omega),AV,Dl];rfl
theorem kg{α β:Type}(f:α->AA β){l:List α}{i:Nat}(h:i<l.length):(l.take (i+1)).filterMap f=(l.take i).filterMap f++(f l[i]).toList:=by
 rw[B6,AT h,List.filterMap_append];congr 1
theorem kh{α β:Type}(f:α->AA β)(l:List α)(i:Nat):((l.take i).filterMap f).length<=i:=Nat.le_trans (List.length_filterMap_le _ _) (by rw[List.length_take];omega)
theorem collect{α β γ:Type}{l:List α}(f:α->AA β){F:(List β×Int->AA γ)->List β×Int->AA γ}(J:List β->AA γ)(e:l.length<=1048576)
 (step:∀L i (h:i<l.length) v,v.length<=i->F L (v,(i:Int))=L (v++(f l[i]).toList,w64 ((i:Int)+1))) (stop:∀L v,F L (v,(l.length:Int))=J v):A3 F big ([],0)=J (l.filterMap f):=by
 refine(C1 (n:=l.length) (fun i (v:List β)=>(v,(i:Int))) (fun i v=>v=(l.take i).filterMap f) (fun i v=>J (l.filterMap f)) (by omega) ?_ (by simp));intro L i v a hi c;rcases AZ i l.length with h|h
 .rw[step L i h v (by rw[a];exact kh _ _ _),Bt h (by omega)];exact c _ (by rw[a,kg f h]) h
 grind
theorem lS(c:Int):∀(l:List AN) (n:Int),l.foldl (LZ c) n=n+(l.countP fun p=>p.AY==c)
 | [],n=>by simp|p::l,n=>by
  rw[Bw,lS c l,List.countP_cons]
  grind[LZ]
theorem aK{β:Type}(f:AN->AA β)(c:Int)(a:∀p,(p.AY==c)=false->f p=none):∀l:List AN,((l.filterMap f).length:Int)<=DF l c:=by
 intro l;unfold DF;rw[lS,Int.zero_add]
 induction l with
 |nil=>simp|cons p l e=>
  grind
theorem P4{r:Aa}(e:r.AW.length<2 ^ 62){l:List AN}(a:l.length<=1048576){c:Int}(q:DF l c<=19)(now:Int):Y0 r l c now=some (Dq r l c now):=by
 have hlim:lim=268435456:=rfl;have y:=aK (K0 r c now) c (by intro p h;unfold K0;rw[h,C8];rfl) l;unfold Y0 Dq;rw[collect (l:=l) (K0 r c now) Qy a ?_ ?_]
 .unfold Qy;rw[AW1 (by omega),AB]
 .intro L i h v B;unfold Qz Uh Ui K0;dsimp only;rw[B4 h,BK,BJ h,AB,MO e,AB,AV,AV,B8 (by rw[Li];omega),AV,AV];cases g:(EX r l[i] now).2<;>cases j:l[i].AY==c<;>simp
 grind[Qz,BL,AV]
def Lm(cabin:Int)(p:AN):AA BH:=if ((p.State==2)&&(p.AY==cabin))=true then some ⟨p.Cq,p.Id⟩ else none
def Fu(l:List AN)(cabin:Int):List BH:=DK ltP (l.filterMap (Lm cabin))
theorem Zf{l:List AN}(e:l.length<=1048576)(c:Int):ANg l c=some (Fu l c):=by
 have hlim:lim=268435456:=rfl;unfold ANg Fu;rw[RP (l:=l) (fun v p=>match Lm c p with|some x=>put ltP x v|none=>v) (fun i v=>v.length<=i) some (by omega) ?_ ?_ ?_ (by simp),<-YL Ei aS]
 .congr 1;generalize ([]:List BH)=a;clear e
  induction l generalizing a with
  |nil=>rfl|cons p l g=>
   rw[Bw,g,List.filterMap_cons];cases Lm c p<;>rfl
 .intro L i h v y;unfold pU pR pS Lm;dsimp only;rw[B4 h,BK];simp only[BJ h,AB,AV,BL,UK (show v.length+1<=lim by omega)];cases j:l[i].State==2<;>cases q:l[i].AY==c<;>rfl
 .grind[FX]
 grind[pU,AGK,BL,AV]
theorem ZL{l:List AN}(a:l.length<=1048576){c:Int}(j:DF l c<=19):bY l c=some (Fu l c):=by
 have hlim:lim=268435456:=rfl;have q:=aK (Lm c) c (by intro p h;unfold Lm;rw[h,C8];rfl) l;unfold bY Fu;rw[collect (l:=l) (Lm c) Q3 a ?_ ?_]
 .unfold Q3;rw[AW2 (by omega),AB]
 .intro L i h v y;unfold Q4 Uq Ur Lm;dsimp only;rw[B4 h,BK,BJ h,AB,AV,AV,B8 (by rw[Li];omega),AV,AV];cases e:l[i].State==2<;>cases g:l[i].AY==c<;>simp
 grind[Q4,BL,AV]
end Lv.P
