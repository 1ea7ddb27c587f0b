/- Plain laws about what the program computes. -/
import Derived.Test.YtcmjfplpdjflnaaGreatKC
set_option linter.unusedVariables false
set_option linter.unusedSimpArgs false
set_option linter.unusedSectionVars false
open Bool renaming and_eq_true->AE,and_false->C7,and_true->Ck,false_and->Bj,false_eq_true->BM,not_not->DQ,not_true->CK,true_and->GU
open Int renaming toNat_natCast->Aa
open List renaming append_nil->Jm,cons_append->ER,drop_length->ES,foldl_cons->Bv,foldr_cons->Jn,getElem?_eq_getElem->AV,mem_cons->Ar,mem_cons_self->Bc,nil_append->B5,pairwise_cons->BT,take_add_one->CY,take_of_length_le->BI
open List.cons renaming injEq->Cb
open Nat renaming add_sub_cancel->Co,lt_or_ge->Ab,sub_self->Dk
namespace Lv.P
open Go (IntKind BinOp UnOp)
theorem XA{n:Int}(a:-9223372036854775808<=n)(c:n<9223372036854775808):IntKind.i64.wrap n=n:=by
 simp only[IntKind.wrap,IntKind.bits,IntKind.signed];simp;omega
theorem Aq{n:Int}(a:-9223372036854775808<=n)(c:n<9223372036854775808):w64 n=n:=XA a c
theorem AVq{n:Int}(a:0<=n)(c:n<256):IntKind.u8.wrap n=n:=by
 simp only[IntKind.wrap,IntKind.bits,IntKind.signed];simp;omega
theorem AKW{n:Nat}(h:n<256):toB (n:Int)=UInt8.ofNat n:=by
 unfold toB;rw[AVq (by omega) (by omega)];rfl
@[simp] theorem FB{α:Type}(l:List α)(i:Nat):at? l (i:Int)=l[i]?:=by simp[at?]
@[simp] theorem UX{α:Type}(l:List α):at? l 0=l[0]?:=by simp[at?]
theorem JE(k:Nat)(h:k<2 ^ 64):k<big:=by have:=PU;omega
theorem Qf(k:Nat)(h:k<2 ^ 64):∃n,big=n+1+k:=⟨big-1-k,by have:=PU;omega⟩
section
variable{σ γ:Type}
theorem ABo{F:(σ->AA γ)->σ->AA γ}(R:σ->AA γ)(I:σ->Prop)(μ:σ->Nat)
 (step:∀(L:σ->AA γ) x,I x->(∀y,I y->μ y<μ x->L y=R y)->F L x=R x):∀n x,I x->μ x<n->A3 F n x=R x
 |0,x,_,h=>by omega|n+1,x,hI,e=>by
  rw[Dv];exact step _ x hI fun y a c=>ABo R I μ step n y a (by omega)
theorem YU{F:(σ->AA γ)->σ->AA γ}(R:σ->AA γ)(I:σ->Prop)(μ:σ->Nat)
 (step:∀(L:σ->AA γ) x,I x->(∀y,I y->μ y<μ x->L y=R y)->F L x=R x) {x:σ} (hI:I x) (a:μ x<2 ^ 64):A3 F big x=R x:=
 ABo R I μ step big x hI (JE _ a)
end
section
variable{α γ:Type}
@[simp] theorem BL(x y:AA γ):br true x y=x:=rfl
@[simp] theorem BO(x y:AA γ):br false x y=y:=rfl
@[simp] theorem BH(p:Prop) [Decidable p] (x y:AA γ):br (decide p) x y=if p then x else y:=by unfold br;by_cases h:p<;>simp[h]
@[simp] theorem BK(b:Bool)(x y:AA γ):br (!b) x y=br b y x:=by cases b<;>rfl
@[simp] theorem AB(a:α)(f:α->AA γ):bd (some a) f=f a:=by rw[ADH];rfl
@[simp] theorem AV8(f:α->AA γ):bd none f=none:=by rw[ADH];rfl
@[simp] theorem AU(F:α->AA γ)(x:α):jn F x=F x:=ATE F x
theorem B4{p:Prop} [Decidable p] (h:p) (x:AA γ):gd p x=x:=by rw[APM,AW h]
theorem CJ(b:Bool)(x y:AA γ):br b x y=if b=true then x else y:=rfl
end
theorem DA{τ σ γ:Type}{F:(τ->AA γ)->τ->AA γ}(st:Nat->σ->τ)(I:Nat->σ->Prop)(R:Nat->σ->AA γ){n:Nat}(B:n<2 ^ 63)
 (step:∀L i v,I i v->i<=n->(∀a,I (i+1) a->i<n->L (st (i+1) a)=R (i+1) a)->F L (st i v)=R i v) {v:σ} (c:I 0 v):A3 F big (st 0 v)=R 0 v:=by
 have key:∀(m i k:Nat) (v:σ),i+m=n->m<k->I i v->A3 F k (st i v)=R i v:=by
  intro m
  induction m with
  |zero=>
   intro i k v hi q h;obtain⟨k,rfl⟩:∃j,k=j+1:=⟨k-1,by omega⟩;rw[Dv];exact step _ i v h (by omega) fun a _ g=>by omega
  |succ m y=>
   intro i k v hi q h;obtain⟨k,rfl⟩:∃j,k=j+1:=⟨k-1,by omega⟩;rw[Dv];exact step _ i v h (by omega) fun a e g=>y (i+1) k a (by omega) (by omega) e
 exact key n 0 big v (by omega) (JE _ (by omega)) c
theorem BG{α:Type}{l:List α}{i:Nat}(h:i<l.length):at? l (i:Int)=some l[i]:=by rw[FB,AV h]
theorem dec_lt{l:Nat}{i:Nat}:decide ((i:Int)<(l:Int))=decide (i<l):=by rw[decide_eq_decide];omega
theorem Bp{i n:Nat}(h:i<n)(a:n<2 ^ 63):w64 ((i:Int)+1)=((i+1:Nat):Int):=by rw[Aq (by omega) (by omega)];rfl
theorem K7{α:Type}{l:List α}{z:α}{F:(List α×Int->AA (List α))->List α×Int->AA (List α)}(e:l.length<2 ^ 63)
 (step:∀L v (i:Nat),v.length=l.length->(hi:i<l.length)->F L (v,(i:Int))=L (v.set i l[i],((i+1:Nat):Int))) (stop:∀L v,F L (v,(l.length:Int))=some v) :
 A3 F big (List.replicate l.length z,0)=some l:=by
 have:=DA (F:=F) (n:=l.length) (fun i v=>(v,(i:Int))) (fun i v=>v.length=l.length/\v.take i=l.take i) (fun _ _=>some l) e ?_ (v:=List.replicate l.length z) ⟨by simp,by simp⟩
 .exact this
 .rintro L i v ⟨a,c⟩ hi g;rcases Ab i l.length with h|h
  .rw[step L v i a h];refine g _ ⟨by simpa using a,?_⟩ h;rw[CY,CY,List.take_set_of_le (by omega),c];simp[h,a]
  .obtain rfl:i=l.length:=by omega
   rw[stop];rw[BI (by omega),BI (by omega)]at c;rw[c]
theorem AVz{n:Nat}{F:(Int->AA Bool)->Int->AA Bool}(a:n<2 ^ 63)
 (step:∀L (i:Nat),i<n->F L (i:Int)=L ((i+1:Nat):Int)) (stop:∀L,F L (n:Int)=some true):A3 F big 0=some true:=by
 have:=DA (F:=F) (n:=n) (fun i (_:Unit)=>(i:Int)) (fun _ _=>True) (fun _ _=>some true) a ?_ (v:=()) trivial
 .exact this
 .intro L i v _ hi c;rcases Ab i n with h|h
  .rw[step L i h];exact c () trivial h
  .obtain rfl:i=n:=by omega
   exact stop L
theorem DR{α:Type}{l:List α}{i:Nat}(h:i<l.length):l.drop i=l[i]::l.drop (i+1):=List.drop_eq_getElem_cons h
theorem Kk{σ γ:Type}{F:(σ->AA γ)->σ->AA γ}(I:σ->Prop)(μ:σ->Nat)(Q:γ->Prop)
 (step:∀(L:σ->AA γ) x,I x->(∀y,I y->μ y<μ x->∃r,L y=some r/\Q r)->∃r,F L x=some r/\Q r):∀n x,I x->μ x<n->∃r,A3 F n x=some r/\Q r
 |0,x,_,h=>by omega|n+1,x,hI,e=>by
  rw[Dv];exact step _ x hI fun y a c=>Kk I μ Q step n y a (by omega)
theorem V7{τ σ γ:Type}{F:(τ->AA γ)->τ->AA γ}(st:Nat->σ->τ)(I:Nat->σ->Prop)(Q:γ->Prop){n:Nat}(B:n<2 ^ 63)
 (step:∀L i v,I i v->i<=n->(∀a,I (i+1) a->i<n->∃r,L (st (i+1) a)=some r/\Q r)->∃r,F L (st i v)=some r/\Q r) {v:σ} (c:I 0 v):∃r,A3 F big (st 0 v)=some r/\Q r:=by
 have key:∀(m i k:Nat) (v:σ),i+m=n->m<k->I i v->∃r,A3 F k (st i v)=some r/\Q r:=by
  intro m
  induction m with
  |zero=>
   intro i k v hi q h;obtain⟨k,rfl⟩:∃j,k=j+1:=⟨k-1,by omega⟩;rw[Dv];exact step _ i v h (by omega) fun a _ g=>by omega
  |succ m y=>
   intro i k v hi q h;obtain⟨k,rfl⟩:∃j,k=j+1:=⟨k-1,by omega⟩;rw[Dv];exact step _ i v h (by omega) fun a e g=>y (i+1) k a (by omega) (by omega) e
 exact key n 0 big v (by omega) (JE _ (by omega)) c
def inB(a b c:Int):Bool:=decide (b<=a/\a<=c)
theorem CQ{a b c:Int}:inB a b c=true↔b<=a/\a<=c:=by grind[inB]
theorem GL(a b c:Int):ED a b c=some (inB a b c):=by
 grind[ED,aG,inB,BH,AU]
theorem E9(a b c:Int):C0 a b c=some (inB a b c):=by
 grind[C0,Uh,inB,BH,AU]
theorem WL(a b:Int):Lq a b=some (inB a 0 (w64 (b-1))):=by unfold Lq;rw[E9,AB]
theorem Cr(a b:Bool):br a (some b) (some false)=some (a&&b):=by cases a<;>rfl
theorem AGo(a b:Bool):br a (some true) (some b)=some (a||b):=by cases a<;>rfl
theorem G8(a b:Bool):br a (some false) (some b)=some (!a&&b):=by cases a<;>rfl
theorem AGp{γ:Type}(a:Bool)(x:AA γ):br a x x=x:=by cases a<;>rfl
def H7(p:Nat->Bool):Nat->Nat->Bool|_,0=>true|i,m+1=>p i&&H7 p (i+1) m
theorem ACI{p:Nat->Bool}:∀{m i:Nat},H7 p i m=true↔∀k,i<=k->k<i+m->p k=true
 |0,i=>by simp[H7];omega|m+1,i=>by
  unfold H7;rw[AE,ACI]
  grind
theorem Je{p:Nat->Bool}{n:Nat}:H7 p 0 n=true↔∀k,k<n->p k=true:=by
 grind[ACI]
theorem JI{n:Nat}{F:(Int->AA Bool)->Int->AA Bool}{E:AA Bool}(p:Nat->Bool)(a:n<2 ^ 63)
 (step:∀L (i:Nat),i<n->F L (i:Int)=br (p i) (L ((i+1:Nat):Int)) (some false)) (stop:∀L,F L (n:Int)=E):A3 F big 0=br (H7 p 0 n) E (some false):=by
 have:=DA (F:=F) (n:=n) (fun i (_:Unit)=>(i:Int)) (fun _ _=>True) (fun i _=>br (H7 p i (n-i)) E (some false)) a ?_ (v:=()) trivial
 .exact this
 .intro L i v _ hi c;rcases Ab i n with h|h
  .rw[step L i h,c () trivial h,show n-i=(n-(i+1))+1 by omega,show H7 p i (n-(i+1)+1)=(p i&&H7 p (i+1) (n-(i+1))) from rfl];cases p i<;>rfl
  .obtain rfl:i=n:=by omega
   rw[stop,Dk];rfl
theorem AN0{α:Type}(l:List α)(p:α->Bool)(q:Nat->Bool)(h:∀k (a:k<l.length),q k=p l[k]):H7 q 0 l.length=l.all p:=by
 grind[Je,List.getElem_of_mem]
theorem B6{i n:Nat}(h:i<n):decide ((i:Int)<(n:Int))=true:=by rw[decide_eq_true_iff];omega
theorem C5(n:Nat):decide ((n:Int)<(n:Int))=false:=by rw[decide_eq_false_iff_not];omega
theorem mL{α:Type}{l:List α}{F:(Int->AA Bool)->Int->AA Bool}{E:AA Bool}(p:α->Bool)(a:l.length<2 ^ 63)
 (step:∀L (i:Nat) (h:i<l.length),F L (i:Int)=br (p l[i]) (L (w64 ((i:Int)+1))) (some false)) (stop:∀L,F L (l.length:Int)=E):A3 F big 0=br (l.all p) E (some false):=by
 have:=JI (F:=F) (n:=l.length) (E:=E) (fun i=>match l[i]? with|some x=>p x|none=>true) a ?_ stop
 .grind[AN0]
 .intro L i h;rw[step L i h,Bp h a];simp[h]
def EO(r:Ae):Bool:=inB r.AZ.length 1 4&&(inB r.Ce 1 5&&(inB r.Room 1 10&&(inB r.BB 1 6&&(inB r.CE 1 12&&(r.AZ.all (fun x=>inB x 1 60)&&(inB r.B0 1 8&&(inB r.Rest 0 8&&(inB r.Cd 1 4&&inB r.C3 1 3))))))))
theorem J9{r:Ae}(c:r.AZ.length<2 ^ 62):ADO r=some (EO r):=by
 have a:∀b,PX r b=some (!b&&(r.AZ.all (fun x=>inB x 1 60)&&(inB r.B0 1 8&&(inB r.Rest 0 8&&(inB r.Cd 1 4&&inB r.C3 1 3))))):=by
  intro b;unfold PX;rw[mL (l:=r.AZ) (fun x=>inB x 1 60) (E:=some (inB r.B0 1 8&&(inB r.Rest 0 8&&(inB r.Cd 1 4&&inB r.C3 1 3)))) (by omega) ?_ ?_,Cr,G8]
  .intro L i h;unfold qS;rw[B6 h,BL,BG h,AB,GL,AB,BK]
  .intro L;unfold qS AG8 Uc;rw[C5,BO];simp only[AU,GL,AB,Cr]
 unfold ADO;simp only[GL,AB,BK,AU,a,CK,Bj,Cr,DQ];rfl
theorem Ha{r:Ae}(a:r.AZ.length<2 ^ 62):Y6 r=some (EO r):=by
 unfold Y6;rw[E9,AB,BK];rw[mL (l:=r.AZ) (fun x=>inB x 1 60) (E:=some (inB r.Ce 1 5&&(inB r.Room 1 10&&(inB r.BB 1 6&&(inB r.CE 1 12&&(inB r.B0 1 8&&(inB r.Cd 1 4&&(inB r.C3 1 3&&inB r.Rest 0 8)))))))) (by omega) ?_ ?_,Cr,Cr]
 .unfold EO;congr 1;ac_rfl
 .intro L i h;unfold bM;rw[B6 h,BL,BG h,AB,E9,AB,BK]
 .intro L;unfold bM wT Jt;rw[C5,BO];simp only[AU,E9,AB,Cr]
theorem CR{r:Ae}(h:EO r=true):(1<=r.AZ.length/\r.AZ.length<=4)/\(1<=r.Ce/\r.Ce<=5)/\(1<=r.Room/\r.Room<=10)/\(1<=r.BB/\r.BB<=6)/\(1<=r.CE/\r.CE<=12)/\(∀x∈r.AZ,1<=x/\x<=60)/\(1<=r.B0/\r.B0<=8)/\(0<=r.Rest/\r.Rest<=8)/\(1<=r.Cd/\r.Cd<=4)/\(1<=r.C3/\r.C3<=3):=by
 grind[EO,CQ]
def Dn(r:Ae)(p:AM)(now:Int):Bool:=
 EO r&&(inB now 0 1000000&&(inB p.Id 1 999&&(inB p.AY 0 (w64 ((r.AZ.length:Int)-1))&&(inB p.Bk (-1) (w64 ((r.AZ.length:Int)-1))&&(!(p.Bk==p.AY)&&(inB p.BB 1 r.BB&&(inB p.Cv 0 (w64 (r.Ce-1))&&(inB p.Since 0 now&&(inB p.Ay 1 1000000&&(inB p.DB 0 (w64 (r.Cd-1))&&(((p.State==1)&&inB p.Cq 0 (w64 (now+r.Rest)))||((p.State==2)&&inB p.Cq 1 (w64 (now+r.B0))))))))))))))
theorem MP{r:Ae}(e:r.AZ.length<2 ^ 62)(p:AM)(now:Int):ADP r p now=some (Dn r p now):=by
 have c:∀b,PY r p now b=some (!b&&(((p.State==1)&&inB p.Cq 0 (w64 (now+r.Rest)))||((p.State==2)&&inB p.Cq 1 (w64 (now+r.B0))))):=by
  intro b;unfold PY SD;simp only[GL,AB,AU,Cr,AGo];cases p.State==1<;>cases b<;>rfl
 have a:∀b,NT r p now b=some (!b&&(inB p.BB 1 r.BB&&(inB p.Cv 0 (w64 (r.Ce-1))&&(inB p.Since 0 now&&(inB p.Ay 1 1000000&&(inB p.DB 0 (w64 (r.Cd-1))&&(((p.State==1)&&inB p.Cq 0 (w64 (now+r.Rest)))||((p.State==2)&&inB p.Cq 1 (w64 (now+r.B0)))))))))):=by
  intro b;unfold NT;simp only[GL,AB,AU,BK,c,CK,Bj,Cr,G8,DQ]
 unfold ADP;simp only[J9 e,GL,AB,AU,BK,a,CK,Bj,Cr];rfl
theorem MI{r:Ae}(e:r.AZ.length<2 ^ 62)(p:AM)(now:Int):cD r p now=some (Dn r p now):=by
 have c:∀b,Mq r p now b=some (!b&&(((p.State==1)&&inB p.Cq 0 (w64 (now+r.Rest)))||((p.State==2)&&inB p.Cq 1 (w64 (now+r.B0))))):=by
  intro b;unfold Mq OP;simp only[E9,AB,AU,Cr,AGo];cases p.State==1<;>cases b<;>rfl
 have a:∀b,LA r p now b=some (!b&&(inB p.BB 1 r.BB&&(inB p.Cv 0 (w64 (r.Ce-1))&&(inB p.Since 0 now&&(inB p.Ay 1 1000000&&(inB p.DB 0 (w64 (r.Cd-1))&&(((p.State==1)&&inB p.Cq 0 (w64 (now+r.Rest)))||((p.State==2)&&inB p.Cq 1 (w64 (now+r.B0)))))))))):=by
  intro b;unfold LA;simp only[E9,WL,AB,AU,BK,c,CK,Bj,Cr,G8,DQ]
 unfold cD;simp only[Ha e,E9,WL,AB,AU,BK,a,CK,Bj,Cr];rfl
def YS(r:Ae)(tier waited:Int):Int:=if 0>w64 (tier-w64 (waited.tdiv r.CE)) then 0 else w64 (tier-w64 (waited.tdiv r.CE))
theorem jW(a b:Int):Uq a b=some (if a>b then a else b):=by
 unfold Uq;rw[BH];split<;>rfl
theorem vA{r:Ae}(a:r.CE≠0)(t w:Int):AHD r t w=some (YS r t w):=by
 unfold AHD;rw[B4 a,jW,AB];rfl
theorem oe(r:Ae)(t w:Int):0<=YS r t w:=by unfold YS;split<;>omega
theorem E3{r:Ae}{p:AM}{now:Int}(h:Dn r p now=true):EO r=true/\(0<=now/\now<=1000000)/\(1<=p.Id/\p.Id<=999)/\(0<=p.AY/\p.AY<=r.AZ.length-1)/\(-1<=p.Bk/\p.Bk<=r.AZ.length-1)/\p.Bk≠p.AY/\(1<=p.BB/\p.BB<=r.BB)/\(0<=p.Cv/\p.Cv<=r.Ce-1)/\(0<=p.Since/\p.Since<=now)/\(1<=p.Ay/\p.Ay<=1000000)/\(0<=p.DB/\p.DB<=r.Cd-1)/\(p.State=1/\0<=p.Cq/\p.Cq<=now+r.Rest\/p.State=2/\1<=p.Cq/\p.Cq<=now+r.B0):=by
 grind[Dn,CQ,CR,Aq]
def Hy(r:Ae)(p:AM)(now:Int):Int:=if Dn r p now=true then YS r p.Cv (w64 (now-p.Since)) else -1
theorem uh{r:Ae}(a:r.AZ.length<2 ^ 62)(p:AM)(now:Int):AHE r p now=some (Hy r p now):=by
 unfold AHE Hy;rw[MP a,AB,BK,CJ];split
 .rename_i h;have:=(CR (E3 h).1).2.2.2.2.1;rw[vA (by omega),AB]
 .rfl
theorem sx{r:Ae}(c:r.AZ.length<2 ^ 62)(p:AM)(now:Int):AHN r p now=some (Hy r p now):=by
 unfold AHN Hy;rw[MI c,AB,BK,CJ];split
 .rename_i h;have a:=E3 h;have j:=CR a.1;unfold AOR Uy;rw[Ha c,a.1,AB,BK,BL,WL,AB,BK];have e:inB p.Cv 0 (w64 (r.Ce-1))=true:=by rw[CQ,Aq (by omega) (by omega)];omega
  have g:decide (w64 (now-p.Since)<0)=false:=by rw[Aq (by omega) (by omega)];simp;omega
  rw[e,BL,AU,g,BO,B4 (by omega),AB,AW rfl]
  grind[YS]
 .rfl
def EX(r:Ae)(p:AM)(now:Int):Ad×Bool:=if Dn r p now=true/\p.State=1 then (⟨Hy r p now,p.Ay,p.Id,p.BB⟩,true) else (⟨0,0,0,0⟩,false)
theorem Wt{r:Ae}(a:r.AZ.length<2 ^ 62)(p:AM)(now:Int):mc r p now=some (EX r p now):=by
 unfold mc bY EX;rw[uh a,AB,BH,AU,AU,BL];by_cases h:Dn r p now=true
 .have:=oe r p.Cv (w64 (now-p.Since))
  grind[Hy,CJ]
 grind[Hy]
theorem MH{r:Ae}(a:r.AZ.length<2 ^ 62)(p:AM)(now:Int):mq r p now=some (EX r p now):=by
 grind[mq,cM,EX,MI,AB,CJ,AU,sx]
def FE(l:BJ):Bool:=inB l.Total 1 60&&(inB l.DY 0 l.Total&&(inB l.EZ 0 l.Total&&(inB l.FM 0 l.Total&&((w64 (w64 (l.DY+l.EZ)+l.FM)==l.Total)&&inB l.Fa 0 l.FM))))
theorem TH(l:BJ):mY l=some (FE l):=by
 unfold mY Mp FE;simp only[GL,AB,AU,Cr]
theorem Gq(l:BJ):Lr l=some (FE l):=by
 unfold Lr Mr FE;simp only[E9,AB,AU,Cr]
def Ii(a:B3):Bool:=decide ((a.Data.length:Int)<=20000)&&inB a.Safe 0 a.Data.length
theorem HR(a:B3):QL a=some (Ii a):=by
 unfold QL bK Ii;simp only[GL,AB,AU,Cr]
theorem IJ(a:B3):OT a=some (Ii a):=by
 unfold OT cy Ii;simp only[E9,AB,AU,Cr]
def NI(s:Br):Bool:=Ii s.Log&&(Ii s.EJ&&Ii s.Odd)
theorem QD(s:Br):mW s=some (NI s):=by
 unfold mW Uf NI;simp only[HR,AB,AU,Cr]
theorem WH(s:Br):xn s=some (NI s):=by
 unfold xn U7 NI;simp only[IJ,AB,AU,Cr]
section
variable{α:Type}(lt:α->α->Bool)
def put(x:α):List α->List α| []=>[x]|z::l=>if lt z x=true then z::put x l else x::z::l
def ins(x:α):List α->List α| []=>[x]|z::l=>if lt x z=true then x::z::l else z::ins x l
structure Swo:Prop where
 qD:∀a b,lt a b=true->lt b a=false
 neg:∀a b c,lt a c=true->lt a b=true\/lt b c=true
def DK(l:List α):List α:=l.foldr (put lt) []
variable {lt}
theorem Swo.trans(h:Swo lt){a b c:α}(g:lt a b=true)(j:lt b c=true):lt a c=true:=by
 rcases h.neg a c b g with e|e
 .exact e
 .rw[h.qD _ _ j]at e;cases e
theorem AJv(h:Swo lt)(x y:α):∀l,ins lt x (put lt y l)=put lt y (ins lt x l)
 | []=>by simp only[put,ins]|z::l=>by
  cases c:lt z y with
  |true=>
   cases a:lt x z with
   |true=>simp only[put,ins,c,a,h.trans a c,if_true]|false=>simp[put,ins,c,a,AJv h x y l]
  |false=>
   cases a:lt x y with
   |true=>
    have e:lt x z=true:=(h.neg x z y a).resolve_right (by simp[c]);simp[put,ins,c,a,e]
   |false=>
    grind[put,ins]
theorem uL(h:Swo lt)(j:∀a b,lt a b=false->lt b a=false->a=b)(x y:α):∀l,put lt x (put lt y l)=put lt y (put lt x l)
 | []=>by
  simp only[put];cases c:lt y x with
  |true=>simp[h.qD _ _ c]|false=>
   cases e:lt x y with
   |true=>simp|false=>simp[j _ _ c e]
 |z::l=>by
  cases c:lt z y with
  |true=>
   cases e:lt z x with
   |true=>simp only[put,c,e,if_true];rw[uL h j x y l]|false=>
    have g:lt x y=true:=(h.neg z x y c).resolve_left (by simp[e]);simp[put,c,e,g]
  |false=>
   cases e:lt z x with
   |true=>
    have g:lt y x=true:=(h.neg z y x e).resolve_left (by simp[c]);simp[put,c,e,g]
   |false=>
    cases g:lt y x with
    |true=>simp[put,c,e,g,h.qD _ _ g]|false=>
     cases q:lt x y with
     |true=>simp[put,c,e,g,q]|false=>simp[j _ _ g q]
theorem oH(h:Swo lt):∀(l acc:List α) (a:α),l.foldl (fun s x=>ins lt x s) (put lt a acc)=put lt a (l.foldl (fun s x=>ins lt x s) acc)| [],_,_=>rfl|x::l,acc,a=>by rw[Bv,AJv h,oH h l,Bv]
theorem oV(h:Swo lt):∀l:List α,l.foldl (fun s x=>ins lt x s) []=DK lt l
 | []=>rfl|a::l=>by
  rw[Bv,show ins lt a []=put lt a [] from rfl,oH h,oV h l];rfl
theorem oI(h:Swo lt)(c:∀a b,lt a b=false->lt b a=false->a=b):∀(l acc:List α) (a:α),l.foldl (fun s x=>put lt x s) (put lt a acc)=put lt a (l.foldl (fun s x=>put lt x s) acc)| [],_,_=>rfl|x::l,acc,a=>by rw[Bv,uL h c,oI h c l,Bv]
theorem YN(h:Swo lt)(c:∀a b,lt a b=false->lt b a=false->a=b):∀l:List α,l.foldl (fun s x=>put lt x s) []=DK lt l| []=>rfl|a::l=>by rw[Bv,oI h c,YN h c l];rfl
theorem FR(x:α):∀l,(put lt x l).length=l.length+1| []=>rfl|z::l=>by unfold put;split<;>simp[FR x l]
theorem AJs(x:α):∀l,(ins lt x l).length=l.length+1| []=>rfl|z::l=>by unfold ins;split<;>simp[AJs x l]
theorem IV:∀l:List α,(DK lt l).length=l.length
 | []=>rfl|a::l=>by
  have:=IV l;unfold DK at this ⊢;rw[Jn,FR,this];rfl
theorem SZ{x a:α}:∀{l},a∈put lt x l↔a=x\/a∈l
 | []=>by simp[put]|z::l=>by
  unfold put;split
  .rw[Ar,SZ,Ar]
   grind
  .simp
theorem AJt{x a:α}:∀{l},a∈ins lt x l↔a=x\/a∈l
 | []=>by simp[ins]|z::l=>by
  unfold ins;split
  .simp
  .rw[Ar,AJt,Ar]
   grind
theorem Ol{a:α}:∀{l:List α},a∈DK lt l↔a∈l
 | []=>by simp[DK]|z::l=>by
  have:=Ol (a:=a) (l:=l);unfold DK at this ⊢;rw[Jn,SZ,this,Ar]
def Srt(lt:α->α->Bool)(l:List α):Prop:=l.Pairwise fun a b=>lt b a=false
theorem AJw(h:Swo lt)(x:α):∀l,Srt lt l->Srt lt (ins lt x l)
 | [],_=>by simp[ins,Srt]|z::l,a=>by
  unfold Srt at a;rw[BT]at a;unfold ins Srt;split
  .rename_i g;rw[BT,BT];refine⟨?_,a⟩;intro b c;rcases Ar.1 c with rfl|c
   .exact h.qD _ _ g
   .cases e:lt b x with|false=>rfl|true=>exact absurd (h.trans e g) (by simp[a.1 b c])
  .rename_i g;rw[BT];refine⟨?_,AJw h x l a.2⟩
   grind[AJt]
theorem YK{x:α}{e:List α}(h:∀b∈e,lt x b=true):∀{s1:List α},(∀a∈s1,lt x a=false)->ins lt x (s1++e)=s1++x::e
 | [],_=>by
  cases e with
  |nil=>rfl|cons b s=>unfold ins;rw[B5];simp[h b Bc]
 |a::s1,g=>by
  rw[ER];unfold ins;rw[g a Bc,AT (by simp),YK h fun c j=>g c (List.mem_cons_of_mem _ j)];rfl
theorem YJ{γ:Type}(h:Swo lt){G:(List α×Int->AA γ)->List α×Int->AA γ}{E:List α->AA γ}{x:α}{r:List α}{M:Nat}
 (I:∀L t z w,t.length<M->lt x z=true->G L (t++z::x::w,((t.length+1:Nat):Int))=L (t++x::z::w,(t.length:Int)))
 (J:∀L t z w,t.length<M->lt x z=false->G L (t++z::x::w,((t.length+1:Nat):Int))=E (t++z::x::w)) (O:∀L w,G L (x::w,0)=E (x::w)) :
 ∀(k N:Nat) (s1 c:List α),s1.length=k->k<=M->k<N->(∀b∈c,lt x b=true)->Srt lt s1->A3 G N (s1++x::(c++r),(k:Int))=E (ins lt x (s1++c)++r)
 |k,0,s1,c,q,hM,hN,y,j=>by omega|0,N+1,s1,c,q,hM,hN,y,j=>by
  obtain rfl:=List.eq_nil_of_length_eq_zero q;rw[Dv,B5,YK (s1:=[]) y (by simp)];exact O _ _
 |k+1,N+1,s1,c,q,hM,hN,y,j=>by
  rcases List.eq_nil_or_concat s1 with rfl|⟨t,z,rfl⟩
  .simp at q
  simp only[List.concat_eq_append]at q j ⊢;have S:t.length=k:=by simpa using q
  have Q:Srt lt t/\∀a∈t,lt z a=false:=by
   unfold Srt at j ⊢;rw[List.pairwise_append]at j;exact⟨j.1,fun a g=>j.2.2 a g z (by simp)⟩
  rw[Dv];subst S;cases H:lt x z with
  |true=>
   have e:t++[z]++x::(c++r)=t++z::x::(c++r):=by simp
   rw[e,I _ _ _ _ (by omega) H];have:=YJ (r:=r) h I J O t.length N t (z::c) rfl (by omega) (by omega) (by simpa[H] using y) Q.1;rw[ER]at this;rw[this];simp
  |false=>
   have e:t++[z]++x::(c++r)=t++z::x::(c++r):=by simp
   rw[e,J _ _ _ _ (by omega) H,YK y ?_]
   .simp
   .intro a g;rw[List.mem_append]at g;rcases g with g|g
    .cases e:lt x a with
     |false=>rfl|true=>
      rcases h.neg x z a e with B|B
      .rw[H]at B;cases B
      .rw[Q.2 a g]at B;cases B
    .rw[List.mem_singleton]at g;subst g;exact H
theorem oU(h:Swo lt){F:(List α×Int->AA (List α))->List α×Int->AA (List α)}{v0:List α}(B:v0.length<2 ^ 62)
 (step:∀L s x r,s.length+1+r.length=v0.length->0<s.length->Srt lt s->F L (s++x::r,(s.length:Int))=L (ins lt x s++r,((s.length+1:Nat):Int)))
 (stop:∀L v (i:Nat),v0.length<=i->F L (v,(i:Int))=some v):A3 F big (v0,1)=some (DK lt v0):=by
 cases v0 with
 |nil=>
  have:=Qf 0 (by omega);obtain⟨n,q⟩:=this;rw[q,Nat.add_zero,Dv];exact stop _ _ 1 (by simp)
 |cons a l=>
  have:=DA (F:=F) (n:=l.length) (fun i (v:List α×List α)=>(v.1++v.2,((i+1:Nat):Int))) (fun i v=>v.1.length=i+1/\v.2.length+i=l.length/\Srt lt v.1) (fun i v=>some (v.2.foldl (fun s x=>ins lt x s) v.1)) (by simp at B;omega) ?_ (v:=([a],l)) ⟨rfl,rfl,by simp[Srt]⟩
  .rw[<-oV h];exact this
  .rintro L i ⟨s,r⟩ ⟨e,c,g⟩ hi j;dsimp only at e c g j ⊢;cases r with
   |nil=>
    rw[stop _ _ _ (by simp at c ⊢;omega)];simp
   |cons x r=>
    have y:s.length+1+r.length=(a::l).length:=by simp at c ⊢;omega
    rw[<-e,step L s x r y (by omega) g,Bv];have:=j (ins lt x s,r) ⟨by dsimp only;rw[AJs,e],by dsimp only;simp at c ⊢;omega,AJw h x s g⟩ (by simp at c;omega);rw[<-this,e]
theorem Ri{γ:Type}{F:(Int->AA γ)->Int->AA γ}{l:List α}{x:α}(J:List α->AA γ)(g:l.length<2 ^ 62)
 (step:∀L (i:Nat) (h:i<l.length),F L (i:Int)=br (lt l[i] x) (L (w64 ((i:Int)+1))) (J (l.take i++x::l.drop i)))
 (stop:∀L,F L (l.length:Int)=J (l++[x])):A3 F big 0=J (put lt x l):=by
 refine(DA (n:=l.length) (fun i (_:Unit)=>(i:Int)) (fun _ _=>True) (fun i _=>J (l.take i++put lt x (l.drop i))) (by omega) ?_ (v:=()) trivial).trans (by simp);intro L i _ _ hi c;rcases Ab i l.length with h|h
 .rw[step L i h,Bp h (by omega),DR h,put];cases e:lt l[i] x with
  |true=>
   have a:l.take (i+1)=l.take i++[l[i]]:=by rw[CY,AV h];rfl
   rw[BL,c () trivial h,a,List.append_assoc];rfl
  |false=>rfl
 grind[put]
end
theorem US{α:Type}(t w:List α)(z:α):at? (t++z::w) (t.length:Int)=some z:=by rw[FB];simp
theorem UU{α:Type}(t w:List α)(z x:α):at? (t++z::x::w) ((t.length+1:Nat):Int)=some x:=by rw[FB];simp
theorem ACg{α:Type}(t w:List α)(z a:α):(t++z::w).set t.length a=t++a::w:=by simp
theorem ACh{α:Type}(t w:List α)(z x a:α):(t++z::x::w).set (t.length+1) a=t++z::a::w:=by
 rw[List.set_append_right _ _ (by omega),show t.length+1-t.length=1 by omega];rfl
theorem JB(n:Nat)(h:0<n)(a:n<2 ^ 63):w64 ((n:Int)-1)=((n-1:Nat):Int):=by grind[Aq]
theorem qP(a b:Int):cG a b=some (if a<b then -1 else if a>b then 1 else 0):=by
 grind[cG,AHL,AB,BH]
def ltE(a b:Ad):Bool:=decide (a.Level<b.Level)||((a.Level==b.Level)&&decide (a.Ay<b.Ay))
theorem SO{a b:Ad}:ltE a b=true↔a.Level<b.Level\/a.Level=b.Level/\a.Ay<b.Ay:=by simp[ltE]
theorem ATQ{a b:Ad}:ltE a b=false↔¬(a.Level<b.Level\/a.Level=b.Level/\a.Ay<b.Ay):=by rw[<-SO];simp
def ltP(a b:A7):Bool:=decide (a.At<b.At)||((a.At==b.At)&&decide (a.Id<b.Id))
theorem Pv{a b:A7}:ltP a b=true↔a.At<b.At\/a.At=b.At/\a.Id<b.Id:=by simp[ltP]
theorem jf{a b:A7}:ltP a b=false↔¬(a.At<b.At\/a.At=b.At/\a.Id<b.Id):=by rw[<-Pv];simp
theorem aR:Swo ltE:=⟨fun a b h=>by rw[SO]at h;rw[ATQ];omega,fun a b c h=>by rw[SO]at *;rw[SO];omega⟩
theorem Ei:Swo ltP:=⟨fun a b h=>by rw[Pv]at h;rw[jf];omega,fun a b c h=>by rw[Pv]at *;rw[Pv];omega⟩
theorem aS(a b:A7)(c:ltP a b=false)(e:ltP b a=false):a=b:=by
 rw[jf]at c e;obtain⟨x,y⟩:=a;obtain⟨z,w⟩:=b
 grind
theorem Rp(a b:Ad):wv a b=some (ltE a b):=by
 unfold wv Uj ltE;simp only[AU,Cr,AGo]
theorem Zu(a b:A7):xA a b=some (ltP a b):=by
 unfold xA Uk ltP;simp only[AU,Cr,AGo]
theorem Oj(a b:Ad):∃c,Sp a b=some c/\decide (c<0)=ltE a b:=by
 unfold Sp;rw[qP,AB,CJ,qP,AB];refine⟨if a.Level<b.Level then -1 else if a.Level>b.Level then 1 else if a.Ay<b.Ay then -1 else if a.Ay>b.Ay then 1 else 0,?_,?_⟩
 .split<;>split<;>simp_all
 grind[SO]
theorem RN(a b:Ad):xT a b=some (ltE a b):=by
 unfold xT;obtain⟨c,e,g⟩:=Oj a b;rw[e,AB,g]
theorem MX(a b:A7):∃c,Qn a b=some c/\decide (c<0)=ltP a b/\decide (c>0)=ltP b a:=by
 unfold Qn;rw[qP,AB,CJ,qP,AB];refine⟨if a.At<b.At then -1 else if a.At>b.At then 1 else if a.Id<b.Id then -1 else if a.Id>b.Id then 1 else 0,?_,?_,?_⟩
 .split<;>split<;>simp_all
 .grind[Pv]
 grind[Pv]
theorem Aa3{l:List Ad}(H:l.length<2 ^ 62):AHO l 0 l.length=some (DK ltE l):=by
 unfold AHO DE;refine oU aR H ?_ ?_
 .intro L s x r J O g;unfold DU;dsimp only;rw[B6 (by omega),BL];have:=YJ (G:=DV Sp 0 L s.length) (E:=fun v=>L (v,((s.length+1:Nat):Int))) (x:=x) (r:=r) (M:=s.length) aR ?_ ?_ ?_ s.length big s [] rfl (by omega) (JE _ (by omega)) (by simp) g
  .rw[B5,Jm]at this;exact this
  all_goals unfold DV DT Dx
  .intro L' t z w I B;obtain⟨c,q,a⟩:=Oj x z;have e:=JB (t.length+1) (by omega) (by omega);have h:((t.length+1:Nat):Int)>0:=by omega
   dsimp only;have y:c<0:=by rw[B,decide_eq_true_iff]at a;exact a
   simp only[BH,AU,e,Co,US,UU,AB,q,ACg,ACh,Aa,h,y,if_true]
  .intro L' t z w I B;obtain⟨c,q,a⟩:=Oj x z;have e:=JB (t.length+1) (by omega) (by omega);have h:((t.length+1:Nat):Int)>0:=by omega
   have j:=Bp (i:=s.length) (n:=s.length+1) (by omega) (by omega);dsimp only;have y:¬c<0:=by rw[B,decide_eq_false_iff_not]at a;exact a
   simp only[BH,AU,e,Co,US,UU,AB,q,h,y,if_true,if_false,j]
  .intro L' w;have j:=Bp (i:=s.length) (n:=s.length+1) (by omega) (by omega);dsimp only;rw[BH,AT (by omega),AU,BO,AU,j]
 grind[DU,BH]
theorem AYc{l:List A7}(H:l.length<2 ^ 62):xN l 0 l.length=some (DK ltP l):=by
 unfold xN DE;refine oU Ei H ?_ ?_
 .intro L s x r J O g;unfold DU;dsimp only;rw[B6 (by omega),BL];have:=YJ (G:=DV Qn 0 L s.length) (E:=fun v=>L (v,((s.length+1:Nat):Int))) (x:=x) (r:=r) (M:=s.length) Ei ?_ ?_ ?_ s.length big s [] rfl (by omega) (JE _ (by omega)) (by simp) g
  .rw[B5,Jm]at this;exact this
  all_goals unfold DV DT Dx
  .intro L' t z w I B;obtain⟨c,q,a,_⟩:=MX x z;have e:=JB (t.length+1) (by omega) (by omega);have h:((t.length+1:Nat):Int)>0:=by omega
   dsimp only;have y:c<0:=by rw[B,decide_eq_true_iff]at a;exact a
   simp only[BH,AU,e,Co,US,UU,AB,q,ACg,ACh,Aa,h,y,if_true]
  .intro L' t z w I B;obtain⟨c,q,a,_⟩:=MX x z;have e:=JB (t.length+1) (by omega) (by omega);have h:((t.length+1:Nat):Int)>0:=by omega
   have j:=Bp (i:=s.length) (n:=s.length+1) (by omega) (by omega);dsimp only;have y:¬c<0:=by rw[B,decide_eq_false_iff_not]at a;exact a
   simp only[BH,AU,e,Co,US,UU,AB,q,h,y,if_true,if_false,j]
  .intro L' w;have j:=Bp (i:=s.length) (n:=s.length+1) (by omega) (by omega);dsimp only;rw[BH,AT (by omega),AU,BO,AU,j]
 grind[DU,BH]
theorem AXd{l:List Ad}(e:l.length<=19):mr l=some (DK ltE l):=by
 unfold mr AHP Fs;obtain⟨n,c⟩:=Qf 0 (by omega);have a:=Aa3 (l:=l) (by omega);unfold AHO at a
 grind[FW,Dv,BH,AU,G9,AB,FX]
theorem AXe{l:List A7}(e:l.length<=19):mw l=some (DK ltP l):=by
 unfold mw AHK Fs;obtain⟨n,c⟩:=Qf 0 (by omega);have a:=AYc (l:=l) (by omega);unfold xN at a
 grind[FW,Dv,BH,AU,G9,AB,FX]
set_option maxRecDepth 100000
theorem AWB{n:Nat}(a:n<256):∃c,AHI (IntKind.u64.wrap (n:Int))=some c:=by
 have e:IntKind.u64.wrap (n:Int)=n:=by
  simp only[IntKind.wrap,IntKind.bits,IntKind.signed];simp;omega
 unfold AHI AOM;rw[e,BH,AT (by omega),AU];unfold cA;dsimp only;rw[BH,AT (by omega),AU];unfold cB;dsimp only;rw[BH,AT (by omega),AU];unfold cC;dsimp only;rw[BG (UInt8.toNat_lt (toB (n:Int))),AB,AB];exact⟨_,rfl⟩
theorem AZz{l:List A7}(g:l.length<=12):AHJ l=some (DK ltP l):=by
 unfold AHJ AON;obtain⟨c,a⟩:=AWB (n:=l.length) (by omega);rw[a,AB];obtain⟨n,e⟩:=Qf 0 (by omega)
 grind[Dv,xO,BH,Aq,AYc,AB]
section
variable{α σ γ:Type}
theorem RC{l:List α}{F:(σ×Int->AA γ)->σ×Int->AA γ}(f:σ->α->σ)(I:Nat->σ->Prop)(J:σ->AA γ)(a:l.length<2 ^ 63)
 (step:∀L i (h:i<l.length) v,I i v->F L (v,(i:Int))=L (f v l[i],w64 ((i:Int)+1))) (E1:∀i (h:i<l.length) v,I i v->I (i+1) (f v l[i]))
 (stop:∀L v,I l.length v->F L (v,(l.length:Int))=J v) {v0:σ} (e:I 0 v0):A3 F big (v0,0)=J (l.foldl f v0):=by
 refine(DA (n:=l.length) (fun i (v:σ)=>(v,(i:Int))) I (fun i v=>J ((l.drop i).foldl f v)) a ?_ e);intro L i v c hi g;rcases Ab i l.length with h|h
 .rw[step L i h v c,Bp h a,DR h,Bv];exact g _ (E1 i h v c) h
 grind
def IN(eq:α->α->Bool):List α->List α->Bool| [],[]=>true|x::a,y::b=>eq x y&&IN eq a b|_,_=>false
theorem Jg{eq:α->α->Bool}(c:∀x y,eq x y=true↔x=y):∀{a b:List α},IN eq a b=true↔a=b| [],[]=>by simp[IN]| [],y::b=>by simp[IN]|x::a,[]=>by simp[IN]|x::a,y::b=>by rw[IN,AE,c,Jg c,Cb]
theorem ACc{eq:α->α->Bool}:∀{a b:List α},a.length≠b.length->IN eq a b=false| [],[],h=>by simp at h| [],y::b,h=>rfl|x::a,[],h=>rfl|x::a,y::b,h=>by rw[IN,ACc (a:=a) (b:=b) (by simpa using h),C7]
theorem AVG{eq:α->α->Bool}{a b:List α}{F:(Int->AA Bool)->Int->AA Bool}(c:a.length<2 ^ 63)(e:a.length=b.length)
 (step:∀L i (h:i<a.length) (j:i<b.length),F L (i:Int)=br (!(eq a[i] b[i])) (some false) (L (w64 ((i:Int)+1)))) (stop:∀L,F L (a.length:Int)=some true):A3 F big 0=some (IN eq a b):=by
 refine(DA (n:=a.length) (fun i (_:Unit)=>(i:Int)) (fun _ _=>True) (fun i _=>some (IN eq (a.drop i) (b.drop i))) c ?_ (v:=()) trivial);intro L i _ _ hi g;rcases Ab i a.length with h|h
 .rw[step L i h (by omega),Bp h c,DR h,DR (l:=b) (i:=i) (by omega),IN,BK];cases eq a[i] b[i] with|true=>rw[BL,g () trivial h];rfl|false=>rfl
 .obtain rfl:i=a.length:=by omega
  rw[stop,ES,List.drop_eq_nil_of_le (by omega)];rfl
theorem Yo{eq:α->α->Bool}{a b:List α}{F:(Int->AA Bool)->Int->AA Bool}(c:a.length<2 ^ 63)
 (step:∀L i (h:i<a.length) (g:i<b.length),F L (i:Int)=br (!(eq a[i] b[i])) (some false) (L (w64 ((i:Int)+1)))) (stop:∀L,F L (a.length:Int)=some true) :
 br ((a.length:Int) != (b.length:Int)) (some false) (A3 F big 0)=some (IN eq a b):=by
 by_cases h:a.length=b.length
 .have e:((a.length:Int) != (b.length:Int))=false:=by simp[h]
  rw[e,BO,AVG c h step stop]
 .have e:((a.length:Int) != (b.length:Int))=true:=by simp;omega
  rw[e,BL,ACc h]
def atF(p:α->Bool):List α->Nat->Int| [],_=>-1|x::l,i=>if p x=true then (i:Int) else atF p l (i+1)
theorem PR{p:α->Bool}{l:List α}{F:(Int->AA Int)->Int->AA Int}(a:l.length<2 ^ 63)
 (step:∀L i (h:i<l.length),F L (i:Int)=br (p l[i]) (some (i:Int)) (L (w64 ((i:Int)+1)))) (stop:∀L,F L (l.length:Int)=some (-1)):A3 F big 0=some (atF p l 0):=by
 refine(DA (n:=l.length) (fun i (_:Unit)=>(i:Int)) (fun _ _=>True) (fun i _=>some (atF p (l.drop i) i)) a ?_ (v:=()) trivial);intro L i _ _ hi c;rcases Ab i l.length with h|h
 .rw[step L i h,Bp h a,DR h,atF];cases p l[i] with|true=>rfl|false=>rw[BO,c () trivial h];simp
 .obtain rfl:i=l.length:=by omega
  rw[stop,ES];rfl
theorem av{p:α->Bool}:∀{l:List α} {s:Nat},atF p l s<0↔∀x∈l,p x=false
 | [],s=>by simp[atF]|x::l,s=>by
  unfold atF;split
  .rename_i h;simp[h]
  .rename_i h;rw[av];simp[h]
theorem vf{p:α->Bool}:∀{l:List α} {i:Nat} (s:Nat) (h:i<l.length),p l[i]=true->((atF p l s != ((s+i:Nat):Int))=decide (atF p (l.take i) s>=0))
 | [],i,s,h,a=>by simp at h|x::l,0,s,h,a=>by
  simp only[List.getElem_cons_zero]at a;simp[atF,a]
 |x::l,i+1,s,h,a=>by
  simp only[List.getElem_cons_succ]at a;rw[List.take_succ_cons,atF,atF];by_cases c:p x=true
  .grind
  .rw[AT c,AT c];have:=vf (l:=l) (i:=i) (s+1) (by simpa using h) a;rw[<-this,show s+1+i=s+(i+1) by omega]
end
def LV(cabin:Int)(n:Int)(p:AM):Int:=if (p.AY==cabin)=true then n+1 else n
def DG(l:List AM)(cabin:Int):Int:=l.foldl (LV cabin) 0
def Sx(cabin:Int)(n:Int)(p:AM):Int:=if ((p.State==2)&&((p.AY==cabin)&&inB p.BB 1 6))=true then n+p.BB else n
def II(l:List AM)(cabin:Int):Int:=l.foldl (Sx cabin) 0
def TQ(cabin:Int)(n:Int)(p:AM):Int:=if ((p.Bk==cabin)&&inB p.BB 1 6)=true then n+p.BB else n
def Ik(l:List AM)(cabin:Int):Int:=l.foldl (TQ cabin) 0
theorem mS(cabin:Int)(p:AM){i:Nat}{n:Int}(h:0<=n/\n<=i):0<=LV cabin n p/\LV cabin n p<=((i+1:Nat):Int):=by unfold LV;split<;>omega
theorem WB(cabin:Int)(p:AM){i:Nat}{n:Int}(h:0<=n/\n<=6*i):0<=Sx cabin n p/\Sx cabin n p<=6*((i+1:Nat):Int):=by
 grind[Sx,CQ]
theorem W5(cabin:Int)(p:AM){i:Nat}{n:Int}(h:0<=n/\n<=6*i):0<=TQ cabin n p/\TQ cabin n p<=6*((i+1:Nat):Int):=by
 grind[TQ,CQ]
theorem P9{l:List AM}(e:l.length<2 ^ 58)(c:Int):mV l c=some (DG l c):=by
 unfold mV;refine RC (l:=l) (LV c) (fun i n=>0<=n/\n<=i) some (by omega) ?_ (fun i h v a=>mS c _ a) ?_ (by simp)
 .grind[bI,bH,LV,BG,AB,AU,Aq,CJ]
 grind[bI,wN,BO,AU]
theorem Pn{l:List AM}(e:l.length<2 ^ 58)(c:Int):mj l c=some (DG l c):=by
 unfold mj;refine RC (l:=l) (LV c) (fun i n=>0<=n/\n<=i) some (by omega) ?_ (fun i h v a=>mS c _ a) ?_ (by simp)
 .grind[cF,cE,LV,BG,AB,AU,Aq,CJ]
 grind[cF,xS,BO,AU]
theorem Zp{l:List AM}(y:l.length<2 ^ 58)(c:Int):xK l c=some (II l c):=by
 unfold xK;refine RC (l:=l) (Sx c) (fun i n=>0<=n/\n<=6*i) some (by omega) ?_ (fun i h v a=>WB c _ a) ?_ (by simp)
 .intro L i h v a;have e:=WB c l[i] a;unfold Sx at e ⊢;unfold b6 Uv bz;dsimp only;rw[B6 h,BL];simp only[BG h,AB,AU,GL,BO];cases g:l[i].State==2<;>cases j:l[i].AY==c<;>cases q:inB l[i].BB 1 6<;>simp only[BL,BO,GU,Bj,if_true,BM,if_false]
  grind[Aq]
 grind[b6,xL,BO,AU]
theorem ZU{l:List AM}(y:l.length<2 ^ 58)(c:Int):cY l c=some (II l c):=by
 unfold cY;refine RC (l:=l) (Sx c) (fun i n=>0<=n/\n<=6*i) some (by omega) ?_ (fun i h v a=>WB c _ a) ?_ (by simp)
 .intro L i h v a;have e:=WB c l[i] a;unfold Sx at e ⊢;unfold cg U5 cZ;dsimp only;rw[B6 h,BL];simp only[BG h,AB,AU,E9,BO];cases g:l[i].State==2<;>cases j:l[i].AY==c<;>cases q:inB l[i].BB 1 6<;>simp only[BL,BO,GU,Bj,if_true,BM,if_false]
  grind[Aq]
 grind[cg,xj,BO,AU]
theorem Zs{l:List AM}(q:l.length<2 ^ 58)(c:Int):mi l c=some (Ik l c):=by
 unfold mi;refine RC (l:=l) (TQ c) (fun i n=>0<=n/\n<=6*i) some (by omega) ?_ (fun i h v a=>W5 c _ a) ?_ (by simp)
 .intro L i h v a;have e:=W5 c l[i] a;unfold TQ at e ⊢;unfold b9 b7 b8;dsimp only;rw[B6 h,BL];simp only[BG h,AB,AU,GL,BO];cases g:l[i].Bk==c<;>cases j:inB l[i].BB 1 6<;>simp only[BL,BO,GU,Bj,if_true,BM,if_false]
  grind[Aq]
 grind[b9,xM,BO,AU]
theorem ZY{l:List AM}(q:l.length<2 ^ 58)(c:Int):Y9 l c=some (Ik l c):=by
 unfold Y9;refine RC (l:=l) (TQ c) (fun i n=>0<=n/\n<=6*i) some (by omega) ?_ (fun i h v a=>W5 c _ a) ?_ (by simp)
 .intro L i h v a;have e:=W5 c l[i] a;unfold TQ at e ⊢;unfold ck ch cj;dsimp only;rw[B6 h,BL];simp only[BG h,AB,AU,E9,BO];cases g:l[i].Bk==c<;>cases j:inB l[i].BB 1 6<;>simp only[BL,BO,GU,Bj,if_true,BM,if_false]
  grind[Aq]
 grind[ck,xk,BO,AU]
def eqE(x y:Ad):Bool:=x.Level==y.Level&&(x.Ay==y.Ay&&(x.Id==y.Id&&(x.BB==y.BB&&true)))
theorem qg(x y:Ad):eqE x y=true↔x=y:=by
 obtain⟨a,b,c,d⟩:=x;obtain⟨e,f,g,h⟩:=y;simp[eqE]
def eqP(x y:A7):Bool:=x.At==y.At&&(x.Id==y.Id&&true)
theorem qv(x y:A7):eqP x y=true↔x=y:=by
 obtain⟨a,b⟩:=x;obtain⟨c,d⟩:=y;simp[eqP]
theorem uu{a b:List Ad}(e:a.length<2 ^ 62):AHF a b=some (IN eqE a b):=by
 unfold AHF;refine Yo (by omega) ?_ ?_
 .intro L i h c;unfold bj;rw[B6 h,BL,BG h,AB,BG c,AB];rfl
 grind[bj,xE,BO,AU]
theorem ABb{a b:List Ad}(e:a.length<2 ^ 62):AHQ a b=some (IN eqE a b):=by
 unfold AHQ;refine Yo (by omega) ?_ ?_
 .intro L i h c;unfold cO;rw[B6 h,BL,BG h,AB,BG c,AB];rfl
 grind[cO,xY,BO,AU]
theorem mA{a b:List A7}(e:a.length<2 ^ 62):AHG a b=some (IN eqP a b):=by
 unfold AHG;refine Yo (by omega) ?_ ?_
 .intro L i h c;unfold bw;rw[B6 h,BL,BG h,AB,BG c,AB];rfl
 grind[bw,xJ,BO,AU]
theorem ABd{a b:List A7}(e:a.length<2 ^ 62):AHW a b=some (IN eqP a b):=by
 unfold AHW;refine Yo (by omega) ?_ ?_
 .intro L i h c;unfold cX;rw[B6 h,BL,BG h,AB,BG c,AB];rfl
 grind[cX,xi,BO,AU]
def I3{α:Type}(l:List α)(k:Nat)(p:α->Bool):Bool:=match l[k]? with|some x=>p x|none=>true
theorem CP{α:Type}{l:List α}{k:Nat}(h:k<l.length)(p:α->Bool):I3 l k p=p l[k]:=by unfold I3;rw[AV h]
theorem aH(i:Nat):decide ((i:Int)>0)=decide (0<i):=by rw[decide_eq_decide];omega
theorem NM{α:Type}(l:List α)(x:α):l.length+[x].length=l.length+1:=rfl
theorem QB{l:List Ad}(a:l.length<2 ^ 62)(id:Int):mZ l id=some (atF (fun x=>x.Id==id) l 0):=by
 grind[mZ,PR,w5,BL,BG,AB,wy,BO,AU]
theorem WE{l:List Ad}(a:l.length<2 ^ 62)(id:Int):ml l id=some (atF (fun x=>x.Id==id) l 0):=by
 unfold ml AOQ
 grind[PR,AB,xV,AOP,BL,BG,xU,BO,AU]
def AO9(e:Ad):Bool:=inB e.Level 0 4&&(inB e.Ay 1 1000000&&(inB e.Id 1 999&&inB e.BB 1 6))
def qAt(l:List Ad)(i:Nat):Bool:=
 I3 l i fun e=>AO9 e&&((if 0<i then I3 l (i-1) (fun d=>ltE d e) else true)&&!(decide (atF (fun x=>x.Id==e.Id) (l.take i) 0>=0)))
def J5(l:List Ad):Bool:=!(decide ((l.length:Int)>10))&&H7 (qAt l) 0 l.length
theorem uo(l:List Ad)(g:l.length<2 ^ 62):AHB l=some (J5 l):=by
 unfold AHB J5;rw[JI (n:=l.length) (E:=some true) (qAt l) (by omega) ?_ ?_,Cr,Ck,G8]
 .intro L i h;have q:=Bp h (show l.length<2 ^ 63 by omega);unfold qAt;rw[CP h];unfold bS;rw[B6 h,BL,BG h,AB];have a:∀b,Ql L i b=br (!b) (L ((i+1:Nat):Int)) (some false):=by intro b;unfold Ql;rw[q];cases b<;>rfl
  have j:(atF (fun x=>x.Id==l[i].Id) l 0 != (i:Int))=decide (atF (fun x=>x.Id==l[i].Id) (l.take i) 0>=0):=by
   grind[vf]
  have e:∀b,ON l L i l[i] b=br (!b&&((if 0<i then I3 l (i-1) (fun d=>ltE d l[i]) else true)&&!(decide (atF (fun x=>x.Id==l[i].Id) (l.take i) 0>=0)))) (L ((i+1:Nat):Int)) (some false):=by
   intro b;unfold ON;rw[aH];by_cases c:0<i
   .rw[decide_eq_true c,BL,AW c,JB i c (by omega),BG (show i-1<l.length by omega),AB,Rp,AB,BK,QB g,AB,AU,AU,a,a,j,CP (by omega)];cases b<;>cases ltE l[i-1] l[i]<;>rfl
   .rw[decide_eq_false c,BO,AT c,QB g,AB,AU,a,j];cases b<;>rfl
  unfold AO9;simp only[GL,AB,AU,BK,e];generalize ((if 0<i then I3 l (i-1) (fun d=>ltE d l[i]) else true)&&!(decide (atF (fun x=>x.Id==l[i].Id) (l.take i) 0>=0)))=X;cases inB l[i].Level 0 4<;>cases inB l[i].Ay 1 1000000<;>cases inB l[i].Id 1 999<;>cases inB l[i].BB 1 6<;>rfl
 grind[bS,w6,BO,AU]
theorem WG(l:List Ad)(q:l.length<2 ^ 62):mn l=some (J5 l):=by
 unfold mn J5;rw[JI (n:=l.length) (E:=some true) (qAt l) (by omega) ?_ ?_,Cr,Ck,G8]
 .intro L i h;have g:=Bp h (show l.length<2 ^ 63 by omega);unfold qAt;rw[CP h];unfold cH;rw[B6 h,BL,BG h,AB];have a:∀b,OQ L i b=br (!b) (L ((i+1:Nat):Int)) (some false):=by intro b;unfold OQ;rw[g];cases b<;>rfl
  have e:∀b,Qm L i l[i] b=br (!b&&AO9 l[i]) (L ((i+1:Nat):Int)) (some false):=by
   intro b;unfold Qm AO9;have c:w64 (5-1)=4:=by rw[Aq]<;>omega
   simp only[E9,WL,AB,AU,BK,a,c];cases b<;>cases inB l[i].Level 0 4<;>cases inB l[i].Ay 1 1000000<;>cases inB l[i].Id 1 999<;>cases inB l[i].BB 1 6<;>rfl
  have j:(0:Int)<=(i:Int)/\(i:Int)<=(l.length:Int):=by omega
  grind[BL,JB,BG,AB,RN,B4,WE,AU,CP,ltE,BO]
 grind[cH,xW,BO,AU]
theorem Ru{l:List Ad}(a:l.length<=lim):Ur l=some l:=by
 unfold Ur;rw[B4 (by omega),B5]
theorem lA{l:List Ad}(c:l.length+1<=lim)(e:Ad):bZ l e=some (put ltE e l):=by
 have a:∀i:Nat,i<=l.length->ba l e i=some (l.take i++e::l.drop i):=by
  grind[ba,B4,Ru,AB,Ch]
 have hlim:lim=268435456:=rfl;unfold bZ;refine Ri some (by omega) ?_ ?_
 .grind[bc,Ut,BL,BG,AB,Rp,AU]
 grind[bc,Ut,BO,AU]
theorem UG{l:List A7}(c:l.length+1<=lim)(e:A7):mg l e=some (put ltP e l):=by
 have a:∀i:Nat,i<=l.length->bk l e i=some (l.take i++e::l.drop i):=by
  grind[bk,B4]
 have hlim:lim=268435456:=rfl;unfold mg;refine Ri some (by omega) ?_ ?_
 .grind[bm,Uu,BL,BG,AB,Zu,AU]
 grind[bm,Uu,BO,AU]
def Ks(r:Ae)(cabin now:Int)(p:AM):AA Ad:=if ((EX r p now).2&&(p.AY==cabin))=true then some (EX r p now).1 else none
def Dp(r:Ae)(l:List AM)(cabin now:Int):List Ad:=DK ltE (l.filterMap (Ks r cabin now))
theorem QC{r:Ae}(j:r.AZ.length<2 ^ 62){l:List AM}(G:l.length<=1048576)(c now:Int):me r l c now=some (Dp r l c now):=by
 have hlim:lim=268435456:=rfl;have e:w64 ((l.length:Int)-1)=(l.length:Int)-1-((0:Nat):Int):=by rw[Aq (by omega) (by omega)];omega
 unfold me Dp;rw[e];refine(DA (n:=l.length) (fun i (v:List Ad)=>(v,(l.length:Int)-1-(i:Int))) (fun i v=>v.length<=i) (fun i v=>some ((((l.take (l.length-i)).filterMap (Ks r c now)).foldr (put ltE) v))) (by omega) ?_ (v:=[]) (by simp)).trans (by rw[Nat.sub_zero,List.take_length];rfl);intro L i v H hi I;unfold xD bg bh;dsimp only;rcases Ab i l.length with h|h
 .obtain⟨k,E⟩:∃k,l.length=i+(k+1):=⟨l.length-i-1,by omega⟩;have g:(l.length:Int)-1-(i:Int)=(k:Int):=by omega
  have a:k<l.length:=by omega
  have y:w64 ((k:Int)-1)=(l.length:Int)-1-((i+1:Nat):Int):=by rw[Aq (by omega) (by omega)];omega
  have B:l.take (l.length-i)=l.take (l.length-(i+1))++[l[k]]:=by
   rw[show l.length-i=k+1 by omega,show l.length-(i+1)=k by omega,CY,AV a];rfl
  rw[g,BH,AW (by omega)];simp only[BG a,AB,Wt j,Ch,vH,AU,BO];have key:(br (EX r l[k] now).2 (br (l[k].AY==c) (bd (bZ v (EX r l[k] now).1) fun q=>L (q,w64 ((k:Int)-1))) (L (v,w64 ((k:Int)-1)))) (L (v,w64 ((k:Int)-1))))=some ((((l.take (l.length-i)).filterMap (Ks r c now)).foldr (put ltE) v)):=by
   grind[lA,AB,Ks,EX,BL,BO,FR]
  exact key
 .obtain rfl:i=l.length:=by omega
  unfold xC;rw[BH,AT (by omega),AU,Dk];rfl
theorem lg{α β:Type}(f:α->AA β){l:List α}{i:Nat}(h:i<l.length):(l.take (i+1)).filterMap f=(l.take i).filterMap f++(f l[i]).toList:=by
 rw[CY,AV h,List.filterMap_append];congr 1
theorem lh{α β:Type}(f:α->AA β)(l:List α)(i:Nat):((l.take i).filterMap f).length<=i:=Nat.le_trans (List.length_filterMap_le _ _) (by rw[List.length_take];omega)
theorem collect{α β γ:Type}{l:List α}(f:α->AA β){F:(List β×Int->AA γ)->List β×Int->AA γ}(J:List β->AA γ)(e:l.length<=1048576)
 (step:∀L i (h:i<l.length) v,v.length<=i->F L (v,(i:Int))=L (v++(f l[i]).toList,w64 ((i:Int)+1))) (stop:∀L v,F L (v,(l.length:Int))=J v):A3 F big ([],0)=J (l.filterMap f):=by
 refine(DA (n:=l.length) (fun i (v:List β)=>(v,(i:Int))) (fun i v=>v=(l.take i).filterMap f) (fun i v=>J (l.filterMap f)) (by omega) ?_ (by simp));intro L i v a hi c;rcases Ab i l.length with h|h
 .rw[step L i h v (by rw[a];exact lh _ _ _),Bp h (by omega)];exact c _ (by rw[a,lg f h]) h
 grind
theorem mT(c:Int):∀(l:List AM) (n:Int),l.foldl (LV c) n=n+(l.countP fun p=>p.AY==c)
 | [],n=>by simp|p::l,n=>by
  rw[Bv,mT c l,List.countP_cons]
  grind[LV]
theorem aK{β:Type}(f:AM->AA β)(c:Int)(a:∀p,(p.AY==c)=false->f p=none):∀l:List AM,((l.filterMap f).length:Int)<=DG l c:=by
 intro l;unfold DG;rw[mT,Int.zero_add]
 induction l with
 |nil=>simp|cons p l e=>
  grind
theorem Pp{r:Ae}(e:r.AZ.length<2 ^ 62){l:List AM}(a:l.length<=1048576){c:Int}(q:DG l c<=19)(now:Int):Y8 r l c now=some (Dp r l c now):=by
 have hlim:lim=268435456:=rfl;have y:=aK (Ks r c now) c (by intro p h;unfold Ks;rw[h,C7];rfl) l;unfold Y8 Dp;rw[collect (l:=l) (Ks r c now) Qp a ?_ ?_]
 .unfold Qp;rw[AXd (by omega),AB]
 .intro L i h v B;unfold Qq Uz U0 Ks;dsimp only;rw[B6 h,BL,BG h,AB,MH e,AB,AU,AU,B4 (by rw[NM];omega),AU,AU];cases g:(EX r l[i] now).2<;>cases j:l[i].AY==c<;>simp
 grind[Qq,BO,AU]
def Lg(cabin:Int)(p:AM):AA A7:=if ((p.State==2)&&(p.AY==cabin))=true then some ⟨p.Cq,p.Id⟩ else none
def Fo(l:List AM)(cabin:Int):List A7:=DK ltP (l.filterMap (Lg cabin))
theorem Zq{l:List AM}(e:l.length<=1048576)(c:Int):xH l c=some (Fo l c):=by
 have hlim:lim=268435456:=rfl;unfold xH Fo;rw[RC (l:=l) (fun v p=>match Lg c p with|some x=>put ltP x v|none=>v) (fun i v=>v.length<=i) some (by omega) ?_ ?_ ?_ (by simp),<-YN Ei aS]
 .congr 1;generalize ([]:List A7)=a;clear e
  induction l generalizing a with
  |nil=>rfl|cons p l g=>
   rw[Bv,g,List.filterMap_cons];cases Lg c p<;>rfl
 .intro L i h v y;unfold bu bq bt Lg;dsimp only;rw[B6 h,BL];simp only[BG h,AB,AU,BO,UG (show v.length+1<=lim by omega)];cases j:l[i].State==2<;>cases q:l[i].AY==c<;>rfl
 .grind[FR]
 grind[bu,xI,BO,AU]
theorem ZV{l:List AM}(a:l.length<=1048576){c:Int}(j:DG l c<=19):cW l c=some (Fo l c):=by
 have hlim:lim=268435456:=rfl;have q:=aK (Lg c) c (by intro p h;unfold Lg;rw[h,C7];rfl) l;unfold cW Fo;rw[collect (l:=l) (Lg c) Qr a ?_ ?_]
 .unfold Qr;rw[AXe (by omega),AB]
 .intro L i h v y;unfold Qs U3 U4 Lg;dsimp only;rw[B6 h,BL,BG h,AB,AU,AU,B4 (by rw[NM];omega),AU,AU];cases e:l[i].State==2<;>cases g:l[i].AY==c<;>simp
 grind[Qs,BO,AU]
end Lv.P
