/- Plain laws about what the program computes. -/
import Derived.Test.YtdmpkjjlnjchkaaGreatKC5
set_option linter.unusedVariables false
set_option linter.unusedSimpArgs false
set_option linter.unusedSectionVars false
open Bool renaming and_eq_true->AF,and_false->DK,and_true->Cd,false_and->Bv,false_eq_true->BV,not_not->Dg,not_true->Br,true_and->DH
open Int renaming toNat_natCast->Ac
open List renaming append_nil->LU,cons_append->Es,drop_length->Et,foldl_cons->B6,foldr_cons->LV,getElem?_eq_getElem->AW,mem_cons->Ag,mem_cons_self->Bm,nil_append->CK,pairwise_cons->Bc,take_add_one->CH
open List.cons renaming injEq->Co
open Nat renaming add_sub_cancel->C2,lt_or_ge->AT,sub_self->D8
namespace Lv.P
open Go (IntKind BinOp UnOp)
theorem bE{n:Int}(a:-9223372036854775808<=n)(c:n<9223372036854775808):IntKind.i64.wrap n=n:=by
 simp only[IntKind.wrap,IntKind.bits,IntKind.signed];simp;omega
theorem Ai{n:Int}(a:-9223372036854775808<=n)(c:n<9223372036854775808):w64 n=n:=bE a c
theorem Ac1{n:Int}(a:0<=n)(c:n<256):IntKind.u8.wrap n=n:=by
 simp only[IntKind.wrap,IntKind.bits,IntKind.signed];simp;omega
theorem AUP{n:Nat}(h:n<256):toB (n:Int)=UInt8.ofNat n:=by
 unfold toB;rw[Ac1 (by omega) (by omega)];rfl
@[simp] theorem Fu{α:Type}(l:List α)(i:Nat):at? l (i:Int)=l[i]?:=by simp[at?]
@[simp] theorem eE{α:Type}(l:List α):at? l 0=l[0]?:=by simp[at?]
theorem JG(k:Nat)(h:k<2 ^ 64):k<big:=by have:=Wt;omega
theorem Wu(k:Nat)(h:k<2 ^ 64):∃n,big=n+1+k:=⟨big-1-k,by have:=Wt;omega⟩
section
variable{σ γ:Type}
theorem ALt{F:(σ->AA γ)->σ->AA γ}(R:σ->AA γ)(I:σ->Prop)(μ:σ->Nat)
 (step:∀(L:σ->AA γ) x,I x->(∀y,I y->μ y<μ x->L y=R y)->F L x=R x):∀n x,I x->μ x<n->A4 F n x=R x
 |0,x,_,h=>by omega|n+1,x,hI,e=>by
  rw[EV];exact step _ x hI fun y a c=>ALt R I μ step n y a (by omega)
theorem mJ{F:(σ->AA γ)->σ->AA γ}(R:σ->AA γ)(I:σ->Prop)(μ:σ->Nat)
 (step:∀(L:σ->AA γ) x,I x->(∀y,I y->μ y<μ x->L y=R y)->F L x=R x) {x:σ} (hI:I x) (a:μ x<2 ^ 64):A4 F big x=R x:=
 ALt R I μ step big x hI (JG _ a)
end
section
variable{α γ:Type}
@[simp] theorem BH(x y:AA γ):br true x y=x:=rfl
@[simp] theorem BN(x y:AA γ):br false x y=y:=rfl
@[simp] theorem BA(p:Prop) [Decidable p] (x y:AA γ):br (decide p) x y=if p then x else y:=by unfold br;by_cases h:p<;>simp[h]
@[simp] theorem BI(b:Bool)(x y:AA γ):br (!b) x y=br b y x:=by cases b<;>rfl
@[simp] theorem AB(a:α)(f:α->AA γ):bd (some a) f=f a:=by rw[ANO];rfl
@[simp] theorem AdJ(f:α->AA γ):bd none f=none:=by rw[ANO];rfl
@[simp] theorem AR(F:α->AA γ)(x:α):jn F x=F x:=AaC F x
theorem B9{p:Prop} [Decidable p] (h:p) (x:AA γ):gd p x=x:=by rw[AY4,if_pos h]
theorem BZ(b:Bool)(x y:AA γ):br b x y=if b=true then x else y:=rfl
end
theorem C6{τ σ γ:Type}{F:(τ->AA γ)->τ->AA γ}(st:Nat->σ->τ)(I:Nat->σ->Prop)(R:Nat->σ->AA γ){n:Nat}(B:n<2 ^ 63)
 (step:∀L i v,I i v->i<=n->(∀a,I (i+1) a->i<n->L (st (i+1) a)=R (i+1) a)->F L (st i v)=R i v) {v:σ} (c:I 0 v):A4 F big (st 0 v)=R 0 v:=by
 have key:∀(m i k:Nat) (v:σ),i+m=n->m<k->I i v->A4 F k (st i v)=R i v:=by
  intro m
  induction m with
  |zero=>
   intro i k v hi q h;obtain⟨k,rfl⟩:∃j,k=j+1:=⟨k-1,by omega⟩;rw[EV];exact step _ i v h (by omega) fun a _ g=>by omega
  |succ m y=>
   intro i k v hi q h;obtain⟨k,rfl⟩:∃j,k=j+1:=⟨k-1,by omega⟩;rw[EV];exact step _ i v h (by omega) fun a e g=>y (i+1) k a (by omega) (by omega) e
 exact key n 0 big v (by omega) (JG _ (by omega)) c
theorem A7{α:Type}{l:List α}{i:Nat}(h:i<l.length):at? l (i:Int)=some l[i]:=by rw[Fu,AW h]
theorem dec_lt{l:Nat}{i:Nat}:decide ((i:Int)<(l:Int))=decide (i<l):=by rw[decide_eq_decide];omega
theorem BU{i n:Nat}(h:i<n)(a:n<2 ^ 63):w64 ((i:Int)+1)=((i+1:Nat):Int):=by rw[Ai (by omega) (by omega)];rfl
theorem AdA{n:Nat}{F:(Int->AA Bool)->Int->AA Bool}(a:n<2 ^ 63)
 (step:∀L (i:Nat),i<n->F L (i:Int)=L ((i+1:Nat):Int)) (stop:∀L,F L (n:Int)=some true):A4 F big 0=some true:=by
 have:=C6 (F:=F) (n:=n) (fun i (_:Unit)=>(i:Int)) (fun _ _=>True) (fun _ _=>some true) a ?_ (v:=()) trivial
 .exact this
 .intro L i v _ hi c;rcases AT i n with h|h
  .rw[step L i h];exact c () trivial h
  .obtain rfl:i=n:=by omega
   exact stop L
theorem DW{α:Type}{l:List α}{i:Nat}(h:i<l.length):l.drop i=l[i]::l.drop (i+1):=List.drop_eq_getElem_cons h
theorem K2{σ γ:Type}{F:(σ->AA γ)->σ->AA γ}(I:σ->Prop)(μ:σ->Nat)(Q:γ->Prop)
 (step:∀(L:σ->AA γ) x,I x->(∀y,I y->μ y<μ x->∃r,L y=some r/\Q r)->∃r,F L x=some r/\Q r):∀n x,I x->μ x<n->∃r,A4 F n x=some r/\Q r
 |0,x,_,h=>by omega|n+1,x,hI,e=>by
  rw[EV];exact step _ x hI fun y a c=>K2 I μ Q step n y a (by omega)
theorem Hl{τ σ γ:Type}{F:(τ->AA γ)->τ->AA γ}(st:Nat->σ->τ)(I:Nat->σ->Prop)(Q:γ->Prop){n:Nat}(B:n<2 ^ 63)
 (step:∀L i v,I i v->i<=n->(∀a,I (i+1) a->i<n->∃r,L (st (i+1) a)=some r/\Q r)->∃r,F L (st i v)=some r/\Q r) {v:σ} (c:I 0 v):∃r,A4 F big (st 0 v)=some r/\Q r:=by
 have key:∀(m i k:Nat) (v:σ),i+m=n->m<k->I i v->∃r,A4 F k (st i v)=some r/\Q r:=by
  intro m
  induction m with
  |zero=>
   intro i k v hi q h;obtain⟨k,rfl⟩:∃j,k=j+1:=⟨k-1,by omega⟩;rw[EV];exact step _ i v h (by omega) fun a _ g=>by omega
  |succ m y=>
   intro i k v hi q h;obtain⟨k,rfl⟩:∃j,k=j+1:=⟨k-1,by omega⟩;rw[EV];exact step _ i v h (by omega) fun a e g=>y (i+1) k a (by omega) (by omega) e
 exact key n 0 big v (by omega) (JG _ (by omega)) c
def inB(a b c:Int):Bool:=decide (b<=a/\a<=c)
theorem CY{a b c:Int}:inB a b c=true↔b<=a/\a<=c:=by grind[inB]
theorem Gv(a b c:Int):AUr a b c=some (inB a b c):=by
 grind[AUr,BAF,inB,BA,AR]
theorem Fs(a b c:Int):AQR a b c=some (inB a b c):=by
 grind[AQR,ArI,inB,BA,AR]
theorem iv(a b:Int):AQS a b=some (inB a 0 (w64 (b-1))):=by unfold AQS;rw[Fs,AB]
theorem Cv(a b:Bool):br a (some b) (some false)=some (a&&b):=by cases a<;>rfl
theorem AP8(a b:Bool):br a (some true) (some b)=some (a||b):=by cases a<;>rfl
theorem Hy(a b:Bool):br a (some false) (some b)=some (!a&&b):=by cases a<;>rfl
theorem eH{γ:Type}(a:Bool)(x:AA γ):br a x x=x:=by cases a<;>rfl
def JN(p:Nat->Bool):Nat->Nat->Bool|_,0=>true|i,m+1=>p i&&JN p (i+1) m
theorem AML{p:Nat->Bool}:∀{m i:Nat},JN p i m=true↔∀k,i<=k->k<i+m->p k=true
 |0,i=>by simp[JN];omega|m+1,i=>by
  unfold JN;rw[AF,AML]
  grind
theorem KD{p:Nat->Bool}{n:Nat}:JN p 0 n=true↔∀k,k<n->p k=true:=by
 grind[AML]
theorem Km{n:Nat}{F:(Int->AA Bool)->Int->AA Bool}{E:AA Bool}(p:Nat->Bool)(a:n<2 ^ 63)
 (step:∀L (i:Nat),i<n->F L (i:Int)=br (p i) (L ((i+1:Nat):Int)) (some false)) (stop:∀L,F L (n:Int)=E):A4 F big 0=br (JN p 0 n) E (some false):=by
 have:=C6 (F:=F) (n:=n) (fun i (_:Unit)=>(i:Int)) (fun _ _=>True) (fun i _=>br (JN p i (n-i)) E (some false)) a ?_ (v:=()) trivial
 .exact this
 .intro L i v _ hi c;rcases AT i n with h|h
  .rw[step L i h,c () trivial h,show n-i=(n-(i+1))+1 by omega,show JN p i (n-(i+1)+1)=(p i&&JN p (i+1) (n-(i+1))) from rfl];cases p i<;>rfl
  .obtain rfl:i=n:=by omega
   rw[stop,D8];rfl
theorem AXm{α:Type}(l:List α)(p:α->Bool)(q:Nat->Bool)(h:∀k (a:k<l.length),q k=p l[k]):JN q 0 l.length=l.all p:=by
 grind[KD,List.getElem_of_mem]
theorem CC{i n:Nat}(h:i<n):decide ((i:Int)<(n:Int))=true:=by rw[decide_eq_true_iff];omega
theorem Cp(n:Nat):decide ((n:Int)<(n:Int))=false:=by rw[decide_eq_false_iff_not];omega
theorem AAY{α:Type}{l:List α}{F:(Int->AA Bool)->Int->AA Bool}{E:AA Bool}(p:α->Bool)(a:l.length<2 ^ 63)
 (step:∀L (i:Nat) (h:i<l.length),F L (i:Int)=br (p l[i]) (L (w64 ((i:Int)+1))) (some false)) (stop:∀L,F L (l.length:Int)=E):A4 F big 0=br (l.all p) E (some false):=by
 have:=Km (F:=F) (n:=l.length) (E:=E) (fun i=>match l[i]? with|some x=>p x|none=>true) a ?_ stop
 .grind[AXm]
 .intro L i h;rw[step L i h,BU h a];simp[h]
def Dp(r:AZ):Bool:=inB r.AV.length 1 4&&(inB r.CJ 1 5&&(inB r.Room 1 10&&(inB r.A2 1 6&&(inB r.CB 1 12&&(r.AV.all (fun x=>inB x 1 60)&&(inB r.Bq 1 8&&(inB r.Rest 0 8&&(inB r.CL 1 4&&inB r.Cs 1 3))))))))
theorem HS{r:AZ}(c:r.AV.length<2 ^ 62):Afi r=some (Dp r):=by
 have a:∀b,A8n r b=some (!b&&(r.AV.all (fun x=>inB x 1 60)&&(inB r.Bq 1 8&&(inB r.Rest 0 8&&(inB r.CL 1 4&&inB r.Cs 1 3))))):=by
  intro b;unfold A8n;rw[AAY (l:=r.AV) (fun x=>inB x 1 60) (E:=some (inB r.Bq 1 8&&(inB r.Rest 0 8&&(inB r.CL 1 4&&inB r.Cs 1 3)))) (by omega) ?_ ?_,Cv,Hy]
  .intro L i h;unfold BB0;rw[CC h,BH,A7 h,AB,Gv,AB,BI]
  .intro L;unfold BB0 BDK A9J;rw[Cp,BN];simp only[AR,Gv,AB,Cv]
 unfold Afi;simp only[Gv,AB,BI,AR,a,Br,Bv,Cv,Dg];rfl
theorem HO{r:AZ}(a:r.AV.length<2 ^ 62):AAi r=some (Dp r):=by
 unfold AAi;rw[Fs,AB,BI];rw[AAY (l:=r.AV) (fun x=>inB x 1 60) (E:=some (inB r.CJ 1 5&&(inB r.Room 1 10&&(inB r.A2 1 6&&(inB r.CB 1 12&&(inB r.Bq 1 8&&(inB r.CL 1 4&&(inB r.Cs 1 3&&inB r.Rest 0 8)))))))) (by omega) ?_ ?_,Cv,Cv]
 .unfold Dp;congr 1;ac_rfl
 .intro L i h;unfold AHI;rw[CC h,BH,A7 h,AB,Fs,AB,BI]
 .intro L;unfold AHI AHH A8P;rw[Cp,BN];simp only[AR,Fs,AB,Cv]
theorem CT{r:AZ}(h:Dp r=true):(1<=r.AV.length/\r.AV.length<=4)/\(1<=r.CJ/\r.CJ<=5)/\(1<=r.Room/\r.Room<=10)/\(1<=r.A2/\r.A2<=6)/\(1<=r.CB/\r.CB<=12)/\(∀x∈r.AV,1<=x/\x<=60)/\(1<=r.Bq/\r.Bq<=8)/\(0<=r.Rest/\r.Rest<=8)/\(1<=r.CL/\r.CL<=4)/\(1<=r.Cs/\r.Cs<=3):=by
 grind[Dp,CY]
def D9(r:AZ)(p:AK)(now:Int):Bool:=
 Dp r&&(inB now 0 1000000&&(inB p.Id 1 999&&(inB p.Aa 0 (w64 ((r.AV.length:Int)-1))&&(inB p.Bl (-1) (w64 ((r.AV.length:Int)-1))&&(!(p.Bl==p.Aa)&&(inB p.A2 1 r.A2&&(inB p.Cj 0 (w64 (r.CJ-1))&&(inB p.Since 0 now&&(inB p.Ap 1 1000000&&(inB p.Cu 0 (w64 (r.CL-1))&&(((p.State==1)&&inB p.Cf 0 (w64 (now+r.Rest)))||((p.State==2)&&inB p.Cf 1 (w64 (now+r.Bq))))))))))))))
theorem PO{r:AZ}(e:r.AV.length<2 ^ 62)(p:AK)(now:Int):Afj r p now=some (D9 r p now):=by
 have c:∀b,A8o r p now b=some (!b&&(((p.State==1)&&inB p.Cf 0 (w64 (now+r.Rest)))||((p.State==2)&&inB p.Cf 1 (w64 (now+r.Bq))))):=by
  intro b;unfold A8o A9A;simp only[Gv,AB,AR,Cv,AP8];cases p.State==1<;>cases b<;>rfl
 have a:∀b,A8a r p now b=some (!b&&(inB p.A2 1 r.A2&&(inB p.Cj 0 (w64 (r.CJ-1))&&(inB p.Since 0 now&&(inB p.Ap 1 1000000&&(inB p.Cu 0 (w64 (r.CL-1))&&(((p.State==1)&&inB p.Cf 0 (w64 (now+r.Rest)))||((p.State==2)&&inB p.Cf 1 (w64 (now+r.Bq)))))))))):=by
  intro b;unfold A8a;simp only[Gv,AB,AR,BI,c,Br,Bv,Cv,Hy,Dg]
 unfold Afj;simp only[HS e,Gv,AB,AR,BI,a,Br,Bv,Cv];rfl
theorem PD{r:AZ}(e:r.AV.length<2 ^ 62)(p:AK)(now:Int):qC r p now=some (D9 r p now):=by
 have c:∀b,A8W r p now b=some (!b&&(((p.State==1)&&inB p.Cf 0 (w64 (now+r.Rest)))||((p.State==2)&&inB p.Cf 1 (w64 (now+r.Bq))))):=by
  intro b;unfold A8W A8e;simp only[Fs,AB,AR,Cv,AP8];cases p.State==1<;>cases b<;>rfl
 have a:∀b,Pt r p now b=some (!b&&(inB p.A2 1 r.A2&&(inB p.Cj 0 (w64 (r.CJ-1))&&(inB p.Since 0 now&&(inB p.Ap 1 1000000&&(inB p.Cu 0 (w64 (r.CL-1))&&(((p.State==1)&&inB p.Cf 0 (w64 (now+r.Rest)))||((p.State==2)&&inB p.Cf 1 (w64 (now+r.Bq)))))))))):=by
  intro b;unfold Pt;simp only[Fs,iv,AB,AR,BI,c,Br,Bv,Cv,Hy,Dg]
 unfold qC;simp only[HO e,Fs,iv,AB,AR,BI,a,Br,Bv,Cv];rfl
def mH(r:AZ)(tier waited:Int):Int:=if 0>w64 (tier-w64 (waited.tdiv r.CB)) then 0 else w64 (tier-w64 (waited.tdiv r.CB))
theorem Ns(a b:Int):AAA a b=some (if a>b then a else b):=by
 unfold AAA;rw[BA];split<;>rfl
theorem AGO{r:AZ}(a:r.CB≠0)(t w:Int):Ade r t w=some (mH r t w):=by
 unfold Ade;rw[B9 a,Ns,AB];rfl
theorem ACc(r:AZ)(t w:Int):0<=mH r t w:=by unfold mH;split<;>omega
theorem FM{r:AZ}{p:AK}{now:Int}(h:D9 r p now=true):Dp r=true/\(0<=now/\now<=1000000)/\(1<=p.Id/\p.Id<=999)/\(0<=p.Aa/\p.Aa<=r.AV.length-1)/\(-1<=p.Bl/\p.Bl<=r.AV.length-1)/\p.Bl≠p.Aa/\(1<=p.A2/\p.A2<=r.A2)/\(0<=p.Cj/\p.Cj<=r.CJ-1)/\(0<=p.Since/\p.Since<=now)/\(1<=p.Ap/\p.Ap<=1000000)/\(0<=p.Cu/\p.Cu<=r.CL-1)/\(p.State=1/\0<=p.Cf/\p.Cf<=now+r.Rest\/p.State=2/\1<=p.Cf/\p.Cf<=now+r.Bq):=by
 grind[D9,CY,CT,Ai]
def JI(r:AZ)(p:AK)(now:Int):Int:=if D9 r p now=true then mH r p.Cj (w64 (now-p.Since)) else -1
theorem AGF{r:AZ}(a:r.AV.length<2 ^ 62)(p:AK)(now:Int):Afn r p now=some (JI r p now):=by
 unfold Afn JI;rw[PO a,AB,BI,BZ];split
 .rename_i h;have:=(CT (FM h).1).2.2.2.2.1;rw[AGO (by omega),AB]
 .rfl
theorem AEu{r:AZ}(c:r.AV.length<2 ^ 62)(p:AK)(now:Int):AAp r p now=some (JI r p now):=by
 unfold AAp JI;rw[PD c,AB,BI,BZ];split
 .rename_i h;have a:=FM h;have j:=CT a.1;unfold AHV A9L;rw[HO c,a.1,AB,BI,BH,iv,AB,BI];have e:inB p.Cj 0 (w64 (r.CJ-1))=true:=by rw[CY,Ai (by omega) (by omega)];omega
  have g:decide (w64 (now-p.Since)<0)=false:=by rw[Ai (by omega) (by omega)];simp;omega
  rw[e,BH,AR,g,BN,B9 (by omega),AB,if_pos rfl]
  grind[mH]
 .rfl
def Ez(r:AZ)(p:AK)(now:Int):Ad×Bool:=if D9 r p now=true/\p.State=1 then (⟨JI r p now,p.Ap,p.Id,p.A2⟩,true) else (⟨0,0,0,0⟩,false)
theorem jd{r:AZ}(a:r.AV.length<2 ^ 62)(p:AK)(now:Int):Adf r p now=some (Ez r p now):=by
 unfold Adf AsX Ez;rw[AGF a,AB,BA,AR,AR,BH];by_cases h:D9 r p now=true
 .have:=ACc r p.Cj (w64 (now-p.Since))
  grind[JI,BZ]
 grind[JI]
theorem PC{r:AZ}(a:r.AV.length<2 ^ 62)(p:AK)(now:Int):qT r p now=some (Ez r p now):=by
 grind[qT,ArK,Ez,PD,AB,BZ,AR,AEu]
def Eh(l:A9):Bool:=inB l.Total 1 60&&(inB l.DT 0 l.Total&&(inB l.EH 0 l.Total&&(inB l.Ep 0 l.Total&&((w64 (w64 (l.DT+l.EH)+l.Ep)==l.Total)&&inB l.E8 0 l.Ep))))
theorem TJ(l:A9):Afm l=some (Eh l):=by
 unfold Afm Aqj Eh;simp only[Gv,AB,AR,Cv]
theorem GZ(l:A9):AAj l=some (Eh l):=by
 unfold AAj A8X Eh;simp only[Fs,AB,AR,Cv]
def Gn(a:Bu):Bool:=decide ((a.Data.length:Int)<=20000)&&inB a.Safe 0 a.Data.length
theorem IT(a:Bu):AX7 a=some (Gn a):=by
 unfold AX7 BBy Gn;simp only[Gv,AB,AR,Cv]
theorem GY(a:Bu):W6 a=some (Gn a):=by
 unfold W6 BAi Gn;simp only[Fs,AB,AR,Cv]
def KP(s:Bb):Bool:=Gn s.Log&&(Gn s.Dl&&Gn s.Odd)
theorem WD(s:Bb):U2 s=some (KP s):=by
 unfold U2 Aq6 KP;simp only[IT,AB,AR,Cv]
theorem ik(s:Bb):WW s=some (KP s):=by
 unfold WW A9T KP;simp only[GY,AB,AR,Cv]
section
variable{α:Type}(lt:α->α->Bool)
def put(x:α):List α->List α| []=>[x]|z::l=>if lt z x=true then z::put x l else x::z::l
def ins(x:α):List α->List α| []=>[x]|z::l=>if lt x z=true then x::z::l else z::ins x l
structure Swo:Prop where
 ADY:∀a b,lt a b=true->lt b a=false
 neg:∀a b c,lt a c=true->lt a b=true\/lt b c=true
def DX(l:List α):List α:=l.foldr (put lt) []
variable {lt}
theorem Swo.trans(h:Swo lt){a b c:α}(g:lt a b=true)(j:lt b c=true):lt a c=true:=by
 rcases h.neg a c b g with e|e
 .exact e
 .rw[h.ADY _ _ j]at e;cases e
theorem ATp(h:Swo lt)(x y:α):∀l,ins lt x (put lt y l)=put lt y (ins lt x l)
 | []=>by simp only[put,ins]|z::l=>by
  cases c:lt z y with
  |true=>
   cases a:lt x z with
   |true=>simp only[put,ins,c,a,h.trans a c,if_true]|false=>simp[put,ins,c,a,ATp h x y l]
  |false=>
   cases a:lt x y with
   |true=>
    have e:lt x z=true:=(h.neg x z y a).resolve_right (by simp[c]);simp[put,ins,c,a,e]
   |false=>
    grind[put,ins]
theorem AFt(h:Swo lt)(j:∀a b,lt a b=false->lt b a=false->a=b)(x y:α):∀l,put lt x (put lt y l)=put lt y (put lt x l)
 | []=>by
  simp only[put];cases c:lt y x with
  |true=>simp[h.ADY _ _ c]|false=>
   cases e:lt x y with
   |true=>simp|false=>simp[j _ _ c e]
 |z::l=>by
  cases c:lt z y with
  |true=>
   cases e:lt z x with
   |true=>simp only[put,c,e,if_true];rw[AFt h j x y l]|false=>
    have g:lt x y=true:=(h.neg z x y c).resolve_left (by simp[e]);simp[put,c,e,g]
  |false=>
   cases e:lt z x with
   |true=>
    have g:lt y x=true:=(h.neg z y x e).resolve_left (by simp[c]);simp[put,c,e,g]
   |false=>
    cases g:lt y x with
    |true=>simp[put,c,e,g,h.ADY _ _ g]|false=>
     cases q:lt x y with
     |true=>simp[put,c,e,g,q]|false=>simp[j _ _ g q]
theorem ACE(h:Swo lt):∀(l acc:List α) (a:α),l.foldl (fun s x=>ins lt x s) (put lt a acc)=put lt a (l.foldl (fun s x=>ins lt x s) acc)| [],_,_=>rfl|x::l,acc,a=>by rw[B6,ATp h,ACE h l,B6]
theorem ACX(h:Swo lt):∀l:List α,l.foldl (fun s x=>ins lt x s) []=DX lt l
 | []=>rfl|a::l=>by
  rw[B6,show ins lt a []=put lt a [] from rfl,ACE h,ACX h l];rfl
theorem ACF(h:Swo lt)(c:∀a b,lt a b=false->lt b a=false->a=b):∀(l acc:List α) (a:α),l.foldl (fun s x=>put lt x s) (put lt a acc)=put lt a (l.foldl (fun s x=>put lt x s) acc)| [],_,_=>rfl|x::l,acc,a=>by rw[B6,AFt h c,ACF h c l,B6]
theorem l9(h:Swo lt)(c:∀a b,lt a b=false->lt b a=false->a=b):∀l:List α,l.foldl (fun s x=>put lt x s) []=DX lt l| []=>rfl|a::l=>by rw[B6,ACF h c,l9 h c l];rfl
theorem Ff(x:α):∀l,(put lt x l).length=l.length+1| []=>rfl|z::l=>by unfold put;split<;>simp[Ff x l]
theorem ATm(x:α):∀l,(ins lt x l).length=l.length+1| []=>rfl|z::l=>by unfold ins;split<;>simp[ATm x l]
theorem IG:∀l:List α,(DX lt l).length=l.length
 | []=>rfl|a::l=>by
  have:=IG l;unfold DX at this ⊢;rw[LV,Ff,this];rfl
theorem au{x a:α}:∀{l},a∈put lt x l↔a=x\/a∈l
 | []=>by simp[put]|z::l=>by
  unfold put;split
  .rw[Ag,au,Ag]
   grind
  .simp
theorem ATn{x a:α}:∀{l},a∈ins lt x l↔a=x\/a∈l
 | []=>by simp[ins]|z::l=>by
  unfold ins;split
  .simp
  .rw[Ag,ATn,Ag]
   grind
theorem UC{a:α}:∀{l:List α},a∈DX lt l↔a∈l
 | []=>by simp[DX]|z::l=>by
  have:=UC (a:=a) (l:=l);unfold DX at this ⊢;rw[LV,au,this,Ag]
def Srt(lt:α->α->Bool)(l:List α):Prop:=l.Pairwise fun a b=>lt b a=false
theorem ATq(h:Swo lt)(x:α):∀l,Srt lt l->Srt lt (ins lt x l)
 | [],_=>by simp[ins,Srt]|z::l,a=>by
  unfold Srt at a;rw[Bc]at a;unfold ins Srt;split
  .rename_i g;rw[Bc,Bc];refine⟨?_,a⟩;intro b c;rcases Ag.1 c with rfl|c
   .exact h.ADY _ _ g
   .cases e:lt b x with|false=>rfl|true=>exact absurd (h.trans e g) (by simp[a.1 b c])
  .rename_i g;rw[Bc];refine⟨?_,ATq h x l a.2⟩
   grind[ATn]
theorem ln{x:α}{e:List α}(h:∀b∈e,lt x b=true):∀{s1:List α},(∀a∈s1,lt x a=false)->ins lt x (s1++e)=s1++x::e
 | [],_=>by
  cases e with
  |nil=>rfl|cons b s=>unfold ins;rw[CK];simp[h b Bm]
 |a::s1,g=>by
  rw[Es];unfold ins;rw[g a Bm,if_neg (by simp),ln h fun c j=>g c (List.mem_cons_of_mem _ j)];rfl
theorem ll{γ:Type}(h:Swo lt){G:(List α×Int->AA γ)->List α×Int->AA γ}{E:List α->AA γ}{x:α}{r:List α}{M:Nat}
 (I:∀L t z w,t.length<M->lt x z=true->G L (t++z::x::w,((t.length+1:Nat):Int))=L (t++x::z::w,(t.length:Int)))
 (J:∀L t z w,t.length<M->lt x z=false->G L (t++z::x::w,((t.length+1:Nat):Int))=E (t++z::x::w)) (O:∀L w,G L (x::w,0)=E (x::w)) :
 ∀(k N:Nat) (s1 c:List α),s1.length=k->k<=M->k<N->(∀b∈c,lt x b=true)->Srt lt s1->A4 G N (s1++x::(c++r),(k:Int))=E (ins lt x (s1++c)++r)
 |k,0,s1,c,q,hM,hN,y,j=>by omega|0,N+1,s1,c,q,hM,hN,y,j=>by
  obtain rfl:=List.eq_nil_of_length_eq_zero q;rw[EV,CK,ln (s1:=[]) y (by simp)];exact O _ _
 |k+1,N+1,s1,c,q,hM,hN,y,j=>by
  rcases List.eq_nil_or_concat s1 with rfl|⟨t,z,rfl⟩
  .simp at q
  simp only[List.concat_eq_append]at q j ⊢;have S:t.length=k:=by simpa using q
  have Q:Srt lt t/\∀a∈t,lt z a=false:=by
   unfold Srt at j ⊢;rw[List.pairwise_append]at j;exact⟨j.1,fun a g=>j.2.2 a g z (by simp)⟩
  rw[EV];subst S;cases H:lt x z with
  |true=>
   have e:t++[z]++x::(c++r)=t++z::x::(c++r):=by simp
   rw[e,I _ _ _ _ (by omega) H];have:=ll (r:=r) h I J O t.length N t (z::c) rfl (by omega) (by omega) (by simpa[H] using y) Q.1;rw[Es]at this;rw[this];simp
  |false=>
   have e:t++[z]++x::(c++r)=t++z::x::(c++r):=by simp
   rw[e,J _ _ _ _ (by omega) H,ln y ?_]
   .simp
   .intro a g;rw[List.mem_append]at g;rcases g with g|g
    .cases e:lt x a with
     |false=>rfl|true=>
      rcases h.neg x z a e with B|B
      .rw[H]at B;cases B
      .rw[Q.2 a g]at B;cases B
    .rw[List.mem_singleton]at g;subst g;exact H
theorem ACW(h:Swo lt){F:(List α×Int->AA (List α))->List α×Int->AA (List α)}{c:List α}(E:c.length<2 ^ 62)
 (step:∀L s x r,s.length+1+r.length=c.length->0<s.length->Srt lt s->F L (s++x::r,(s.length:Int))=L (ins lt x s++r,((s.length+1:Nat):Int)))
 (stop:∀L v (i:Nat),c.length<=i->F L (v,(i:Int))=some v):A4 F big (c,1)=some (DX lt c):=by
 cases c with
 |nil=>
  have:=Wu 0 (by omega);obtain⟨n,y⟩:=this;rw[y,Nat.add_zero,EV];exact stop _ _ 1 (by simp)
 |cons a l=>
  have:=C6 (F:=F) (n:=l.length) (fun i (v:List α×List α)=>(v.1++v.2,((i+1:Nat):Int))) (fun i v=>v.1.length=i+1/\v.2.length+i=l.length/\Srt lt v.1) (fun i v=>some (v.2.foldl (fun s x=>ins lt x s) v.1)) (by simp at E;omega) ?_ (v:=([a],l)) ⟨rfl,rfl,by simp[Srt]⟩
  .rw[<-ACX h];exact this
  .rintro L i ⟨s,r⟩ ⟨g,e,j⟩ hi q;dsimp only at g e j q ⊢;cases r with
   |nil=>
    rw[stop _ _ _ (by simp at e ⊢;omega)];simp
   |cons x r=>
    have B:s.length+1+r.length=(a::l).length:=by simp at e ⊢;omega
    rw[<-g,step L s x r B (by omega) j,B6];have:=q (ins lt x s,r) ⟨by dsimp only;rw[ATm,g],by dsimp only;simp at e ⊢;omega,ATq h x s j⟩ (by simp at e;omega);rw[<-this,g]
theorem Zq{γ:Type}{F:(Int->AA γ)->Int->AA γ}{l:List α}{x:α}(J:List α->AA γ)(g:l.length<2 ^ 62)
 (step:∀L (i:Nat) (h:i<l.length),F L (i:Int)=br (lt l[i] x) (L (w64 ((i:Int)+1))) (J (l.take i++x::l.drop i)))
 (stop:∀L,F L (l.length:Int)=J (l++[x])):A4 F big 0=J (put lt x l):=by
 refine(C6 (n:=l.length) (fun i (_:Unit)=>(i:Int)) (fun _ _=>True) (fun i _=>J (l.take i++put lt x (l.drop i))) (by omega) ?_ (v:=()) trivial).trans (by simp);intro L i _ _ hi c;rcases AT i l.length with h|h
 .rw[step L i h,BU h (by omega),DW h,put];cases e:lt l[i] x with
  |true=>
   have a:l.take (i+1)=l.take i++[l[i]]:=by rw[CH,AW h];rfl
   rw[BH,c () trivial h,a,List.append_assoc];rfl
  |false=>rfl
 grind[put]
end
theorem eA{α:Type}(t w:List α)(z:α):at? (t++z::w) (t.length:Int)=some z:=by rw[Fu];simp
theorem eB{α:Type}(t w:List α)(z x:α):at? (t++z::x::w) ((t.length+1:Nat):Int)=some x:=by rw[Fu];simp
theorem AMg{α:Type}(t w:List α)(z a:α):(t++z::w).set t.length a=t++a::w:=by simp
theorem AMh{α:Type}(t w:List α)(z x a:α):(t++z::x::w).set (t.length+1) a=t++z::a::w:=by
 rw[List.set_append_right _ _ (by omega),show t.length+1-t.length=1 by omega];rfl
theorem Kg(n:Nat)(h:0<n)(a:n<2 ^ 63):w64 ((n:Int)-1)=((n-1:Nat):Int):=by grind[Ai]
theorem ADj(a b:Int):AHO a b=some (if a<b then -1 else if a>b then 1 else 0):=by
 grind[AHO,AAk,AB,BA]
def ltE(a b:Ad):Bool:=decide (a.Level<b.Level)||((a.Level==b.Level)&&decide (a.Ap<b.Ap))
theorem aY{a b:Ad}:ltE a b=true↔a.Level<b.Level\/a.Level=b.Level/\a.Ap<b.Ap:=by simp[ltE]
theorem AaO{a b:Ad}:ltE a b=false↔¬(a.Level<b.Level\/a.Level=b.Level/\a.Ap<b.Ap):=by rw[<-aY];simp
def ltP(a b:A6):Bool:=decide (a.At<b.At)||((a.At==b.At)&&decide (a.Id<b.Id))
theorem Vp{a b:A6}:ltP a b=true↔a.At<b.At\/a.At=b.At/\a.Id<b.Id:=by simp[ltP]
theorem yQ{a b:A6}:ltP a b=false↔¬(a.At<b.At\/a.At=b.At/\a.Id<b.Id):=by rw[<-Vp];simp
theorem pC:Swo ltE:=⟨fun a b h=>by rw[aY]at h;rw[AaO];omega,fun a b c h=>by rw[aY]at *;rw[aY];omega⟩
theorem FG:Swo ltP:=⟨fun a b h=>by rw[Vp]at h;rw[yQ];omega,fun a b c h=>by rw[Vp]at *;rw[Vp];omega⟩
theorem pD(a b:A6)(c:ltP a b=false)(e:ltP b a=false):a=b:=by
 rw[yQ]at c e;obtain⟨x,y⟩:=a;obtain⟨z,w⟩:=b
 grind
theorem Z4(a b:Ad):AdZ a b=some (ltE a b):=by
 unfold AdZ BAG ltE;simp only[AR,Cv,AP8]
theorem n8(a b:A6):AKv a b=some (ltP a b):=by
 unfold AKv AsR ltP;simp only[AR,Cv,AP8]
theorem UA(a b:Ad):∃c,AHR a b=some c/\decide (c<0)=ltE a b:=by
 unfold AHR;rw[ADj,AB,BZ,ADj,AB];refine⟨if a.Level<b.Level then -1 else if a.Level>b.Level then 1 else if a.Ap<b.Ap then -1 else if a.Ap>b.Ap then 1 else 0,?_,?_⟩
 .split<;>split<;>simp_all
 grind[aY]
theorem ZM(a b:Ad):bQ a b=some (ltE a b):=by
 unfold bQ;obtain⟨c,e,g⟩:=UA a b;rw[e,AB,g]
theorem PZ(a b:A6):∃c,bR a b=some c/\decide (c<0)=ltP a b/\decide (c>0)=ltP b a:=by
 unfold bR;rw[ADj,AB,BZ,ADj,AB];refine⟨if a.At<b.At then -1 else if a.At>b.At then 1 else if a.Id<b.Id then -1 else if a.Id>b.Id then 1 else 0,?_,?_,?_⟩
 .split<;>split<;>simp_all
 .grind[Vp]
 grind[Vp]
theorem AhM{l:List Ad}(H:l.length<2 ^ 62):qV l 0 l.length=some (DX ltE l):=by
 unfold qV DO;refine ACW pC H ?_ ?_
 .intro L s x r J O g;unfold Di;dsimp only;rw[CC (by omega),BH];have:=ll (G:=Dj AHR 0 L s.length) (E:=fun v=>L (v,((s.length+1:Nat):Int))) (x:=x) (r:=r) (M:=s.length) pC ?_ ?_ ?_ s.length big s [] rfl (by omega) (JG _ (by omega)) (by simp) g
  .rw[CK,LU]at this;exact this
  all_goals unfold Dj Dh EK
  .intro L' t z w I B;obtain⟨c,q,a⟩:=UA x z;have e:=Kg (t.length+1) (by omega) (by omega);have h:((t.length+1:Nat):Int)>0:=by omega
   dsimp only;have y:c<0:=by rw[B,decide_eq_true_iff]at a;exact a
   simp only[BA,AR,e,C2,eA,eB,AB,q,AMg,AMh,Ac,h,y,if_true]
  .intro L' t z w I B;obtain⟨c,q,a⟩:=UA x z;have e:=Kg (t.length+1) (by omega) (by omega);have h:((t.length+1:Nat):Int)>0:=by omega
   have j:=BU (i:=s.length) (n:=s.length+1) (by omega) (by omega);dsimp only;have y:¬c<0:=by rw[B,decide_eq_false_iff_not]at a;exact a
   simp only[BA,AR,e,C2,eA,eB,AB,q,h,y,if_true,if_false,j]
  .intro L' w;have j:=BU (i:=s.length) (n:=s.length+1) (by omega) (by omega);dsimp only;rw[BA,if_neg (by omega),AR,BN,AR,j]
 grind[Di,BA]
theorem AfG{l:List A6}(H:l.length<2 ^ 62):eS l 0 l.length=some (DX ltP l):=by
 unfold eS DO;refine ACW FG H ?_ ?_
 .intro L s x r J O g;unfold Di;dsimp only;rw[CC (by omega),BH];have:=ll (G:=Dj bR 0 L s.length) (E:=fun v=>L (v,((s.length+1:Nat):Int))) (x:=x) (r:=r) (M:=s.length) FG ?_ ?_ ?_ s.length big s [] rfl (by omega) (JG _ (by omega)) (by simp) g
  .rw[CK,LU]at this;exact this
  all_goals unfold Dj Dh EK
  .intro L' t z w I B;obtain⟨c,q,a,_⟩:=PZ x z;have e:=Kg (t.length+1) (by omega) (by omega);have h:((t.length+1:Nat):Int)>0:=by omega
   dsimp only;have y:c<0:=by rw[B,decide_eq_true_iff]at a;exact a
   simp only[BA,AR,e,C2,eA,eB,AB,q,AMg,AMh,Ac,h,y,if_true]
  .intro L' t z w I B;obtain⟨c,q,a,_⟩:=PZ x z;have e:=Kg (t.length+1) (by omega) (by omega);have h:((t.length+1:Nat):Int)>0:=by omega
   have j:=BU (i:=s.length) (n:=s.length+1) (by omega) (by omega);dsimp only;have y:¬c<0:=by rw[B,decide_eq_false_iff_not]at a;exact a
   simp only[BA,AR,e,C2,eA,eB,AB,q,h,y,if_true,if_false,j]
  .intro L' w;have j:=BU (i:=s.length) (n:=s.length+1) (by omega) (by omega);dsimp only;rw[BA,if_neg (by omega),AR,BN,AR,j]
 grind[Di,BA]
theorem Aej{l:List Ad}(e:l.length<=19):ph l=some (DX ltE l):=by
 unfold ph AQV Gb;obtain⟨n,c⟩:=Wu 0 (by omega);have a:=AhM (l:=l) (by omega);unfold qV at a
 grind[F9,EV,BA,AR,H0,AB,GA]
theorem Aek{l:List A6}(e:l.length<=19):AQZ l=some (DX ltP l):=by
 unfold AQZ Nb Gb;obtain⟨n,c⟩:=Wu 0 (by omega);have a:=AfG (l:=l) (by omega);unfold eS at a
 grind[F9,EV,BA,AR,H0,AB,GA]
set_option maxRecDepth 100000
theorem AdM{n:Nat}(a:n<256):∃c,WV (IntKind.u64.wrap (n:Int))=some c:=by
 have e:IntKind.u64.wrap (n:Int)=n:=by
  simp only[IntKind.wrap,IntKind.bits,IntKind.signed];simp;omega
 unfold WV AAh;rw[e,BA,if_neg (by omega),AR];unfold eR;dsimp only;rw[BA,if_neg (by omega),AR];unfold BAP;dsimp only;rw[BA,if_neg (by omega),AR];unfold BAQ;dsimp only;rw[A7 (UInt8.toNat_lt (toB (n:Int))),AB,AB];exact⟨_,rfl⟩
theorem AgY{l:List A6}(g:l.length<=12):DE l=some (DX ltP l):=by
 unfold DE bP;obtain⟨c,a⟩:=AdM (n:=l.length) (by omega);rw[a,AB];obtain⟨n,e⟩:=Wu 0 (by omega)
 grind[EV,BCH,BA,Ai,AfG,AB]
section
variable{α σ γ:Type}
theorem Xg{l:List α}{F:(σ×Int->AA γ)->σ×Int->AA γ}(f:σ->α->σ)(I:Nat->σ->Prop)(J:σ->AA γ)(c:l.length<2 ^ 63)
 (step:∀L i (h:i<l.length) v,I i v->F L (v,(i:Int))=L (f v l[i],w64 ((i:Int)+1))) (Fo:∀i (h:i<l.length) v,I i v->I (i+1) (f v l[i]))
 (stop:∀L v,I l.length v->F L (v,(l.length:Int))=J v) {a:σ} (g:I 0 a):A4 F big (a,0)=J (l.foldl f a):=by
 refine(C6 (n:=l.length) (fun i (v:σ)=>(v,(i:Int))) I (fun i v=>J ((l.drop i).foldl f v)) c ?_ g);intro L i v e hi j;rcases AT i l.length with h|h
 .rw[step L i h v e,BU h c,DW h,B6];exact j _ (Fo i h v e) h
 grind
def Eb(eq:α->α->Bool):List α->List α->Bool| [],[]=>true|x::a,y::b=>eq x y&&Eb eq a b|_,_=>false
theorem IK{eq:α->α->Bool}(c:∀x y,eq x y=true↔x=y):∀{a b:List α},Eb eq a b=true↔a=b| [],[]=>by simp[Eb]| [],y::b=>by simp[Eb]|x::a,[]=>by simp[Eb]|x::a,y::b=>by rw[Eb,AF,c,IK c,Co]
theorem zD{eq:α->α->Bool}:∀{a b:List α},a.length≠b.length->Eb eq a b=false| [],[],h=>by simp at h| [],y::b,h=>rfl|x::a,[],h=>rfl|x::a,y::b,h=>by rw[Eb,zD (a:=a) (b:=b) (by simpa using h),DK]
theorem AcF{eq:α->α->Bool}{a b:List α}{F:(Int->AA Bool)->Int->AA Bool}(c:a.length<2 ^ 63)(e:a.length=b.length)
 (step:∀L i (h:i<a.length) (j:i<b.length),F L (i:Int)=br (!(eq a[i] b[i])) (some false) (L (w64 ((i:Int)+1)))) (stop:∀L,F L (a.length:Int)=some true):A4 F big 0=some (Eb eq a b):=by
 refine(C6 (n:=a.length) (fun i (_:Unit)=>(i:Int)) (fun _ _=>True) (fun i _=>some (Eb eq (a.drop i) (b.drop i))) c ?_ (v:=()) trivial);intro L i _ _ hi g;rcases AT i a.length with h|h
 .rw[step L i h (by omega),BU h c,DW h,DW (l:=b) (i:=i) (by omega),Eb,BI];cases eq a[i] b[i] with|true=>rw[BH,g () trivial h];rfl|false=>rfl
 .obtain rfl:i=a.length:=by omega
  rw[stop,Et,List.drop_eq_nil_of_le (by omega)];rfl
theorem Zv{eq:α->α->Bool}{a b:List α}{F:(Int->AA Bool)->Int->AA Bool}(c:a.length<2 ^ 63)
 (step:∀L i (h:i<a.length) (g:i<b.length),F L (i:Int)=br (!(eq a[i] b[i])) (some false) (L (w64 ((i:Int)+1)))) (stop:∀L,F L (a.length:Int)=some true) :
 br ((a.length:Int) != (b.length:Int)) (some false) (A4 F big 0)=some (Eb eq a b):=by
 by_cases h:a.length=b.length
 .have e:((a.length:Int) != (b.length:Int))=false:=by simp[h]
  rw[e,BN,AcF c h step stop]
 .have e:((a.length:Int) != (b.length:Int))=true:=by simp;omega
  rw[e,BH,zD h]
def atF(p:α->Bool):List α->Nat->Int| [],_=>-1|x::l,i=>if p x=true then (i:Int) else atF p l (i+1)
theorem Uw{p:α->Bool}{l:List α}{F:(Int->AA Int)->Int->AA Int}(a:l.length<2 ^ 63)
 (step:∀L i (h:i<l.length),F L (i:Int)=br (p l[i]) (some (i:Int)) (L (w64 ((i:Int)+1)))) (stop:∀L,F L (l.length:Int)=some (-1)):A4 F big 0=some (atF p l 0):=by
 refine(C6 (n:=l.length) (fun i (_:Unit)=>(i:Int)) (fun _ _=>True) (fun i _=>some (atF p (l.drop i) i)) a ?_ (v:=()) trivial);intro L i _ _ hi c;rcases AT i l.length with h|h
 .rw[step L i h,BU h a,DW h,atF];cases p l[i] with|true=>rfl|false=>rw[BN,c () trivial h];simp
 .obtain rfl:i=l.length:=by omega
  rw[stop,Et];rfl
theorem pV{p:α->Bool}:∀{l:List α} {s:Nat},atF p l s<0↔∀x∈l,p x=false
 | [],s=>by simp[atF]|x::l,s=>by
  unfold atF;split
  .rename_i h;simp[h]
  .rename_i h;rw[pV];simp[h]
theorem AGr{p:α->Bool}:∀{l:List α} {i:Nat} (s:Nat) (h:i<l.length),p l[i]=true->((atF p l s != ((s+i:Nat):Int))=decide (atF p (l.take i) s>=0))
 | [],i,s,h,a=>by simp at h|x::l,0,s,h,a=>by
  simp only[List.getElem_cons_zero]at a;simp[atF,a]
 |x::l,i+1,s,h,a=>by
  simp only[List.getElem_cons_succ]at a;rw[List.take_succ_cons,atF,atF];by_cases c:p x=true
  .grind
  .rw[if_neg c,if_neg c];have:=AGr (l:=l) (i:=i) (s+1) (by simpa using h) a;rw[<-this,show s+1+i=s+(i+1) by omega]
end
def OA(cabin:Int)(n:Int)(p:AK):Int:=if (p.Aa==cabin)=true then n+1 else n
def DQ(l:List AK)(cabin:Int):Int:=l.foldl (OA cabin) 0
def bc(cabin:Int)(n:Int)(p:AK):Int:=if ((p.State==2)&&((p.Aa==cabin)&&inB p.A2 1 6))=true then n+p.A2 else n
def Jk(l:List AK)(cabin:Int):Int:=l.foldl (bc cabin) 0
def cF(cabin:Int)(n:Int)(p:AK):Int:=if ((p.Bl==cabin)&&inB p.A2 1 6)=true then n+p.A2 else n
def KE(l:List AK)(cabin:Int):Int:=l.foldl (cF cabin) 0
theorem AAe(cabin:Int)(p:AK){i:Nat}{n:Int}(h:0<=n/\n<=i):0<=OA cabin n p/\OA cabin n p<=((i+1:Nat):Int):=by unfold OA;split<;>omega
theorem ib(cabin:Int)(p:AK){i:Nat}{n:Int}(h:0<=n/\n<=6*i):0<=bc cabin n p/\bc cabin n p<=6*((i+1:Nat):Int):=by
 grind[bc,CY]
theorem jr(cabin:Int)(p:AK){i:Nat}{n:Int}(h:0<=n/\n<=6*i):0<=cF cabin n p/\cF cabin n p<=6*((i+1:Nat):Int):=by
 grind[cF,CY]
theorem PM{l:List AK}(e:l.length<2 ^ 58)(c:Int):oI l c=some (DQ l c):=by
 unfold oI;refine Xg (l:=l) (OA c) (fun i n=>0<=n/\n<=i) some (by omega) ?_ (fun i h v a=>AAe c _ a) ?_ (by simp)
 .grind[Au2,Aw7,OA,A7,AB,AR,Ai,BZ]
 grind[Au2,BDI,BN,AR]
theorem Vg{l:List AK}(e:l.length<2 ^ 58)(c:Int):AHK l c=some (DQ l c):=by
 unfold AHK;refine Xg (l:=l) (OA c) (fun i n=>0<=n/\n<=i) some (by omega) ?_ (fun i h v a=>AAe c _ a) ?_ (by simp)
 .grind[Asb,AvZ,OA,A7,AB,AR,Ai,BZ]
 grind[Asb,AqW,BN,AR]
theorem Rj{l:List AK}(y:l.length<2 ^ 58)(c:Int):AdW l c=some (Jk l c):=by
 unfold AdW;refine Xg (l:=l) (bc c) (fun i n=>0<=n/\n<=6*i) some (by omega) ?_ (fun i h v a=>ib c _ a) ?_ (by simp)
 .intro L i h v a;have e:=ib c l[i] a;unfold bc at e ⊢;unfold ADk AQO Aux;dsimp only;rw[CC h,BH];simp only[A7 h,AB,AR,Gv,BN];cases g:l[i].State==2<;>cases j:l[i].Aa==c<;>cases q:inB l[i].A2 1 6<;>simp only[BH,BN,DH,Bv,if_true,BV,if_false]
  grind[Ai]
 grind[ADk,BDG,BN,AR]
theorem nY{l:List AK}(y:l.length<2 ^ 58)(c:Int):AHi l c=some (Jk l c):=by
 unfold AHi;refine Xg (l:=l) (bc c) (fun i n=>0<=n/\n<=6*i) some (by omega) ?_ (fun i h v a=>ib c _ a) ?_ (by simp)
 .intro L i h v a;have e:=ib c l[i] a;unfold bc at e ⊢;unfold BAe A9R BAd;dsimp only;rw[CC h,BH];simp only[A7 h,AB,AR,Fs,BN];cases g:l[i].State==2<;>cases j:l[i].Aa==c<;>cases q:inB l[i].A2 1 6<;>simp only[BH,BN,DH,Bv,if_true,BV,if_false]
  grind[Ai]
 grind[BAe,BCR,BN,AR]
theorem Rl{l:List AK}(q:l.length<2 ^ 58)(c:Int):AdX l c=some (KE l c):=by
 unfold AdX;refine Xg (l:=l) (cF c) (fun i n=>0<=n/\n<=6*i) some (by omega) ?_ (fun i h v a=>jr c _ a) ?_ (by simp)
 .intro L i h v a;have e:=jr c l[i] a;unfold cF at e ⊢;unfold Auy Aw5 BBw;dsimp only;rw[CC h,BH];simp only[A7 h,AB,AR,Gv,BN];cases g:l[i].Bl==c<;>cases j:inB l[i].A2 1 6<;>simp only[BH,BN,DH,Bv,if_true,BV,if_false]
  grind[Ai]
 grind[Auy,BDH,BN,AR]
theorem na{l:List AK}(q:l.length<2 ^ 58)(c:Int):AYB l c=some (KE l c):=by
 unfold AYB;refine Xg (l:=l) (cF c) (fun i n=>0<=n/\n<=6*i) some (by omega) ?_ (fun i h v a=>jr c _ a) ?_ (by simp)
 .intro L i h v a;have e:=jr c l[i] a;unfold cF at e ⊢;unfold Aqy ArM ArN;dsimp only;rw[CC h,BH];simp only[A7 h,AB,AR,Fs,BN];cases g:l[i].Bl==c<;>cases j:inB l[i].A2 1 6<;>simp only[BH,BN,DH,Bv,if_true,BV,if_false]
  grind[Ai]
 grind[Aqy,Aqx,BN,AR]
def eqE(x y:Ad):Bool:=x.Level==y.Level&&(x.Ap==y.Ap&&(x.Id==y.Id&&(x.A2==y.A2&&true)))
theorem ou(x y:Ad):eqE x y=true↔x=y:=by
 obtain⟨a,b,c,d⟩:=x;obtain⟨e,f,g,h⟩:=y;simp[eqE]
def eqP(x y:A6):Bool:=x.At==y.At&&(x.Id==y.Id&&true)
theorem oz(x y:A6):eqP x y=true↔x=y:=by
 obtain⟨a,b⟩:=x;obtain⟨c,d⟩:=y;simp[eqP]
theorem WC{a b:List Ad}(e:a.length<2 ^ 62):Afq a b=some (Eb eqE a b):=by
 unfold Afq;refine Zv (by omega) ?_ ?_
 .intro L i h c;unfold BCB;rw[CC h,BH,A7 h,AB,A7 c,AB];rfl
 grind[BCB,BDV,BN,AR]
theorem nW{a b:List Ad}(e:a.length<2 ^ 62):WU a b=some (Eb eqE a b):=by
 unfold WU;refine Zv (by omega) ?_ ?_
 .intro L i h c;unfold BAO;rw[CC h,BH,A7 h,AB,A7 c,AB];rfl
 grind[BAO,BCG,BN,AR]
theorem TL{a b:List A6}(e:a.length<2 ^ 62):Adk a b=some (Eb eqP a b):=by
 unfold Adk;refine Zv (by omega) ?_ ?_
 .intro L i h c;unfold AvO;rw[CC h,BH,A7 h,AB,A7 c,AB];rfl
 grind[AvO,AxM,BN,AR]
theorem nX{a b:List A6}(e:a.length<2 ^ 62):bS a b=some (Eb eqP a b):=by
 unfold bS;refine Zv (by omega) ?_ ?_
 .intro L i h c;unfold BAc;rw[CC h,BH,A7 h,AB,A7 c,AB];rfl
 grind[BAc,BCQ,BN,AR]
def KZ{α:Type}(l:List α)(k:Nat)(p:α->Bool):Bool:=match l[k]? with|some x=>p x|none=>true
theorem Cc{α:Type}{l:List α}{k:Nat}(h:k<l.length)(p:α->Bool):KZ l k p=p l[k]:=by unfold KZ;rw[AW h]
theorem oZ(i:Nat):decide ((i:Int)>0)=decide (0<i):=by rw[decide_eq_decide];omega
theorem Kc{α:Type}(l:List α)(x:α):l.length+[x].length=l.length+1:=rfl
theorem WA{l:List Ad}(a:l.length<2 ^ 62)(id:Int):Ada l id=some (atF (fun x=>x.Id==id) l 0):=by
 grind[Ada,Uw,ARm,BH,A7,AB,ARl,BN,AR]
theorem ig{l:List Ad}(a:l.length<2 ^ 62)(id:Int):AQT l id=some (atF (fun x=>x.Id==id) l 0):=by
 unfold AQT JV
 grind[Uw,AB,BCJ,AAn,BH,A7,BCI,BN,AR]
def AYu(e:Ad):Bool:=inB e.Level 0 4&&(inB e.Ap 1 1000000&&(inB e.Id 1 999&&inB e.A2 1 6))
def qAt(l:List Ad)(i:Nat):Bool:=
 KZ l i fun e=>AYu e&&((if 0<i then KZ l (i-1) (fun d=>ltE d e) else true)&&!(decide (atF (fun x=>x.Id==e.Id) (l.take i) 0>=0)))
def MC(l:List Ad):Bool:=!(decide ((l.length:Int)>10))&&JN (qAt l) 0 l.length
theorem WB(l:List Ad)(g:l.length<2 ^ 62):Adb l=some (MC l):=by
 unfold Adb MC;rw[Km (n:=l.length) (E:=some true) (qAt l) (by omega) ?_ ?_,Cv,Cd,Hy]
 .intro L i h;have q:=BU h (show l.length<2 ^ 63 by omega);unfold qAt;rw[Cc h];unfold AvD;rw[CC h,BH,A7 h,AB];have a:∀b,AsQ L i b=br (!b) (L ((i+1:Nat):Int)) (some false):=by intro b;unfold AsQ;rw[q];cases b<;>rfl
  have j:(atF (fun x=>x.Id==l[i].Id) l 0 != (i:Int))=decide (atF (fun x=>x.Id==l[i].Id) (l.take i) 0>=0):=by
   grind[AGr]
  have e:∀b,AvC l L i l[i] b=br (!b&&((if 0<i then KZ l (i-1) (fun d=>ltE d l[i]) else true)&&!(decide (atF (fun x=>x.Id==l[i].Id) (l.take i) 0>=0)))) (L ((i+1:Nat):Int)) (some false):=by
   intro b;unfold AvC;rw[oZ];by_cases c:0<i
   .rw[decide_eq_true c,BH,if_pos c,Kg i c (by omega),A7 (show i-1<l.length by omega),AB,Z4,AB,BI,WA g,AB,AR,AR,a,a,j,Cc (by omega)];cases b<;>cases ltE l[i-1] l[i]<;>rfl
   .rw[decide_eq_false c,BN,if_neg c,WA g,AB,AR,a,j];cases b<;>rfl
  unfold AYu;simp only[Gv,AB,AR,BI,e];generalize ((if 0<i then KZ l (i-1) (fun d=>ltE d l[i]) else true)&&!(decide (atF (fun x=>x.Id==l[i].Id) (l.take i) 0>=0)))=X;cases inB l[i].Level 0 4<;>cases inB l[i].Ap 1 1000000<;>cases inB l[i].Id 1 999<;>cases inB l[i].A2 1 6<;>rfl
 grind[AvD,BDQ,BN,AR]
theorem ij(l:List Ad)(q:l.length<2 ^ 62):AQU l=some (MC l):=by
 unfold AQU MC;rw[Km (n:=l.length) (E:=some true) (qAt l) (by omega) ?_ ?_,Cv,Cd,Hy]
 .intro L i h;have g:=BU h (show l.length<2 ^ 63 by omega);unfold qAt;rw[Cc h];unfold BAR;rw[CC h,BH,A7 h,AB];have a:∀b,A8f L i b=br (!b) (L ((i+1:Nat):Int)) (some false):=by intro b;unfold A8f;rw[g];cases b<;>rfl
  have e:∀b,A8w L i l[i] b=br (!b&&AYu l[i]) (L ((i+1:Nat):Int)) (some false):=by
   intro b;unfold A8w AYu;have c:w64 (5-1)=4:=by rw[Ai]<;>omega
   simp only[Fs,iv,AB,AR,BI,a,c];cases b<;>cases inB l[i].Level 0 4<;>cases inB l[i].Ap 1 1000000<;>cases inB l[i].Id 1 999<;>cases inB l[i].A2 1 6<;>rfl
  have j:(0:Int)<=(i:Int)/\(i:Int)<=(l.length:Int):=by omega
  grind[BH,Kg,A7,AB,ZM,B9,ig,AR,Cc,ltE,BN]
 grind[BAR,BCK,BN,AR]
theorem Rm{l:List Ad}(a:l.length<=lim):Afo l=some l:=by
 unfold Afo;rw[B9 (by omega),CK]
theorem dg{l:List Ad}(c:l.length+1<=lim)(e:Ad):Afp l e=some (put ltE e l):=by
 have a:∀i:Nat,i<=l.length->BB8 l e i=some (l.take i++e::l.drop i):=by
  grind[BB8,B9,Rm,AB,Cw]
 have hlim:lim=268435456:=rfl;unfold Afp;refine Zq some (by omega) ?_ ?_
 .grind[BB9,BAM,BH,A7,AB,Z4,AR]
 grind[BB9,BAM,BN,AR]
theorem dh{l:List A6}(c:l.length+1<=lim)(e:A6):Adh l e=some (put ltP e l):=by
 have a:∀i:Nat,i<=l.length->BCC l e i=some (l.take i++e::l.drop i):=by
  grind[BCC,B9]
 have hlim:lim=268435456:=rfl;unfold Adh;refine Zq some (by omega) ?_ ?_
 .grind[ADq,ASy,BH,A7,AB,n8,AR]
 grind[ADq,ASy,BN,AR]
def ML(r:AZ)(cabin now:Int)(p:AK):AA Ad:=if ((Ez r p now).2&&(p.Aa==cabin))=true then some (Ez r p now).1 else none
def D3(r:AZ)(l:List AK)(cabin now:Int):List Ad:=DX ltE (l.filterMap (ML r cabin now))
theorem PQ{r:AZ}(j:r.AV.length<2 ^ 62){l:List AK}(G:l.length<=1048576)(c now:Int):Adg r l c now=some (D3 r l c now):=by
 have hlim:lim=268435456:=rfl;have e:w64 ((l.length:Int)-1)=(l.length:Int)-1-((0:Nat):Int):=by rw[Ai (by omega) (by omega)];omega
 unfold Adg D3;rw[e];refine(C6 (n:=l.length) (fun i (v:List Ad)=>(v,(l.length:Int)-1-(i:Int))) (fun i v=>v.length<=i) (fun i v=>some ((((l.take (l.length-i)).filterMap (ML r c now)).foldr (put ltE) v))) (by omega) ?_ (v:=[]) (by simp)).trans (by rw[Nat.sub_zero,List.take_length];rfl);intro L i v H hi I;unfold ADp ASx BCA;dsimp only;rcases AT i l.length with h|h
 .obtain⟨k,E⟩:∃k,l.length=i+(k+1):=⟨l.length-i-1,by omega⟩;have g:(l.length:Int)-1-(i:Int)=(k:Int):=by omega
  have a:k<l.length:=by omega
  have y:w64 ((k:Int)-1)=(l.length:Int)-1-((i+1:Nat):Int):=by rw[Ai (by omega) (by omega)];omega
  have B:l.take (l.length-i)=l.take (l.length-(i+1))++[l[k]]:=by
   rw[show l.length-i=k+1 by omega,show l.length-(i+1)=k by omega,CH,AW a];rfl
  rw[g,BA,if_pos (by omega)];simp only[A7 a,AB,jd j,Cw,AGV,AR,BN];have key:(br (Ez r l[k] now).2 (br (l[k].Aa==c) (bd (Afp v (Ez r l[k] now).1) fun q=>L (q,w64 ((k:Int)-1))) (L (v,w64 ((k:Int)-1)))) (L (v,w64 ((k:Int)-1))))=some ((((l.take (l.length-i)).filterMap (ML r c now)).foldr (put ltE) v)):=by
   grind[dg,AB,ML,Ez,BH,BN,Ff]
  exact key
 .obtain rfl:i=l.length:=by omega
  unfold BDU;rw[BA,if_neg (by omega),AR,D8];rfl
theorem AAC{α β:Type}(f:α->AA β){l:List α}{i:Nat}(h:i<l.length):(l.take (i+1)).filterMap f=(l.take i).filterMap f++(f l[i]).toList:=by
 rw[CH,AW h,List.filterMap_append];congr 1
theorem AAD{α β:Type}(f:α->AA β)(l:List α)(i:Nat):((l.take i).filterMap f).length<=i:=Nat.le_trans (List.length_filterMap_le _ _) (by rw[List.length_take];omega)
theorem collect{α β γ:Type}{l:List α}(f:α->AA β){F:(List β×Int->AA γ)->List β×Int->AA γ}(J:List β->AA γ)(e:l.length<=1048576)
 (step:∀L i (h:i<l.length) v,v.length<=i->F L (v,(i:Int))=L (v++(f l[i]).toList,w64 ((i:Int)+1))) (stop:∀L v,F L (v,(l.length:Int))=J v):A4 F big ([],0)=J (l.filterMap f):=by
 refine(C6 (n:=l.length) (fun i (v:List β)=>(v,(i:Int))) (fun i v=>v=(l.take i).filterMap f) (fun i v=>J (l.filterMap f)) (by omega) ?_ (by simp));intro L i v a hi c;rcases AT i l.length with h|h
 .rw[step L i h v (by rw[a];exact AAD _ _ _),BU h (by omega)];exact c _ (by rw[a,AAC f h]) h
 grind
theorem AAf(c:Int):∀(l:List AK) (n:Int),l.foldl (OA c) n=n+(l.countP fun p=>p.Aa==c)
 | [],n=>by simp|p::l,n=>by
  rw[B6,AAf c l,List.countP_cons]
  grind[OA]
theorem o6{β:Type}(f:AK->AA β)(c:Int)(a:∀p,(p.Aa==c)=false->f p=none):∀l:List AK,((l.filterMap f).length:Int)<=DQ l c:=by
 intro l;unfold DQ;rw[AAf,Int.zero_add]
 induction l with
 |nil=>simp|cons p l e=>
  grind
theorem Vj{r:AZ}(e:r.AV.length<2 ^ 62){l:List AK}(a:l.length<=1048576){c:Int}(q:DQ l c<=19)(now:Int):Wz r l c now=some (D3 r l c now):=by
 have hlim:lim=268435456:=rfl;have y:=o6 (ML r c now) c (by intro p h;unfold ML;rw[h,DK];rfl) l;unfold Wz D3;rw[collect (l:=l) (ML r c now) W0 a ?_ ?_]
 .unfold W0;rw[Aej (by omega),AB]
 .intro L i h v B;unfold A8v eQ A9I ML;dsimp only;rw[CC h,BH,A7 h,AB,PC e,AB,AR,AR,B9 (by rw[Kc];omega),AR,AR];cases g:(Ez r l[i] now).2<;>cases j:l[i].Aa==c<;>simp
 grind[A8v,BN,AR]
def Nu(cabin:Int)(p:AK):AA A6:=if ((p.State==2)&&(p.Aa==cabin))=true then some ⟨p.Cf,p.Id⟩ else none
def GJ(l:List AK)(cabin:Int):List A6:=DX ltP (l.filterMap (Nu cabin))
theorem Z7{l:List AK}(e:l.length<=1048576)(c:Int):Adj l c=some (GJ l c):=by
 have hlim:lim=268435456:=rfl;unfold Adj GJ;rw[Xg (l:=l) (fun v p=>match Nu c p with|some x=>put ltP x v|none=>v) (fun i v=>v.length<=i) some (by omega) ?_ ?_ ?_ (by simp),<-l9 FG pD]
 .congr 1;generalize ([]:List A6)=a;clear e
  induction l generalizing a with
  |nil=>rfl|cons p l g=>
   rw[B6,g,List.filterMap_cons];cases Nu c p<;>rfl
 .intro L i h v y;unfold AxL AvM AvN Nu;dsimp only;rw[CC h,BH];simp only[A7 h,AB,AR,BN,dh (show v.length+1<=lim by omega)];cases j:l[i].State==2<;>cases q:l[i].Aa==c<;>rfl
 .grind[Ff]
 grind[AxL,AxK,BN,AR]
theorem nZ{l:List AK}(a:l.length<=1048576){c:Int}(j:DQ l c<=19):rK l c=some (GJ l c):=by
 have hlim:lim=268435456:=rfl;have q:=o6 (Nu c) c (by intro p h;unfold Nu;rw[h,DK];rfl) l;unfold rK GJ;rw[collect (l:=l) (Nu c) A8x a ?_ ?_]
 .unfold A8x;rw[Aek (by omega),AB]
 .intro L i h v y;unfold A8y A9P A9Q Nu;dsimp only;rw[CC h,BH,A7 h,AB,AR,AR,B9 (by rw[Kc];omega),AR,AR];cases e:l[i].State==2<;>cases g:l[i].Aa==c<;>simp
 grind[A8y,BN,AR]
end Lv.P
