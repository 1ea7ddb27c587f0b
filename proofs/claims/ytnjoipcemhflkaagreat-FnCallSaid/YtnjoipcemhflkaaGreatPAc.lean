/- Plain laws about what the program computes. -/
import Derived.Test.YtnjoipcemhflkaaGreatKCc
set_option linter.unusedVariables false
set_option linter.unusedSimpArgs false
set_option linter.unusedSectionVars false
open Bool renaming and_eq_true->AF,and_false->Cw,and_true->CA,false_and->BW,false_eq_true->BA,not_not->DD,not_true->Bp,true_and->GN
open Int renaming toNat_natCast->Ac
open List renaming append_nil->KF,cons_append->EF,drop_length->EG,foldl_cons->Bj,foldr_cons->KG,getElem?_eq_getElem->AU,mem_cons->Ak,mem_cons_self->BQ,nil_append->Bk,pairwise_cons->BK,take_add_one->Cd
open List.cons renaming injEq->CL
open Nat renaming add_sub_cancel->CZ,lt_or_ge->AV,sub_self->Dc
namespace Lv.P
open Go (IntKind BinOp UnOp)
theorem Tt{n:Int}(a:-9223372036854775808<=n)(c:n<9223372036854775808):IntKind.i64.wrap n=n:=by
 simp only[IntKind.wrap,IntKind.bits,IntKind.signed];simp;omega
theorem A4{n:Int}(a:-9223372036854775808<=n)(c:n<9223372036854775808):w64 n=n:=Tt a c
theorem AQL{n:Int}(a:0<=n)(c:n<256):IntKind.u8.wrap n=n:=by
 simp only[IntKind.wrap,IntKind.bits,IntKind.signed];simp;omega
theorem AGc{n:Nat}(h:n<256):toB (n:Int)=UInt8.ofNat n:=by
 unfold toB;rw[AQL (by omega) (by omega)];rfl
@[simp] theorem OQ{α:Type}(l:List α)(i:Nat):at? l (i:Int)=l[i]?:=by simp[at?]
@[simp] theorem uC{α:Type}(l:List α):at? l 0=l[0]?:=by simp[at?]
theorem IC(k:Nat)(h:k<2 ^ 64):k<big:=by have:=Ro;omega
theorem Rp(k:Nat)(h:k<2 ^ 64):∃n,big=n+1+k:=⟨big-1-k,by have:=Ro;omega⟩
section
variable{σ γ:Type}
theorem y4{F:(σ->AA γ)->σ->AA γ}(R:σ->AA γ)(I:σ->Prop)(μ:σ->Nat)
 (step:∀(L:σ->AA γ) x,I x->(∀y,I y->μ y<μ x->L y=R y)->F L x=R x):∀n x,I x->μ x<n->A7 F n x=R x
 |0,x,_,h=>by omega|n+1,x,hI,e=>by
  rw[Dy];exact step _ x hI fun y a c=>y4 R I μ step n y a (by omega)
theorem Ye{F:(σ->AA γ)->σ->AA γ}(R:σ->AA γ)(I:σ->Prop)(μ:σ->Nat)
 (step:∀(L:σ->AA γ) x,I x->(∀y,I y->μ y<μ x->L y=R y)->F L x=R x) {x:σ} (hI:I x) (a:μ x<2 ^ 64):A7 F big x=R x:=
 y4 R I μ step big x hI (IC _ a)
end
section
variable{α γ:Type}
@[simp] theorem BP(x y:AA γ):br true x y=x:=rfl
@[simp] theorem BS(x y:AA γ):br false x y=y:=rfl
@[simp] theorem BJ(p:Prop) [Decidable p] (x y:AA γ):br (decide p) x y=if p then x else y:=by unfold br;by_cases h:p<;>simp[h]
@[simp] theorem BN(b:Bool)(x y:AA γ):br (!b) x y=br b y x:=by cases b<;>rfl
@[simp] theorem AB(a:α)(f:α->AA γ):bd (some a) f=f a:=by rw[AAk];rfl
@[simp] theorem AQc(f:α->AA γ):bd none f=none:=by rw[AAk];rfl
@[simp] theorem AT(F:α->AA γ)(x:α):jn F x=F x:=ANp F x
theorem Bt{p:Prop} [Decidable p] (h:p) (x:AA γ):gd p x=x:=by rw[AKm,if_pos h]
theorem Bb(b:Bool)(x y:AA γ):br b x y=if b=true then x else y:=rfl
end
theorem DE{τ σ γ:Type}{F:(τ->AA γ)->τ->AA γ}(st:Nat->σ->τ)(I:Nat->σ->Prop)(R:Nat->σ->AA γ){n:Nat}(B:n<2 ^ 63)
 (step:∀L i v,I i v->i<=n->(∀a,I (i+1) a->i<n->L (st (i+1) a)=R (i+1) a)->F L (st i v)=R i v) {v:σ} (c:I 0 v):A7 F big (st 0 v)=R 0 v:=by
 have key:∀(m i k:Nat) (v:σ),i+m=n->m<k->I i v->A7 F k (st i v)=R i v:=by
  intro m
  induction m with
  |zero=>
   intro i k v hi q h;obtain⟨k,rfl⟩:∃j,k=j+1:=⟨k-1,by omega⟩;rw[Dy];exact step _ i v h (by omega) fun a _ g=>by omega
  |succ m y=>
   intro i k v hi q h;obtain⟨k,rfl⟩:∃j,k=j+1:=⟨k-1,by omega⟩;rw[Dy];exact step _ i v h (by omega) fun a e g=>y (i+1) k a (by omega) (by omega) e
 exact key n 0 big v (by omega) (IC _ (by omega)) c
theorem A9{α:Type}{l:List α}{i:Nat}(h:i<l.length):at? l (i:Int)=some l[i]:=by rw[OQ,AU h]
theorem dec_lt{l:Nat}{i:Nat}:decide ((i:Int)<(l:Int))=decide (i<l):=by rw[decide_eq_decide];omega
theorem BX{i n:Nat}(h:i<n)(a:n<2 ^ 63):w64 ((i:Int)+1)=((i+1:Nat):Int):=by rw[A4 (by omega) (by omega)];rfl
theorem AQT{n:Nat}{F:(Int->AA Bool)->Int->AA Bool}(a:n<2 ^ 63)
 (step:∀L (i:Nat),i<n->F L (i:Int)=L ((i+1:Nat):Int)) (stop:∀L,F L (n:Int)=some true):A7 F big 0=some true:=by
 have:=DE (F:=F) (n:=n) (fun i (_:Unit)=>(i:Int)) (fun _ _=>True) (fun _ _=>some true) a ?_ (v:=()) trivial
 .exact this
 .intro L i v _ hi c;rcases AV i n with h|h
  .rw[step L i h];exact c () trivial h
  .obtain rfl:i=n:=by omega
   exact stop L
theorem Dw{α:Type}{l:List α}{i:Nat}(h:i<l.length):l.drop i=l[i]::l.drop (i+1):=List.drop_eq_getElem_cons h
theorem Jq{σ γ:Type}{F:(σ->AA γ)->σ->AA γ}(I:σ->Prop)(μ:σ->Nat)(Q:γ->Prop)
 (step:∀(L:σ->AA γ) x,I x->(∀y,I y->μ y<μ x->∃r,L y=some r/\Q r)->∃r,F L x=some r/\Q r):∀n x,I x->μ x<n->∃r,A7 F n x=some r/\Q r
 |0,x,_,h=>by omega|n+1,x,hI,e=>by
  rw[Dy];exact step _ x hI fun y a c=>Jq I μ Q step n y a (by omega)
theorem JB{τ σ γ:Type}{F:(τ->AA γ)->τ->AA γ}(st:Nat->σ->τ)(I:Nat->σ->Prop)(Q:γ->Prop){n:Nat}(B:n<2 ^ 63)
 (step:∀L i v,I i v->i<=n->(∀a,I (i+1) a->i<n->∃r,L (st (i+1) a)=some r/\Q r)->∃r,F L (st i v)=some r/\Q r) {v:σ} (c:I 0 v):∃r,A7 F big (st 0 v)=some r/\Q r:=by
 have key:∀(m i k:Nat) (v:σ),i+m=n->m<k->I i v->∃r,A7 F k (st i v)=some r/\Q r:=by
  intro m
  induction m with
  |zero=>
   intro i k v hi q h;obtain⟨k,rfl⟩:∃j,k=j+1:=⟨k-1,by omega⟩;rw[Dy];exact step _ i v h (by omega) fun a _ g=>by omega
  |succ m y=>
   intro i k v hi q h;obtain⟨k,rfl⟩:∃j,k=j+1:=⟨k-1,by omega⟩;rw[Dy];exact step _ i v h (by omega) fun a e g=>y (i+1) k a (by omega) (by omega) e
 exact key n 0 big v (by omega) (IC _ (by omega)) c
def inB(a b c:Int):Bool:=decide (b<=a/\a<=c)
theorem B8{a b c:Int}:inB a b c=true↔b<=a/\a<=c:=by grind[inB]
theorem GC(a b c:Int):EC a b c=some (inB a b c):=by
 grind[EC,aE,inB,BJ,AT]
theorem FE(a b c:Int):Cq a b c=some (inB a b c):=by
 grind[Cq,Ve,inB,BJ,AT]
theorem Wr(a b:Int):Mp a b=some (inB a 0 (w64 (b-1))):=by unfold Mp;rw[FE,AB]
theorem Cf(a b:Bool):br a (some b) (some false)=some (a&&b):=by cases a<;>rfl
theorem ADQ(a b:Bool):br a (some true) (some b)=some (a||b):=by cases a<;>rfl
theorem G0(a b:Bool):br a (some false) (some b)=some (!a&&b):=by cases a<;>rfl
theorem ADR{γ:Type}(a:Bool)(x:AA γ):br a x x=x:=by cases a<;>rfl
def IT(p:Nat->Bool):Nat->Nat->Bool|_,0=>true|i,m+1=>p i&&IT p (i+1) m
theorem zU{p:Nat->Bool}:∀{m i:Nat},IT p i m=true↔∀k,i<=k->k<i+m->p k=true
 |0,i=>by simp[IT];omega|m+1,i=>by
  unfold IT;rw[AF,zU]
  grind
theorem JY{p:Nat->Bool}{n:Nat}:IT p 0 n=true↔∀k,k<n->p k=true:=by
 grind[zU]
theorem Jk{n:Nat}{F:(Int->AA Bool)->Int->AA Bool}{E:AA Bool}(p:Nat->Bool)(a:n<2 ^ 63)
 (step:∀L (i:Nat),i<n->F L (i:Int)=br (p i) (L ((i+1:Nat):Int)) (some false)) (stop:∀L,F L (n:Int)=E):A7 F big 0=br (IT p 0 n) E (some false):=by
 have:=DE (F:=F) (n:=n) (fun i (_:Unit)=>(i:Int)) (fun _ _=>True) (fun i _=>br (IT p i (n-i)) E (some false)) a ?_ (v:=()) trivial
 .exact this
 .intro L i v _ hi c;rcases AV i n with h|h
  .rw[step L i h,c () trivial h,show n-i=(n-(i+1))+1 by omega,show IT p i (n-(i+1)+1)=(p i&&IT p (i+1) (n-(i+1))) from rfl];cases p i<;>rfl
  .obtain rfl:i=n:=by omega
   rw[stop,Dc];rfl
theorem AJb{α:Type}(l:List α)(p:α->Bool)(q:Nat->Bool)(h:∀k (a:k<l.length),q k=p l[k]):IT q 0 l.length=l.all p:=by
 grind[JY,List.getElem_of_mem]
theorem Bw{i n:Nat}(h:i<n):decide ((i:Int)<(n:Int))=true:=by rw[decide_eq_true_iff];omega
theorem Cc(n:Nat):decide ((n:Int)<(n:Int))=false:=by rw[decide_eq_false_iff_not];omega
theorem kS{α:Type}{l:List α}{F:(Int->AA Bool)->Int->AA Bool}{E:AA Bool}(p:α->Bool)(a:l.length<2 ^ 63)
 (step:∀L (i:Nat) (h:i<l.length),F L (i:Int)=br (p l[i]) (L (w64 ((i:Int)+1))) (some false)) (stop:∀L,F L (l.length:Int)=E):A7 F big 0=br (l.all p) E (some false):=by
 have:=Jk (F:=F) (n:=l.length) (E:=E) (fun i=>match l[i]? with|some x=>p x|none=>true) a ?_ stop
 .grind[AJb]
 .intro L i h;rw[step L i h,BX h a];simp[h]
def Dd(r:Aa):Bool:=inB r.AW.length 1 4&&(inB r.CK 1 5&&(inB r.Room 1 10&&(inB r.A5 1 6&&(inB r.CD 1 12&&(r.AW.all (fun x=>inB x 1 60)&&(inB r.Bq 1 8&&(inB r.Rest 0 8&&(inB r.CP 1 4&&inB r.Cr 1 3))))))))
theorem Hn{r:Aa}(c:r.AW.length<2 ^ 62):oK r=some (Dd r):=by
 have a:∀b,Qd r b=some (!b&&(r.AW.all (fun x=>inB x 1 60)&&(inB r.Bq 1 8&&(inB r.Rest 0 8&&(inB r.CP 1 4&&inB r.Cr 1 3))))):=by
  intro b;unfold Qd;rw[kS (l:=r.AW) (fun x=>inB x 1 60) (E:=some (inB r.Bq 1 8&&(inB r.Rest 0 8&&(inB r.CP 1 4&&inB r.Cr 1 3)))) (by omega) ?_ ?_,Cf,G0]
  .intro L i h;unfold oM;rw[Bw h,BP,A9 h,AB,GC,AB,BN]
  .intro L;unfold oM ADq Vd;rw[Cc,BS];simp only[AT,GC,AB,Cf]
 unfold oK;simp only[GC,AB,BN,AT,a,Bp,BW,Cf,DD];rfl
theorem Hh{r:Aa}(a:r.AW.length<2 ^ 62):ZD r=some (Dd r):=by
 unfold ZD;rw[FE,AB,BN];rw[kS (l:=r.AW) (fun x=>inB x 1 60) (E:=some (inB r.CK 1 5&&(inB r.Room 1 10&&(inB r.A5 1 6&&(inB r.CD 1 12&&(inB r.Bq 1 8&&(inB r.CP 1 4&&(inB r.Cr 1 3&&inB r.Rest 0 8)))))))) (by omega) ?_ ?_,Cf,Cf]
 .unfold Dd;congr 1;ac_rfl
 .intro L i h;unfold bX;rw[Bw h,BP,A9 h,AB,FE,AB,BN]
 .intro L;unfold bX ue KY;rw[Cc,BS];simp only[AT,FE,AB,Cf]
theorem B2{r:Aa}(h:Dd r=true):(1<=r.AW.length/\r.AW.length<=4)/\(1<=r.CK/\r.CK<=5)/\(1<=r.Room/\r.Room<=10)/\(1<=r.A5/\r.A5<=6)/\(1<=r.CD/\r.CD<=12)/\(∀x∈r.AW,1<=x/\x<=60)/\(1<=r.Bq/\r.Bq<=8)/\(0<=r.Rest/\r.Rest<=8)/\(1<=r.CP/\r.CP<=4)/\(1<=r.Cr/\r.Cr<=3):=by
 grind[Dd,B8]
def DL(r:Aa)(p:AQ)(now:Int):Bool:=
 Dd r&&(inB now 0 1000000&&(inB p.Id 1 999&&(inB p.AX 0 (w64 ((r.AW.length:Int)-1))&&(inB p.BY (-1) (w64 ((r.AW.length:Int)-1))&&(!(p.BY==p.AX)&&(inB p.A5 1 r.A5&&(inB p.Ci 0 (w64 (r.CK-1))&&(inB p.Since 0 now&&(inB p.As 1 1000000&&(inB p.Cn 0 (w64 (r.CP-1))&&(((p.State==1)&&inB p.CW 0 (w64 (now+r.Rest)))||((p.State==2)&&inB p.CW 1 (w64 (now+r.Bq))))))))))))))
theorem NF{r:Aa}(e:r.AW.length<2 ^ 62)(p:AQ)(now:Int):AAt r p now=some (DL r p now):=by
 have c:∀b,Qe r p now b=some (!b&&(((p.State==1)&&inB p.CW 0 (w64 (now+r.Rest)))||((p.State==2)&&inB p.CW 1 (w64 (now+r.Bq))))):=by
  intro b;unfold Qe TP;simp only[GC,AB,AT,Cf,ADQ];cases p.State==1<;>cases b<;>rfl
 have a:∀b,OZ r p now b=some (!b&&(inB p.A5 1 r.A5&&(inB p.Ci 0 (w64 (r.CK-1))&&(inB p.Since 0 now&&(inB p.As 1 1000000&&(inB p.Cn 0 (w64 (r.CP-1))&&(((p.State==1)&&inB p.CW 0 (w64 (now+r.Rest)))||((p.State==2)&&inB p.CW 1 (w64 (now+r.Bq)))))))))):=by
  intro b;unfold OZ;simp only[GC,AB,AT,BN,c,Bp,BW,Cf,G0,DD]
 unfold AAt;simp only[Hn e,GC,AB,AT,BN,a,Bp,BW,Cf];rfl
theorem M8{r:Aa}(e:r.AW.length<2 ^ 62)(p:AQ)(now:Int):bY r p now=some (DL r p now):=by
 have c:∀b,Nn r p now b=some (!b&&(((p.State==1)&&inB p.CW 0 (w64 (now+r.Rest)))||((p.State==2)&&inB p.CW 1 (w64 (now+r.Bq))))):=by
  intro b;unfold Nn PT;simp only[FE,AB,AT,Cf,ADQ];cases p.State==1<;>cases b<;>rfl
 have a:∀b,Lp r p now b=some (!b&&(inB p.A5 1 r.A5&&(inB p.Ci 0 (w64 (r.CK-1))&&(inB p.Since 0 now&&(inB p.As 1 1000000&&(inB p.Cn 0 (w64 (r.CP-1))&&(((p.State==1)&&inB p.CW 0 (w64 (now+r.Rest)))||((p.State==2)&&inB p.CW 1 (w64 (now+r.Bq)))))))))):=by
  intro b;unfold Lp;simp only[FE,Wr,AB,AT,BN,c,Bp,BW,Cf,G0,DD]
 unfold bY;simp only[Hh e,FE,Wr,AB,AT,BN,a,Bp,BW,Cf];rfl
def Yc(r:Aa)(tier waited:Int):Int:=if 0>w64 (tier-w64 (waited.tdiv r.CD)) then 0 else w64 (tier-w64 (waited.tdiv r.CD))
theorem MF(a b:Int):Ph a b=some (if a>b then a else b):=by
 unfold Ph;rw[BJ];split<;>rfl
theorem tL{r:Aa}(a:r.CD≠0)(t w:Int):AQs r t w=some (Yc r t w):=by
 unfold AQs;rw[Bt a,MF,AB];rfl
theorem mY(r:Aa)(t w:Int):0<=Yc r t w:=by unfold Yc;split<;>omega
theorem Ed{r:Aa}{p:AQ}{now:Int}(h:DL r p now=true):Dd r=true/\(0<=now/\now<=1000000)/\(1<=p.Id/\p.Id<=999)/\(0<=p.AX/\p.AX<=r.AW.length-1)/\(-1<=p.BY/\p.BY<=r.AW.length-1)/\p.BY≠p.AX/\(1<=p.A5/\p.A5<=r.A5)/\(0<=p.Ci/\p.Ci<=r.CK-1)/\(0<=p.Since/\p.Since<=now)/\(1<=p.As/\p.As<=1000000)/\(0<=p.Cn/\p.Cn<=r.CP-1)/\(p.State=1/\0<=p.CW/\p.CW<=now+r.Rest\/p.State=2/\1<=p.CW/\p.CW<=now+r.Bq):=by
 grind[DL,B8,B2,A4]
def IH(r:Aa)(p:AQ)(now:Int):Int:=if DL r p now=true then Yc r p.Ci (w64 (now-p.Since)) else -1
theorem s8{r:Aa}(a:r.AW.length<2 ^ 62)(p:AQ)(now:Int):AQt r p now=some (IH r p now):=by
 unfold AQt IH;rw[NF a,AB,BN,Bb];split
 .rename_i h;have:=(B2 (Ed h).1).2.2.2.2.1;rw[tL (by omega),AB]
 .rfl
theorem rK{r:Aa}(c:r.AW.length<2 ^ 62)(p:AQ)(now:Int):ADt r p now=some (IH r p now):=by
 unfold ADt IH;rw[M8 c,AB,BN,Bb];split
 .rename_i h;have a:=Ed h;have j:=B2 a.1;unfold AJy Vh;rw[Hh c,a.1,AB,BN,BP,Wr,AB,BN];have e:inB p.Ci 0 (w64 (r.CK-1))=true:=by rw[B8,A4 (by omega) (by omega)];omega
  have g:decide (w64 (now-p.Since)<0)=false:=by rw[A4 (by omega) (by omega)];simp;omega
  rw[e,BP,AT,g,BS,Bt (by omega),AB,if_pos rfl]
  grind[Yc]
 .rfl
def EL(r:Aa)(p:AQ)(now:Int):Ae×Bool:=if DL r p now=true/\p.State=1 then (⟨IH r p now,p.As,p.Id,p.A5⟩,true) else (⟨0,0,0,0⟩,false)
theorem XK{r:Aa}(a:r.AW.length<2 ^ 62)(p:AQ)(now:Int):AG7 r p now=some (EL r p now):=by
 unfold AG7 oY EL;rw[s8 a,AB,BJ,AT,AT,BP];by_cases h:DL r p now=true
 .have:=mY r p.Ci (w64 (now-p.Since))
  grind[IH,Bb]
 grind[IH]
theorem M7{r:Aa}(a:r.AW.length<2 ^ 62)(p:AQ)(now:Int):ko r p now=some (EL r p now):=by
 grind[ko,bm,EL,M8,AB,Bb,AT,rK]
def EW(l:A3):Bool:=inB l.Total 1 60&&(inB l.DP 0 l.Total&&(inB l.ER 0 l.Total&&(inB l.E6 0 l.Total&&((w64 (w64 (l.DP+l.ER)+l.E6)==l.Total)&&inB l.FP 0 l.E6))))
theorem PE(l:A3):AAu l=some (EW l):=by
 unfold AAu Qf EW;simp only[GC,AB,AT,Cf]
theorem Gi(l:A3):Mq l=some (EW l):=by
 unfold Mq No EW;simp only[FE,AB,AT,Cf]
def KI(a:CH):Bool:=decide ((a.Data.length:Int)<=20000)&&inB a.Safe 0 a.Data.length
theorem MN(a:CH):jr a=some (KI a):=by
 unfold jr oH KI;simp only[GC,AB,AT,Cf]
theorem MD(a:CH):R6 a=some (KI a):=by
 unfold R6 cK KI;simp only[FE,AB,AT,Cf]
def S8(s:CN):Bool:=KI s.Log&&(KI s.GG&&KI s.Odd)
theorem tF(s:CN):AQp s=some (S8 s):=by
 unfold AQp aD S8;simp only[MN,AB,AT,Cf]
theorem rQ(s:CN):AD2 s=some (S8 s):=by
 unfold AD2 Vm S8;simp only[MD,AB,AT,Cf]
section
variable{α:Type}(lt:α->α->Bool)
def put(x:α):List α->List α| []=>[x]|z::l=>if lt z x=true then z::put x l else x::z::l
def ins(x:α):List α->List α| []=>[x]|z::l=>if lt x z=true then x::z::l else z::ins x l
structure Swo:Prop where
 ni:∀a b,lt a b=true->lt b a=false
 neg:∀a b c,lt a c=true->lt a b=true\/lt b c=true
def C7(l:List α):List α:=l.foldr (put lt) []
variable {lt}
theorem Swo.trans(h:Swo lt){a b c:α}(g:lt a b=true)(j:lt b c=true):lt a c=true:=by
 rcases h.neg a c b g with e|e
 .exact e
 .rw[h.ni _ _ j]at e;cases e
theorem AF6(h:Swo lt)(x y:α):∀l,ins lt x (put lt y l)=put lt y (ins lt x l)
 | []=>by simp only[put,ins]|z::l=>by
  cases c:lt z y with
  |true=>
   cases a:lt x z with
   |true=>simp only[put,ins,c,a,h.trans a c,if_true]|false=>simp[put,ins,c,a,AF6 h x y l]
  |false=>
   cases a:lt x y with
   |true=>
    have e:lt x z=true:=(h.neg x z y a).resolve_right (by simp[c]);simp[put,ins,c,a,e]
   |false=>
    grind[put,ins]
theorem sV(h:Swo lt)(j:∀a b,lt a b=false->lt b a=false->a=b)(x y:α):∀l,put lt x (put lt y l)=put lt y (put lt x l)
 | []=>by
  simp only[put];cases c:lt y x with
  |true=>simp[h.ni _ _ c]|false=>
   cases e:lt x y with
   |true=>simp|false=>simp[j _ _ c e]
 |z::l=>by
  cases c:lt z y with
  |true=>
   cases e:lt z x with
   |true=>simp only[put,c,e,if_true];rw[sV h j x y l]|false=>
    have g:lt x y=true:=(h.neg z x y c).resolve_left (by simp[e]);simp[put,c,e,g]
  |false=>
   cases e:lt z x with
   |true=>
    have g:lt y x=true:=(h.neg z y x e).resolve_left (by simp[c]);simp[put,c,e,g]
   |false=>
    cases g:lt y x with
    |true=>simp[put,c,e,g,h.ni _ _ g]|false=>
     cases q:lt x y with
     |true=>simp[put,c,e,g,q]|false=>simp[j _ _ g q]
theorem mB(h:Swo lt):∀(l acc:List α) (a:α),l.foldl (fun s x=>ins lt x s) (put lt a acc)=put lt a (l.foldl (fun s x=>ins lt x s) acc)| [],_,_=>rfl|x::l,acc,a=>by rw[Bj,AF6 h,mB h l,Bj]
theorem mQ(h:Swo lt):∀l:List α,l.foldl (fun s x=>ins lt x s) []=C7 lt l
 | []=>rfl|a::l=>by
  rw[Bj,show ins lt a []=put lt a [] from rfl,mB h,mQ h l];rfl
theorem mC(h:Swo lt)(c:∀a b,lt a b=false->lt b a=false->a=b):∀(l acc:List α) (a:α),l.foldl (fun s x=>put lt x s) (put lt a acc)=put lt a (l.foldl (fun s x=>put lt x s) acc)| [],_,_=>rfl|x::l,acc,a=>by rw[Bj,sV h c,mC h c l,Bj]
theorem YZ(h:Swo lt)(c:∀a b,lt a b=false->lt b a=false->a=b):∀l:List α,l.foldl (fun s x=>put lt x s) []=C7 lt l| []=>rfl|a::l=>by rw[Bj,mC h c,YZ h c l];rfl
theorem Ey(x:α):∀l,(put lt x l).length=l.length+1| []=>rfl|z::l=>by unfold put;split<;>simp[Ey x l]
theorem AF3(x:α):∀l,(ins lt x l).length=l.length+1| []=>rfl|z::l=>by unfold ins;split<;>simp[AF3 x l]
theorem HF:∀l:List α,(C7 lt l).length=l.length
 | []=>rfl|a::l=>by
  have:=HF l;unfold C7 at this ⊢;rw[KG,Ey,this];rfl
theorem Tm{x a:α}:∀{l},a∈put lt x l↔a=x\/a∈l
 | []=>by simp[put]|z::l=>by
  unfold put;split
  .rw[Ak,Tm,Ak]
   grind
  .simp
theorem AF4{x a:α}:∀{l},a∈ins lt x l↔a=x\/a∈l
 | []=>by simp[ins]|z::l=>by
  unfold ins;split
  .simp
  .rw[Ak,AF4,Ak]
   grind
theorem Pu{a:α}:∀{l:List α},a∈C7 lt l↔a∈l
 | []=>by simp[C7]|z::l=>by
  have:=Pu (a:=a) (l:=l);unfold C7 at this ⊢;rw[KG,Tm,this,Ak]
def Srt(lt:α->α->Bool)(l:List α):Prop:=l.Pairwise fun a b=>lt b a=false
theorem AF7(h:Swo lt)(x:α):∀l,Srt lt l->Srt lt (ins lt x l)
 | [],_=>by simp[ins,Srt]|z::l,a=>by
  unfold Srt at a;rw[BK]at a;unfold ins Srt;split
  .rename_i g;rw[BK,BK];refine⟨?_,a⟩;intro b c;rcases Ak.1 c with rfl|c
   .exact h.ni _ _ g
   .cases e:lt b x with|false=>rfl|true=>exact absurd (h.trans e g) (by simp[a.1 b c])
  .rename_i g;rw[BK];refine⟨?_,AF7 h x l a.2⟩
   grind[AF4]
theorem YW{x:α}{e:List α}(h:∀b∈e,lt x b=true):∀{s1:List α},(∀a∈s1,lt x a=false)->ins lt x (s1++e)=s1++x::e
 | [],_=>by
  cases e with
  |nil=>rfl|cons b s=>unfold ins;rw[Bk];simp[h b BQ]
 |a::s1,g=>by
  rw[EF];unfold ins;rw[g a BQ,if_neg (by simp),YW h fun c j=>g c (List.mem_cons_of_mem _ j)];rfl
theorem YV{γ:Type}(h:Swo lt){G:(List α×Int->AA γ)->List α×Int->AA γ}{E:List α->AA γ}{x:α}{r:List α}{M:Nat}
 (I:∀L t z w,t.length<M->lt x z=true->G L (t++z::x::w,((t.length+1:Nat):Int))=L (t++x::z::w,(t.length:Int)))
 (J:∀L t z w,t.length<M->lt x z=false->G L (t++z::x::w,((t.length+1:Nat):Int))=E (t++z::x::w)) (O:∀L w,G L (x::w,0)=E (x::w)) :
 ∀(k N:Nat) (s1 c:List α),s1.length=k->k<=M->k<N->(∀b∈c,lt x b=true)->Srt lt s1->A7 G N (s1++x::(c++r),(k:Int))=E (ins lt x (s1++c)++r)
 |k,0,s1,c,q,hM,hN,y,j=>by omega|0,N+1,s1,c,q,hM,hN,y,j=>by
  obtain rfl:=List.eq_nil_of_length_eq_zero q;rw[Dy,Bk,YW (s1:=[]) y (by simp)];exact O _ _
 |k+1,N+1,s1,c,q,hM,hN,y,j=>by
  rcases List.eq_nil_or_concat s1 with rfl|⟨t,z,rfl⟩
  .simp at q
  simp only[List.concat_eq_append]at q j ⊢;have S:t.length=k:=by simpa using q
  have Q:Srt lt t/\∀a∈t,lt z a=false:=by
   unfold Srt at j ⊢;rw[List.pairwise_append]at j;exact⟨j.1,fun a g=>j.2.2 a g z (by simp)⟩
  rw[Dy];subst S;cases H:lt x z with
  |true=>
   have e:t++[z]++x::(c++r)=t++z::x::(c++r):=by simp
   rw[e,I _ _ _ _ (by omega) H];have:=YV (r:=r) h I J O t.length N t (z::c) rfl (by omega) (by omega) (by simpa[H] using y) Q.1;rw[EF]at this;rw[this];simp
  |false=>
   have e:t++[z]++x::(c++r)=t++z::x::(c++r):=by simp
   rw[e,J _ _ _ _ (by omega) H,YW y ?_]
   .simp
   .intro a g;rw[List.mem_append]at g;rcases g with g|g
    .cases e:lt x a with
     |false=>rfl|true=>
      rcases h.neg x z a e with B|B
      .rw[H]at B;cases B
      .rw[Q.2 a g]at B;cases B
    .rw[List.mem_singleton]at g;subst g;exact H
theorem mP(h:Swo lt){F:(List α×Int->AA (List α))->List α×Int->AA (List α)}{c:List α}(E:c.length<2 ^ 62)
 (step:∀L s x r,s.length+1+r.length=c.length->0<s.length->Srt lt s->F L (s++x::r,(s.length:Int))=L (ins lt x s++r,((s.length+1:Nat):Int)))
 (stop:∀L v (i:Nat),c.length<=i->F L (v,(i:Int))=some v):A7 F big (c,1)=some (C7 lt c):=by
 cases c with
 |nil=>
  have:=Rp 0 (by omega);obtain⟨n,y⟩:=this;rw[y,Nat.add_zero,Dy];exact stop _ _ 1 (by simp)
 |cons a l=>
  have:=DE (F:=F) (n:=l.length) (fun i (v:List α×List α)=>(v.1++v.2,((i+1:Nat):Int))) (fun i v=>v.1.length=i+1/\v.2.length+i=l.length/\Srt lt v.1) (fun i v=>some (v.2.foldl (fun s x=>ins lt x s) v.1)) (by simp at E;omega) ?_ (v:=([a],l)) ⟨rfl,rfl,by simp[Srt]⟩
  .rw[<-mQ h];exact this
  .rintro L i ⟨s,r⟩ ⟨g,e,j⟩ hi q;dsimp only at g e j q ⊢;cases r with
   |nil=>
    rw[stop _ _ _ (by simp at e ⊢;omega)];simp
   |cons x r=>
    have B:s.length+1+r.length=(a::l).length:=by simp at e ⊢;omega
    rw[<-g,step L s x r B (by omega) j,Bj];have:=q (ins lt x s,r) ⟨by dsimp only;rw[AF3,g],by dsimp only;simp at e ⊢;omega,AF7 h x s j⟩ (by simp at e;omega);rw[<-this,g]
theorem So{γ:Type}{F:(Int->AA γ)->Int->AA γ}{l:List α}{x:α}(J:List α->AA γ)(g:l.length<2 ^ 62)
 (step:∀L (i:Nat) (h:i<l.length),F L (i:Int)=br (lt l[i] x) (L (w64 ((i:Int)+1))) (J (l.take i++x::l.drop i)))
 (stop:∀L,F L (l.length:Int)=J (l++[x])):A7 F big 0=J (put lt x l):=by
 refine(DE (n:=l.length) (fun i (_:Unit)=>(i:Int)) (fun _ _=>True) (fun i _=>J (l.take i++put lt x (l.drop i))) (by omega) ?_ (v:=()) trivial).trans (by simp);intro L i _ _ hi c;rcases AV i l.length with h|h
 .rw[step L i h,BX h (by omega),Dw h,put];cases e:lt l[i] x with
  |true=>
   have a:l.take (i+1)=l.take i++[l[i]]:=by rw[Cd,AU h];rfl
   rw[BP,c () trivial h,a,List.append_assoc];rfl
  |false=>rfl
 grind[put]
end
theorem VQ{α:Type}(t w:List α)(z:α):at? (t++z::w) (t.length:Int)=some z:=by rw[OQ];simp
theorem VR{α:Type}(t w:List α)(z x:α):at? (t++z::x::w) ((t.length+1:Nat):Int)=some x:=by rw[OQ];simp
theorem zq{α:Type}(t w:List α)(z a:α):(t++z::w).set t.length a=t++a::w:=by simp
theorem zr{α:Type}(t w:List α)(z x a:α):(t++z::x::w).set (t.length+1) a=t++z::a::w:=by
 rw[List.set_append_right _ _ (by omega),show t.length+1-t.length=1 by omega];rfl
theorem Jb(n:Nat)(h:0<n)(a:n<2 ^ 63):w64 ((n:Int)-1)=((n-1:Nat):Int):=by grind[A4]
theorem n8(a b:Int):bc a b=some (if a<b then -1 else if a>b then 1 else 0):=by
 grind[bc,ADr,AB,BJ]
def ltE(a b:Ae):Bool:=decide (a.Level<b.Level)||((a.Level==b.Level)&&decide (a.As<b.As))
theorem Tb{a b:Ae}:ltE a b=true↔a.Level<b.Level\/a.Level=b.Level/\a.As<b.As:=by simp[ltE]
theorem AN1{a b:Ae}:ltE a b=false↔¬(a.Level<b.Level\/a.Level=b.Level/\a.As<b.As):=by rw[<-Tb];simp
def ltP(a b:BB):Bool:=decide (a.At<b.At)||((a.At==b.At)&&decide (a.Id<b.Id))
theorem Qy{a b:BB}:ltP a b=true↔a.At<b.At\/a.At=b.At/\a.Id<b.Id:=by simp[ltP]
theorem iH{a b:BB}:ltP a b=false↔¬(a.At<b.At\/a.At=b.At/\a.Id<b.Id):=by rw[<-Qy];simp
theorem ag:Swo ltE:=⟨fun a b h=>by rw[Tb]at h;rw[AN1];omega,fun a b c h=>by rw[Tb]at *;rw[Tb];omega⟩
theorem EX:Swo ltP:=⟨fun a b h=>by rw[Qy]at h;rw[iH];omega,fun a b c h=>by rw[Qy]at *;rw[Qy];omega⟩
theorem ah(a b:BB)(c:ltP a b=false)(e:ltP b a=false):a=b:=by
 rw[iH]at c e;obtain⟨x,y⟩:=a;obtain⟨z,w⟩:=b
 grind
theorem Sx(a b:Ae):AKD a b=some (ltE a b):=by
 unfold AKD aG ltE;simp only[AT,Cf,ADQ]
theorem Zs(a b:BB):AKS a b=some (ltP a b):=by
 unfold AKS aH ltP;simp only[AT,Cf,ADQ]
theorem Ps(a b:Ae):∃c,T2 a b=some c/\decide (c<0)=ltE a b:=by
 unfold T2;rw[n8,AB,Bb,n8,AB];refine⟨if a.Level<b.Level then -1 else if a.Level>b.Level then 1 else if a.As<b.As then -1 else if a.As>b.As then 1 else 0,?_,?_⟩
 .split<;>split<;>simp_all
 grind[Tb]
theorem SW(a b:Ae):ug a b=some (ltE a b):=by
 unfold ug;obtain⟨c,e,g⟩:=Ps a b;rw[e,AB,g]
theorem NQ(a b:BB):∃c,Rz a b=some c/\decide (c<0)=ltP a b/\decide (c>0)=ltP b a:=by
 unfold Rz;rw[n8,AB,Bb,n8,AB];refine⟨if a.At<b.At then -1 else if a.At>b.At then 1 else if a.Id<b.Id then -1 else if a.Id>b.Id then 1 else 0,?_,?_,?_⟩
 .split<;>split<;>simp_all
 .grind[Qy]
 grind[Qy]
theorem AUg{l:List Ae}(H:l.length<2 ^ 62):ADu l 0 l.length=some (C7 ltE l):=by
 unfold ADu C0;refine mP ag H ?_ ?_
 .intro L s x r J O g;unfold DG;dsimp only;rw[Bw (by omega),BP];have:=YV (G:=DH T2 0 L s.length) (E:=fun v=>L (v,((s.length+1:Nat):Int))) (x:=x) (r:=r) (M:=s.length) ag ?_ ?_ ?_ s.length big s [] rfl (by omega) (IC _ (by omega)) (by simp) g
  .rw[Bk,KF]at this;exact this
  all_goals unfold DH DF Dl
  .intro L' t z w I B;obtain⟨c,q,a⟩:=Ps x z;have e:=Jb (t.length+1) (by omega) (by omega);have h:((t.length+1:Nat):Int)>0:=by omega
   dsimp only;have y:c<0:=by rw[B,decide_eq_true_iff]at a;exact a
   simp only[BJ,AT,e,CZ,VQ,VR,AB,q,zq,zr,Ac,h,y,if_true]
  .intro L' t z w I B;obtain⟨c,q,a⟩:=Ps x z;have e:=Jb (t.length+1) (by omega) (by omega);have h:((t.length+1:Nat):Int)>0:=by omega
   have j:=BX (i:=s.length) (n:=s.length+1) (by omega) (by omega);dsimp only;have y:¬c<0:=by rw[B,decide_eq_false_iff_not]at a;exact a
   simp only[BJ,AT,e,CZ,VQ,VR,AB,q,h,y,if_true,if_false,j]
  .intro L' w;have j:=BX (i:=s.length) (n:=s.length+1) (by omega) (by omega);dsimp only;rw[BJ,if_neg (by omega),AT,BS,AT,j]
 grind[DG,BJ]
theorem ASZ{l:List BB}(H:l.length<2 ^ 62):uZ l 0 l.length=some (C7 ltP l):=by
 unfold uZ C0;refine mP EX H ?_ ?_
 .intro L s x r J O g;unfold DG;dsimp only;rw[Bw (by omega),BP];have:=YV (G:=DH Rz 0 L s.length) (E:=fun v=>L (v,((s.length+1:Nat):Int))) (x:=x) (r:=r) (M:=s.length) EX ?_ ?_ ?_ s.length big s [] rfl (by omega) (IC _ (by omega)) (by simp) g
  .rw[Bk,KF]at this;exact this
  all_goals unfold DH DF Dl
  .intro L' t z w I B;obtain⟨c,q,a,_⟩:=NQ x z;have e:=Jb (t.length+1) (by omega) (by omega);have h:((t.length+1:Nat):Int)>0:=by omega
   dsimp only;have y:c<0:=by rw[B,decide_eq_true_iff]at a;exact a
   simp only[BJ,AT,e,CZ,VQ,VR,AB,q,zq,zr,Ac,h,y,if_true]
  .intro L' t z w I B;obtain⟨c,q,a,_⟩:=NQ x z;have e:=Jb (t.length+1) (by omega) (by omega);have h:((t.length+1:Nat):Int)>0:=by omega
   have j:=BX (i:=s.length) (n:=s.length+1) (by omega) (by omega);dsimp only;have y:¬c<0:=by rw[B,decide_eq_false_iff_not]at a;exact a
   simp only[BJ,AT,e,CZ,VQ,VR,AB,q,h,y,if_true,if_false,j]
  .intro L' w;have j:=BX (i:=s.length) (n:=s.length+1) (by omega) (by omega);dsimp only;rw[BJ,if_neg (by omega),AT,BS,AT,j]
 grind[DG,BJ]
theorem ARt{l:List Ae}(e:l.length<=19):kf l=some (C7 ltE l):=by
 unfold kf ADv Fi;obtain⟨n,c⟩:=Rp 0 (by omega);have a:=AUg (l:=l) (by omega);unfold ADu at a
 grind[FL,Dy,BJ,AT,G4,AB,FM]
theorem ARu{l:List BB}(e:l.length<=19):kr l=some (C7 ltP l):=by
 unfold kr ADz Fi;obtain⟨n,c⟩:=Rp 0 (by omega);have a:=ASZ (l:=l) (by omega);unfold uZ at a
 grind[FL,Dy,BJ,AT,G4,AB,FM]
set_option maxRecDepth 100000
theorem AQf{n:Nat}(a:n<256):∃c,ADo (IntKind.u64.wrap (n:Int))=some c:=by
 have e:IntKind.u64.wrap (n:Int)=n:=by
  simp only[IntKind.wrap,IntKind.bits,IntKind.signed];simp;omega
 unfold ADo AJu;rw[e,BJ,if_neg (by omega),AT];unfold bU;dsimp only;rw[BJ,if_neg (by omega),AT];unfold bV;dsimp only;rw[BJ,if_neg (by omega),AT];unfold bW;dsimp only;rw[A9 (UInt8.toNat_lt (toB (n:Int))),AB,AB];exact⟨_,rfl⟩
theorem ATj{l:List BB}(g:l.length<=12):ADp l=some (C7 ltP l):=by
 unfold ADp AJv;obtain⟨c,a⟩:=AQf (n:=l.length) (by omega);rw[a,AB];obtain⟨n,e⟩:=Rp 0 (by omega)
 grind[Dy,ua,BJ,A4,ASZ,AB]
section
variable{α σ γ:Type}
theorem SM{l:List α}{F:(σ×Int->AA γ)->σ×Int->AA γ}(f:σ->α->σ)(I:Nat->σ->Prop)(J:σ->AA γ)(c:l.length<2 ^ 63)
 (step:∀L i (h:i<l.length) v,I i v->F L (v,(i:Int))=L (f v l[i],w64 ((i:Int)+1))) (E4:∀i (h:i<l.length) v,I i v->I (i+1) (f v l[i]))
 (stop:∀L v,I l.length v->F L (v,(l.length:Int))=J v) {a:σ} (g:I 0 a):A7 F big (a,0)=J (l.foldl f a):=by
 refine(DE (n:=l.length) (fun i (v:σ)=>(v,(i:Int))) I (fun i v=>J ((l.drop i).foldl f v)) c ?_ g);intro L i v e hi j;rcases AV i l.length with h|h
 .rw[step L i h v e,BX h c,Dw h,Bj];exact j _ (E4 i h v e) h
 grind
def HQ(eq:α->α->Bool):List α->List α->Bool| [],[]=>true|x::a,y::b=>eq x y&&HQ eq a b|_,_=>false
theorem HI{eq:α->α->Bool}(c:∀x y,eq x y=true↔x=y):∀{a b:List α},HQ eq a b=true↔a=b| [],[]=>by simp[HQ]| [],y::b=>by simp[HQ]|x::a,[]=>by simp[HQ]|x::a,y::b=>by rw[HQ,AF,c,HI c,CL]
theorem zl{eq:α->α->Bool}:∀{a b:List α},a.length≠b.length->HQ eq a b=false| [],[],h=>by simp at h| [],y::b,h=>rfl|x::a,[],h=>rfl|x::a,y::b,h=>by rw[HQ,zl (a:=a) (b:=b) (by simpa using h),Cw]
theorem APn{eq:α->α->Bool}{a b:List α}{F:(Int->AA Bool)->Int->AA Bool}(c:a.length<2 ^ 63)(e:a.length=b.length)
 (step:∀L i (h:i<a.length) (j:i<b.length),F L (i:Int)=br (!(eq a[i] b[i])) (some false) (L (w64 ((i:Int)+1)))) (stop:∀L,F L (a.length:Int)=some true):A7 F big 0=some (HQ eq a b):=by
 refine(DE (n:=a.length) (fun i (_:Unit)=>(i:Int)) (fun _ _=>True) (fun i _=>some (HQ eq (a.drop i) (b.drop i))) c ?_ (v:=()) trivial);intro L i _ _ hi g;rcases AV i a.length with h|h
 .rw[step L i h (by omega),BX h c,Dw h,Dw (l:=b) (i:=i) (by omega),HQ,BN];cases eq a[i] b[i] with|true=>rw[BP,g () trivial h];rfl|false=>rfl
 .obtain rfl:i=a.length:=by omega
  rw[stop,EG,List.drop_eq_nil_of_le (by omega)];rfl
theorem Yw{eq:α->α->Bool}{a b:List α}{F:(Int->AA Bool)->Int->AA Bool}(c:a.length<2 ^ 63)
 (step:∀L i (h:i<a.length) (g:i<b.length),F L (i:Int)=br (!(eq a[i] b[i])) (some false) (L (w64 ((i:Int)+1)))) (stop:∀L,F L (a.length:Int)=some true) :
 br ((a.length:Int) != (b.length:Int)) (some false) (A7 F big 0)=some (HQ eq a b):=by
 by_cases h:a.length=b.length
 .have e:((a.length:Int) != (b.length:Int))=false:=by simp[h]
  rw[e,BS,APn c h step stop]
 .have e:((a.length:Int) != (b.length:Int))=true:=by simp;omega
  rw[e,BP,zl h]
def atF(p:α->Bool):List α->Nat->Int| [],_=>-1|x::l,i=>if p x=true then (i:Int) else atF p l (i+1)
theorem QR{p:α->Bool}{l:List α}{F:(Int->AA Int)->Int->AA Int}(a:l.length<2 ^ 63)
 (step:∀L i (h:i<l.length),F L (i:Int)=br (p l[i]) (some (i:Int)) (L (w64 ((i:Int)+1)))) (stop:∀L,F L (l.length:Int)=some (-1)):A7 F big 0=some (atF p l 0):=by
 refine(DE (n:=l.length) (fun i (_:Unit)=>(i:Int)) (fun _ _=>True) (fun i _=>some (atF p (l.drop i) i)) a ?_ (v:=()) trivial);intro L i _ _ hi c;rcases AV i l.length with h|h
 .rw[step L i h,BX h a,Dw h,atF];cases p l[i] with|true=>rfl|false=>rw[BS,c () trivial h];simp
 .obtain rfl:i=l.length:=by omega
  rw[stop,EG];rfl
theorem bG{p:α->Bool}:∀{l:List α} {s:Nat},atF p l s<0↔∀x∈l,p x=false
 | [],s=>by simp[atF]|x::l,s=>by
  unfold atF;split
  .rename_i h;simp[h]
  .rename_i h;rw[bG];simp[h]
theorem uD{p:α->Bool}:∀{l:List α} {i:Nat} (s:Nat) (h:i<l.length),p l[i]=true->((atF p l s != ((s+i:Nat):Int))=decide (atF p (l.take i) s>=0))
 | [],i,s,h,a=>by simp at h|x::l,0,s,h,a=>by
  simp only[List.getElem_cons_zero]at a;simp[atF,a]
 |x::l,i+1,s,h,a=>by
  simp only[List.getElem_cons_succ]at a;rw[List.take_succ_cons,atF,atF];by_cases c:p x=true
  .grind
  .rw[if_neg c,if_neg c];have:=uD (l:=l) (i:=i) (s+1) (by simpa using h) a;rw[<-this,show s+1+i=s+(i+1) by omega]
end
def MR(cabin:Int)(n:Int)(p:AQ):Int:=if (p.AX==cabin)=true then n+1 else n
def C2(l:List AQ)(cabin:Int):Int:=l.foldl (MR cabin) 0
def T8(cabin:Int)(n:Int)(p:AQ):Int:=if ((p.State==2)&&((p.AX==cabin)&&inB p.A5 1 6))=true then n+p.A5 else n
def Im(l:List AQ)(cabin:Int):Int:=l.foldl (T8 cabin) 0
def UR(cabin:Int)(n:Int)(p:AQ):Int:=if ((p.BY==cabin)&&inB p.A5 1 6)=true then n+p.A5 else n
def JC(l:List AQ)(cabin:Int):Int:=l.foldl (UR cabin) 0
theorem kZ(cabin:Int)(p:AQ){i:Nat}{n:Int}(h:0<=n/\n<=i):0<=MR cabin n p/\MR cabin n p<=((i+1:Nat):Int):=by unfold MR;split<;>omega
theorem Wm(cabin:Int)(p:AQ){i:Nat}{n:Int}(h:0<=n/\n<=6*i):0<=T8 cabin n p/\T8 cabin n p<=6*((i+1:Nat):Int):=by
 grind[T8,B8]
theorem XW(cabin:Int)(p:AQ){i:Nat}{n:Int}(h:0<=n/\n<=6*i):0<=UR cabin n p/\UR cabin n p<=6*((i+1:Nat):Int):=by
 grind[UR,B8]
theorem ND{l:List AQ}(e:l.length<2 ^ 58)(c:Int):AAs l c=some (C2 l c):=by
 unfold AAs;refine SM (l:=l) (MR c) (fun i n=>0<=n/\n<=i) some (by omega) ?_ (fun i h v a=>kZ c _ a) ?_ (by simp)
 .grind[oF,oE,MR,A9,AB,AT,A4,Bb]
 grind[oF,ADk,BS,AT]
theorem Qq{l:List AQ}(e:l.length<2 ^ 58)(c:Int):kg l c=some (C2 l c):=by
 unfold kg;refine SM (l:=l) (MR c) (fun i n=>0<=n/\n<=i) some (by omega) ?_ (fun i h v a=>kZ c _ a) ?_ (by simp)
 .grind[ba,bZ,MR,A9,AB,AT,A4,Bb]
 grind[ba,uf,BS,AT]
theorem Oq{l:List AQ}(y:l.length<2 ^ 58)(c:Int):AAr l c=some (Im l c):=by
 unfold AAr;refine SM (l:=l) (T8 c) (fun i n=>0<=n/\n<=6*i) some (by omega) ?_ (fun i h v a=>Wm c _ a) ?_ (by simp)
 .intro L i h v a;have e:=Wm c l[i] a;unfold T8 at e ⊢;unfold oA aB n9;dsimp only;rw[Bw h,BP];simp only[A9 h,AB,AT,GC,BS];cases g:l[i].State==2<;>cases j:l[i].AX==c<;>cases q:inB l[i].A5 1 6<;>simp only[BP,BS,GN,BW,if_true,BA,if_false]
  grind[A4]
 grind[oA,ADi,BS,AT]
theorem ZX{l:List AQ}(y:l.length<2 ^ 58)(c:Int):cA l c=some (Im l c):=by
 unfold cA;refine SM (l:=l) (T8 c) (fun i n=>0<=n/\n<=6*i) some (by omega) ?_ (fun i h v a=>Wm c _ a) ?_ (by simp)
 .intro L i h v a;have e:=Wm c l[i] a;unfold T8 at e ⊢;unfold cC Vk cB;dsimp only;rw[Bw h,BP];simp only[A9 h,AB,AT,FE,BS];cases g:l[i].State==2<;>cases j:l[i].AX==c<;>cases q:inB l[i].A5 1 6<;>simp only[BP,BS,GN,BW,if_true,BA,if_false]
  grind[A4]
 grind[cC,vE,BS,AT]
theorem Ot{l:List AQ}(q:l.length<2 ^ 58)(c:Int):uX l c=some (JC l c):=by
 unfold uX;refine SM (l:=l) (UR c) (fun i n=>0<=n/\n<=6*i) some (by omega) ?_ (fun i h v a=>XW c _ a) ?_ (by simp)
 .intro L i h v a;have e:=XW c l[i] a;unfold UR at e ⊢;unfold oD oB oC;dsimp only;rw[Bw h,BP];simp only[A9 h,AB,AT,GC,BS];cases g:l[i].BY==c<;>cases j:inB l[i].A5 1 6<;>simp only[BP,BS,GN,BW,if_true,BA,if_false]
  grind[A4]
 grind[oD,ADj,BS,AT]
theorem Zb{l:List AQ}(q:l.length<2 ^ 58)(c:Int):ZE l c=some (JC l c):=by
 unfold ZE;refine SM (l:=l) (UR c) (fun i n=>0<=n/\n<=6*i) some (by omega) ?_ (fun i h v a=>XW c _ a) ?_ (by simp)
 .intro L i h v a;have e:=XW c l[i] a;unfold UR at e ⊢;unfold cF cD cE;dsimp only;rw[Bw h,BP];simp only[A9 h,AB,AT,FE,BS];cases g:l[i].BY==c<;>cases j:inB l[i].A5 1 6<;>simp only[BP,BS,GN,BW,if_true,BA,if_false]
  grind[A4]
 grind[cF,vF,BS,AT]
def eqE(x y:Ae):Bool:=x.Level==y.Level&&(x.As==y.As&&(x.Id==y.Id&&(x.A5==y.A5&&true)))
theorem aU(x y:Ae):eqE x y=true↔x=y:=by
 obtain⟨a,b,c,d⟩:=x;obtain⟨e,f,g,h⟩:=y;simp[eqE]
def eqP(x y:BB):Bool:=x.At==y.At&&(x.Id==y.Id&&true)
theorem aV(x y:BB):eqP x y=true↔x=y:=by
 obtain⟨a,b⟩:=x;obtain⟨c,d⟩:=y;simp[eqP]
theorem XO{a b:List Ae}(e:a.length<2 ^ 62):AKT a b=some (HQ eqE a b):=by
 unfold AKT;refine Yw (by omega) ?_ ?_
 .intro L i h c;unfold ot;rw[Bw h,BP,A9 h,AB,A9 c,AB];rfl
 grind[ot,AFc,BS,AT]
theorem yn{a b:List Ae}(e:a.length<2 ^ 62):ADn a b=some (HQ eqE a b):=by
 unfold ADn;refine Yw (by omega) ?_ ?_
 .intro L i h c;unfold bS;rw[Bw h,BP,A9 h,AB,A9 c,AB];rfl
 grind[bS,uY,BS,AT]
theorem UM{a b:List BB}(e:a.length<2 ^ 62):AKU a b=some (HQ eqP a b):=by
 unfold AKU;refine Yw (by omega) ?_ ?_
 .intro L i h c;unfold pA;rw[Bw h,BP,A9 h,AB,A9 c,AB];rfl
 grind[pA,AFf,BS,AT]
theorem yp{a b:List BB}(e:a.length<2 ^ 62):AD0 a b=some (HQ eqP a b):=by
 unfold AD0;refine Yw (by omega) ?_ ?_
 .intro L i h c;unfold b0;rw[Bw h,BP,A9 h,AB,A9 c,AB];rfl
 grind[b0,vD,BS,AT]
def JU{α:Type}(l:List α)(k:Nat)(p:α->Bool):Bool:=match l[k]? with|some x=>p x|none=>true
theorem CC{α:Type}{l:List α}{k:Nat}(h:k<l.length)(p:α->Bool):JU l k p=p l[k]:=by unfold JU;rw[AU h]
theorem aQ(i:Nat):decide ((i:Int)>0)=decide (0<i):=by rw[decide_eq_decide];omega
theorem KD{α:Type}(l:List α)(x:α):l.length+[x].length=l.length+1:=rfl
theorem RE{l:List Ae}(a:l.length<2 ^ 62)(id:Int):AG4 l id=some (atF (fun x=>x.Id==id) l 0):=by
 grind[AG4,QR,AFM,BP,A9,AB,AFL,BS,AT]
theorem Wo{l:List Ae}(a:l.length<2 ^ 62)(id:Int):kh l id=some (atF (fun x=>x.Id==id) l 0):=by
 unfold kh AJx
 grind[QR,AB,ui,AJw,BP,A9,uh,BS,AT]
def AKc(e:Ae):Bool:=inB e.Level 0 4&&(inB e.As 1 1000000&&(inB e.Id 1 999&&inB e.A5 1 6))
def qAt(l:List Ae)(i:Nat):Bool:=
 JU l i fun e=>AKc e&&((if 0<i then JU l (i-1) (fun d=>ltE d e) else true)&&!(decide (atF (fun x=>x.Id==e.Id) (l.take i) 0>=0)))
def Km(l:List Ae):Bool:=!(decide ((l.length:Int)>10))&&IT (qAt l) 0 l.length
theorem RF(l:List Ae)(g:l.length<2 ^ 62):AG5 l=some (Km l):=by
 unfold AG5 Km;rw[Jk (n:=l.length) (E:=some true) (qAt l) (by omega) ?_ ?_,Cf,CA,G0]
 .intro L i h;have q:=BX h (show l.length<2 ^ 63 by omega);unfold qAt;rw[CC h];unfold oT;rw[Bw h,BP,A9 h,AB];have a:∀b,Wa L i b=br (!b) (L ((i+1:Nat):Int)) (some false):=by intro b;unfold Wa;rw[q];cases b<;>rfl
  have j:(atF (fun x=>x.Id==l[i].Id) l 0 != (i:Int))=decide (atF (fun x=>x.Id==l[i].Id) (l.take i) 0>=0):=by
   grind[uD]
  have e:∀b,TU l L i l[i] b=br (!b&&((if 0<i then JU l (i-1) (fun d=>ltE d l[i]) else true)&&!(decide (atF (fun x=>x.Id==l[i].Id) (l.take i) 0>=0)))) (L ((i+1:Nat):Int)) (some false):=by
   intro b;unfold TU;rw[aQ];by_cases c:0<i
   .rw[decide_eq_true c,BP,if_pos c,Jb i c (by omega),A9 (show i-1<l.length by omega),AB,Sx,AB,BN,RE g,AB,AT,AT,a,a,j,CC (by omega)];cases b<;>cases ltE l[i-1] l[i]<;>rfl
   .rw[decide_eq_false c,BS,if_neg c,RE g,AB,AT,a,j];cases b<;>rfl
  unfold AKc;simp only[GC,AB,AT,BN,e];generalize ((if 0<i then JU l (i-1) (fun d=>ltE d l[i]) else true)&&!(decide (atF (fun x=>x.Id==l[i].Id) (l.take i) 0>=0)))=X;cases inB l[i].Level 0 4<;>cases inB l[i].As 1 1000000<;>cases inB l[i].Id 1 999<;>cases inB l[i].A5 1 6<;>rfl
 grind[oT,AFW,BS,AT]
theorem Wp(l:List Ae)(q:l.length<2 ^ 62):kj l=some (Km l):=by
 unfold kj Km;rw[Jk (n:=l.length) (E:=some true) (qAt l) (by omega) ?_ ?_,Cf,CA,G0]
 .intro L i h;have g:=BX h (show l.length<2 ^ 63 by omega);unfold qAt;rw[CC h];unfold bf;rw[Bw h,BP,A9 h,AB];have a:∀b,PU L i b=br (!b) (L ((i+1:Nat):Int)) (some false):=by intro b;unfold PU;rw[g];cases b<;>rfl
  have e:∀b,Ry L i l[i] b=br (!b&&AKc l[i]) (L ((i+1:Nat):Int)) (some false):=by
   intro b;unfold Ry AKc;have c:w64 (5-1)=4:=by rw[A4]<;>omega
   simp only[FE,Wr,AB,AT,BN,a,c];cases b<;>cases inB l[i].Level 0 4<;>cases inB l[i].As 1 1000000<;>cases inB l[i].Id 1 999<;>cases inB l[i].A5 1 6<;>rfl
  have j:(0:Int)<=(i:Int)/\(i:Int)<=(l.length:Int):=by omega
  grind[BP,Jb,A9,AB,SW,Bt,Wo,AT,CC,ltE,BS]
 grind[bf,uj,BS,AT]
theorem Ou{l:List Ae}(a:l.length<=lim):ju l=some l:=by
 unfold ju;rw[Bt (by omega),Bk]
theorem VB{l:List Ae}(c:l.length+1<=lim)(e:Ae):yJ l e=some (put ltE e l):=by
 have a:∀i:Nat,i<=l.length->oZ l e i=some (l.take i++e::l.drop i):=by
  grind[oZ,Bt,Ou,AB,CQ]
 have hlim:lim=268435456:=rfl;unfold yJ;refine So some (by omega) ?_ ?_
 .grind[oe,aO,BP,A9,AB,Sx,AT]
 grind[oe,aO,BS,AT]
theorem VC{l:List BB}(c:l.length+1<=lim)(e:BB):AG8 l e=some (put ltP e l):=by
 have a:∀i:Nat,i<=l.length->ou l e i=some (l.take i++e::l.drop i):=by
  grind[ou,Bt]
 have hlim:lim=268435456:=rfl;unfold AG8;refine So some (by omega) ?_ ?_
 .grind[oz,aP,BP,A9,AB,Zs,AT]
 grind[oz,aP,BS,AT]
def Kx(r:Aa)(cabin now:Int)(p:AQ):AA Ae:=if ((EL r p now).2&&(p.AX==cabin))=true then some (EL r p now).1 else none
def DM(r:Aa)(l:List AQ)(cabin now:Int):List Ae:=C7 ltE (l.filterMap (Kx r cabin now))
theorem NG{r:Aa}(j:r.AW.length<2 ^ 62){l:List AQ}(G:l.length<=1048576)(c now:Int):AAv r l c now=some (DM r l c now):=by
 have hlim:lim=268435456:=rfl;have e:w64 ((l.length:Int)-1)=(l.length:Int)-1-((0:Nat):Int):=by rw[A4 (by omega) (by omega)];omega
 unfold AAv DM;rw[e];refine(DE (n:=l.length) (fun i (v:List Ae)=>(v,(l.length:Int)-1-(i:Int))) (fun i v=>v.length<=i) (fun i v=>some ((((l.take (l.length-i)).filterMap (Kx r c now)).foldr (put ltE) v))) (by omega) ?_ (v:=[]) (by simp)).trans (by rw[Nat.sub_zero,List.take_length];rfl);intro L i v H hi I;unfold AFb og oh;dsimp only;rcases AV i l.length with h|h
 .obtain⟨k,E⟩:∃k,l.length=i+(k+1):=⟨l.length-i-1,by omega⟩;have g:(l.length:Int)-1-(i:Int)=(k:Int):=by omega
  have a:k<l.length:=by omega
  have y:w64 ((k:Int)-1)=(l.length:Int)-1-((i+1:Nat):Int):=by rw[A4 (by omega) (by omega)];omega
  have B:l.take (l.length-i)=l.take (l.length-(i+1))++[l[k]]:=by
   rw[show l.length-i=k+1 by omega,show l.length-(i+1)=k by omega,Cd,AU a];rfl
  rw[g,BJ,if_pos (by omega)];simp only[A9 a,AB,XK j,CQ,tW,AT,BS];have key:(br (EL r l[k] now).2 (br (l[k].AX==c) (bd (yJ v (EL r l[k] now).1) fun q=>L (q,w64 ((k:Int)-1))) (L (v,w64 ((k:Int)-1)))) (L (v,w64 ((k:Int)-1))))=some ((((l.take (l.length-i)).filterMap (Kx r c now)).foldr (put ltE) v)):=by
   grind[VB,AB,Kx,EL,BP,BS,Ey]
  exact key
 .obtain rfl:i=l.length:=by omega
  unfold AFa;rw[BJ,if_neg (by omega),AT,Dc];rfl
theorem jx{α β:Type}(f:α->AA β){l:List α}{i:Nat}(h:i<l.length):(l.take (i+1)).filterMap f=(l.take i).filterMap f++(f l[i]).toList:=by
 rw[Cd,AU h,List.filterMap_append];congr 1
theorem jy{α β:Type}(f:α->AA β)(l:List α)(i:Nat):((l.take i).filterMap f).length<=i:=Nat.le_trans (List.length_filterMap_le _ _) (by rw[List.length_take];omega)
theorem collect{α β γ:Type}{l:List α}(f:α->AA β){F:(List β×Int->AA γ)->List β×Int->AA γ}(J:List β->AA γ)(e:l.length<=1048576)
 (step:∀L i (h:i<l.length) v,v.length<=i->F L (v,(i:Int))=L (v++(f l[i]).toList,w64 ((i:Int)+1))) (stop:∀L v,F L (v,(l.length:Int))=J v):A7 F big ([],0)=J (l.filterMap f):=by
 refine(DE (n:=l.length) (fun i (v:List β)=>(v,(i:Int))) (fun i v=>v=(l.take i).filterMap f) (fun i v=>J (l.filterMap f)) (by omega) ?_ (by simp));intro L i v a hi c;rcases AV i l.length with h|h
 .rw[step L i h v (by rw[a];exact jy _ _ _),BX h (by omega)];exact c _ (by rw[a,jx f h]) h
 grind
theorem ka(c:Int):∀(l:List AQ) (n:Int),l.foldl (MR c) n=n+(l.countP fun p=>p.AX==c)
 | [],n=>by simp|p::l,n=>by
  rw[Bj,ka c l,List.countP_cons]
  grind[MR]
theorem aW{β:Type}(f:AQ->AA β)(c:Int)(a:∀p,(p.AX==c)=false->f p=none):∀l:List AQ,((l.filterMap f).length:Int)<=C2 l c:=by
 intro l;unfold C2;rw[ka,Int.zero_add]
 induction l with
 |nil=>simp|cons p l e=>
  grind
theorem Qs{r:Aa}(e:r.AW.length<2 ^ 62){l:List AQ}(a:l.length<=1048576){c:Int}(q:C2 l c<=19)(now:Int):ZC r l c now=some (DM r l c now):=by
 have hlim:lim=268435456:=rfl;have y:=aW (Kx r c now) c (by intro p h;unfold Kx;rw[h,Cw];rfl) l;unfold ZC DM;rw[collect (l:=l) (Kx r c now) Rv a ?_ ?_]
 .unfold Rv;rw[ARt (by omega),AB]
 .intro L i h v B;unfold Rx Vb Vc Kx;dsimp only;rw[Bw h,BP,A9 h,AB,M7 e,AB,AT,AT,Bt (by rw[KD];omega),AT,AT];cases g:(EL r l[i] now).2<;>cases j:l[i].AX==c<;>simp
 grind[Rx,BS,AT]
def MH(cabin:Int)(p:AQ):AA BB:=if ((p.State==2)&&(p.AX==cabin))=true then some ⟨p.CW,p.Id⟩ else none
def FO(l:List AQ)(cabin:Int):List BB:=C7 ltP (l.filterMap (MH cabin))
theorem Sy{l:List AQ}(e:l.length<=1048576)(c:Int):AAx l c=some (FO l c):=by
 have hlim:lim=268435456:=rfl;unfold AAx FO;rw[SM (l:=l) (fun v p=>match MH c p with|some x=>put ltP x v|none=>v) (fun i v=>v.length<=i) some (by omega) ?_ ?_ ?_ (by simp),<-YZ EX ah]
 .congr 1;generalize ([]:List BB)=a;clear e
  induction l generalizing a with
  |nil=>rfl|cons p l g=>
   rw[Bj,g,List.filterMap_cons];cases MH c p<;>rfl
 .intro L i h v y;unfold o9 o7 o8 MH;dsimp only;rw[Bw h,BP];simp only[A9 h,AB,AT,BS,VC (show v.length+1<=lim by omega)];cases j:l[i].State==2<;>cases q:l[i].AX==c<;>rfl
 .grind[Ey]
 grind[o9,AFe,BS,AT]
theorem ZY{l:List AQ}(a:l.length<=1048576){c:Int}(j:C2 l c<=19):bz l c=some (FO l c):=by
 have hlim:lim=268435456:=rfl;have q:=aW (MH c) c (by intro p h;unfold MH;rw[h,Cw];rfl) l;unfold bz FO;rw[collect (l:=l) (MH c) R3 a ?_ ?_]
 .unfold R3;rw[ARu (by omega),AB]
 .intro L i h v y;unfold R4 Vi Vj MH;dsimp only;rw[Bw h,BP,A9 h,AB,AT,AT,Bt (by rw[KD];omega),AT,AT];cases e:l[i].State==2<;>cases g:l[i].AX==c<;>simp
 grind[R4,BS,AT]
end Lv.P
