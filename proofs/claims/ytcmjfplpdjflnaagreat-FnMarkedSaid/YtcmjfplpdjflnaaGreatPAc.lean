/- Plain laws about what the program computes. -/
import Derived.Test.YtcmjfplpdjflnaaGreatKCc
set_option linter.unusedVariables false
set_option linter.unusedSimpArgs false
set_option linter.unusedSectionVars false
open Bool renaming and_eq_true->AF,and_false->DF,and_true->CS,false_and->Bm,false_eq_true->BM,not_not->Db,not_true->Br,true_and->DA
open Int renaming toNat_natCast->Ah
open List renaming append_nil->Kc,cons_append->Em,drop_length->Eo,foldl_cons->Bw,foldr_cons->Ke,getElem?_eq_getElem->AW,mem_cons->Ag,mem_cons_self->Be,nil_append->B8,pairwise_cons->BW,take_add_one->Cw
open List.cons renaming injEq->Cc
open Nat renaming add_sub_cancel->Cr,lt_or_ge->AV,sub_self->D3
namespace Lv.P
open Go (IntKind BinOp UnOp)
theorem UJ{n:Int}(a:-9223372036854775808<=n)(c:n<9223372036854775808):IntKind.i64.wrap n=n:=by
 simp only[IntKind.wrap,IntKind.bits,IntKind.signed];simp;omega
theorem A6{n:Int}(a:-9223372036854775808<=n)(c:n<9223372036854775808):w64 n=n:=UJ a c
theorem AT9{n:Int}(a:0<=n)(c:n<256):IntKind.u8.wrap n=n:=by
 simp only[IntKind.wrap,IntKind.bits,IntKind.signed];simp;omega
theorem AJj{n:Nat}(h:n<256):toB (n:Int)=UInt8.ofNat n:=by
 unfold toB;rw[AT9 (by omega) (by omega)];rfl
@[simp] theorem Jz{α:Type}(l:List α)(i:Nat):at? l (i:Int)=l[i]?:=by simp[at?]
@[simp] theorem Vt{α:Type}(l:List α):at? l 0=l[0]?:=by simp[at?]
theorem Ie(k:Nat)(h:k<2 ^ 64):k<big:=by have:=Qg;omega
theorem Pb(k:Nat)(h:k<2 ^ 64):∃n,big=n+1+k:=⟨big-1-k,by have:=Qg;omega⟩
section
variable{σ γ:Type}
theorem AB8{F:(σ->AA γ)->σ->AA γ}(R:σ->AA γ)(I:σ->Prop)(μ:σ->Nat)
 (step:∀(L:σ->AA γ) x,I x->(∀y,I y->μ y<μ x->L y=R y)->F L x=R x):∀n x,I x->μ x<n->BB F n x=R x
 |0,x,_,h=>by omega|n+1,x,hI,e=>by
  rw[Dy];exact step _ x hI fun y a c=>AB8 R I μ step n y a (by omega)
theorem Zd{F:(σ->AA γ)->σ->AA γ}(R:σ->AA γ)(I:σ->Prop)(μ:σ->Nat)
 (step:∀(L:σ->AA γ) x,I x->(∀y,I y->μ y<μ x->L y=R y)->F L x=R x) {x:σ} (hI:I x) (a:μ x<2 ^ 64):BB F big x=R x:=
 AB8 R I μ step big x hI (Ie _ a)
end
section
variable{α γ:Type}
@[simp] theorem BJ(x y:AA γ):br true x y=x:=rfl
@[simp] theorem BT(x y:AA γ):br false x y=y:=rfl
@[simp] theorem BL(p:Prop) [Decidable p] (x y:AA γ):br (decide p) x y=if p then x else y:=by unfold br;by_cases h:p<;>simp[h]
@[simp] theorem BP(b:Bool)(x y:AA γ):br (!b) x y=br b y x:=by cases b<;>rfl
@[simp] theorem AB(a:α)(f:α->AA γ):bd (some a) f=f a:=by rw[ADa];rfl
@[simp] theorem AUR(f:α->AA γ):bd none f=none:=by rw[ADa];rfl
@[simp] theorem AR(F:α->AA γ)(x:α):jn F x=F x:=ART F x
theorem B6{p:Prop} [Decidable p] (h:p) (x:AA γ):gd p x=x:=by rw[AOC,AX h]
theorem Bn(b:Bool)(x y:AA γ):br b x y=if b=true then x else y:=rfl
end
theorem C9{τ σ γ:Type}{F:(τ->AA γ)->τ->AA γ}(st:Nat->σ->τ)(I:Nat->σ->Prop)(R:Nat->σ->AA γ){n:Nat}(B:n<2 ^ 63)
 (step:∀L i v,I i v->i<=n->(∀a,I (i+1) a->i<n->L (st (i+1) a)=R (i+1) a)->F L (st i v)=R i v) {v:σ} (c:I 0 v):BB F big (st 0 v)=R 0 v:=by
 have key:∀(m i k:Nat) (v:σ),i+m=n->m<k->I i v->BB F k (st i v)=R i v:=by
  intro m
  induction m with
  |zero=>
   intro i k v hi q h;obtain⟨k,rfl⟩:∃j,k=j+1:=⟨k-1,by omega⟩;rw[Dy];exact step _ i v h (by omega) fun a _ g=>by omega
  |succ m y=>
   intro i k v hi q h;obtain⟨k,rfl⟩:∃j,k=j+1:=⟨k-1,by omega⟩;rw[Dy];exact step _ i v h (by omega) fun a e g=>y (i+1) k a (by omega) (by omega) e
 exact key n 0 big v (by omega) (Ie _ (by omega)) c
theorem BH{α:Type}{l:List α}{i:Nat}(h:i<l.length):at? l (i:Int)=some l[i]:=by rw[Jz,AW h]
theorem dec_lt{l:Nat}{i:Nat}:decide ((i:Int)<(l:Int))=decide (i<l):=by rw[decide_eq_decide];omega
theorem Bg{i n:Nat}(h:i<n)(a:n<2 ^ 63):w64 ((i:Int)+1)=((i+1:Nat):Int):=by rw[A6 (by omega) (by omega)];rfl
theorem AUI{n:Nat}{F:(Int->AA Bool)->Int->AA Bool}(a:n<2 ^ 63)
 (step:∀L (i:Nat),i<n->F L (i:Int)=L ((i+1:Nat):Int)) (stop:∀L,F L (n:Int)=some true):BB F big 0=some true:=by
 have:=C9 (F:=F) (n:=n) (fun i (_:Unit)=>(i:Int)) (fun _ _=>True) (fun _ _=>some true) a ?_ (v:=()) trivial
 .exact this
 .intro L i v _ hi c;rcases AV i n with h|h
  .rw[step L i h];exact c () trivial h
  .obtain rfl:i=n:=by omega
   exact stop L
theorem Dc{α:Type}{l:List α}{i:Nat}(h:i<l.length):l.drop i=l[i]::l.drop (i+1):=List.drop_eq_getElem_cons h
theorem KB{σ γ:Type}{F:(σ->AA γ)->σ->AA γ}(I:σ->Prop)(μ:σ->Nat)(Q:γ->Prop)
 (step:∀(L:σ->AA γ) x,I x->(∀y,I y->μ y<μ x->∃r,L y=some r/\Q r)->∃r,F L x=some r/\Q r):∀n x,I x->μ x<n->∃r,BB F n x=some r/\Q r
 |0,x,_,h=>by omega|n+1,x,hI,e=>by
  rw[Dy];exact step _ x hI fun y a c=>KB I μ Q step n y a (by omega)
theorem JR{τ σ γ:Type}{F:(τ->AA γ)->τ->AA γ}(st:Nat->σ->τ)(I:Nat->σ->Prop)(Q:γ->Prop){n:Nat}(B:n<2 ^ 63)
 (step:∀L i v,I i v->i<=n->(∀a,I (i+1) a->i<n->∃r,L (st (i+1) a)=some r/\Q r)->∃r,F L (st i v)=some r/\Q r) {v:σ} (c:I 0 v):∃r,BB F big (st 0 v)=some r/\Q r:=by
 have key:∀(m i k:Nat) (v:σ),i+m=n->m<k->I i v->∃r,BB F k (st i v)=some r/\Q r:=by
  intro m
  induction m with
  |zero=>
   intro i k v hi q h;obtain⟨k,rfl⟩:∃j,k=j+1:=⟨k-1,by omega⟩;rw[Dy];exact step _ i v h (by omega) fun a _ g=>by omega
  |succ m y=>
   intro i k v hi q h;obtain⟨k,rfl⟩:∃j,k=j+1:=⟨k-1,by omega⟩;rw[Dy];exact step _ i v h (by omega) fun a e g=>y (i+1) k a (by omega) (by omega) e
 exact key n 0 big v (by omega) (Ie _ (by omega)) c
def inB(a b c:Int):Bool:=decide (b<=a/\a<=c)
theorem CP{a b c:Int}:inB a b c=true↔b<=a/\a<=c:=by grind[inB]
theorem GN(a b c:Int):Eb a b c=some (inB a b c):=by
 grind[Eb,bw,inB,BL,AR]
theorem Fq(a b c:Int):C4 a b c=some (inB a b c):=by
 grind[C4,V8,inB,BL,AR]
theorem Xb(a b:Int):Ms a b=some (inB a 0 (w64 (b-1))):=by unfold Ms;rw[Fq,AB]
theorem Cf(a b:Bool):br a (some b) (some false)=some (a&&b):=by cases a<;>rfl
theorem AGS(a b:Bool):br a (some true) (some b)=some (a||b):=by cases a<;>rfl
theorem Hb(a b:Bool):br a (some false) (some b)=some (!a&&b):=by cases a<;>rfl
theorem Vv{γ:Type}(a:Bool)(x:AA γ):br a x x=x:=by cases a<;>rfl
def Is(p:Nat->Bool):Nat->Nat->Bool|_,0=>true|i,m+1=>p i&&Is p (i+1) m
theorem ACX{p:Nat->Bool}:∀{m i:Nat},Is p i m=true↔∀k,i<=k->k<i+m->p k=true
 |0,i=>by simp[Is];omega|m+1,i=>by
  unfold Is;rw[AF,ACX]
  grind
theorem JT{p:Nat->Bool}{n:Nat}:Is p 0 n=true↔∀k,k<n->p k=true:=by
 grind[ACX]
theorem J5{n:Nat}{F:(Int->AA Bool)->Int->AA Bool}{E:AA Bool}(p:Nat->Bool)(a:n<2 ^ 63)
 (step:∀L (i:Nat),i<n->F L (i:Int)=br (p i) (L ((i+1:Nat):Int)) (some false)) (stop:∀L,F L (n:Int)=E):BB F big 0=br (Is p 0 n) E (some false):=by
 have:=C9 (F:=F) (n:=n) (fun i (_:Unit)=>(i:Int)) (fun _ _=>True) (fun i _=>br (Is p i (n-i)) E (some false)) a ?_ (v:=()) trivial
 .exact this
 .intro L i v _ hi c;rcases AV i n with h|h
  .rw[step L i h,c () trivial h,show n-i=(n-(i+1))+1 by omega,show Is p i (n-(i+1)+1)=(p i&&Is p (i+1) (n-(i+1))) from rfl];cases p i<;>rfl
  .obtain rfl:i=n:=by omega
   rw[stop,D3];rfl
theorem AMs{α:Type}(l:List α)(p:α->Bool)(q:Nat->Bool)(h:∀k (a:k<l.length),q k=p l[k]):Is q 0 l.length=l.all p:=by
 grind[JT,List.getElem_of_mem]
theorem B7{i n:Nat}(h:i<n):decide ((i:Int)<(n:Int))=true:=by rw[decide_eq_true_iff];omega
theorem Cl(n:Nat):decide ((n:Int)<(n:Int))=false:=by rw[decide_eq_false_iff_not];omega
theorem ng{α:Type}{l:List α}{F:(Int->AA Bool)->Int->AA Bool}{E:AA Bool}(p:α->Bool)(a:l.length<2 ^ 63)
 (step:∀L (i:Nat) (h:i<l.length),F L (i:Int)=br (p l[i]) (L (w64 ((i:Int)+1))) (some false)) (stop:∀L,F L (l.length:Int)=E):BB F big 0=br (l.all p) E (some false):=by
 have:=J5 (F:=F) (n:=l.length) (E:=E) (fun i=>match l[i]? with|some x=>p x|none=>true) a ?_ stop
 .grind[AMs]
 .intro L i h;rw[step L i h,Bg h a];simp[h]
def D7(r:Ab):Bool:=inB r.AY.length 1 4&&(inB r.CX 1 5&&(inB r.Room 1 10&&(inB r.BC 1 6&&(inB r.CQ 1 12&&(r.AY.all (fun x=>inB x 1 60)&&(inB r.B3 1 8&&(inB r.Rest 0 8&&(inB r.Cb 1 4&&inB r.C5 1 3))))))))
theorem IH{r:Ab}(c:r.AY.length<2 ^ 62):sY r=some (D7 r):=by
 have a:∀b,Qj r b=some (!b&&(r.AY.all (fun x=>inB x 1 60)&&(inB r.B3 1 8&&(inB r.Rest 0 8&&(inB r.Cb 1 4&&inB r.C5 1 3))))):=by
  intro b;unfold Qj;rw[ng (l:=r.AY) (fun x=>inB x 1 60) (E:=some (inB r.B3 1 8&&(inB r.Rest 0 8&&(inB r.Cb 1 4&&inB r.C5 1 3)))) (by omega) ?_ ?_,Cf,Hb]
  .intro L i h;unfold sZ;rw[B7 h,BJ,BH h,AB,GN,AB,BP]
  .intro L;unfold sZ AGr V7;rw[Cl,BT];simp only[AR,GN,AB,Cf]
 unfold sY;simp only[GN,AB,BP,AR,a,Br,Bm,Cf,Db];rfl
theorem IB{r:Ab}(a:r.AY.length<2 ^ 62):aK r=some (D7 r):=by
 unfold aK;rw[Fq,AB,BP];rw[ng (l:=r.AY) (fun x=>inB x 1 60) (E:=some (inB r.CX 1 5&&(inB r.Room 1 10&&(inB r.BC 1 6&&(inB r.CQ 1 12&&(inB r.B3 1 8&&(inB r.Cb 1 4&&(inB r.C5 1 3&&inB r.Rest 0 8)))))))) (by omega) ?_ ?_,Cf,Cf]
 .unfold D7;congr 1;ac_rfl
 .intro L i h;unfold di;rw[B7 h,BJ,BH h,AB,Fq,AB,BP]
 .intro L;unfold di yj Kj;rw[Cl,BT];simp only[AR,Fq,AB,Cf]
theorem CK{r:Ab}(h:D7 r=true):(1<=r.AY.length/\r.AY.length<=4)/\(1<=r.CX/\r.CX<=5)/\(1<=r.Room/\r.Room<=10)/\(1<=r.BC/\r.BC<=6)/\(1<=r.CQ/\r.CQ<=12)/\(∀x∈r.AY,1<=x/\x<=60)/\(1<=r.B3/\r.B3<=8)/\(0<=r.Rest/\r.Rest<=8)/\(1<=r.Cb/\r.Cb<=4)/\(1<=r.C5/\r.C5<=3):=by
 grind[D7,CP]
def D6(r:Ab)(p:AQ)(now:Int):Bool:=
 D7 r&&(inB now 0 1000000&&(inB p.Id 1 999&&(inB p.Aa 0 (w64 ((r.AY.length:Int)-1))&&(inB p.Bl (-1) (w64 ((r.AY.length:Int)-1))&&(!(p.Bl==p.Aa)&&(inB p.BC 1 r.BC&&(inB p.Cs 0 (w64 (r.CX-1))&&(inB p.Since 0 now&&(inB p.Av 1 1000000&&(inB p.C0 0 (w64 (r.Cb-1))&&(((p.State==1)&&inB p.Ci 0 (w64 (now+r.Rest)))||((p.State==2)&&inB p.Ci 1 (w64 (now+r.B3))))))))))))))
theorem NM{r:Ab}(e:r.AY.length<2 ^ 62)(p:AQ)(now:Int):ADj r p now=some (D6 r p now):=by
 have c:∀b,Qk r p now b=some (!b&&(((p.State==1)&&inB p.Ci 0 (w64 (now+r.Rest)))||((p.State==2)&&inB p.Ci 1 (w64 (now+r.B3))))):=by
  intro b;unfold Qk Tm;simp only[GN,AB,AR,Cf,AGS];cases p.State==1<;>cases b<;>rfl
 have a:∀b,OW r p now b=some (!b&&(inB p.BC 1 r.BC&&(inB p.Cs 0 (w64 (r.CX-1))&&(inB p.Since 0 now&&(inB p.Av 1 1000000&&(inB p.C0 0 (w64 (r.Cb-1))&&(((p.State==1)&&inB p.Ci 0 (w64 (now+r.Rest)))||((p.State==2)&&inB p.Ci 1 (w64 (now+r.B3)))))))))):=by
  intro b;unfold OW;simp only[GN,AB,AR,BP,c,Br,Bm,Cf,Hb,Db]
 unfold ADj;simp only[IH e,GN,AB,AR,BP,a,Br,Bm,Cf];rfl
theorem NC{r:Ab}(e:r.AY.length<2 ^ 62)(p:AQ)(now:Int):dj r p now=some (D6 r p now):=by
 have c:∀b,Np r p now b=some (!b&&(((p.State==1)&&inB p.Ci 0 (w64 (now+r.Rest)))||((p.State==2)&&inB p.Ci 1 (w64 (now+r.B3))))):=by
  intro b;unfold Np Pf;simp only[Fq,AB,AR,Cf,AGS];cases p.State==1<;>cases b<;>rfl
 have a:∀b,L0 r p now b=some (!b&&(inB p.BC 1 r.BC&&(inB p.Cs 0 (w64 (r.CX-1))&&(inB p.Since 0 now&&(inB p.Av 1 1000000&&(inB p.C0 0 (w64 (r.Cb-1))&&(((p.State==1)&&inB p.Ci 0 (w64 (now+r.Rest)))||((p.State==2)&&inB p.Ci 1 (w64 (now+r.B3)))))))))):=by
  intro b;unfold L0;simp only[Fq,Xb,AB,AR,BP,c,Br,Bm,Cf,Hb,Db]
 unfold dj;simp only[IB e,Fq,Xb,AB,AR,BP,a,Br,Bm,Cf];rfl
def Zb(r:Ab)(tier waited:Int):Int:=if 0>w64 (tier-w64 (waited.tdiv r.CQ)) then 0 else w64 (tier-w64 (waited.tdiv r.CQ))
theorem ML(a b:Int):Nw a b=some (if a>b then a else b):=by
 unfold Nw;rw[BL];split<;>rfl
theorem xc{r:Ab}(a:r.CQ≠0)(t w:Int):AUg r t w=some (Zb r t w):=by
 unfold AUg;rw[B6 a,ML,AB];rfl
theorem qP(r:Ab)(t w:Int):0<=Zb r t w:=by unfold Zb;split<;>omega
theorem FG{r:Ab}{p:AQ}{now:Int}(h:D6 r p now=true):D7 r=true/\(0<=now/\now<=1000000)/\(1<=p.Id/\p.Id<=999)/\(0<=p.Aa/\p.Aa<=r.AY.length-1)/\(-1<=p.Bl/\p.Bl<=r.AY.length-1)/\p.Bl≠p.Aa/\(1<=p.BC/\p.BC<=r.BC)/\(0<=p.Cs/\p.Cs<=r.CX-1)/\(0<=p.Since/\p.Since<=now)/\(1<=p.Av/\p.Av<=1000000)/\(0<=p.C0/\p.C0<=r.Cb-1)/\(p.State=1/\0<=p.Ci/\p.Ci<=now+r.Rest\/p.State=2/\1<=p.Ci/\p.Ci<=now+r.B3):=by
 grind[D6,CP,CK,A6]
def Ii(r:Ab)(p:AQ)(now:Int):Int:=if D6 r p now=true then Zb r p.Cs (w64 (now-p.Since)) else -1
theorem xT{r:Ab}(a:r.AY.length<2 ^ 62)(p:AQ)(now:Int):AUh r p now=some (Ii r p now):=by
 unfold AUh Ii;rw[NM a,AB,BP,Bn];split
 .rename_i h;have:=(CK (FG h).1).2.2.2.2.1;rw[xc (by omega),AB]
 .rfl
theorem vI{r:Ab}(c:r.AY.length<2 ^ 62)(p:AQ)(now:Int):AGt r p now=some (Ii r p now):=by
 unfold AGt Ii;rw[NC c,AB,BP,Bn];split
 .rename_i h;have a:=FG h;have j:=CK a.1;unfold ANG WB;rw[IB c,a.1,AB,BP,BJ,Xb,AB,BP];have e:inB p.Cs 0 (w64 (r.CX-1))=true:=by rw[CP,A6 (by omega) (by omega)];omega
  have g:decide (w64 (now-p.Since)<0)=false:=by rw[A6 (by omega) (by omega)];simp;omega
  rw[e,BJ,AR,g,BT,B6 (by omega),AB,AX rfl]
  grind[Zb]
 .rfl
def Ew(r:Ab)(p:AQ)(now:Int):Ai×Bool:=if D6 r p now=true/\p.State=1 then (⟨Ii r p now,p.Av,p.Id,p.BC⟩,true) else (⟨0,0,0,0⟩,false)
theorem YD{r:Ab}(a:r.AY.length<2 ^ 62)(p:AQ)(now:Int):AKF r p now=some (Ew r p now):=by
 unfold AKF s4 Ew;rw[xT a,AB,BL,AR,AR,BJ];by_cases h:D6 r p now=true
 .have:=qP r p.Cs (w64 (now-p.Since))
  grind[Ii,Bn]
 grind[Ii]
theorem NB{r:Ab}(a:r.AY.length<2 ^ 62)(p:AQ)(now:Int):oC r p now=some (Ew r p now):=by
 grind[oC,dw,Ew,NC,AB,Bn,AR,vI]
def FL(l:BE):Bool:=inB l.Total 1 60&&(inB l.Dh 0 l.Total&&(inB l.Eg 0 l.Total&&(inB l.Ff 0 l.Total&&((w64 (w64 (l.Dh+l.Eg)+l.Ff)==l.Total)&&inB l.Fw 0 l.Ff))))
theorem PM(l:BE):ADk l=some (FL l):=by
 unfold ADk Ql FL;simp only[GN,AB,AR,Cf]
theorem HI(l:BE):Mu l=some (FL l):=by
 unfold Mu Nq FL;simp only[Fq,AB,AR,Cf]
def Gb(a:B0):Bool:=decide ((a.Data.length:Int)<=20000)&&inB a.Safe 0 a.Data.length
theorem GQ(a:B0):bW a=some (Gb a):=by
 unfold bW sV Gb;simp only[GN,AB,AR,Cf]
theorem G5(a:B0):Pk a=some (Gb a):=by
 unfold Pk eT Gb;simp only[Fq,AB,AR,Cf]
def II(s:Bo):Bool:=Gb s.Log&&(Gb s.FH&&Gb s.Odd)
theorem RV(s:Bo):AJ8 s=some (II s):=by
 unfold AJ8 bu II;simp only[GQ,AB,AR,Cf]
theorem XX(s:Bo):zA s=some (II s):=by
 unfold zA WK II;simp only[G5,AB,AR,Cf]
section
variable{α:Type}(lt:α->α->Bool)
def put(x:α):List α->List α| []=>[x]|z::l=>if lt z x=true then z::put x l else x::z::l
def ins(x:α):List α->List α| []=>[x]|z::l=>if lt x z=true then x::z::l else z::ins x l
structure Swo:Prop where
 rz:∀a b,lt a b=true->lt b a=false
 neg:∀a b c,lt a c=true->lt a b=true\/lt b c=true
def DV(l:List α):List α:=l.foldr (put lt) []
variable {lt}
theorem Swo.trans(h:Swo lt){a b c:α}(g:lt a b=true)(j:lt b c=true):lt a c=true:=by
 rcases h.neg a c b g with e|e
 .exact e
 .rw[h.rz _ _ j]at e;cases e
theorem AI9(h:Swo lt)(x y:α):∀l,ins lt x (put lt y l)=put lt y (ins lt x l)
 | []=>by simp only[put,ins]|z::l=>by
  cases c:lt z y with
  |true=>
   cases a:lt x z with
   |true=>simp only[put,ins,c,a,h.trans a c,if_true]|false=>simp[put,ins,c,a,AI9 h x y l]
  |false=>
   cases a:lt x y with
   |true=>
    have e:lt x z=true:=(h.neg x z y a).resolve_right (by simp[c]);simp[put,ins,c,a,e]
   |false=>
    grind[put,ins]
theorem w9(h:Swo lt)(j:∀a b,lt a b=false->lt b a=false->a=b)(x y:α):∀l,put lt x (put lt y l)=put lt y (put lt x l)
 | []=>by
  simp only[put];cases c:lt y x with
  |true=>simp[h.rz _ _ c]|false=>
   cases e:lt x y with
   |true=>simp|false=>simp[j _ _ c e]
 |z::l=>by
  cases c:lt z y with
  |true=>
   cases e:lt z x with
   |true=>simp only[put,c,e,if_true];rw[w9 h j x y l]|false=>
    have g:lt x y=true:=(h.neg z x y c).resolve_left (by simp[e]);simp[put,c,e,g]
  |false=>
   cases e:lt z x with
   |true=>
    have g:lt y x=true:=(h.neg z y x e).resolve_left (by simp[c]);simp[put,c,e,g]
   |false=>
    cases g:lt y x with
    |true=>simp[put,c,e,g,h.rz _ _ g]|false=>
     cases q:lt x y with
     |true=>simp[put,c,e,g,q]|false=>simp[j _ _ g q]
theorem pk(h:Swo lt):∀(l acc:List α) (a:α),l.foldl (fun s x=>ins lt x s) (put lt a acc)=put lt a (l.foldl (fun s x=>ins lt x s) acc)| [],_,_=>rfl|x::l,acc,a=>by rw[Bw,AI9 h,pk h l,Bw]
theorem qI(h:Swo lt):∀l:List α,l.foldl (fun s x=>ins lt x s) []=DV lt l
 | []=>rfl|a::l=>by
  rw[Bw,show ins lt a []=put lt a [] from rfl,pk h,qI h l];rfl
theorem pn(h:Swo lt)(c:∀a b,lt a b=false->lt b a=false->a=b):∀(l acc:List α) (a:α),l.foldl (fun s x=>put lt x s) (put lt a acc)=put lt a (l.foldl (fun s x=>put lt x s) acc)| [],_,_=>rfl|x::l,acc,a=>by rw[Bw,w9 h c,pn h c l,Bw]
theorem ZW(h:Swo lt)(c:∀a b,lt a b=false->lt b a=false->a=b):∀l:List α,l.foldl (fun s x=>put lt x s) []=DV lt l| []=>rfl|a::l=>by rw[Bw,pn h c,ZW h c l];rfl
theorem Fi(x:α):∀l,(put lt x l).length=l.length+1| []=>rfl|z::l=>by unfold put;split<;>simp[Fi x l]
theorem AI6(x:α):∀l,(ins lt x l).length=l.length+1| []=>rfl|z::l=>by unfold ins;split<;>simp[AI6 x l]
theorem Ho:∀l:List α,(DV lt l).length=l.length
 | []=>rfl|a::l=>by
  have:=Ho l;unfold DV at this ⊢;rw[Ke,Fi,this];rfl
theorem UB{x a:α}:∀{l},a∈put lt x l↔a=x\/a∈l
 | []=>by simp[put]|z::l=>by
  unfold put;split
  .rw[Ag,UB,Ag]
   grind
  .simp
theorem AI7{x a:α}:∀{l},a∈ins lt x l↔a=x\/a∈l
 | []=>by simp[ins]|z::l=>by
  unfold ins;split
  .simp
  .rw[Ag,AI7,Ag]
   grind
theorem P7{a:α}:∀{l:List α},a∈DV lt l↔a∈l
 | []=>by simp[DV]|z::l=>by
  have:=P7 (a:=a) (l:=l);unfold DV at this ⊢;rw[Ke,UB,this,Ag]
def Srt(lt:α->α->Bool)(l:List α):Prop:=l.Pairwise fun a b=>lt b a=false
theorem AJA(h:Swo lt)(x:α):∀l,Srt lt l->Srt lt (ins lt x l)
 | [],_=>by simp[ins,Srt]|z::l,a=>by
  unfold Srt at a;rw[BW]at a;unfold ins Srt;split
  .rename_i g;rw[BW,BW];refine⟨?_,a⟩;intro b c;rcases Ag.1 c with rfl|c
   .exact h.rz _ _ g
   .cases e:lt b x with|false=>rfl|true=>exact absurd (h.trans e g) (by simp[a.1 b c])
  .rename_i g;rw[BW];refine⟨?_,AJA h x l a.2⟩
   grind[AI7]
theorem ZT{x:α}{e:List α}(h:∀b∈e,lt x b=true):∀{s1:List α},(∀a∈s1,lt x a=false)->ins lt x (s1++e)=s1++x::e
 | [],_=>by
  cases e with
  |nil=>rfl|cons b s=>unfold ins;rw[B8];simp[h b Be]
 |a::s1,g=>by
  rw[Em];unfold ins;rw[g a Be,AU (by simp),ZT h fun c j=>g c (List.mem_cons_of_mem _ j)];rfl
theorem ZS{γ:Type}(h:Swo lt){G:(List α×Int->AA γ)->List α×Int->AA γ}{E:List α->AA γ}{x:α}{r:List α}{M:Nat}
 (I:∀L t z w,t.length<M->lt x z=true->G L (t++z::x::w,((t.length+1:Nat):Int))=L (t++x::z::w,(t.length:Int)))
 (J:∀L t z w,t.length<M->lt x z=false->G L (t++z::x::w,((t.length+1:Nat):Int))=E (t++z::x::w)) (O:∀L w,G L (x::w,0)=E (x::w)) :
 ∀(k N:Nat) (s1 c:List α),s1.length=k->k<=M->k<N->(∀b∈c,lt x b=true)->Srt lt s1->BB G N (s1++x::(c++r),(k:Int))=E (ins lt x (s1++c)++r)
 |k,0,s1,c,q,hM,hN,y,j=>by omega|0,N+1,s1,c,q,hM,hN,y,j=>by
  obtain rfl:=List.eq_nil_of_length_eq_zero q;rw[Dy,B8,ZT (s1:=[]) y (by simp)];exact O _ _
 |k+1,N+1,s1,c,q,hM,hN,y,j=>by
  rcases List.eq_nil_or_concat s1 with rfl|⟨t,z,rfl⟩
  .simp at q
  simp only[List.concat_eq_append]at q j ⊢;have S:t.length=k:=by simpa using q
  have Q:Srt lt t/\∀a∈t,lt z a=false:=by
   unfold Srt at j ⊢;rw[List.pairwise_append]at j;exact⟨j.1,fun a g=>j.2.2 a g z (by simp)⟩
  rw[Dy];subst S;cases H:lt x z with
  |true=>
   have e:t++[z]++x::(c++r)=t++z::x::(c++r):=by simp
   rw[e,I _ _ _ _ (by omega) H];have:=ZS (r:=r) h I J O t.length N t (z::c) rfl (by omega) (by omega) (by simpa[H] using y) Q.1;rw[Em]at this;rw[this];simp
  |false=>
   have e:t++[z]++x::(c++r)=t++z::x::(c++r):=by simp
   rw[e,J _ _ _ _ (by omega) H,ZT y ?_]
   .simp
   .intro a g;rw[List.mem_append]at g;rcases g with g|g
    .cases e:lt x a with
     |false=>rfl|true=>
      rcases h.neg x z a e with B|B
      .rw[H]at B;cases B
      .rw[Q.2 a g]at B;cases B
    .rw[List.mem_singleton]at g;subst g;exact H
theorem qH(h:Swo lt){F:(List α×Int->AA (List α))->List α×Int->AA (List α)}{c:List α}(E:c.length<2 ^ 62)
 (step:∀L s x r,s.length+1+r.length=c.length->0<s.length->Srt lt s->F L (s++x::r,(s.length:Int))=L (ins lt x s++r,((s.length+1:Nat):Int)))
 (stop:∀L v (i:Nat),c.length<=i->F L (v,(i:Int))=some v):BB F big (c,1)=some (DV lt c):=by
 cases c with
 |nil=>
  have:=Pb 0 (by omega);obtain⟨n,y⟩:=this;rw[y,Nat.add_zero,Dy];exact stop _ _ 1 (by simp)
 |cons a l=>
  have:=C9 (F:=F) (n:=l.length) (fun i (v:List α×List α)=>(v.1++v.2,((i+1:Nat):Int))) (fun i v=>v.1.length=i+1/\v.2.length+i=l.length/\Srt lt v.1) (fun i v=>some (v.2.foldl (fun s x=>ins lt x s) v.1)) (by simp at E;omega) ?_ (v:=([a],l)) ⟨rfl,rfl,by simp[Srt]⟩
  .rw[<-qI h];exact this
  .rintro L i ⟨s,r⟩ ⟨g,e,j⟩ hi q;dsimp only at g e j q ⊢;cases r with
   |nil=>
    rw[stop _ _ _ (by simp at e ⊢;omega)];simp
   |cons x r=>
    have B:s.length+1+r.length=(a::l).length:=by simp at e ⊢;omega
    rw[<-g,step L s x r B (by omega) j,Bw];have:=q (ins lt x s,r) ⟨by dsimp only;rw[AI6,g],by dsimp only;simp at e ⊢;omega,AJA h x s j⟩ (by simp at e;omega);rw[<-this,g]
theorem TM{γ:Type}{F:(Int->AA γ)->Int->AA γ}{l:List α}{x:α}(J:List α->AA γ)(g:l.length<2 ^ 62)
 (step:∀L (i:Nat) (h:i<l.length),F L (i:Int)=br (lt l[i] x) (L (w64 ((i:Int)+1))) (J (l.take i++x::l.drop i)))
 (stop:∀L,F L (l.length:Int)=J (l++[x])):BB F big 0=J (put lt x l):=by
 refine(C9 (n:=l.length) (fun i (_:Unit)=>(i:Int)) (fun _ _=>True) (fun i _=>J (l.take i++put lt x (l.drop i))) (by omega) ?_ (v:=()) trivial).trans (by simp);intro L i _ _ hi c;rcases AV i l.length with h|h
 .rw[step L i h,Bg h (by omega),Dc h,put];cases e:lt l[i] x with
  |true=>
   have a:l.take (i+1)=l.take i++[l[i]]:=by rw[Cw,AW h];rfl
   rw[BJ,c () trivial h,a,List.append_assoc];rfl
  |false=>rfl
 grind[put]
end
theorem Vp{α:Type}(t w:List α)(z:α):at? (t++z::w) (t.length:Int)=some z:=by rw[Jz];simp
theorem Vq{α:Type}(t w:List α)(z x:α):at? (t++z::x::w) ((t.length+1:Nat):Int)=some x:=by rw[Jz];simp
theorem ACt{α:Type}(t w:List α)(z a:α):(t++z::w).set t.length a=t++a::w:=by simp
theorem ACu{α:Type}(t w:List α)(z x a:α):(t++z::x::w).set (t.length+1) a=t++z::a::w:=by
 rw[List.set_append_right _ _ (by omega),show t.length+1-t.length=1 by omega];rfl
theorem Jx(n:Nat)(h:0<n)(a:n<2 ^ 63):w64 ((n:Int)-1)=((n-1:Nat):Int):=by grind[A6]
theorem sL(a b:Int):dn a b=some (if a<b then -1 else if a>b then 1 else 0):=by
 grind[dn,AGs,AB,BL]
def ltE(a b:Ai):Bool:=decide (a.Level<b.Level)||((a.Level==b.Level)&&decide (a.Av<b.Av))
theorem T0{a b:Ai}:ltE a b=true↔a.Level<b.Level\/a.Level=b.Level/\a.Av<b.Av:=by simp[ltE]
theorem ARf{a b:Ai}:ltE a b=false↔¬(a.Level<b.Level\/a.Level=b.Level/\a.Av<b.Av):=by rw[<-T0];simp
def ltP(a b:BO):Bool:=decide (a.At<b.At)||((a.At==b.At)&&decide (a.Id<b.Id))
theorem Q7{a b:BO}:ltP a b=true↔a.At<b.At\/a.At=b.At/\a.Id<b.Id:=by simp[ltP]
theorem lE{a b:BO}:ltP a b=false↔¬(a.At<b.At\/a.At=b.At/\a.Id<b.Id):=by rw[<-Q7];simp
theorem cW:Swo ltE:=⟨fun a b h=>by rw[T0]at h;rw[ARf];omega,fun a b c h=>by rw[T0]at *;rw[T0];omega⟩
theorem E7:Swo ltP:=⟨fun a b h=>by rw[Q7]at h;rw[lE];omega,fun a b c h=>by rw[Q7]at *;rw[Q7];omega⟩
theorem cX(a b:BO)(c:ltP a b=false)(e:ltP b a=false):a=b:=by
 rw[lE]at c e;obtain⟨x,y⟩:=a;obtain⟨z,w⟩:=b
 grind
theorem TT(a b:Ai):ANX a b=some (ltE a b):=by
 unfold ANX cA ltE;simp only[AR,Cf,AGS]
theorem bP(a b:BO):ANr a b=some (ltP a b):=by
 unfold ANr cB ltP;simp only[AR,Cf,AGS]
theorem P5(a b:Ai):∃c,US a b=some c/\decide (c<0)=ltE a b:=by
 unfold US;rw[sL,AB,Bn,sL,AB];refine⟨if a.Level<b.Level then -1 else if a.Level>b.Level then 1 else if a.Av<b.Av then -1 else if a.Av>b.Av then 1 else 0,?_,?_⟩
 .split<;>split<;>simp_all
 grind[T0]
theorem Sz(a b:Ai):yl a b=some (ltE a b):=by
 unfold yl;obtain⟨c,e,g⟩:=P5 a b;rw[e,AB,g]
theorem NY(a b:BO):∃c,SJ a b=some c/\decide (c<0)=ltP a b/\decide (c>0)=ltP b a:=by
 unfold SJ;rw[sL,AB,Bn,sL,AB];refine⟨if a.At<b.At then -1 else if a.At>b.At then 1 else if a.Id<b.Id then -1 else if a.Id>b.Id then 1 else 0,?_,?_,?_⟩
 .split<;>split<;>simp_all
 .grind[Q7]
 grind[Q7]
theorem AYj{l:List Ai}(H:l.length<2 ^ 62):AGu l 0 l.length=some (DV ltE l):=by
 unfold AGu DK;refine qH cW H ?_ ?_
 .intro L s x r J O g;unfold Df;dsimp only;rw[B7 (by omega),BJ];have:=ZS (G:=Dg US 0 L s.length) (E:=fun v=>L (v,((s.length+1:Nat):Int))) (x:=x) (r:=r) (M:=s.length) cW ?_ ?_ ?_ s.length big s [] rfl (by omega) (Ie _ (by omega)) (by simp) g
  .rw[B8,Kc]at this;exact this
  all_goals unfold Dg De EG
  .intro L' t z w I B;obtain⟨c,q,a⟩:=P5 x z;have e:=Jx (t.length+1) (by omega) (by omega);have h:((t.length+1:Nat):Int)>0:=by omega
   dsimp only;have y:c<0:=by rw[B,decide_eq_true_iff]at a;exact a
   simp only[BL,AR,e,Cr,Vp,Vq,AB,q,ACt,ACu,Ah,h,y,if_true]
  .intro L' t z w I B;obtain⟨c,q,a⟩:=P5 x z;have e:=Jx (t.length+1) (by omega) (by omega);have h:((t.length+1:Nat):Int)>0:=by omega
   have j:=Bg (i:=s.length) (n:=s.length+1) (by omega) (by omega);dsimp only;have y:¬c<0:=by rw[B,decide_eq_false_iff_not]at a;exact a
   simp only[BL,AR,e,Cr,Vp,Vq,AB,q,h,y,if_true,if_false,j]
  .intro L' w;have j:=Bg (i:=s.length) (n:=s.length+1) (by omega) (by omega);dsimp only;rw[BL,AU (by omega),AR,BT,AR,j]
 grind[Df,BL]
theorem AWS{l:List BO}(H:l.length<2 ^ 62):yf l 0 l.length=some (DV ltP l):=by
 unfold yf DK;refine qH E7 H ?_ ?_
 .intro L s x r J O g;unfold Df;dsimp only;rw[B7 (by omega),BJ];have:=ZS (G:=Dg SJ 0 L s.length) (E:=fun v=>L (v,((s.length+1:Nat):Int))) (x:=x) (r:=r) (M:=s.length) E7 ?_ ?_ ?_ s.length big s [] rfl (by omega) (Ie _ (by omega)) (by simp) g
  .rw[B8,Kc]at this;exact this
  all_goals unfold Dg De EG
  .intro L' t z w I B;obtain⟨c,q,a,_⟩:=NY x z;have e:=Jx (t.length+1) (by omega) (by omega);have h:((t.length+1:Nat):Int)>0:=by omega
   dsimp only;have y:c<0:=by rw[B,decide_eq_true_iff]at a;exact a
   simp only[BL,AR,e,Cr,Vp,Vq,AB,q,ACt,ACu,Ah,h,y,if_true]
  .intro L' t z w I B;obtain⟨c,q,a,_⟩:=NY x z;have e:=Jx (t.length+1) (by omega) (by omega);have h:((t.length+1:Nat):Int)>0:=by omega
   have j:=Bg (i:=s.length) (n:=s.length+1) (by omega) (by omega);dsimp only;have y:¬c<0:=by rw[B,decide_eq_false_iff_not]at a;exact a
   simp only[BL,AR,e,Cr,Vp,Vq,AB,q,h,y,if_true,if_false,j]
  .intro L' w;have j:=Bg (i:=s.length) (n:=s.length+1) (by omega) (by omega);dsimp only;rw[BL,AU (by omega),AR,BT,AR,j]
 grind[Df,BL]
theorem AVm{l:List Ai}(e:l.length<=19):ny l=some (DV ltE l):=by
 unfold ny AGv GS;obtain⟨n,c⟩:=Pb 0 (by omega);have a:=AYj (l:=l) (by omega);unfold AGu at a
 grind[F5,Dy,BL,AR,He,AB,F6]
theorem AVn{l:List BO}(e:l.length<=19):oE l=some (DV ltP l):=by
 unfold oE AGz GS;obtain⟨n,c⟩:=Pb 0 (by omega);have a:=AWS (l:=l) (by omega);unfold yf at a
 grind[F5,Dy,BL,AR,He,AB,F6]
set_option maxRecDepth 100000
theorem AUU{n:Nat}(a:n<256):∃c,AGp (IntKind.u64.wrap (n:Int))=some c:=by
 have e:IntKind.u64.wrap (n:Int)=n:=by
  simp only[IntKind.wrap,IntKind.bits,IntKind.signed];simp;omega
 unfold AGp ANC;rw[e,BL,AU (by omega),AR];unfold db;dsimp only;rw[BL,AU (by omega),AR];unfold de;dsimp only;rw[BL,AU (by omega),AR];unfold dg;dsimp only;rw[BH (UInt8.toNat_lt (toB (n:Int))),AB,AB];exact⟨_,rfl⟩
theorem AXe{l:List BO}(g:l.length<=12):AGq l=some (DV ltP l):=by
 unfold AGq AND;obtain⟨c,a⟩:=AUU (n:=l.length) (by omega);rw[a,AB];obtain⟨n,e⟩:=Pb 0 (by omega)
 grind[Dy,yg,BL,A6,AWS,AB]
section
variable{α σ γ:Type}
theorem Sp{l:List α}{F:(σ×Int->AA γ)->σ×Int->AA γ}(f:σ->α->σ)(I:Nat->σ->Prop)(J:σ->AA γ)(c:l.length<2 ^ 63)
 (step:∀L i (h:i<l.length) v,I i v->F L (v,(i:Int))=L (f v l[i],w64 ((i:Int)+1))) (FV:∀i (h:i<l.length) v,I i v->I (i+1) (f v l[i]))
 (stop:∀L v,I l.length v->F L (v,(l.length:Int))=J v) {a:σ} (g:I 0 a):BB F big (a,0)=J (l.foldl f a):=by
 refine(C9 (n:=l.length) (fun i (v:σ)=>(v,(i:Int))) I (fun i v=>J ((l.drop i).foldl f v)) c ?_ g);intro L i v e hi j;rcases AV i l.length with h|h
 .rw[step L i h v e,Bg h c,Dc h,Bw];exact j _ (FV i h v e) h
 grind
def EZ(eq:α->α->Bool):List α->List α->Bool| [],[]=>true|x::a,y::b=>eq x y&&EZ eq a b|_,_=>false
theorem Hs{eq:α->α->Bool}(c:∀x y,eq x y=true↔x=y):∀{a b:List α},EZ eq a b=true↔a=b| [],[]=>by simp[EZ]| [],y::b=>by simp[EZ]|x::a,[]=>by simp[EZ]|x::a,y::b=>by rw[EZ,AF,c,Hs c,Cc]
theorem mK{eq:α->α->Bool}:∀{a b:List α},a.length≠b.length->EZ eq a b=false| [],[],h=>by simp at h| [],y::b,h=>rfl|x::a,[],h=>rfl|x::a,y::b,h=>by rw[EZ,mK (a:=a) (b:=b) (by simpa using h),DF]
theorem ATV{eq:α->α->Bool}{a b:List α}{F:(Int->AA Bool)->Int->AA Bool}(c:a.length<2 ^ 63)(e:a.length=b.length)
 (step:∀L i (h:i<a.length) (j:i<b.length),F L (i:Int)=br (!(eq a[i] b[i])) (some false) (L (w64 ((i:Int)+1)))) (stop:∀L,F L (a.length:Int)=some true):BB F big 0=some (EZ eq a b):=by
 refine(C9 (n:=a.length) (fun i (_:Unit)=>(i:Int)) (fun _ _=>True) (fun i _=>some (EZ eq (a.drop i) (b.drop i))) c ?_ (v:=()) trivial);intro L i _ _ hi g;rcases AV i a.length with h|h
 .rw[step L i h (by omega),Bg h c,Dc h,Dc (l:=b) (i:=i) (by omega),EZ,BP];cases eq a[i] b[i] with|true=>rw[BJ,g () trivial h];rfl|false=>rfl
 .obtain rfl:i=a.length:=by omega
  rw[stop,Eo,List.drop_eq_nil_of_le (by omega)];rfl
theorem TQ{eq:α->α->Bool}{a b:List α}{F:(Int->AA Bool)->Int->AA Bool}(c:a.length<2 ^ 63)
 (step:∀L i (h:i<a.length) (g:i<b.length),F L (i:Int)=br (!(eq a[i] b[i])) (some false) (L (w64 ((i:Int)+1)))) (stop:∀L,F L (a.length:Int)=some true) :
 br ((a.length:Int) != (b.length:Int)) (some false) (BB F big 0)=some (EZ eq a b):=by
 by_cases h:a.length=b.length
 .have e:((a.length:Int) != (b.length:Int))=false:=by simp[h]
  rw[e,BT,ATV c h step stop]
 .have e:((a.length:Int) != (b.length:Int))=true:=by simp;omega
  rw[e,BJ,mK h]
def atF(p:α->Bool):List α->Nat->Int| [],_=>-1|x::l,i=>if p x=true then (i:Int) else atF p l (i+1)
theorem Qd{p:α->Bool}{l:List α}{F:(Int->AA Int)->Int->AA Int}(a:l.length<2 ^ 63)
 (step:∀L i (h:i<l.length),F L (i:Int)=br (p l[i]) (some (i:Int)) (L (w64 ((i:Int)+1)))) (stop:∀L,F L (l.length:Int)=some (-1)):BB F big 0=some (atF p l 0):=by
 refine(C9 (n:=l.length) (fun i (_:Unit)=>(i:Int)) (fun _ _=>True) (fun i _=>some (atF p (l.drop i) i)) a ?_ (v:=()) trivial);intro L i _ _ hi c;rcases AV i l.length with h|h
 .rw[step L i h,Bg h a,Dc h,atF];cases p l[i] with|true=>rfl|false=>rw[BT,c () trivial h];simp
 .obtain rfl:i=l.length:=by omega
  rw[stop,Eo];rfl
theorem dM{p:α->Bool}:∀{l:List α} {s:Nat},atF p l s<0↔∀x∈l,p x=false
 | [],s=>by simp[atF]|x::l,s=>by
  unfold atF;split
  .rename_i h;simp[h]
  .rename_i h;rw[dM];simp[h]
theorem yH{p:α->Bool}:∀{l:List α} {i:Nat} (s:Nat) (h:i<l.length),p l[i]=true->((atF p l s != ((s+i:Nat):Int))=decide (atF p (l.take i) s>=0))
 | [],i,s,h,a=>by simp at h|x::l,0,s,h,a=>by
  simp only[List.getElem_cons_zero]at a;simp[atF,a]
 |x::l,i+1,s,h,a=>by
  simp only[List.getElem_cons_succ]at a;rw[List.take_succ_cons,atF,atF];by_cases c:p x=true
  .grind
  .rw[AU c,AU c];have:=yH (l:=l) (i:=i) (s+1) (by simpa using h) a;rw[<-this,show s+1+i=s+(i+1) by omega]
end
def MY(cabin:Int)(n:Int)(p:AQ):Int:=if (p.Aa==cabin)=true then n+1 else n
def DO(l:List AQ)(cabin:Int):Int:=l.foldl (MY cabin) 0
def Ub(cabin:Int)(n:Int)(p:AQ):Int:=if ((p.State==2)&&((p.Aa==cabin)&&inB p.BC 1 6))=true then n+p.BC else n
def I5(l:List AQ)(cabin:Int):Int:=l.foldl (Ub cabin) 0
def Uv(cabin:Int)(n:Int)(p:AQ):Int:=if ((p.Bl==cabin)&&inB p.BC 1 6)=true then n+p.BC else n
def JU(l:List AQ)(cabin:Int):Int:=l.foldl (Uv cabin) 0
theorem nr(cabin:Int)(p:AQ){i:Nat}{n:Int}(h:0<=n/\n<=i):0<=MY cabin n p/\MY cabin n p<=((i+1:Nat):Int):=by unfold MY;split<;>omega
theorem XR(cabin:Int)(p:AQ){i:Nat}{n:Int}(h:0<=n/\n<=6*i):0<=Ub cabin n p/\Ub cabin n p<=6*((i+1:Nat):Int):=by
 grind[Ub,CP]
theorem YP(cabin:Int)(p:AQ){i:Nat}{n:Int}(h:0<=n/\n<=6*i):0<=Uv cabin n p/\Uv cabin n p<=6*((i+1:Nat):Int):=by
 grind[Uv,CP]
theorem NL{l:List AQ}(e:l.length<2 ^ 58)(c:Int):ADi l c=some (DO l c):=by
 unfold ADi;refine Sp (l:=l) (MY c) (fun i n=>0<=n/\n<=i) some (by omega) ?_ (fun i h v a=>nr c _ a) ?_ (by simp)
 .grind[sT,sS,MY,BH,AB,AR,A6,Bn]
 grind[sT,AGm,BT,AR]
theorem Q0{l:List AQ}(e:l.length<2 ^ 58)(c:Int):nz l c=some (DO l c):=by
 unfold nz;refine Sp (l:=l) (MY c) (fun i n=>0<=n/\n<=i) some (by omega) ?_ (fun i h v a=>nr c _ a) ?_ (by simp)
 .grind[dm,dk,MY,BH,AB,AR,A6,Bn]
 grind[dm,yk,BT,AR]
theorem Ot{l:List AQ}(y:l.length<2 ^ 58)(c:Int):ADh l c=some (I5 l c):=by
 unfold ADh;refine Sp (l:=l) (Ub c) (fun i n=>0<=n/\n<=6*i) some (by omega) ?_ (fun i h v a=>XR c _ a) ?_ (by simp)
 .intro L i h v a;have e:=XR c l[i] a;unfold Ub at e ⊢;unfold sO bq sM;dsimp only;rw[B7 h,BJ];simp only[BH h,AB,AR,GN,BT];cases g:l[i].State==2<;>cases j:l[i].Aa==c<;>cases q:inB l[i].BC 1 6<;>simp only[BJ,BT,DA,Bm,if_true,BM,if_false]
  grind[A6]
 grind[sO,AGk,BT,AR]
theorem au{l:List AQ}(y:l.length<2 ^ 58)(c:Int):eH l c=some (I5 l c):=by
 unfold eH;refine Sp (l:=l) (Ub c) (fun i n=>0<=n/\n<=6*i) some (by omega) ?_ (fun i h v a=>XR c _ a) ?_ (by simp)
 .intro L i h v a;have e:=XR c l[i] a;unfold Ub at e ⊢;unfold eK WI eJ;dsimp only;rw[B7 h,BJ];simp only[BH h,AB,AR,Fq,BT];cases g:l[i].State==2<;>cases j:l[i].Aa==c<;>cases q:inB l[i].BC 1 6<;>simp only[BJ,BT,DA,Bm,if_true,BM,if_false]
  grind[A6]
 grind[eK,y6,BT,AR]
theorem Ou{l:List AQ}(q:l.length<2 ^ 58)(c:Int):yb l c=some (JU l c):=by
 unfold yb;refine Sp (l:=l) (Uv c) (fun i n=>0<=n/\n<=6*i) some (by omega) ?_ (fun i h v a=>YP c _ a) ?_ (by simp)
 .intro L i h v a;have e:=YP c l[i] a;unfold Uv at e ⊢;unfold sR sP sQ;dsimp only;rw[B7 h,BJ];simp only[BH h,AB,AR,GN,BT];cases g:l[i].Bl==c<;>cases j:inB l[i].BC 1 6<;>simp only[BJ,BT,DA,Bm,if_true,BM,if_false]
  grind[A6]
 grind[sR,AGl,BT,AR]
theorem aw{l:List AQ}(q:l.length<2 ^ 58)(c:Int):aM l c=some (JU l c):=by
 unfold aM;refine Sp (l:=l) (Uv c) (fun i n=>0<=n/\n<=6*i) some (by omega) ?_ (fun i h v a=>YP c _ a) ?_ (by simp)
 .intro L i h v a;have e:=YP c l[i] a;unfold Uv at e ⊢;unfold eO eL eM;dsimp only;rw[B7 h,BJ];simp only[BH h,AB,AR,Fq,BT];cases g:l[i].Bl==c<;>cases j:inB l[i].BC 1 6<;>simp only[BJ,BT,DA,Bm,if_true,BM,if_false]
  grind[A6]
 grind[eO,y7,BT,AR]
def eqE(x y:Ai):Bool:=x.Level==y.Level&&(x.Av==y.Av&&(x.Id==y.Id&&(x.BC==y.BC&&true)))
theorem cM(x y:Ai):eqE x y=true↔x=y:=by
 obtain⟨a,b,c,d⟩:=x;obtain⟨e,f,g,h⟩:=y;simp[eqE]
def eqP(x y:BO):Bool:=x.At==y.At&&(x.Id==y.Id&&true)
theorem cO(x y:BO):eqP x y=true↔x=y:=by
 obtain⟨a,b⟩:=x;obtain⟨c,d⟩:=y;simp[eqP]
theorem RU{a b:List Ai}(e:a.length<2 ^ 62):ANs a b=some (EZ eqE a b):=by
 unfold ANs;refine TQ (by omega) ?_ ?_
 .intro L i h c;unfold s9;rw[B7 h,BJ,BH h,AB,BH c,AB];rfl
 grind[s9,AIf,BT,AR]
theorem ak{a b:List Ai}(e:a.length<2 ^ 62):yd a b=some (EZ eqE a b):=by
 unfold yd;refine TQ (by omega) ?_ ?_
 .intro L i h c;unfold da;rw[B7 h,BJ,BH h,AB,BH c,AB];rfl
 grind[da,ye,BT,AR]
theorem PO{a b:List BO}(e:a.length<2 ^ 62):ANt a b=some (EZ eqP a b):=by
 unfold ANt;refine TQ (by omega) ?_ ?_
 .intro L i h c;unfold tJ;rw[B7 h,BJ,BH h,AB,BH c,AB];rfl
 grind[tJ,AIi,BT,AR]
theorem aq{a b:List BO}(e:a.length<2 ^ 62):y4 a b=some (EZ eqP a b):=by
 unfold y4;refine TQ (by omega) ?_ ?_
 .intro L i h c;unfold eG;rw[B7 h,BJ,BH h,AB,BH c,AB];rfl
 grind[eG,y5,BT,AR]
def Jr{α:Type}(l:List α)(k:Nat)(p:α->Bool):Bool:=match l[k]? with|some x=>p x|none=>true
theorem CR{α:Type}{l:List α}{k:Nat}(h:k<l.length)(p:α->Bool):Jr l k p=p l[k]:=by unfold Jr;rw[AW h]
theorem cJ(i:Nat):decide ((i:Int)>0)=decide (0<i):=by rw[decide_eq_decide];omega
theorem Ka{α:Type}(l:List α)(x:α):l.length+[x].length=l.length+1:=rfl
theorem RS{l:List Ai}(a:l.length<2 ^ 62)(id:Int):AKC l id=some (atF (fun x=>x.Id==id) l 0):=by
 grind[AKC,Qd,AH9,BJ,BH,AB,AH8,BT,AR]
theorem XV{l:List Ai}(a:l.length<2 ^ 62)(id:Int):n8 l id=some (atF (fun x=>x.Id==id) l 0):=by
 unfold n8 ANF
 grind[Qd,AB,yn,ANE,BJ,BH,ym,BT,AR]
def AN2(e:Ai):Bool:=inB e.Level 0 4&&(inB e.Av 1 1000000&&(inB e.Id 1 999&&inB e.BC 1 6))
def qAt(l:List Ai)(i:Nat):Bool:=
 Jr l i fun e=>AN2 e&&((if 0<i then Jr l (i-1) (fun d=>ltE d e) else true)&&!(decide (atF (fun x=>x.Id==e.Id) (l.take i) 0>=0)))
def Kv(l:List Ai):Bool:=!(decide ((l.length:Int)>10))&&Is (qAt l) 0 l.length
theorem RT(l:List Ai)(g:l.length<2 ^ 62):AKD l=some (Kv l):=by
 unfold AKD Kv;rw[J5 (n:=l.length) (E:=some true) (qAt l) (by omega) ?_ ?_,Cf,CS,Hb]
 .intro L i h;have q:=Bg h (show l.length<2 ^ 63 by omega);unfold qAt;rw[CR h];unfold sj;rw[B7 h,BJ,BH h,AB];have a:∀b,XB L i b=br (!b) (L ((i+1:Nat):Int)) (some false):=by intro b;unfold XB;rw[q];cases b<;>rfl
  have j:(atF (fun x=>x.Id==l[i].Id) l 0 != (i:Int))=decide (atF (fun x=>x.Id==l[i].Id) (l.take i) 0>=0):=by
   grind[yH]
  have e:∀b,Tr l L i l[i] b=br (!b&&((if 0<i then Jr l (i-1) (fun d=>ltE d l[i]) else true)&&!(decide (atF (fun x=>x.Id==l[i].Id) (l.take i) 0>=0)))) (L ((i+1:Nat):Int)) (some false):=by
   intro b;unfold Tr;rw[cJ];by_cases c:0<i
   .rw[decide_eq_true c,BJ,AX c,Jx i c (by omega),BH (show i-1<l.length by omega),AB,TT,AB,BP,RS g,AB,AR,AR,a,a,j,CR (by omega)];cases b<;>cases ltE l[i-1] l[i]<;>rfl
   .rw[decide_eq_false c,BT,AU c,RS g,AB,AR,a,j];cases b<;>rfl
  unfold AN2;simp only[GN,AB,AR,BP,e];generalize ((if 0<i then Jr l (i-1) (fun d=>ltE d l[i]) else true)&&!(decide (atF (fun x=>x.Id==l[i].Id) (l.take i) 0>=0)))=X;cases inB l[i].Level 0 4<;>cases inB l[i].Av 1 1000000<;>cases inB l[i].Id 1 999<;>cases inB l[i].BC 1 6<;>rfl
 grind[sj,AIT,BT,AR]
theorem XW(l:List Ai)(q:l.length<2 ^ 62):n9 l=some (Kv l):=by
 unfold n9 Kv;rw[J5 (n:=l.length) (E:=some true) (qAt l) (by omega) ?_ ?_,Cf,CS,Hb]
 .intro L i h;have g:=Bg h (show l.length<2 ^ 63 by omega);unfold qAt;rw[CR h];unfold dp;rw[B7 h,BJ,BH h,AB];have a:∀b,Pg L i b=br (!b) (L ((i+1:Nat):Int)) (some false):=by intro b;unfold Pg;rw[g];cases b<;>rfl
  have e:∀b,SI L i l[i] b=br (!b&&AN2 l[i]) (L ((i+1:Nat):Int)) (some false):=by
   intro b;unfold SI AN2;have c:w64 (5-1)=4:=by rw[A6]<;>omega
   simp only[Fq,Xb,AB,AR,BP,a,c];cases b<;>cases inB l[i].Level 0 4<;>cases inB l[i].Av 1 1000000<;>cases inB l[i].Id 1 999<;>cases inB l[i].BC 1 6<;>rfl
  have j:(0:Int)<=(i:Int)/\(i:Int)<=(l.length:Int):=by omega
  grind[BJ,Jx,BH,AB,Sz,B6,XV,AR,CR,ltE,BT]
 grind[dp,yo,BT,AR]
theorem Ov{l:List Ai}(a:l.length<=lim):nC l=some l:=by
 unfold nC;rw[B6 (by omega),B8]
theorem Vb{l:List Ai}(c:l.length+1<=lim)(e:Ai):ABZ l e=some (put ltE e l):=by
 have a:∀i:Nat,i<=l.length->s5 l e i=some (l.take i++e::l.drop i):=by
  grind[s5,B6,Ov,AB,Cm]
 have hlim:lim=268435456:=rfl;unfold ABZ;refine TM some (by omega) ?_ ?_
 .grind[s6,cH,BJ,BH,AB,TT,AR]
 grind[s6,cH,BT,AR]
theorem Vc{l:List BO}(c:l.length+1<=lim)(e:BO):AKG l e=some (put ltP e l):=by
 have a:∀i:Nat,i<=l.length->tC l e i=some (l.take i++e::l.drop i):=by
  grind[tC,B6]
 have hlim:lim=268435456:=rfl;unfold AKG;refine TM some (by omega) ?_ ?_
 .grind[tE,cI,BJ,BH,AB,bP,AR]
 grind[tE,cI,BT,AR]
def K4(r:Ab)(cabin now:Int)(p:AQ):AA Ai:=if ((Ew r p now).2&&(p.Aa==cabin))=true then some (Ew r p now).1 else none
def Dw(r:Ab)(l:List AQ)(cabin now:Int):List Ai:=DV ltE (l.filterMap (K4 r cabin now))
theorem NN{r:Ab}(j:r.AY.length<2 ^ 62){l:List AQ}(G:l.length<=1048576)(c now:Int):ADl r l c now=some (Dw r l c now):=by
 have hlim:lim=268435456:=rfl;have e:w64 ((l.length:Int)-1)=(l.length:Int)-1-((0:Nat):Int):=by rw[A6 (by omega) (by omega)];omega
 unfold ADl Dw;rw[e];refine(C9 (n:=l.length) (fun i (v:List Ai)=>(v,(l.length:Int)-1-(i:Int))) (fun i v=>v.length<=i) (fun i v=>some ((((l.take (l.length-i)).filterMap (K4 r c now)).foldr (put ltE) v))) (by omega) ?_ (v:=[]) (by simp)).trans (by rw[Nat.sub_zero,List.take_length];rfl);intro L i v H hi I;unfold AIe s7 s8;dsimp only;rcases AV i l.length with h|h
 .obtain⟨k,E⟩:∃k,l.length=i+(k+1):=⟨l.length-i-1,by omega⟩;have g:(l.length:Int)-1-(i:Int)=(k:Int):=by omega
  have a:k<l.length:=by omega
  have y:w64 ((k:Int)-1)=(l.length:Int)-1-((i+1:Nat):Int):=by rw[A6 (by omega) (by omega)];omega
  have B:l.take (l.length-i)=l.take (l.length-(i+1))++[l[k]]:=by
   rw[show l.length-i=k+1 by omega,show l.length-(i+1)=k by omega,Cw,AW a];rfl
  rw[g,BL,AX (by omega)];simp only[BH a,AB,YD j,Cm,xk,AR,BT];have key:(br (Ew r l[k] now).2 (br (l[k].Aa==c) (bd (ABZ v (Ew r l[k] now).1) fun q=>L (q,w64 ((k:Int)-1))) (L (v,w64 ((k:Int)-1)))) (L (v,w64 ((k:Int)-1))))=some ((((l.take (l.length-i)).filterMap (K4 r c now)).foldr (put ltE) v)):=by
   grind[Vb,AB,K4,Ew,BJ,BT,Fi]
  exact key
 .obtain rfl:i=l.length:=by omega
  unfold AId;rw[BL,AU (by omega),AR,D3];rfl
theorem nF{α β:Type}(f:α->AA β){l:List α}{i:Nat}(h:i<l.length):(l.take (i+1)).filterMap f=(l.take i).filterMap f++(f l[i]).toList:=by
 rw[Cw,AW h,List.filterMap_append];congr 1
theorem nG{α β:Type}(f:α->AA β)(l:List α)(i:Nat):((l.take i).filterMap f).length<=i:=Nat.le_trans (List.length_filterMap_le _ _) (by rw[List.length_take];omega)
theorem collect{α β γ:Type}{l:List α}(f:α->AA β){F:(List β×Int->AA γ)->List β×Int->AA γ}(J:List β->AA γ)(e:l.length<=1048576)
 (step:∀L i (h:i<l.length) v,v.length<=i->F L (v,(i:Int))=L (v++(f l[i]).toList,w64 ((i:Int)+1))) (stop:∀L v,F L (v,(l.length:Int))=J v):BB F big ([],0)=J (l.filterMap f):=by
 refine(C9 (n:=l.length) (fun i (v:List β)=>(v,(i:Int))) (fun i v=>v=(l.take i).filterMap f) (fun i v=>J (l.filterMap f)) (by omega) ?_ (by simp));intro L i v a hi c;rcases AV i l.length with h|h
 .rw[step L i h v (by rw[a];exact nG _ _ _),Bg h (by omega)];exact c _ (by rw[a,nF f h]) h
 grind
theorem nw(c:Int):∀(l:List AQ) (n:Int),l.foldl (MY c) n=n+(l.countP fun p=>p.Aa==c)
 | [],n=>by simp|p::l,n=>by
  rw[Bw,nw c l,List.countP_cons]
  grind[MY]
theorem cP{β:Type}(f:AQ->AA β)(c:Int)(a:∀p,(p.Aa==c)=false->f p=none):∀l:List AQ,((l.filterMap f).length:Int)<=DO l c:=by
 intro l;unfold DO;rw[nw,Int.zero_add]
 induction l with
 |nil=>simp|cons p l e=>
  grind
theorem Q1{r:Ab}(e:r.AY.length<2 ^ 62){l:List AQ}(a:l.length<=1048576){c:Int}(q:DO l c<=19)(now:Int):aJ r l c now=some (Dw r l c now):=by
 have hlim:lim=268435456:=rfl;have y:=cP (K4 r c now) c (by intro p h;unfold K4;rw[h,DF];rfl) l;unfold aJ Dw;rw[collect (l:=l) (K4 r c now) SG a ?_ ?_]
 .unfold SG;rw[AVm (by omega),AB]
 .intro L i h v B;unfold SH V5 V6 K4;dsimp only;rw[B7 h,BJ,BH h,AB,NB e,AB,AR,AR,B6 (by rw[Ka];omega),AR,AR];cases g:(Ew r l[i] now).2<;>cases j:l[i].Aa==c<;>simp
 grind[SH,BT,AR]
def MO(cabin:Int)(p:AQ):AA BO:=if ((p.State==2)&&(p.Aa==cabin))=true then some ⟨p.Ci,p.Id⟩ else none
def F9(l:List AQ)(cabin:Int):List BO:=DV ltP (l.filterMap (MO cabin))
theorem TV{l:List AQ}(e:l.length<=1048576)(c:Int):ADn l c=some (F9 l c):=by
 have hlim:lim=268435456:=rfl;unfold ADn F9;rw[Sp (l:=l) (fun v p=>match MO c p with|some x=>put ltP x v|none=>v) (fun i v=>v.length<=i) some (by omega) ?_ ?_ ?_ (by simp),<-ZW E7 cX]
 .congr 1;generalize ([]:List BO)=a;clear e
  induction l generalizing a with
  |nil=>rfl|cons p l g=>
   rw[Bw,g,List.filterMap_cons];cases MO c p<;>rfl
 .intro L i h v y;unfold tI tG tH MO;dsimp only;rw[B7 h,BJ];simp only[BH h,AB,AR,BT,Vc (show v.length+1<=lim by omega)];cases j:l[i].State==2<;>cases q:l[i].Aa==c<;>rfl
 .grind[Fi]
 grind[tI,AIh,BT,AR]
theorem av{l:List AQ}(a:l.length<=1048576){c:Int}(j:DO l c<=19):eF l c=some (F9 l c):=by
 have hlim:lim=268435456:=rfl;have q:=cP (MO c) c (by intro p h;unfold MO;rw[h,DF];rfl) l;unfold eF F9;rw[collect (l:=l) (MO c) SL a ?_ ?_]
 .unfold SL;rw[AVn (by omega),AB]
 .intro L i h v y;unfold SM WG WH MO;dsimp only;rw[B7 h,BJ,BH h,AB,AR,AR,B6 (by rw[Ka];omega),AR,AR];cases e:l[i].State==2<;>cases g:l[i].Aa==c<;>simp
 grind[SM,BT,AR]
end Lv.P
