/- Plain laws about what the program computes. -/
import Derived.Test.YtnjoipcemhflkaaGreatKCb
set_option linter.unusedVariables false
set_option linter.unusedSimpArgs false
set_option linter.unusedSectionVars false
open Bool renaming and_eq_true->AF,and_false->DK,and_true->CP,false_and->Bm,false_eq_true->BM,not_not->Df,not_true->Bs,true_and->Cm
open Int renaming toNat_natCast->Ac
open List renaming append_nil->KW,cons_append->Ew,drop_length->Ey,foldl_cons->B0,foldr_cons->KX,getElem?_eq_getElem->AS,mem_cons->Ag,mem_cons_self->Bg,nil_append->CB,pairwise_cons->BV,take_add_one->CR
open List.cons renaming injEq->Cb
open Nat renaming add_sub_cancel->Cq,lt_or_ge->AZ,sub_self->EB
namespace Lv.P
open Go (IntKind BinOp UnOp)
theorem UP{n:Int}(a:-9223372036854775808<=n)(c:n<9223372036854775808):IntKind.i64.wrap n=n:=by
 simp only[IntKind.wrap,IntKind.bits,IntKind.signed];simp;omega
theorem A2{n:Int}(a:-9223372036854775808<=n)(c:n<9223372036854775808):w64 n=n:=UP a c
theorem AVh{n:Int}(a:0<=n)(c:n<256):IntKind.u8.wrap n=n:=by
 simp only[IntKind.wrap,IntKind.bits,IntKind.signed];simp;omega
theorem AMr{n:Nat}(h:n<256):toB (n:Int)=UInt8.ofNat n:=by
 unfold toB;rw[AVh (by omega) (by omega)];rfl
@[simp] theorem Jw{α:Type}(l:List α)(i:Nat):at? l (i:Int)=l[i]?:=by simp[at?]
@[simp] theorem V7{α:Type}(l:List α):at? l 0=l[0]?:=by simp[at?]
theorem JK(k:Nat)(h:k<2 ^ 64):k<big:=by have:=Qe;omega
theorem R9(k:Nat)(h:k<2 ^ 64):∃n,big=n+1+k:=⟨big-1-k,by have:=Qe;omega⟩
section
variable{σ γ:Type}
theorem ADv{F:(σ->AA γ)->σ->AA γ}(R:σ->AA γ)(I:σ->Prop)(μ:σ->Nat)
 (step:∀(L:σ->AA γ) x,I x->(∀y,I y->μ y<μ x->L y=R y)->F L x=R x):∀n x,I x->μ x<n->BD F n x=R x
 |0,x,_,h=>by omega|n+1,x,hI,e=>by
  rw[EP];exact step _ x hI fun y a c=>ADv R I μ step n y a (by omega)
theorem aC{F:(σ->AA γ)->σ->AA γ}(R:σ->AA γ)(I:σ->Prop)(μ:σ->Nat)
 (step:∀(L:σ->AA γ) x,I x->(∀y,I y->μ y<μ x->L y=R y)->F L x=R x) {x:σ} (hI:I x) (a:μ x<2 ^ 64):BD F big x=R x:=
 ADv R I μ step big x hI (JK _ a)
end
section
variable{α γ:Type}
@[simp] theorem BP(x y:AA γ):br true x y=x:=rfl
@[simp] theorem Bb(x y:AA γ):br false x y=y:=rfl
@[simp] theorem BQ(p:Prop) [Decidable p] (x y:AA γ):br (decide p) x y=if p then x else y:=by unfold br;by_cases h:p<;>simp[h]
@[simp] theorem BK(b:Bool)(x y:AA γ):br (!b) x y=br b y x:=by cases b<;>rfl
@[simp] theorem AB(a:α)(f:α->AA γ):bd (some a) f=f a:=by rw[AFI];rfl
@[simp] theorem AVz(f:α->AA γ):bd none f=none:=by rw[AFI];rfl
@[simp] theorem AV(F:α->AA γ)(x:α):jn F x=F x:=AS1 F x
theorem B8{p:Prop} [Decidable p] (h:p) (x:AA γ):gd p x=x:=by rw[ARF,AW h]
theorem Bi(b:Bool)(x y:AA γ):br b x y=if b=true then x else y:=rfl
end
theorem C3{τ σ γ:Type}{F:(τ->AA γ)->τ->AA γ}(st:Nat->σ->τ)(I:Nat->σ->Prop)(R:Nat->σ->AA γ){n:Nat}(B:n<2 ^ 63)
 (step:∀L i v,I i v->i<=n->(∀a,I (i+1) a->i<n->L (st (i+1) a)=R (i+1) a)->F L (st i v)=R i v) {v:σ} (c:I 0 v):BD F big (st 0 v)=R 0 v:=by
 have key:∀(m i k:Nat) (v:σ),i+m=n->m<k->I i v->BD F k (st i v)=R i v:=by
  intro m
  induction m with
  |zero=>
   intro i k v hi q h;obtain⟨k,rfl⟩:∃j,k=j+1:=⟨k-1,by omega⟩;rw[EP];exact step _ i v h (by omega) fun a _ g=>by omega
  |succ m y=>
   intro i k v hi q h;obtain⟨k,rfl⟩:∃j,k=j+1:=⟨k-1,by omega⟩;rw[EP];exact step _ i v h (by omega) fun a e g=>y (i+1) k a (by omega) (by omega) e
 exact key n 0 big v (by omega) (JK _ (by omega)) c
theorem BG{α:Type}{l:List α}{i:Nat}(h:i<l.length):at? l (i:Int)=some l[i]:=by rw[Jw,AS h]
theorem dec_lt{l:Nat}{i:Nat}:decide ((i:Int)<(l:Int))=decide (i<l):=by rw[decide_eq_decide];omega
theorem Bn{i n:Nat}(h:i<n)(a:n<2 ^ 63):w64 ((i:Int)+1)=((i+1:Nat):Int):=by rw[A2 (by omega) (by omega)];rfl
theorem AVq{n:Nat}{F:(Int->AA Bool)->Int->AA Bool}(a:n<2 ^ 63)
 (step:∀L (i:Nat),i<n->F L (i:Int)=L ((i+1:Nat):Int)) (stop:∀L,F L (n:Int)=some true):BD F big 0=some true:=by
 have:=C3 (F:=F) (n:=n) (fun i (_:Unit)=>(i:Int)) (fun _ _=>True) (fun _ _=>some true) a ?_ (v:=()) trivial
 .exact this
 .intro L i v _ hi c;rcases AZ i n with h|h
  .rw[step L i h];exact c () trivial h
  .obtain rfl:i=n:=by omega
   exact stop L
theorem Dg{α:Type}{l:List α}{i:Nat}(h:i<l.length):l.drop i=l[i]::l.drop (i+1):=List.drop_eq_getElem_cons h
theorem Ks{σ γ:Type}{F:(σ->AA γ)->σ->AA γ}(I:σ->Prop)(μ:σ->Nat)(Q:γ->Prop)
 (step:∀(L:σ->AA γ) x,I x->(∀y,I y->μ y<μ x->∃r,L y=some r/\Q r)->∃r,F L x=some r/\Q r):∀n x,I x->μ x<n->∃r,BD F n x=some r/\Q r
 |0,x,_,h=>by omega|n+1,x,hI,e=>by
  rw[EP];exact step _ x hI fun y a c=>Ks I μ Q step n y a (by omega)
theorem Pz{τ σ γ:Type}{F:(τ->AA γ)->τ->AA γ}(st:Nat->σ->τ)(I:Nat->σ->Prop)(Q:γ->Prop){n:Nat}(B:n<2 ^ 63)
 (step:∀L i v,I i v->i<=n->(∀a,I (i+1) a->i<n->∃r,L (st (i+1) a)=some r/\Q r)->∃r,F L (st i v)=some r/\Q r) {v:σ} (c:I 0 v):∃r,BD F big (st 0 v)=some r/\Q r:=by
 have key:∀(m i k:Nat) (v:σ),i+m=n->m<k->I i v->∃r,BD F k (st i v)=some r/\Q r:=by
  intro m
  induction m with
  |zero=>
   intro i k v hi q h;obtain⟨k,rfl⟩:∃j,k=j+1:=⟨k-1,by omega⟩;rw[EP];exact step _ i v h (by omega) fun a _ g=>by omega
  |succ m y=>
   intro i k v hi q h;obtain⟨k,rfl⟩:∃j,k=j+1:=⟨k-1,by omega⟩;rw[EP];exact step _ i v h (by omega) fun a e g=>y (i+1) k a (by omega) (by omega) e
 exact key n 0 big v (by omega) (JK _ (by omega)) c
def inB(a b c:Int):Bool:=decide (b<=a/\a<=c)
theorem CA{a b c:Int}:inB a b c=true↔b<=a/\a<=c:=by grind[inB]
theorem Gk(a b c:Int):Eh a b c=some (inB a b c):=by
 grind[Eh,dF,inB,BQ,AV]
theorem Fb(a b c:Int):C5 a b c=some (inB a b c):=by
 grind[C5,WL,inB,BQ,AV]
theorem Xs(a b:Int):Mv a b=some (inB a 0 (w64 (b-1))):=by unfold Mv;rw[Fb,AB]
theorem CX(a b:Bool):br a (some b) (some false)=some (a&&b):=by cases a<;>rfl
theorem AJF(a b:Bool):br a (some true) (some b)=some (a||b):=by cases a<;>rfl
theorem Hg(a b:Bool):br a (some false) (some b)=some (!a&&b):=by cases a<;>rfl
theorem WA{γ:Type}(a:Bool)(x:AA γ):br a x x=x:=by cases a<;>rfl
def Iu(p:Nat->Bool):Nat->Nat->Bool|_,0=>true|i,m+1=>p i&&Iu p (i+1) m
theorem AEM{p:Nat->Bool}:∀{m i:Nat},Iu p i m=true↔∀k,i<=k->k<i+m->p k=true
 |0,i=>by simp[Iu];omega|m+1,i=>by
  unfold Iu;rw[AF,AEM]
  grind
theorem JY{p:Nat->Bool}{n:Nat}:Iu p 0 n=true↔∀k,k<n->p k=true:=by
 grind[AEM]
theorem J1{n:Nat}{F:(Int->AA Bool)->Int->AA Bool}{E:AA Bool}(p:Nat->Bool)(a:n<2 ^ 63)
 (step:∀L (i:Nat),i<n->F L (i:Int)=br (p i) (L ((i+1:Nat):Int)) (some false)) (stop:∀L,F L (n:Int)=E):BD F big 0=br (Iu p 0 n) E (some false):=by
 have:=C3 (F:=F) (n:=n) (fun i (_:Unit)=>(i:Int)) (fun _ _=>True) (fun i _=>br (Iu p i (n-i)) E (some false)) a ?_ (v:=()) trivial
 .exact this
 .intro L i v _ hi c;rcases AZ i n with h|h
  .rw[step L i h,c () trivial h,show n-i=(n-(i+1))+1 by omega,show Iu p i (n-(i+1)+1)=(p i&&Iu p (i+1) (n-(i+1))) from rfl];cases p i<;>rfl
  .obtain rfl:i=n:=by omega
   rw[stop,EB];rfl
theorem APy{α:Type}(l:List α)(p:α->Bool)(q:Nat->Bool)(h:∀k (a:k<l.length),q k=p l[k]):Iu q 0 l.length=l.all p:=by
 grind[JY,List.getElem_of_mem]
theorem B9{i n:Nat}(h:i<n):decide ((i:Int)<(n:Int))=true:=by rw[decide_eq_true_iff];omega
theorem Cr(n:Nat):decide ((n:Int)<(n:Int))=false:=by rw[decide_eq_false_iff_not];omega
theorem pc{α:Type}{l:List α}{F:(Int->AA Bool)->Int->AA Bool}{E:AA Bool}(p:α->Bool)(a:l.length<2 ^ 63)
 (step:∀L (i:Nat) (h:i<l.length),F L (i:Int)=br (p l[i]) (L (w64 ((i:Int)+1))) (some false)) (stop:∀L,F L (l.length:Int)=E):BD F big 0=br (l.all p) E (some false):=by
 have:=J1 (F:=F) (n:=l.length) (E:=E) (fun i=>match l[i]? with|some x=>p x|none=>true) a ?_ stop
 .grind[APy]
 .intro L i h;rw[step L i h,Bn h a];simp[h]
def Dz(r:Aa):Bool:=inB r.AY.length 1 4&&(inB r.CS 1 5&&(inB r.Room 1 10&&(inB r.BE 1 6&&(inB r.CE 1 12&&(r.AY.all (fun x=>inB x 1 60)&&(inB r.Bz 1 8&&(inB r.Rest 0 8&&(inB r.CY 1 4&&inB r.Cu 1 3))))))))
theorem IH{r:Aa}(c:r.AY.length<2 ^ 62):ue r=some (Dz r):=by
 have a:∀b,Qg r b=some (!b&&(r.AY.all (fun x=>inB x 1 60)&&(inB r.Bz 1 8&&(inB r.Rest 0 8&&(inB r.CY 1 4&&inB r.Cu 1 3))))):=by
  intro b;unfold Qg;rw[pc (l:=r.AY) (fun x=>inB x 1 60) (E:=some (inB r.Bz 1 8&&(inB r.Rest 0 8&&(inB r.CY 1 4&&inB r.Cu 1 3)))) (by omega) ?_ ?_,CX,Hg]
  .intro L i h;unfold uf;rw[B9 h,BP,BG h,AB,Gk,AB,BK]
  .intro L;unfold uf AJd WK;rw[Cr,Bb];simp only[AV,Gk,AB,CX]
 unfold ue;simp only[Gk,AB,BK,AV,a,Bs,Bm,CX,Df];rfl
theorem HD{r:Aa}(a:r.AY.length<2 ^ 62):WM r=some (Dz r):=by
 unfold WM;rw[Fb,AB,BK];rw[pc (l:=r.AY) (fun x=>inB x 1 60) (E:=some (inB r.CS 1 5&&(inB r.Room 1 10&&(inB r.BE 1 6&&(inB r.CE 1 12&&(inB r.Bz 1 8&&(inB r.CY 1 4&&(inB r.Cu 1 3&&inB r.Rest 0 8)))))))) (by omega) ?_ ?_,CX,CX]
 .unfold Dz;congr 1;ac_rfl
 .intro L i h;unfold eV;rw[B9 h,BP,BG h,AB,Fb,AB,BK]
 .intro L;unfold eV AAf Kc;rw[Cr,Bb];simp only[AV,Fb,AB,CX]
theorem CI{r:Aa}(h:Dz r=true):(1<=r.AY.length/\r.AY.length<=4)/\(1<=r.CS/\r.CS<=5)/\(1<=r.Room/\r.Room<=10)/\(1<=r.BE/\r.BE<=6)/\(1<=r.CE/\r.CE<=12)/\(∀x∈r.AY,1<=x/\x<=60)/\(1<=r.Bz/\r.Bz<=8)/\(0<=r.Rest/\r.Rest<=8)/\(1<=r.CY/\r.CY<=4)/\(1<=r.Cu/\r.Cu<=3):=by
 grind[Dz,CA]
def Dq(r:Aa)(p:AU)(now:Int):Bool:=
 Dz r&&(inB now 0 1000000&&(inB p.Id 1 999&&(inB p.Ab 0 (w64 ((r.AY.length:Int)-1))&&(inB p.Bu (-1) (w64 ((r.AY.length:Int)-1))&&(!(p.Bu==p.Ab)&&(inB p.BE 1 r.BE&&(inB p.DJ 0 (w64 (r.CS-1))&&(inB p.Since 0 now&&(inB p.A0 1 1000000&&(inB p.Dh 0 (w64 (r.CY-1))&&(((p.State==1)&&inB p.C7 0 (w64 (now+r.Rest)))||((p.State==2)&&inB p.C7 1 (w64 (now+r.Bz))))))))))))))
theorem NI{r:Aa}(e:r.AY.length<2 ^ 62)(p:AU)(now:Int):AFQ r p now=some (Dq r p now):=by
 have c:∀b,Qh r p now b=some (!b&&(((p.State==1)&&inB p.C7 0 (w64 (now+r.Rest)))||((p.State==2)&&inB p.C7 1 (w64 (now+r.Bz))))):=by
  intro b;unfold Qh Tv;simp only[Gk,AB,AV,CX,AJF];cases p.State==1<;>cases b<;>rfl
 have a:∀b,OW r p now b=some (!b&&(inB p.BE 1 r.BE&&(inB p.DJ 0 (w64 (r.CS-1))&&(inB p.Since 0 now&&(inB p.A0 1 1000000&&(inB p.Dh 0 (w64 (r.CY-1))&&(((p.State==1)&&inB p.C7 0 (w64 (now+r.Rest)))||((p.State==2)&&inB p.C7 1 (w64 (now+r.Bz)))))))))):=by
  intro b;unfold OW;simp only[Gk,AB,AV,BK,c,Bs,Bm,CX,Hg,Df]
 unfold AFQ;simp only[IH e,Gk,AB,AV,BK,a,Bs,Bm,CX];rfl
theorem M9{r:Aa}(e:r.AY.length<2 ^ 62)(p:AU)(now:Int):eW r p now=some (Dq r p now):=by
 have c:∀b,Nn r p now b=some (!b&&(((p.State==1)&&inB p.C7 0 (w64 (now+r.Rest)))||((p.State==2)&&inB p.C7 1 (w64 (now+r.Bz))))):=by
  intro b;unfold Nn Pc;simp only[Fb,AB,AV,CX,AJF];cases p.State==1<;>cases b<;>rfl
 have a:∀b,MA r p now b=some (!b&&(inB p.BE 1 r.BE&&(inB p.DJ 0 (w64 (r.CS-1))&&(inB p.Since 0 now&&(inB p.A0 1 1000000&&(inB p.Dh 0 (w64 (r.CY-1))&&(((p.State==1)&&inB p.C7 0 (w64 (now+r.Rest)))||((p.State==2)&&inB p.C7 1 (w64 (now+r.Bz)))))))))):=by
  intro b;unfold MA;simp only[Fb,Xs,AB,AV,BK,c,Bs,Bm,CX,Hg,Df]
 unfold eW;simp only[HD e,Fb,Xs,AB,AV,BK,a,Bs,Bm,CX];rfl
def aA(r:Aa)(tier waited:Int):Int:=if 0>w64 (tier-w64 (waited.tdiv r.CE)) then 0 else w64 (tier-w64 (waited.tdiv r.CE))
theorem N3(a b:Int):OL a b=some (if a>b then a else b):=by
 unfold OL;rw[BQ];split<;>rfl
theorem zR{r:Aa}(a:r.CE≠0)(t w:Int):AWI r t w=some (aA r t w):=by
 unfold AWI;rw[B8 a,N3,AB];rfl
theorem sZ(r:Aa)(t w:Int):0<=aA r t w:=by unfold aA;split<;>omega
theorem E2{r:Aa}{p:AU}{now:Int}(h:Dq r p now=true):Dz r=true/\(0<=now/\now<=1000000)/\(1<=p.Id/\p.Id<=999)/\(0<=p.Ab/\p.Ab<=r.AY.length-1)/\(-1<=p.Bu/\p.Bu<=r.AY.length-1)/\p.Bu≠p.Ab/\(1<=p.BE/\p.BE<=r.BE)/\(0<=p.DJ/\p.DJ<=r.CS-1)/\(0<=p.Since/\p.Since<=now)/\(1<=p.A0/\p.A0<=1000000)/\(0<=p.Dh/\p.Dh<=r.CY-1)/\(p.State=1/\0<=p.C7/\p.C7<=now+r.Rest\/p.State=2/\1<=p.C7/\p.C7<=now+r.Bz):=by
 grind[Dq,CA,CI,A2]
def Ip(r:Aa)(p:AU)(now:Int):Int:=if Dq r p now=true then aA r p.DJ (w64 (now-p.Since)) else -1
theorem zG{r:Aa}(a:r.AY.length<2 ^ 62)(p:AU)(now:Int):AWJ r p now=some (Ip r p now):=by
 unfold AWJ Ip;rw[NI a,AB,BK,Bi];split
 .rename_i h;have:=(CI (E2 h).1).2.2.2.2.1;rw[zR (by omega),AB]
 .rfl
theorem xm{r:Aa}(c:r.AY.length<2 ^ 62)(p:AU)(now:Int):AJf r p now=some (Ip r p now):=by
 unfold AJf Ip;rw[M9 c,AB,BK,Bi];split
 .rename_i h;have a:=E2 h;have j:=CI a.1;unfold AQN WQ;rw[HD c,a.1,AB,BK,BP,Xs,AB,BK];have e:inB p.DJ 0 (w64 (r.CS-1))=true:=by rw[CA,A2 (by omega) (by omega)];omega
  have g:decide (w64 (now-p.Since)<0)=false:=by rw[A2 (by omega) (by omega)];simp;omega
  rw[e,BP,AV,g,Bb,B8 (by omega),AB,AW rfl]
  grind[aA]
 .rfl
def E4(r:Aa)(p:AU)(now:Int):Au×Bool:=if Dq r p now=true/\p.State=1 then (⟨Ip r p now,p.A0,p.Id,p.BE⟩,true) else (⟨0,0,0,0⟩,false)
theorem YW{r:Aa}(a:r.AY.length<2 ^ 62)(p:AU)(now:Int):ANP r p now=some (E4 r p now):=by
 unfold ANP uw E4;rw[zG a,AB,BQ,AV,AV,BP];by_cases h:Dq r p now=true
 .have:=sZ r p.DJ (w64 (now-p.Since))
  grind[Ip,Bi]
 grind[Ip]
theorem M8{r:Aa}(a:r.AY.length<2 ^ 62)(p:AU)(now:Int):py r p now=some (E4 r p now):=by
 grind[py,fE,E4,M9,AB,Bi,AV,xm]
def Ed(l:BI):Bool:=inB l.Total 1 60&&(inB l.Dv 0 l.Total&&(inB l.FA 0 l.Total&&(inB l.Fm 0 l.Total&&((w64 (w64 (l.Dv+l.FA)+l.Fm)==l.Total)&&inB l.F8 0 l.Fm))))
theorem PL(l:BI):AFR l=some (Ed l):=by
 unfold AFR Qi Ed;simp only[Gk,AB,AV,CX]
theorem GO(l:BI):MC l=some (Ed l):=by
 unfold MC No Ed;simp only[Fb,AB,AV,CX]
def Fz(a:Bp):Bool:=decide ((a.Data.length:Int)<=20000)&&inB a.Safe 0 a.Data.length
theorem HH(a:Bp):cP a=some (Fz a):=by
 unfold cP ua Fz;simp only[Gk,AB,AV,CX]
theorem GN(a:Bp):Pg a=some (Fz a):=by
 unfold Pg fZ Fz;simp only[Fb,AB,AV,CX]
def II(s:BZ):Bool:=Fz s.Log&&(Fz s.DW&&Fz s.Odd)
theorem RU(s:BZ):ANJ s=some (II s):=by
 unfold ANJ dE II;simp only[HH,AB,AV,CX]
theorem Xo(s:BZ):AA0 s=some (II s):=by
 unfold AA0 WY II;simp only[GN,AB,AV,CX]
section
variable{α:Type}(lt:α->α->Bool)
def put(x:α):List α->List α| []=>[x]|z::l=>if lt z x=true then z::put x l else x::z::l
def ins(x:α):List α->List α| []=>[x]|z::l=>if lt x z=true then x::z::l else z::ins x l
structure Swo:Prop where
 uE:∀a b,lt a b=true->lt b a=false
 neg:∀a b c,lt a c=true->lt a b=true\/lt b c=true
def DZ(l:List α):List α:=l.foldr (put lt) []
variable {lt}
theorem Swo.trans(h:Swo lt){a b c:α}(g:lt a b=true)(j:lt b c=true):lt a c=true:=by
 rcases h.neg a c b g with e|e
 .exact e
 .rw[h.uE _ _ j]at e;cases e
theorem AMI(h:Swo lt)(x y:α):∀l,ins lt x (put lt y l)=put lt y (ins lt x l)
 | []=>by simp only[put,ins]|z::l=>by
  cases c:lt z y with
  |true=>
   cases a:lt x z with
   |true=>simp only[put,ins,c,a,h.trans a c,if_true]|false=>simp[put,ins,c,a,AMI h x y l]
  |false=>
   cases a:lt x y with
   |true=>
    have e:lt x z=true:=(h.neg x z y a).resolve_right (by simp[c]);simp[put,ins,c,a,e]
   |false=>
    grind[put,ins]
theorem yq(h:Swo lt)(j:∀a b,lt a b=false->lt b a=false->a=b)(x y:α):∀l,put lt x (put lt y l)=put lt y (put lt x l)
 | []=>by
  simp only[put];cases c:lt y x with
  |true=>simp[h.uE _ _ c]|false=>
   cases e:lt x y with
   |true=>simp|false=>simp[j _ _ c e]
 |z::l=>by
  cases c:lt z y with
  |true=>
   cases e:lt z x with
   |true=>simp only[put,c,e,if_true];rw[yq h j x y l]|false=>
    have g:lt x y=true:=(h.neg z x y c).resolve_left (by simp[e]);simp[put,c,e,g]
  |false=>
   cases e:lt z x with
   |true=>
    have g:lt y x=true:=(h.neg z y x e).resolve_left (by simp[c]);simp[put,c,e,g]
   |false=>
    cases g:lt y x with
    |true=>simp[put,c,e,g,h.uE _ _ g]|false=>
     cases q:lt x y with
     |true=>simp[put,c,e,g,q]|false=>simp[j _ _ g q]
theorem rz(h:Swo lt):∀(l acc:List α) (a:α),l.foldl (fun s x=>ins lt x s) (put lt a acc)=put lt a (l.foldl (fun s x=>ins lt x s) acc)| [],_,_=>rfl|x::l,acc,a=>by rw[B0,AMI h,rz h l,B0]
theorem sQ(h:Swo lt):∀l:List α,l.foldl (fun s x=>ins lt x s) []=DZ lt l
 | []=>rfl|a::l=>by
  rw[B0,show ins lt a []=put lt a [] from rfl,rz h,sQ h l];rfl
theorem sA(h:Swo lt)(c:∀a b,lt a b=false->lt b a=false->a=b):∀(l acc:List α) (a:α),l.foldl (fun s x=>put lt x s) (put lt a acc)=put lt a (l.foldl (fun s x=>put lt x s) acc)| [],_,_=>rfl|x::l,acc,a=>by rw[B0,yq h c,sA h c l,B0]
theorem Z7(h:Swo lt)(c:∀a b,lt a b=false->lt b a=false->a=b):∀l:List α,l.foldl (fun s x=>put lt x s) []=DZ lt l| []=>rfl|a::l=>by rw[B0,sA h c,Z7 h c l];rfl
theorem Ft(x:α):∀l,(put lt x l).length=l.length+1| []=>rfl|z::l=>by unfold put;split<;>simp[Ft x l]
theorem AMF(x:α):∀l,(ins lt x l).length=l.length+1| []=>rfl|z::l=>by unfold ins;split<;>simp[AMF x l]
theorem JN:∀l:List α,(DZ lt l).length=l.length
 | []=>rfl|a::l=>by
  have:=JN l;unfold DZ at this ⊢;rw[KX,Ft,this];rfl
theorem UH{x a:α}:∀{l},a∈put lt x l↔a=x\/a∈l
 | []=>by simp[put]|z::l=>by
  unfold put;split
  .rw[Ag,UH,Ag]
   grind
  .simp
theorem AMG{x a:α}:∀{l},a∈ins lt x l↔a=x\/a∈l
 | []=>by simp[ins]|z::l=>by
  unfold ins;split
  .simp
  .rw[Ag,AMG,Ag]
   grind
theorem P4{a:α}:∀{l:List α},a∈DZ lt l↔a∈l
 | []=>by simp[DZ]|z::l=>by
  have:=P4 (a:=a) (l:=l);unfold DZ at this ⊢;rw[KX,UH,this,Ag]
def Srt(lt:α->α->Bool)(l:List α):Prop:=l.Pairwise fun a b=>lt b a=false
theorem AMJ(h:Swo lt)(x:α):∀l,Srt lt l->Srt lt (ins lt x l)
 | [],_=>by simp[ins,Srt]|z::l,a=>by
  unfold Srt at a;rw[BV]at a;unfold ins Srt;split
  .rename_i g;rw[BV,BV];refine⟨?_,a⟩;intro b c;rcases Ag.1 c with rfl|c
   .exact h.uE _ _ g
   .cases e:lt b x with|false=>rfl|true=>exact absurd (h.trans e g) (by simp[a.1 b c])
  .rename_i g;rw[BV];refine⟨?_,AMJ h x l a.2⟩
   grind[AMG]
theorem Z4{x:α}{e:List α}(h:∀b∈e,lt x b=true):∀{s1:List α},(∀a∈s1,lt x a=false)->ins lt x (s1++e)=s1++x::e
 | [],_=>by
  cases e with
  |nil=>rfl|cons b s=>unfold ins;rw[CB];simp[h b Bg]
 |a::s1,g=>by
  rw[Ew];unfold ins;rw[g a Bg,AR (by simp),Z4 h fun c j=>g c (List.mem_cons_of_mem _ j)];rfl
theorem Z3{γ:Type}(h:Swo lt){G:(List α×Int->AA γ)->List α×Int->AA γ}{E:List α->AA γ}{x:α}{r:List α}{M:Nat}
 (I:∀L t z w,t.length<M->lt x z=true->G L (t++z::x::w,((t.length+1:Nat):Int))=L (t++x::z::w,(t.length:Int)))
 (J:∀L t z w,t.length<M->lt x z=false->G L (t++z::x::w,((t.length+1:Nat):Int))=E (t++z::x::w)) (O:∀L w,G L (x::w,0)=E (x::w)) :
 ∀(k N:Nat) (s1 c:List α),s1.length=k->k<=M->k<N->(∀b∈c,lt x b=true)->Srt lt s1->BD G N (s1++x::(c++r),(k:Int))=E (ins lt x (s1++c)++r)
 |k,0,s1,c,q,hM,hN,y,j=>by omega|0,N+1,s1,c,q,hM,hN,y,j=>by
  obtain rfl:=List.eq_nil_of_length_eq_zero q;rw[EP,CB,Z4 (s1:=[]) y (by simp)];exact O _ _
 |k+1,N+1,s1,c,q,hM,hN,y,j=>by
  rcases List.eq_nil_or_concat s1 with rfl|⟨t,z,rfl⟩
  .simp at q
  simp only[List.concat_eq_append]at q j ⊢;have S:t.length=k:=by simpa using q
  have Q:Srt lt t/\∀a∈t,lt z a=false:=by
   unfold Srt at j ⊢;rw[List.pairwise_append]at j;exact⟨j.1,fun a g=>j.2.2 a g z (by simp)⟩
  rw[EP];subst S;cases H:lt x z with
  |true=>
   have e:t++[z]++x::(c++r)=t++z::x::(c++r):=by simp
   rw[e,I _ _ _ _ (by omega) H];have:=Z3 (r:=r) h I J O t.length N t (z::c) rfl (by omega) (by omega) (by simpa[H] using y) Q.1;rw[Ew]at this;rw[this];simp
  |false=>
   have e:t++[z]++x::(c++r)=t++z::x::(c++r):=by simp
   rw[e,J _ _ _ _ (by omega) H,Z4 y ?_]
   .simp
   .intro a g;rw[List.mem_append]at g;rcases g with g|g
    .cases e:lt x a with
     |false=>rfl|true=>
      rcases h.neg x z a e with B|B
      .rw[H]at B;cases B
      .rw[Q.2 a g]at B;cases B
    .rw[List.mem_singleton]at g;subst g;exact H
theorem sP(h:Swo lt){F:(List α×Int->AA (List α))->List α×Int->AA (List α)}{c:List α}(E:c.length<2 ^ 62)
 (step:∀L s x r,s.length+1+r.length=c.length->0<s.length->Srt lt s->F L (s++x::r,(s.length:Int))=L (ins lt x s++r,((s.length+1:Nat):Int)))
 (stop:∀L v (i:Nat),c.length<=i->F L (v,(i:Int))=some v):BD F big (c,1)=some (DZ lt c):=by
 cases c with
 |nil=>
  have:=R9 0 (by omega);obtain⟨n,y⟩:=this;rw[y,Nat.add_zero,EP];exact stop _ _ 1 (by simp)
 |cons a l=>
  have:=C3 (F:=F) (n:=l.length) (fun i (v:List α×List α)=>(v.1++v.2,((i+1:Nat):Int))) (fun i v=>v.1.length=i+1/\v.2.length+i=l.length/\Srt lt v.1) (fun i v=>some (v.2.foldl (fun s x=>ins lt x s) v.1)) (by simp at E;omega) ?_ (v:=([a],l)) ⟨rfl,rfl,by simp[Srt]⟩
  .rw[<-sQ h];exact this
  .rintro L i ⟨s,r⟩ ⟨g,e,j⟩ hi q;dsimp only at g e j q ⊢;cases r with
   |nil=>
    rw[stop _ _ _ (by simp at e ⊢;omega)];simp
   |cons x r=>
    have B:s.length+1+r.length=(a::l).length:=by simp at e ⊢;omega
    rw[<-g,step L s x r B (by omega) j,B0];have:=q (ins lt x s,r) ⟨by dsimp only;rw[AMF,g],by dsimp only;simp at e ⊢;omega,AMJ h x s j⟩ (by simp at e;omega);rw[<-this,g]
theorem TN{γ:Type}{F:(Int->AA γ)->Int->AA γ}{l:List α}{x:α}(J:List α->AA γ)(g:l.length<2 ^ 62)
 (step:∀L (i:Nat) (h:i<l.length),F L (i:Int)=br (lt l[i] x) (L (w64 ((i:Int)+1))) (J (l.take i++x::l.drop i)))
 (stop:∀L,F L (l.length:Int)=J (l++[x])):BD F big 0=J (put lt x l):=by
 refine(C3 (n:=l.length) (fun i (_:Unit)=>(i:Int)) (fun _ _=>True) (fun i _=>J (l.take i++put lt x (l.drop i))) (by omega) ?_ (v:=()) trivial).trans (by simp);intro L i _ _ hi c;rcases AZ i l.length with h|h
 .rw[step L i h,Bn h (by omega),Dg h,put];cases e:lt l[i] x with
  |true=>
   have a:l.take (i+1)=l.take i++[l[i]]:=by rw[CR,AS h];rfl
   rw[BP,c () trivial h,a,List.append_assoc];rfl
  |false=>rfl
 grind[put]
end
theorem V4{α:Type}(t w:List α)(z:α):at? (t++z::w) (t.length:Int)=some z:=by rw[Jw];simp
theorem V5{α:Type}(t w:List α)(z x:α):at? (t++z::x::w) ((t.length+1:Nat):Int)=some x:=by rw[Jw];simp
theorem AEi{α:Type}(t w:List α)(z a:α):(t++z::w).set t.length a=t++a::w:=by simp
theorem AEj{α:Type}(t w:List α)(z x a:α):(t++z::x::w).set (t.length+1) a=t++z::a::w:=by
 rw[List.set_append_right _ _ (by omega),show t.length+1-t.length=1 by omega];rfl
theorem Ju(n:Nat)(h:0<n)(a:n<2 ^ 63):w64 ((n:Int)-1)=((n-1:Nat):Int):=by grind[A2]
theorem uQ(a b:Int):eZ a b=some (if a<b then -1 else if a>b then 1 else 0):=by
 grind[eZ,AJe,AB,BQ]
def ltE(a b:Au):Bool:=decide (a.Level<b.Level)||((a.Level==b.Level)&&decide (a.A0<b.A0))
theorem T7{a b:Au}:ltE a b=true↔a.Level<b.Level\/a.Level=b.Level/\a.A0<b.A0:=by simp[ltE]
theorem ATB{a b:Au}:ltE a b=false↔¬(a.Level<b.Level\/a.Level=b.Level/\a.A0<b.A0):=by rw[<-T7];simp
def ltP(a b:BY):Bool:=decide (a.At<b.At)||((a.At==b.At)&&decide (a.Id<b.Id))
theorem Q7{a b:BY}:ltP a b=true↔a.At<b.At\/a.At=b.At/\a.Id<b.Id:=by simp[ltP]
theorem ml{a b:BY}:ltP a b=false↔¬(a.At<b.At\/a.At=b.At/\a.Id<b.Id):=by rw[<-Q7];simp
theorem dg:Swo ltE:=⟨fun a b h=>by rw[T7]at h;rw[ATB];omega,fun a b c h=>by rw[T7]at *;rw[T7];omega⟩
theorem FF:Swo ltP:=⟨fun a b h=>by rw[Q7]at h;rw[ml];omega,fun a b c h=>by rw[Q7]at *;rw[Q7];omega⟩
theorem dh(a b:BY)(c:ltP a b=false)(e:ltP b a=false):a=b:=by
 rw[ml]at c e;obtain⟨x,y⟩:=a;obtain⟨z,w⟩:=b
 grind
theorem TV(a b:Au):AQd a b=some (ltE a b):=by
 unfold AQd dH ltE;simp only[AV,CX,AJF]
theorem cH(a b:BY):AQw a b=some (ltP a b):=by
 unfold AQw dI ltP;simp only[AV,CX,AJF]
theorem P2(a b:Au):∃c,Ub a b=some c/\decide (c<0)=ltE a b:=by
 unfold Ub;rw[uQ,AB,Bi,uQ,AB];refine⟨if a.Level<b.Level then -1 else if a.Level>b.Level then 1 else if a.A0<b.A0 then -1 else if a.A0>b.A0 then 1 else 0,?_,?_⟩
 .split<;>split<;>simp_all
 grind[T7]
theorem Sz(a b:Au):AAh a b=some (ltE a b):=by
 unfold AAh;obtain⟨c,e,g⟩:=P2 a b;rw[e,AB,g]
theorem NR(a b:BY):∃c,SI a b=some c/\decide (c<0)=ltP a b/\decide (c>0)=ltP b a:=by
 unfold SI;rw[uQ,AB,Bi,uQ,AB];refine⟨if a.At<b.At then -1 else if a.At>b.At then 1 else if a.Id<b.Id then -1 else if a.Id>b.Id then 1 else 0,?_,?_,?_⟩
 .split<;>split<;>simp_all
 .grind[Q7]
 grind[Q7]
theorem AZx{l:List Au}(H:l.length<2 ^ 62):AJg l 0 l.length=some (DZ ltE l):=by
 unfold AJg DQ;refine sP dg H ?_ ?_
 .intro L s x r J O g;unfold Dk;dsimp only;rw[B9 (by omega),BP];have:=Z3 (G:=Dl Ub 0 L s.length) (E:=fun v=>L (v,((s.length+1:Nat):Int))) (x:=x) (r:=r) (M:=s.length) dg ?_ ?_ ?_ s.length big s [] rfl (by omega) (JK _ (by omega)) (by simp) g
  .rw[CB,KW]at this;exact this
  all_goals unfold Dl Dj ER
  .intro L' t z w I B;obtain⟨c,q,a⟩:=P2 x z;have e:=Ju (t.length+1) (by omega) (by omega);have h:((t.length+1:Nat):Int)>0:=by omega
   dsimp only;have y:c<0:=by rw[B,decide_eq_true_iff]at a;exact a
   simp only[BQ,AV,e,Cq,V4,V5,AB,q,AEi,AEj,Ac,h,y,if_true]
  .intro L' t z w I B;obtain⟨c,q,a⟩:=P2 x z;have e:=Ju (t.length+1) (by omega) (by omega);have h:((t.length+1:Nat):Int)>0:=by omega
   have j:=Bn (i:=s.length) (n:=s.length+1) (by omega) (by omega);dsimp only;have y:¬c<0:=by rw[B,decide_eq_false_iff_not]at a;exact a
   simp only[BQ,AV,e,Cq,V4,V5,AB,q,h,y,if_true,if_false,j]
  .intro L' w;have j:=Bn (i:=s.length) (n:=s.length+1) (by omega) (by omega);dsimp only;rw[BQ,AR (by omega),AV,Bb,AV,j]
 grind[Dk,BQ]
theorem AXp{l:List BY}(H:l.length<2 ^ 62):AAb l 0 l.length=some (DZ ltP l):=by
 unfold AAb DQ;refine sP FF H ?_ ?_
 .intro L s x r J O g;unfold Dk;dsimp only;rw[B9 (by omega),BP];have:=Z3 (G:=Dl SI 0 L s.length) (E:=fun v=>L (v,((s.length+1:Nat):Int))) (x:=x) (r:=r) (M:=s.length) FF ?_ ?_ ?_ s.length big s [] rfl (by omega) (JK _ (by omega)) (by simp) g
  .rw[CB,KW]at this;exact this
  all_goals unfold Dl Dj ER
  .intro L' t z w I B;obtain⟨c,q,a,_⟩:=NR x z;have e:=Ju (t.length+1) (by omega) (by omega);have h:((t.length+1:Nat):Int)>0:=by omega
   dsimp only;have y:c<0:=by rw[B,decide_eq_true_iff]at a;exact a
   simp only[BQ,AV,e,Cq,V4,V5,AB,q,AEi,AEj,Ac,h,y,if_true]
  .intro L' t z w I B;obtain⟨c,q,a,_⟩:=NR x z;have e:=Ju (t.length+1) (by omega) (by omega);have h:((t.length+1:Nat):Int)>0:=by omega
   have j:=Bn (i:=s.length) (n:=s.length+1) (by omega) (by omega);dsimp only;have y:¬c<0:=by rw[B,decide_eq_false_iff_not]at a;exact a
   simp only[BQ,AV,e,Cq,V4,V5,AB,q,h,y,if_true,if_false,j]
  .intro L' w;have j:=Bn (i:=s.length) (n:=s.length+1) (by omega) (by omega);dsimp only;rw[BQ,AR (by omega),AV,Bb,AV,j]
 grind[Dk,BQ]
theorem AXL{l:List Au}(e:l.length<=19):pn l=some (DZ ltE l):=by
 unfold pn AJh GU;obtain⟨n,c⟩:=R9 0 (by omega);have a:=AZx (l:=l) (by omega);unfold AJg at a
 grind[F3,EP,BQ,AV,Hh,AB,F4]
theorem AXM{l:List BY}(e:l.length<=19):qC l=some (DZ ltP l):=by
 unfold qC AJl GU;obtain⟨n,c⟩:=R9 0 (by omega);have a:=AXp (l:=l) (by omega);unfold AAb at a
 grind[F3,EP,BQ,AV,Hh,AB,F4]
set_option maxRecDepth 100000
theorem AV2{n:Nat}(a:n<256):∃c,AJb (IntKind.u64.wrap (n:Int))=some c:=by
 have e:IntKind.u64.wrap (n:Int)=n:=by
  simp only[IntKind.wrap,IntKind.bits,IntKind.signed];simp;omega
 unfold AJb AQJ;rw[e,BQ,AR (by omega),AV];unfold eR;dsimp only;rw[BQ,AR (by omega),AV];unfold eS;dsimp only;rw[BQ,AR (by omega),AV];unfold eT;dsimp only;rw[BG (UInt8.toNat_lt (toB (n:Int))),AB,AB];exact⟨_,rfl⟩
theorem AZA{l:List BY}(g:l.length<=12):AJc l=some (DZ ltP l):=by
 unfold AJc AQK;obtain⟨c,a⟩:=AV2 (n:=l.length) (by omega);rw[a,AB];obtain⟨n,e⟩:=R9 0 (by omega)
 grind[EP,AAc,BQ,A2,AXp,AB]
section
variable{α σ γ:Type}
theorem Sj{l:List α}{F:(σ×Int->AA γ)->σ×Int->AA γ}(f:σ->α->σ)(I:Nat->σ->Prop)(J:σ->AA γ)(c:l.length<2 ^ 63)
 (step:∀L i (h:i<l.length) v,I i v->F L (v,(i:Int))=L (f v l[i],w64 ((i:Int)+1))) (FY:∀i (h:i<l.length) v,I i v->I (i+1) (f v l[i]))
 (stop:∀L v,I l.length v->F L (v,(l.length:Int))=J v) {a:σ} (g:I 0 a):BD F big (a,0)=J (l.foldl f a):=by
 refine(C3 (n:=l.length) (fun i (v:σ)=>(v,(i:Int))) I (fun i v=>J ((l.drop i).foldl f v)) c ?_ g);intro L i v e hi j;rcases AZ i l.length with h|h
 .rw[step L i h v e,Bn h c,Dg h,B0];exact j _ (FY i h v e) h
 grind
def ES(eq:α->α->Bool):List α->List α->Bool| [],[]=>true|x::a,y::b=>eq x y&&ES eq a b|_,_=>false
theorem Hs{eq:α->α->Bool}(c:∀x y,eq x y=true↔x=y):∀{a b:List α},ES eq a b=true↔a=b| [],[]=>by simp[ES]| [],y::b=>by simp[ES]|x::a,[]=>by simp[ES]|x::a,y::b=>by rw[ES,AF,c,Hs c,Cb]
theorem nn{eq:α->α->Bool}:∀{a b:List α},a.length≠b.length->ES eq a b=false| [],[],h=>by simp at h| [],y::b,h=>rfl|x::a,[],h=>rfl|x::a,y::b,h=>by rw[ES,nn (a:=a) (b:=b) (by simpa using h),DK]
theorem AVC{eq:α->α->Bool}{a b:List α}{F:(Int->AA Bool)->Int->AA Bool}(c:a.length<2 ^ 63)(e:a.length=b.length)
 (step:∀L i (h:i<a.length) (j:i<b.length),F L (i:Int)=br (!(eq a[i] b[i])) (some false) (L (w64 ((i:Int)+1)))) (stop:∀L,F L (a.length:Int)=some true):BD F big 0=some (ES eq a b):=by
 refine(C3 (n:=a.length) (fun i (_:Unit)=>(i:Int)) (fun _ _=>True) (fun i _=>some (ES eq (a.drop i) (b.drop i))) c ?_ (v:=()) trivial);intro L i _ _ hi g;rcases AZ i a.length with h|h
 .rw[step L i h (by omega),Bn h c,Dg h,Dg (l:=b) (i:=i) (by omega),ES,BK];cases eq a[i] b[i] with|true=>rw[BP,g () trivial h];rfl|false=>rfl
 .obtain rfl:i=a.length:=by omega
  rw[stop,Ey,List.drop_eq_nil_of_le (by omega)];rfl
theorem PI{eq:α->α->Bool}{a b:List α}{F:(Int->AA Bool)->Int->AA Bool}(c:a.length<2 ^ 63)
 (step:∀L i (h:i<a.length) (g:i<b.length),F L (i:Int)=br (!(eq a[i] b[i])) (some false) (L (w64 ((i:Int)+1)))) (stop:∀L,F L (a.length:Int)=some true) :
 br ((a.length:Int) != (b.length:Int)) (some false) (BD F big 0)=some (ES eq a b):=by
 by_cases h:a.length=b.length
 .have e:((a.length:Int) != (b.length:Int))=false:=by simp[h]
  rw[e,Bb,AVC c h step stop]
 .have e:((a.length:Int) != (b.length:Int))=true:=by simp;omega
  rw[e,BP,nn h]
def atF(p:α->Bool):List α->Nat->Int| [],_=>-1|x::l,i=>if p x=true then (i:Int) else atF p l (i+1)
theorem Qb{p:α->Bool}{l:List α}{F:(Int->AA Int)->Int->AA Int}(a:l.length<2 ^ 63)
 (step:∀L i (h:i<l.length),F L (i:Int)=br (p l[i]) (some (i:Int)) (L (w64 ((i:Int)+1)))) (stop:∀L,F L (l.length:Int)=some (-1)):BD F big 0=some (atF p l 0):=by
 refine(C3 (n:=l.length) (fun i (_:Unit)=>(i:Int)) (fun _ _=>True) (fun i _=>some (atF p (l.drop i) i)) a ?_ (v:=()) trivial);intro L i _ _ hi c;rcases AZ i l.length with h|h
 .rw[step L i h,Bn h a,Dg h,atF];cases p l[i] with|true=>rfl|false=>rw[Bb,c () trivial h];simp
 .obtain rfl:i=l.length:=by omega
  rw[stop,Ey];rfl
theorem eC{p:α->Bool}:∀{l:List α} {s:Nat},atF p l s<0↔∀x∈l,p x=false
 | [],s=>by simp[atF]|x::l,s=>by
  unfold atF;split
  .rename_i h;simp[h]
  .rename_i h;rw[eC];simp[h]
theorem AAC{p:α->Bool}:∀{l:List α} {i:Nat} (s:Nat) (h:i<l.length),p l[i]=true->((atF p l s != ((s+i:Nat):Int))=decide (atF p (l.take i) s>=0))
 | [],i,s,h,a=>by simp at h|x::l,0,s,h,a=>by
  simp only[List.getElem_cons_zero]at a;simp[atF,a]
 |x::l,i+1,s,h,a=>by
  simp only[List.getElem_cons_succ]at a;rw[List.take_succ_cons,atF,atF];by_cases c:p x=true
  .grind
  .rw[AR c,AR c];have:=AAC (l:=l) (i:=i) (s+1) (by simpa using h) a;rw[<-this,show s+1+i=s+(i+1) by omega]
end
def MX(cabin:Int)(n:Int)(p:AU):Int:=if (p.Ab==cabin)=true then n+1 else n
def DS(l:List AU)(cabin:Int):Int:=l.foldl (MX cabin) 0
def Uj(cabin:Int)(n:Int)(p:AU):Int:=if ((p.State==2)&&((p.Ab==cabin)&&inB p.BE 1 6))=true then n+p.BE else n
def JA(l:List AU)(cabin:Int):Int:=l.foldl (Uj cabin) 0
def U5(cabin:Int)(n:Int)(p:AU):Int:=if ((p.Bu==cabin)&&inB p.BE 1 6)=true then n+p.BE else n
def Ja(l:List AU)(cabin:Int):Int:=l.foldl (U5 cabin) 0
theorem ph(cabin:Int)(p:AU){i:Nat}{n:Int}(h:0<=n/\n<=i):0<=MX cabin n p/\MX cabin n p<=((i+1:Nat):Int):=by unfold MX;split<;>omega
theorem Xk(cabin:Int)(p:AU){i:Nat}{n:Int}(h:0<=n/\n<=6*i):0<=Uj cabin n p/\Uj cabin n p<=6*((i+1:Nat):Int):=by
 grind[Uj,CA]
theorem Yj(cabin:Int)(p:AU){i:Nat}{n:Int}(h:0<=n/\n<=6*i):0<=U5 cabin n p/\U5 cabin n p<=6*((i+1:Nat):Int):=by
 grind[U5,CA]
theorem RP{l:List AU}(e:l.length<2 ^ 58)(c:Int):ANI l c=some (DS l c):=by
 unfold ANI;refine Sj (l:=l) (MX c) (fun i n=>0<=n/\n<=i) some (by omega) ?_ (fun i h v a=>ph c _ a) ?_ (by simp)
 .grind[uY,uX,MX,BG,AB,AV,A2,Bi]
 grind[uY,AJY,Bb,AV]
theorem Qy{l:List AU}(e:l.length<2 ^ 58)(c:Int):po l c=some (DS l c):=by
 unfold po;refine Sj (l:=l) (MX c) (fun i n=>0<=n/\n<=i) some (by omega) ?_ (fun i h v a=>ph c _ a) ?_ (by simp)
 .grind[eY,eX,MX,BG,AB,AV,A2,Bi]
 grind[eY,AAg,Bb,AV]
theorem cD{l:List AU}(y:l.length<2 ^ 58)(c:Int):AQI l c=some (JA l c):=by
 unfold AQI;refine Sj (l:=l) (Uj c) (fun i n=>0<=n/\n<=6*i) some (by omega) ?_ (fun i h v a=>Xk c _ a) ?_ (by simp)
 .intro L i h v a;have e:=Xk c l[i] a;unfold Uj at e ⊢;unfold uS dB uR;dsimp only;rw[B9 h,BP];simp only[BG h,AB,AV,Gk,Bb];cases g:l[i].State==2<;>cases j:l[i].Ab==c<;>cases q:inB l[i].BE 1 6<;>simp only[BP,Bb,Cm,Bm,if_true,BM,if_false]
  grind[A2]
 grind[uS,AJW,Bb,AV]
theorem ba{l:List AU}(y:l.length<2 ^ 58)(c:Int):fO l c=some (JA l c):=by
 unfold fO;refine Sj (l:=l) (Uj c) (fun i n=>0<=n/\n<=6*i) some (by omega) ?_ (fun i h v a=>Xk c _ a) ?_ (by simp)
 .intro L i h v a;have e:=Xk c l[i] a;unfold Uj at e ⊢;unfold fQ WW fP;dsimp only;rw[B9 h,BP];simp only[BG h,AB,AV,Fb,Bb];cases g:l[i].State==2<;>cases j:l[i].Ab==c<;>cases q:inB l[i].BE 1 6<;>simp only[BP,Bb,Cm,Bm,if_true,BM,if_false]
  grind[A2]
 grind[fQ,AAw,Bb,AV]
theorem cF{l:List AU}(q:l.length<2 ^ 58)(c:Int):ANH l c=some (Ja l c):=by
 unfold ANH;refine Sj (l:=l) (U5 c) (fun i n=>0<=n/\n<=6*i) some (by omega) ?_ (fun i h v a=>Yj c _ a) ?_ (by simp)
 .intro L i h v a;have e:=Yj c l[i] a;unfold U5 at e ⊢;unfold uW uU uV;dsimp only;rw[B9 h,BP];simp only[BG h,AB,AV,Gk,Bb];cases g:l[i].Bu==c<;>cases j:inB l[i].BE 1 6<;>simp only[BP,Bb,Cm,Bm,if_true,BM,if_false]
  grind[A2]
 grind[uW,AJX,Bb,AV]
theorem bg{l:List AU}(q:l.length<2 ^ 58)(c:Int):ax l c=some (Ja l c):=by
 unfold ax;refine Sj (l:=l) (U5 c) (fun i n=>0<=n/\n<=6*i) some (by omega) ?_ (fun i h v a=>Yj c _ a) ?_ (by simp)
 .intro L i h v a;have e:=Yj c l[i] a;unfold U5 at e ⊢;unfold fT fR fS;dsimp only;rw[B9 h,BP];simp only[BG h,AB,AV,Fb,Bb];cases g:l[i].Bu==c<;>cases j:inB l[i].BE 1 6<;>simp only[BP,Bb,Cm,Bm,if_true,BM,if_false]
  grind[A2]
 grind[fT,AAx,Bb,AV]
def eqE(x y:Au):Bool:=x.Level==y.Level&&(x.A0==y.A0&&(x.Id==y.Id&&(x.BE==y.BE&&true)))
theorem dT(x y:Au):eqE x y=true↔x=y:=by
 obtain⟨a,b,c,d⟩:=x;obtain⟨e,f,g,h⟩:=y;simp[eqE]
def eqP(x y:BY):Bool:=x.At==y.At&&(x.Id==y.Id&&true)
theorem dU(x y:BY):eqP x y=true↔x=y:=by
 obtain⟨a,b⟩:=x;obtain⟨c,d⟩:=y;simp[eqP]
theorem RT{a b:List Au}(e:a.length<2 ^ 62):AQx a b=some (ES eqE a b):=by
 unfold AQx;refine PI (by omega) ?_ ?_
 .intro L i h c;unfold vC;rw[B9 h,BP,BG h,AB,BG c,AB];rfl
 grind[vC,ALg,Bb,AV]
theorem bY{a b:List Au}(e:a.length<2 ^ 62):AAZ a b=some (ES eqE a b):=by
 unfold AAZ;refine PI (by omega) ?_ ?_
 .intro L i h c;unfold eQ;rw[B9 h,BP,BG h,AB,BG c,AB];rfl
 grind[eQ,AAa,Bb,AV]
theorem PN{a b:List BY}(e:a.length<2 ^ 62):AQz a b=some (ES eqP a b):=by
 unfold AQz;refine PI (by omega) ?_ ?_
 .intro L i h c;unfold vJ;rw[B9 h,BP,BG h,AB,BG c,AB];rfl
 grind[vJ,ALj,Bb,AV]
theorem bZ{a b:List BY}(e:a.length<2 ^ 62):AAu a b=some (ES eqP a b):=by
 unfold AAu;refine PI (by omega) ?_ ?_
 .intro L i h c;unfold fN;rw[B9 h,BP,BG h,AB,BG c,AB];rfl
 grind[fN,AAv,Bb,AV]
def Jq{α:Type}(l:List α)(k:Nat)(p:α->Bool):Bool:=match l[k]? with|some x=>p x|none=>true
theorem CO{α:Type}{l:List α}{k:Nat}(h:k<l.length)(p:α->Bool):Jq l k p=p l[k]:=by unfold Jq;rw[AS h]
theorem dQ(i:Nat):decide ((i:Int)>0)=decide (0<i):=by rw[decide_eq_decide];omega
theorem NB{α:Type}(l:List α)(x:α):l.length+[x].length=l.length+1:=rfl
theorem RR{l:List Au}(a:l.length<2 ^ 62)(id:Int):ANN l id=some (atF (fun x=>x.Id==id) l 0):=by
 grind[ANN,Qb,AKu,BP,BG,AB,AKt,Bb,AV]
theorem Xm{l:List Au}(a:l.length<2 ^ 62)(id:Int):pq l id=some (atF (fun x=>x.Id==id) l 0):=by
 unfold pq AQM
 grind[Qb,AB,AAj,AQL,BP,BG,AAi,Bb,AV]
def AQ7(e:Au):Bool:=inB e.Level 0 4&&(inB e.A0 1 1000000&&(inB e.Id 1 999&&inB e.BE 1 6))
def qAt(l:List Au)(i:Nat):Bool:=
 Jq l i fun e=>AQ7 e&&((if 0<i then Jq l (i-1) (fun d=>ltE d e) else true)&&!(decide (atF (fun x=>x.Id==e.Id) (l.take i) 0>=0)))
def Kw(l:List Au):Bool:=!(decide ((l.length:Int)>10))&&Iu (qAt l) 0 l.length
theorem zJ(l:List Au)(g:l.length<2 ^ 62):AWH l=some (Kw l):=by
 unfold AWH Kw;rw[J1 (n:=l.length) (E:=some true) (qAt l) (by omega) ?_ ?_,CX,CP,Hg]
 .intro L i h;have q:=Bn h (show l.length<2 ^ 63 by omega);unfold qAt;rw[CO h];unfold um;rw[B9 h,BP,BG h,AB];have a:∀b,XM L i b=br (!b) (L ((i+1:Nat):Int)) (some false):=by intro b;unfold XM;rw[q];cases b<;>rfl
  have j:(atF (fun x=>x.Id==l[i].Id) l 0 != (i:Int))=decide (atF (fun x=>x.Id==l[i].Id) (l.take i) 0>=0):=by
   grind[AAC]
  have e:∀b,T0 l L i l[i] b=br (!b&&((if 0<i then Jq l (i-1) (fun d=>ltE d l[i]) else true)&&!(decide (atF (fun x=>x.Id==l[i].Id) (l.take i) 0>=0)))) (L ((i+1:Nat):Int)) (some false):=by
   intro b;unfold T0;rw[dQ];by_cases c:0<i
   .rw[decide_eq_true c,BP,AW c,Ju i c (by omega),BG (show i-1<l.length by omega),AB,TV,AB,BK,RR g,AB,AV,AV,a,a,j,CO (by omega)];cases b<;>cases ltE l[i-1] l[i]<;>rfl
   .rw[decide_eq_false c,Bb,AR c,RR g,AB,AV,a,j];cases b<;>rfl
  unfold AQ7;simp only[Gk,AB,AV,BK,e];generalize ((if 0<i then Jq l (i-1) (fun d=>ltE d l[i]) else true)&&!(decide (atF (fun x=>x.Id==l[i].Id) (l.take i) 0>=0)))=X;cases inB l[i].Level 0 4<;>cases inB l[i].A0 1 1000000<;>cases inB l[i].Id 1 999<;>cases inB l[i].BE 1 6<;>rfl
 grind[um,ALM,Bb,AV]
theorem Xn(l:List Au)(q:l.length<2 ^ 62):pt l=some (Kw l):=by
 unfold pt Kw;rw[J1 (n:=l.length) (E:=some true) (qAt l) (by omega) ?_ ?_,CX,CP,Hg]
 .intro L i h;have g:=Bn h (show l.length<2 ^ 63 by omega);unfold qAt;rw[CO h];unfold eu;rw[B9 h,BP,BG h,AB];have a:∀b,Pd L i b=br (!b) (L ((i+1:Nat):Int)) (some false):=by intro b;unfold Pd;rw[g];cases b<;>rfl
  have e:∀b,SH L i l[i] b=br (!b&&AQ7 l[i]) (L ((i+1:Nat):Int)) (some false):=by
   intro b;unfold SH AQ7;have c:w64 (5-1)=4:=by rw[A2]<;>omega
   simp only[Fb,Xs,AB,AV,BK,a,c];cases b<;>cases inB l[i].Level 0 4<;>cases inB l[i].A0 1 1000000<;>cases inB l[i].Id 1 999<;>cases inB l[i].BE 1 6<;>rfl
  have j:(0:Int)<=(i:Int)/\(i:Int)<=(l.length:Int):=by omega
  grind[BP,Ju,BG,AB,Sz,B8,Xm,AV,CO,ltE,Bb]
 grind[eu,AAk,Bb,AV]
theorem Tb{l:List Au}(a:l.length<=lim):ux l=some l:=by
 unfold ux;rw[B8 (by omega),CB]
theorem oM{l:List Au}(c:l.length+1<=lim)(e:Au):AFS l e=some (put ltE e l):=by
 have a:∀i:Nat,i<=l.length->uy l e i=some (l.take i++e::l.drop i):=by
  grind[uy,B8,Tb,AB,Ce]
 have hlim:lim=268435456:=rfl;unfold AFS;refine TN some (by omega) ?_ ?_
 .grind[uz,dO,BP,BG,AB,TV,AV]
 grind[uz,dO,Bb,AV]
theorem Vn{l:List BY}(c:l.length+1<=lim)(e:BY):ANR l e=some (put ltP e l):=by
 have a:∀i:Nat,i<=l.length->vD l e i=some (l.take i++e::l.drop i):=by
  grind[vD,B8]
 have hlim:lim=268435456:=rfl;unfold ANR;refine TN some (by omega) ?_ ?_
 .grind[vE,dP,BP,BG,AB,cH,AV]
 grind[vE,dP,Bb,AV]
def Lf(r:Aa)(cabin now:Int)(p:AU):AA Au:=if ((E4 r p now).2&&(p.Ab==cabin))=true then some (E4 r p now).1 else none
def Dy(r:Aa)(l:List AU)(cabin now:Int):List Au:=DZ ltE (l.filterMap (Lf r cabin now))
theorem RS{r:Aa}(j:r.AY.length<2 ^ 62){l:List AU}(G:l.length<=1048576)(c now:Int):ANQ r l c now=some (Dy r l c now):=by
 have hlim:lim=268435456:=rfl;have e:w64 ((l.length:Int)-1)=(l.length:Int)-1-((0:Nat):Int):=by rw[A2 (by omega) (by omega)];omega
 unfold ANQ Dy;rw[e];refine(C3 (n:=l.length) (fun i (v:List Au)=>(v,(l.length:Int)-1-(i:Int))) (fun i v=>v.length<=i) (fun i v=>some ((((l.take (l.length-i)).filterMap (Lf r c now)).foldr (put ltE) v))) (by omega) ?_ (v:=[]) (by simp)).trans (by rw[Nat.sub_zero,List.take_length];rfl);intro L i v H hi I;unfold ALf vA vB;dsimp only;rcases AZ i l.length with h|h
 .obtain⟨k,E⟩:∃k,l.length=i+(k+1):=⟨l.length-i-1,by omega⟩;have g:(l.length:Int)-1-(i:Int)=(k:Int):=by omega
  have a:k<l.length:=by omega
  have y:w64 ((k:Int)-1)=(l.length:Int)-1-((i+1:Nat):Int):=by rw[A2 (by omega) (by omega)];omega
  have B:l.take (l.length-i)=l.take (l.length-(i+1))++[l[k]]:=by
   rw[show l.length-i=k+1 by omega,show l.length-(i+1)=k by omega,CR,AS a];rfl
  rw[g,BQ,AW (by omega)];simp only[BG a,AB,YW j,Ce,zc,AV,Bb];have key:(br (E4 r l[k] now).2 (br (l[k].Ab==c) (bd (AFS v (E4 r l[k] now).1) fun q=>L (q,w64 ((k:Int)-1))) (L (v,w64 ((k:Int)-1)))) (L (v,w64 ((k:Int)-1))))=some ((((l.take (l.length-i)).filterMap (Lf r c now)).foldr (put ltE) v)):=by
   grind[oM,AB,Lf,E4,BP,Bb,Ft]
  exact key
 .obtain rfl:i=l.length:=by omega
  unfold ALe;rw[BQ,AR (by omega),AV,EB];rfl
theorem pD{α β:Type}(f:α->AA β){l:List α}{i:Nat}(h:i<l.length):(l.take (i+1)).filterMap f=(l.take i).filterMap f++(f l[i]).toList:=by
 rw[CR,AS h,List.filterMap_append];congr 1
theorem pE{α β:Type}(f:α->AA β)(l:List α)(i:Nat):((l.take i).filterMap f).length<=i:=Nat.le_trans (List.length_filterMap_le _ _) (by rw[List.length_take];omega)
theorem collect{α β γ:Type}{l:List α}(f:α->AA β){F:(List β×Int->AA γ)->List β×Int->AA γ}(J:List β->AA γ)(e:l.length<=1048576)
 (step:∀L i (h:i<l.length) v,v.length<=i->F L (v,(i:Int))=L (v++(f l[i]).toList,w64 ((i:Int)+1))) (stop:∀L v,F L (v,(l.length:Int))=J v):BD F big ([],0)=J (l.filterMap f):=by
 refine(C3 (n:=l.length) (fun i (v:List β)=>(v,(i:Int))) (fun i v=>v=(l.take i).filterMap f) (fun i v=>J (l.filterMap f)) (by omega) ?_ (by simp));intro L i v a hi c;rcases AZ i l.length with h|h
 .rw[step L i h v (by rw[a];exact pE _ _ _),Bn h (by omega)];exact c _ (by rw[a,pD f h]) h
 grind
theorem pj(c:Int):∀(l:List AU) (n:Int),l.foldl (MX c) n=n+(l.countP fun p=>p.Ab==c)
 | [],n=>by simp|p::l,n=>by
  rw[B0,pj c l,List.countP_cons]
  grind[MX]
theorem dV{β:Type}(f:AU->AA β)(c:Int)(a:∀p,(p.Ab==c)=false->f p=none):∀l:List AU,((l.filterMap f).length:Int)<=DS l c:=by
 intro l;unfold DS;rw[pj,Int.zero_add]
 induction l with
 |nil=>simp|cons p l e=>
  grind
theorem Q1{r:Aa}(e:r.AY.length<2 ^ 62){l:List AU}(a:l.length<=1048576){c:Int}(q:DS l c<=19)(now:Int):aw r l c now=some (Dy r l c now):=by
 have hlim:lim=268435456:=rfl;have y:=dV (Lf r c now) c (by intro p h;unfold Lf;rw[h,DK];rfl) l;unfold aw Dy;rw[collect (l:=l) (Lf r c now) SF a ?_ ?_]
 .unfold SF;rw[AXL (by omega),AB]
 .intro L i h v B;unfold SG WI WJ Lf;dsimp only;rw[B9 h,BP,BG h,AB,M8 e,AB,AV,AV,B8 (by rw[NB];omega),AV,AV];cases g:(E4 r l[i] now).2<;>cases j:l[i].Ab==c<;>simp
 grind[SG,Bb,AV]
def Mj(cabin:Int)(p:AU):AA BY:=if ((p.State==2)&&(p.Ab==cabin))=true then some ⟨p.C7,p.Id⟩ else none
def GP(l:List AU)(cabin:Int):List BY:=DZ ltP (l.filterMap (Mj cabin))
theorem cE{l:List AU}(e:l.length<=1048576)(c:Int):AQy l c=some (GP l c):=by
 have hlim:lim=268435456:=rfl;unfold AQy GP;rw[Sj (l:=l) (fun v p=>match Mj c p with|some x=>put ltP x v|none=>v) (fun i v=>v.length<=i) some (by omega) ?_ ?_ ?_ (by simp),<-Z7 FF dh]
 .congr 1;generalize ([]:List BY)=a;clear e
  induction l generalizing a with
  |nil=>rfl|cons p l g=>
   rw[B0,g,List.filterMap_cons];cases Mj c p<;>rfl
 .intro L i h v y;unfold vI vG vH Mj;dsimp only;rw[B9 h,BP];simp only[BG h,AB,AV,Bb,Vn (show v.length+1<=lim by omega)];cases j:l[i].State==2<;>cases q:l[i].Ab==c<;>rfl
 .grind[Ft]
 grind[vI,ALi,Bb,AV]
theorem bc{l:List AU}(a:l.length<=1048576){c:Int}(j:DS l c<=19):fM l c=some (GP l c):=by
 have hlim:lim=268435456:=rfl;have q:=dV (Mj c) c (by intro p h;unfold Mj;rw[h,DK];rfl) l;unfold fM GP;rw[collect (l:=l) (Mj c) SK a ?_ ?_]
 .unfold SK;rw[AXM (by omega),AB]
 .intro L i h v y;unfold SL WU WV Mj;dsimp only;rw[B9 h,BP,BG h,AB,AV,AV,B8 (by rw[NB];omega),AV,AV];cases e:l[i].State==2<;>cases g:l[i].Ab==c<;>simp
 grind[SL,Bb,AV]
end Lv.P
