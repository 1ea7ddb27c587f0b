/- Plain laws about what the program computes. -/
import Derived.Test.YtfokjgkkeobaiaaGreatKAS
set_option linter.all false
noncomputable section
open Bool renaming and_eq_true->AF,and_false->Dq,and_true->CN,eq_iff_iff->IS,false_and->By,false_eq_true->BJ,not_eq_false->Et,not_eq_true->DG,not_eq_true'->A8,not_false->ER,not_not->EO,not_true->Bl,true_and->CU
open Int renaming eq_ofNat_of_zero_le->Ai,ofNat_inj->Me,tdiv_eq_ediv_of_nonneg->HI,tmod_eq_emod_of_nonneg->EK,toNat_natCast->Ag
open List renaming append_assoc->BR,append_eq_nil_iff->II,append_inj->D8,append_nil->CX,cons_append->Bm,drop_drop->C3,drop_eq_getElem_cons->CM,drop_eq_nil_iff->Gf,drop_eq_nil_of_le->As,drop_left->Es,drop_left'->Cw,drop_length->Cq,drop_zero->Cu,flatMap_cons->CS,foldl_cons->Bw,foldr_cons->K3,getElem?_cons_zero->AN,getElem?_drop->Bz,getElem?_eq_getElem->AR,getElem?_eq_none->De,getElem_mem->Ak,getElem_of_mem->G6,length_append->AH,length_cons->AI,length_drop->BI,length_nil->AM,length_set->BP,length_singleton->BZ,length_take->Aj,map_append->Cx,map_cons->AK,mem_append->Bs,mem_cons->Ae,mem_cons_of_mem->Af,mem_cons_self->BK,mem_flatten->E9,nil_append->Be,pairwise_cons->Bn,pairwise_iff_getElem->Cj,take_add_one->CT,take_left'->Ce,take_length->Ch,take_of_length_le->BE,take_prefix->IA
open List.cons renaming injEq->CE
open Nat renaming add_assoc->CV,add_sub_cancel->DM,add_zero->C9,div_lt_iff_lt_mul->Cz,le_refl->Ab,le_trans->Av,lt_or_ge->Aa,mod_eq_of_lt->Ks,mul_le_mul_right->An,pow_le_pow_right->Gi,pow_succ->Hv,sub_self->Ek,sub_zero->FX,xor_lt_two_pow->D6,zero_add->Ar
open Option.some renaming injEq->AD
open Prod.mk renaming injEq->A6
namespace Lv.P
open Lv Go
variable{w:A3}{h:AE}{r:AY}{c:Ah}{e:Az}{x:Bj}{q q':Bq}{a m:Int}{b d s:List UInt8}{i k n:Nat}{α β γ σ τ:Type}{l:List α}{cmp:α->α->AA Int}
theorem U0{n:Int}(a:-9223372036854775808<=n)(c:n<9223372036854775808):IntKind.i64.wrap n=n:=by
 simp only[IntKind.wrap,IntKind.bits,IntKind.signed];simp;omega
theorem A7{n:Int}(a:-9223372036854775808<=n:=by omega)(c:n<9223372036854775808:=by omega):w64 n=n:=U0 a c
def Acx:lim=268435456:=rfl
def ifN{α:Type}{c:Prop} [Decidable c] {a b:α} (h:¬c:=by omega):(if c then a else b)=b:=AT h
def ifP{α:Type}{c:Prop} [Decidable c] {a b:α} (h:c:=by omega):(if c then a else b)=a:=AW h
def AWR{n:Int}(a:0<=n)(c:n<256):IntKind.u8.wrap n=n:=by
 simp only[IntKind.wrap,IntKind.bits,IntKind.signed];simp;omega
def ALn(h:n<256):toB (n:Int)=UInt8.ofNat n:=by
 unfold toB;rw[AWR (by omega) (by omega)];rfl
@[simp] theorem KY{α:Type}(l:List α)(i:Nat):at? l (i:Int)=l[i]?:=by simp[at?]
@[simp] theorem WY{α:Type}(l:List α):at? l 0=l[0]?:=by simp[at?]
def Jl(k:Nat)(h:k<2 ^ 64):k<big:=by have:=Kh;omega
def QE(k:Nat)(h:k<2 ^ 64):∃n,big=n+1+k:=⟨big-1-k,by have:=Kh;omega⟩
section
variable{σ γ:Type}
def ADu{F:(σ->AA γ)->σ->AA γ}(R:σ->AA γ)(I:σ->Prop)(μ:σ->Nat)
 (step:∀(L:σ->AA γ) x,I x->(∀y,I y->μ y<μ x->L y=R y)->F L x=R x):∀n x,I x->μ x<n->A9 F n x=R x
 |0,x,_,h=>by omega|n+1,x,hI,e=>by
  rw[DW];exact step _ x hI λy a c=>ADu R I μ step n y a (by omega)
def aW{F:(σ->AA γ)->σ->AA γ}(R:σ->AA γ)(I:σ->Prop)(μ:σ->Nat)
 (step:∀(L:σ->AA γ) x,I x->(∀y,I y->μ y<μ x->L y=R y)->F L x=R x) {x:σ} (hI:I x) (a:μ x<2 ^ 64):A9 F big x=R x:=
 ADu R I μ step big x hI (Jl _ a)
end
section
variable{α γ:Type}
@[simp] theorem BQ(x y:AA γ):br true x y=x:=rfl
@[simp] theorem BW(x y:AA γ):br false x y=y:=rfl
@[simp] theorem BX(p:Prop) [Decidable p] (x y:AA γ):br (decide p) x y=if p then x else y:=by unfold br;by_cases h:p<;>simp[h]
@[simp] theorem BG(b:Bool)(x y:AA γ):br (!b) x y=br b y x:=by cases b<;>rfl
@[simp] theorem AB(a:α)(f:α->AA γ):bd (some a) f=f a:=by rw[uF];rfl
@[simp] theorem AWl(f:α->AA γ):bd none f=none:=by rw[uF];rfl
@[simp] theorem AV(F:α->AA γ)(x:α):jn F x=F x:=ATi F x
theorem CD{p:Prop} [Decidable p] (h:p) (x:AA γ):gd p x=x:=by rw[AQE,AW h]
theorem Bu(b:Bool)(x y:AA γ):br b x y=if b=true then x else y:=rfl
end
def DK{F:(τ->AA γ)->τ->AA γ}(st:Nat->σ->τ)(I:Nat->σ->Prop)(R:Nat->σ->AA γ)(B:n<2 ^ 63)
 (step:∀L i v,I i v->i<=n->(∀a,I (i+1) a->i<n->L (st (i+1) a)=R (i+1) a)->F L (st i v)=R i v) {v:σ} (c:I 0 v):A9 F big (st 0 v)=R 0 v:=by
 have key:∀(m i k:Nat) (v:σ),i+m=n->m<k->I i v->A9 F k (st i v)=R i v:=by
  intro m
  induction m with
  |zero=>
   intro i k v hi q h;obtain⟨k,rfl⟩:∃j,k=j+1:=⟨k-1,by omega⟩;rw[DW];exact step _ i v h (by omega) λa _ g=>by omega
  |succ m y=>
   intro i k v hi q h;obtain⟨k,rfl⟩:∃j,k=j+1:=⟨k-1,by omega⟩;rw[DW];exact step _ i v h (by omega) λa e g=>y (i+1) k a (by omega) (by omega) e
 exact key n 0 big v (by omega) (Jl _ (by omega)) c
theorem BM(h:i<l.length):at? l (i:Int)=some l[i]:=by rw[KY,AR h]
def dec_lt{l:Nat}:decide ((i:Int)<(l:Int))=decide (i<l):=by rw[decide_eq_decide];omega
theorem Bv(h:i<n)(a:n<2 ^ 63:=by omega):w64 ((i:Int)+1)=((i+1:Nat):Int):=by rw[A7];rfl
def tz{F:(Int->AA Bool)->Int->AA Bool}(a:n<2 ^ 63)
 (step:∀L (i:Nat),i<n->F L (i:Int)=L ((i+1:Nat):Int)) (stop:∀L,F L (n:Int)=some true):A9 F big 0=some true:=by
 have:=DK (F:=F) (n:=n) (λi (_:Unit)=>(i:Int)) (λ_ _=>True) (λ_ _=>some true) a ?_ (v:=()) trivial
 .exact this
 .intro L i v _ hi c;rcases Aa i n with h|h
  .rw[step L i h];exact c () trivial h
  .obtain rfl:i=n:=by omega
   exact stop L
theorem Dt(h:i<l.length):l.drop i=l[i]::l.drop (i+1):=CM h
def LO{σ γ:Type}{F:(σ->AA γ)->σ->AA γ}(I:σ->Prop)(μ:σ->Nat)(Q:γ->Prop)
 (step:∀(L:σ->AA γ) x,I x->(∀y,I y->μ y<μ x->∃r,L y=some r/\Q r)->∃r,F L x=some r/\Q r):∀n x,I x->μ x<n->∃r,A9 F n x=some r/\Q r
 |0,x,_,h=>by omega|n+1,x,hI,e=>by
  rw[DW];exact step _ x hI λy a c=>LO I μ Q step n y a (by omega)
def Xz{F:(τ->AA γ)->τ->AA γ}(st:Nat->σ->τ)(I:Nat->σ->Prop)(Q:γ->Prop)(B:n<2 ^ 63)
 (step:∀L i v,I i v->i<=n->(∀a,I (i+1) a->i<n->∃r,L (st (i+1) a)=some r/\Q r)->∃r,F L (st i v)=some r/\Q r) {v:σ} (c:I 0 v):∃r,A9 F big (st 0 v)=some r/\Q r:=by
 have key:∀(m i k:Nat) (v:σ),i+m=n->m<k->I i v->∃r,A9 F k (st i v)=some r/\Q r:=by
  intro m
  induction m with
  |zero=>
   intro i k v hi q h;obtain⟨k,rfl⟩:∃j,k=j+1:=⟨k-1,by omega⟩;rw[DW];exact step _ i v h (by omega) λa _ g=>by omega
  |succ m y=>
   intro i k v hi q h;obtain⟨k,rfl⟩:∃j,k=j+1:=⟨k-1,by omega⟩;rw[DW];exact step _ i v h (by omega) λa e g=>y (i+1) k a (by omega) (by omega) e
 exact key n 0 big v (by omega) (Jl _ (by omega)) c
def inB(a b c:Int):Bool:=decide (b<=a/\a<=c)
theorem B9{b c:Int}:inB a b c=true↔b<=a/\a<=c:=by grind[inB]
theorem GZ(a b c:Int):Ew a b c=some (inB a b c):=by
 grind[Ew,de,inB,BX,AV]
theorem Fv(a b c:Int):DN a b c=some (inB a b c):=by
 grind[DN,Wj,inB,BX,AV]
theorem YM(a b:Int):NS a b=some (inB a 0 (w64 (b-1))):=by unfold NS;rw[Fv,AB]
theorem Ck(a b:Bool):br a (some b) (some false)=some (a&&b):=by cases a<;>rfl
def AIJ(a b:Bool):br a (some true) (some b)=some (a||b):=by cases a<;>rfl
def Hy(a b:Bool):br a (some false) (some b)=some (!a&&b):=by cases a<;>rfl
def Wa(a:Bool)(x:AA γ):br a x x=x:=by cases a<;>rfl
def JK(p:Nat->Bool):Nat->Nat->Bool|_,0=>true|i,m+1=>p i&&JK p (i+1) m
theorem AEO{p:Nat->Bool}:∀{m i:Nat},JK p i m=true↔∀k,i<=k->k<i+m->p k=true
 |0,i=>by simp[JK];omega|m+1,i=>by
  unfold JK;rw[AF,AEO]
  grind
theorem J1{p:Nat->Bool}:JK p 0 n=true↔∀k,k<n->p k=true:=by
 grind[AEO]
def Kf{F:(Int->AA Bool)->Int->AA Bool}{E:AA Bool}(p:Nat->Bool)(a:n<2 ^ 63)
 (step:∀L (i:Nat),i<n->F L (i:Int)=br (p i) (L ((i+1:Nat):Int)) (some false)) (stop:∀L,F L (n:Int)=E):A9 F big 0=br (JK p 0 n) E (some false):=by
 have:=DK (F:=F) (n:=n) (λi (_:Unit)=>(i:Int)) (λ_ _=>True) (λi _=>br (JK p i (n-i)) E (some false)) a ?_ (v:=()) trivial
 .exact this
 .intro L i v _ hi c;rcases Aa i n with h|h
  .rw[step L i h,c () trivial h,show n-i=(n-(i+1))+1 by omega,show JK p i (n-(i+1)+1)=(p i&&JK p (i+1) (n-(i+1))) from rfl];cases p i<;>rfl
  .obtain rfl:i=n:=by omega
   rw[stop,Ek];rfl
theorem AOw(l:List α)(p:α->Bool)(q:Nat->Bool)(h:∀k (a:k<l.length),q k=p l[k]):JK q 0 l.length=l.all p:=by
 grind[J1,List.getElem_of_mem]
def CF(h:i<n):decide ((i:Int)<(n:Int))=true:=by rw[decide_eq_true_iff];omega
def C2(n:Nat):decide ((n:Int)<(n:Int))=false:=by rw[decide_eq_false_iff_not];omega
def pZ{F:(Int->AA Bool)->Int->AA Bool}{E:AA Bool}(p:α->Bool)(a:l.length<2 ^ 63)
 (step:∀L (i:Nat) (h:i<l.length),F L (i:Int)=br (p l[i]) (L (w64 ((i:Int)+1))) (some false)) (stop:∀L,F L (l.length:Int)=E):A9 F big 0=br (l.all p) E (some false):=by
 have:=Kf (F:=F) (n:=l.length) (E:=E) (λi=>match l[i]? with|some x=>p x|none=>true) a ?_ stop
 .grind[AOw]
 .intro L i h;rw[step L i h,Bv h a];simp[h]
def Dp(r:AY):Bool:=inB r.AX.length 1 4&&(inB r.Cd 1 5&&(inB r.Room 1 10&&(inB r.BL 1 6&&(inB r.CK 1 12&&(r.AX.all (λx=>inB x 1 60)&&(inB r.B7 1 8&&(inB r.Rest 0 8&&(inB r.Cl 1 4&&inB r.C7 1 3))))))))
def Jp(c:r.AX.length<2 ^ 62):AAQ r=some (Dp r):=by
 have a:∀b,RO r b=some (!b&&(r.AX.all (λx=>inB x 1 60)&&(inB r.B7 1 8&&(inB r.Rest 0 8&&(inB r.Cl 1 4&&inB r.C7 1 3))))):=by
  intro b;unfold RO;rw[pZ (l:=r.AX) (λx=>inB x 1 60) (E:=some (inB r.B7 1 8&&(inB r.Rest 0 8&&(inB r.Cl 1 4&&inB r.C7 1 3)))) (by omega) ?_ ?_,Ck,Hy]
  .intro L i h;unfold ua;rw[CF h,BQ,BM h,AB,GZ,AB,BG]
  .intro L;unfold ua AIh Wi;rw[C2,BW];simp only[AV,GZ,AB,Ck]
 unfold AAQ;simp only[GZ,AB,BG,AV,a,Bl,By,Ck,EO];rfl
def HX(a:r.AX.length<2 ^ 62):Wk r=some (Dp r):=by
 unfold Wk;rw[Fv,AB,BG];rw[pZ (l:=r.AX) (λx=>inB x 1 60) (E:=some (inB r.Cd 1 5&&(inB r.Room 1 10&&(inB r.BL 1 6&&(inB r.CK 1 12&&(inB r.B7 1 8&&(inB r.Cl 1 4&&(inB r.C7 1 3&&inB r.Rest 0 8)))))))) (by omega) ?_ ?_,Ck,Ck]
 .unfold Dp;congr 1;ac_rfl
 .intro L i h;unfold fR;rw[CF h,BQ,BM h,AB,Fv,AB,BG]
 .intro L;unfold fR AAX LA;rw[C2,BW];simp only[AV,Fv,AB,Ck]
theorem CO(h:Dp r=true):(1<=r.AX.length/\r.AX.length<=4)/\(1<=r.Cd/\r.Cd<=5)/\(1<=r.Room/\r.Room<=10)/\(1<=r.BL/\r.BL<=6)/\(1<=r.CK/\r.CK<=12)/\(∀x∈r.AX,1<=x/\x<=60)/\(1<=r.B7/\r.B7<=8)/\(0<=r.Rest/\r.Rest<=8)/\(1<=r.Cl/\r.Cl<=4)/\(1<=r.C7/\r.C7<=3):=by
 grind[Dp,B9]
def D3(r:AY)(p:AU)(now:Int):Bool:=
 Dp r&&(inB now 0 1000000&&(inB p.Id 1 999&&(inB p.AZ 0 (w64 ((r.AX.length:Int)-1))&&(inB p.B0 (-1) (w64 ((r.AX.length:Int)-1))&&(!(p.B0==p.AZ)&&(inB p.BL 1 r.BL&&(inB p.DS 0 (w64 (r.Cd-1))&&(inB p.Since 0 now&&(inB p.A5 1 1000000&&(inB p.Du 0 (w64 (r.Cl-1))&&(((p.State==1)&&inB p.DO 0 (w64 (now+r.Rest)))||((p.State==2)&&inB p.DO 1 (w64 (now+r.B7))))))))))))))
theorem Nw(e:r.AX.length<2 ^ 62)(p:AU)(now:Int):AFT r p now=some (D3 r p now):=by
 have c:∀b,RP r p now b=some (!b&&(((p.State==1)&&inB p.DO 0 (w64 (now+r.Rest)))||((p.State==2)&&inB p.DO 1 (w64 (now+r.B7))))):=by
  intro b;unfold RP UU;simp only[GZ,AB,AV,Ck,AIJ];cases p.State==1<;>cases b<;>rfl
 have a:∀b,PJ r p now b=some (!b&&(inB p.BL 1 r.BL&&(inB p.DS 0 (w64 (r.Cd-1))&&(inB p.Since 0 now&&(inB p.A5 1 1000000&&(inB p.Du 0 (w64 (r.Cl-1))&&(((p.State==1)&&inB p.DO 0 (w64 (now+r.Rest)))||((p.State==2)&&inB p.DO 1 (w64 (now+r.B7)))))))))):=by
  intro b;unfold PJ;simp only[GZ,AB,AV,BG,c,Bl,By,Ck,Hy,EO]
 unfold AFT;simp only[Jp e,GZ,AB,AV,BG,a,Bl,By,Ck];rfl
theorem Nj(e:r.AX.length<2 ^ 62)(p:AU)(now:Int):fS r p now=some (D3 r p now):=by
 have c:∀b,OP r p now b=some (!b&&(((p.State==1)&&inB p.DO 0 (w64 (now+r.Rest)))||((p.State==2)&&inB p.DO 1 (w64 (now+r.B7))))):=by
  intro b;unfold OP QI;simp only[Fv,AB,AV,Ck,AIJ];cases p.State==1<;>cases b<;>rfl
 have a:∀b,Mh r p now b=some (!b&&(inB p.BL 1 r.BL&&(inB p.DS 0 (w64 (r.Cd-1))&&(inB p.Since 0 now&&(inB p.A5 1 1000000&&(inB p.Du 0 (w64 (r.Cl-1))&&(((p.State==1)&&inB p.DO 0 (w64 (now+r.Rest)))||((p.State==2)&&inB p.DO 1 (w64 (now+r.B7)))))))))):=by
  intro b;unfold Mh;simp only[Fv,YM,AB,AV,BG,c,Bl,By,Ck,Hy,EO]
 unfold fS;simp only[HX e,Fv,YM,AB,AV,BG,a,Bl,By,Ck];rfl
def aU(r:AY)(tier waited:Int):Int:=if 0>w64 (tier-w64 (waited.tdiv r.CK)) then 0 else w64 (tier-w64 (waited.tdiv r.CK))
def Of(a b:Int):O6 a b=some (if a>b then a else b):=by
 unfold O6;rw[BX];split<;>rfl
def zI(a:r.CK≠0)(t w:Int):AW3 r t w=some (aU r t w):=by
 unfold AW3;rw[CD a,Of,AB];rfl
def sT(r:AY)(t w:Int):0<=aU r t w:=by unfold aU;split<;>omega
def FF{p:AU}{now:Int}(h:D3 r p now=true):Dp r=true/\(0<=now/\now<=1000000)/\(1<=p.Id/\p.Id<=999)/\(0<=p.AZ/\p.AZ<=r.AX.length-1)/\(-1<=p.B0/\p.B0<=r.AX.length-1)/\p.B0≠p.AZ/\(1<=p.BL/\p.BL<=r.BL)/\(0<=p.DS/\p.DS<=r.Cd-1)/\(0<=p.Since/\p.Since<=now)/\(1<=p.A5/\p.A5<=1000000)/\(0<=p.Du/\p.Du<=r.Cl-1)/\(p.State=1/\0<=p.DO/\p.DO<=now+r.Rest\/p.State=2/\1<=p.DO/\p.DO<=now+r.B7):=by
 grind[D3,B9,CO,A7]
def JA(r:AY)(p:AU)(now:Int):Int:=if D3 r p now=true then aU r p.DS (w64 (now-p.Since)) else -1
def y7(a:r.AX.length<2 ^ 62)(p:AU)(now:Int):AW4 r p now=some (JA r p now):=by
 unfold AW4 JA;rw[Nw a,AB,BG,Bu];split
 .rename_i h;have:=(CO (FF h).1).2.2.2.2.1;rw[zI (by omega),AB]
 .rfl
theorem xV(c:r.AX.length<2 ^ 62)(p:AU)(now:Int):AIj r p now=some (JA r p now):=by
 unfold AIj JA;rw[Nj c,AB,BG,Bu];split
 .rename_i h;have a:=FF h;have j:=CO a.1;unfold APK Wn;rw[HX c,a.1,AB,BG,BQ,YM,AB,BG];have e:inB p.DS 0 (w64 (r.Cd-1))=true:=by rw[B9,A7];omega
  have g:decide (w64 (now-p.Since)<0)=false:=by rw[A7];simp;omega
  rw[e,BQ,AV,g,BW,CD (by omega),AB,AW rfl]
  grind[aU]
 .rfl
def FL(r:AY)(p:AU)(now:Int):A2×Bool:=if D3 r p now=true/\p.State=1 then (⟨JA r p now,p.A5,p.Id,p.BL⟩,true) else (⟨0,0,0,0⟩,false)
def Yu(a:r.AX.length<2 ^ 62)(p:AU)(now:Int):AMN r p now=some (FL r p now):=by
 unfold AMN um FL;rw[y7 a,AB,BX,AV,AV,BQ];by_cases h:D3 r p now=true
 .have:=sT r p.DS (w64 (now-p.Since))
  grind[JA,Bu]
 grind[JA]
def Ni(a:r.AX.length<2 ^ 62)(p:AU)(now:Int):px r p now=some (FL r p now):=by
 grind[px,fh,FL,Nj,AB,Bu,AV,xV]
def Ep(l:BO):Bool:=inB l.Total 1 60&&(inB l.D7 0 l.Total&&(inB l.FQ 0 l.Total&&(inB l.GB 0 l.Total&&((w64 (w64 (l.D7+l.FQ)+l.GB)==l.Total)&&inB l.Gb 0 l.GB))))
theorem P2(l:BO):AFU l=some (Ep l):=by
 unfold AFU RQ Ep;simp only[GZ,AB,AV,Ck]
theorem Gs(l:BO):Mi l=some (Ep l):=by
 unfold Mi OQ Ep;simp only[Fv,AB,AV,Ck]
def Ev(a:Bp):Bool:=decide ((a.Data.length:Int)<=20000)&&inB a.Safe 0 a.Data.length
theorem IK(a:Bp):dK a=some (Ev a):=by
 unfold dK uW Ev;simp only[GZ,AB,AV,Ck]
theorem FB(a:Bp):QM a=some (Ev a):=by
 unfold QM gO Ev;simp only[Fv,AB,AV,Ck]
def GR(s:Bj):Bool:=Ev s.Log&&(Ev s.Ec&&Ev s.Odd)
def SI(s:Bj):AMH s=some (GR s):=by
 unfold AMH db GR;simp only[IK,AB,AV,Ck]
def YI(s:Bj):AAs s=some (GR s):=by
 unfold AAs Wv GR;simp only[FB,AB,AV,Ck]
section
variable{α:Type}(lt:α->α->Bool)
def put(x:α):List α->List α| []=>[x]|z::l=>if lt z x=true then z::put x l else x::z::l
def ins(x:α):List α->List α| []=>[x]|z::l=>if lt x z=true then x::z::l else z::ins x l
structure Swo:Prop where
 uB:∀a b,lt a b=true->lt b a=false
 neg:∀a b c,lt a c=true->lt a b=true\/lt b c=true
def Dg(l:List α):List α:=l.foldr (put lt) []
variable {lt}
def Swo.trans(h:Swo lt){a b c:α}(g:lt a b=true)(j:lt b c=true):lt a c=true:=by
 rcases h.neg a c b g with e|e
 .exact e
 .rw[h.uB _ _ j]at e;cases e
def ALD(h:Swo lt)(x y:α):∀l,ins lt x (put lt y l)=put lt y (ins lt x l)
 | []=>by simp only[put,ins]|z::l=>by
  cases c:lt z y with
  |true=>
   cases a:lt x z with
   |true=>simp only[put,ins,c,a,h.trans a c,if_true]|false=>simp[put,ins,c,a,ALD h x y l]
  |false=>
   cases a:lt x y with
   |true=>
    have e:lt x z=true:=(h.neg x z y a).resolve_right (by simp[c]);simp[put,ins,c,a,e]
   |false=>
    grind[put,ins]
def yf(h:Swo lt)(j:∀a b,lt a b=false->lt b a=false->a=b)(x y:α):∀l,put lt x (put lt y l)=put lt y (put lt x l)
 | []=>by
  simp only[put];cases c:lt y x with
  |true=>simp[h.uB _ _ c]|false=>
   cases e:lt x y with
   |true=>simp|false=>simp[j _ _ c e]
 |z::l=>by
  cases c:lt z y with
  |true=>
   cases e:lt z x with
   |true=>simp only[put,c,e,if_true];rw[yf h j x y l]|false=>
    have g:lt x y=true:=(h.neg z x y c).resolve_left (by simp[e]);simp[put,c,e,g]
  |false=>
   cases e:lt z x with
   |true=>
    have g:lt y x=true:=(h.neg z y x e).resolve_left (by simp[c]);simp[put,c,e,g]
   |false=>
    cases g:lt y x with
    |true=>simp[put,c,e,g,h.uB _ _ g]|false=>
     cases q:lt x y with
     |true=>simp[put,c,e,g,q]|false=>simp[j _ _ g q]
def rp(h:Swo lt):∀(l acc:List α) (a:α),l.foldl (λs x=>ins lt x s) (put lt a acc)=put lt a (l.foldl (λs x=>ins lt x s) acc)| [],_,_=>rfl|x::l,acc,a=>by rw[Bw,ALD h,rp h l,Bw]
def sL(h:Swo lt):∀l:List α,l.foldl (λs x=>ins lt x s) []=Dg lt l
 | []=>rfl|a::l=>by
  rw[Bw,show ins lt a []=put lt a [] from rfl,rp h,sL h l];rfl
def rq(h:Swo lt)(c:∀a b,lt a b=false->lt b a=false->a=b):∀(l acc:List α) (a:α),l.foldl (λs x=>put lt x s) (put lt a acc)=put lt a (l.foldl (λs x=>put lt x s) acc)| [],_,_=>rfl|x::l,acc,a=>by rw[Bw,yf h c,rq h c l,Bw]
def aP(h:Swo lt)(c:∀a b,lt a b=false->lt b a=false->a=b):∀l:List α,l.foldl (λs x=>put lt x s) []=Dg lt l| []=>rfl|a::l=>by rw[Bw,rq h c,aP h c l];rfl
theorem GI(x:α):∀l,(put lt x l).length=l.length+1| []=>rfl|z::l=>by unfold put;split<;>simp[GI x l]
def ALA(x:α):∀l,(ins lt x l).length=l.length+1| []=>rfl|z::l=>by unfold ins;split<;>simp[ALA x l]
def Jn:∀l:List α,(Dg lt l).length=l.length
 | []=>rfl|a::l=>by
  have:=Jn l;unfold Dg at this ⊢;rw[K3,GI,this];rfl
theorem Uq{x a:α}:∀{l},a∈put lt x l↔a=x\/a∈l
 | []=>by simp[put]|z::l=>by
  unfold put;split
  .rw[Ae,Uq,Ae]
   grind
  .simp
theorem ALB{x a:α}:∀{l},a∈ins lt x l↔a=x\/a∈l
 | []=>by simp[ins]|z::l=>by
  unfold ins;split
  .simp
  .rw[Ae,ALB,Ae]
   grind
theorem Qh{a:α}:∀{l:List α},a∈Dg lt l↔a∈l
 | []=>by simp[Dg]|z::l=>by
  have:=Qh (a:=a) (l:=l);unfold Dg at this ⊢;rw[K3,Uq,this,Ae]
def Srt(lt:α->α->Bool)(l:List α):Prop:=l.Pairwise λa b=>lt b a=false
def ALE(h:Swo lt)(x:α):∀l,Srt lt l->Srt lt (ins lt x l)
 | [],_=>by simp[ins,Srt]|z::l,a=>by
  unfold Srt at a;rw[Bn]at a;unfold ins Srt;split
  .rename_i g;rw[Bn,Bn];refine⟨?_,a⟩;intro b c;rcases Ae.1 c with rfl|c
   .exact h.uB _ _ g
   .cases e:lt b x with|false=>rfl|true=>exact absurd (h.trans e g) (by simp[a.1 b c])
  .rename_i g;rw[Bn];refine⟨?_,ALE h x l a.2⟩
   grind[ALB]
def aK{x:α}{e:List α}(h:∀b∈e,lt x b=true):∀{s1:List α},(∀a∈s1,lt x a=false)->ins lt x (s1++e)=s1++x::e
 | [],_=>by
  cases e with
  |nil=>rfl|cons b s=>unfold ins;rw[Be];simp[h b BK]
 |a::s1,g=>by
  rw[Bm];unfold ins;rw[g a BK,AT (by simp),aK h λc j=>g c (Af _ j)];rfl
def aJ{γ:Type}(h:Swo lt){G:(List α×Int->AA γ)->List α×Int->AA γ}{E:List α->AA γ}{x:α}{r:List α}{M:Nat}
 (I:∀L t z w,t.length<M->lt x z=true->G L (t++z::x::w,((t.length+1:Nat):Int))=L (t++x::z::w,(t.length:Int)))
 (J:∀L t z w,t.length<M->lt x z=false->G L (t++z::x::w,((t.length+1:Nat):Int))=E (t++z::x::w)) (O:∀L w,G L (x::w,0)=E (x::w)) :
 ∀(k N:Nat) (s1 c:List α),s1.length=k->k<=M->k<N->(∀b∈c,lt x b=true)->Srt lt s1->A9 G N (s1++x::(c++r),(k:Int))=E (ins lt x (s1++c)++r)
 |k,0,s1,c,q,hM,hN,y,j=>by omega|0,N+1,s1,c,q,hM,hN,y,j=>by
  obtain rfl:=List.eq_nil_of_length_eq_zero q;rw[DW,Be,aK (s1:=[]) y (by simp)];exact O _ _
 |k+1,N+1,s1,c,q,hM,hN,y,j=>by
  rcases List.eq_nil_or_concat s1 with rfl|⟨t,z,rfl⟩
  .simp at q
  simp only[List.concat_eq_append]at q j ⊢;have X:t.length=k:=by simpa using q
  have S:Srt lt t/\∀a∈t,lt z a=false:=by
   unfold Srt at j ⊢;rw[List.pairwise_append]at j;exact⟨j.1,λa g=>j.2.2 a g z (by simp)⟩
  rw[DW];subst X;cases H:lt x z with
  |true=>
   have e:t++[z]++x::(c++r)=t++z::x::(c++r):=by simp
   rw[e,I _ _ _ _ (by omega) H];have:=aJ (r:=r) h I J O t.length N t (z::c) rfl (by omega) (by omega) (by simpa[H] using y) S.1;rw[Bm]at this;rw[this];simp
  |false=>
   have e:t++[z]++x::(c++r)=t++z::x::(c++r):=by simp
   rw[e,J _ _ _ _ (by omega) H,aK y ?_]
   .simp
   .intro a g;rw[Bs]at g;rcases g with g|g
    .cases e:lt x a with
     |false=>rfl|true=>
      rcases h.neg x z a e with B|B
      .rw[H]at B;cases B
      .rw[S.2 a g]at B;cases B
    .rw[List.mem_singleton]at g;subst g;exact H
def sK(h:Swo lt){F:(List α×Int->AA (List α))->List α×Int->AA (List α)}{v0:List α}(B:v0.length<2 ^ 62)
 (step:∀L s x r,s.length+1+r.length=v0.length->0<s.length->Srt lt s->F L (s++x::r,(s.length:Int))=L (ins lt x s++r,((s.length+1:Nat):Int)))
 (stop:∀L v (i:Nat),v0.length<=i->F L (v,(i:Int))=some v):A9 F big (v0,1)=some (Dg lt v0):=by
 cases v0 with
 |nil=>
  have:=QE 0 (by omega);have ⟨n,q⟩:=this;rw[q,C9,DW];exact stop _ _ 1 (by simp)
 |cons a l=>
  have:=DK (F:=F) (n:=l.length) (λi (v:List α×List α)=>(v.1++v.2,((i+1:Nat):Int))) (λi v=>v.1.length=i+1/\v.2.length+i=l.length/\Srt lt v.1) (λi v=>some (v.2.foldl (λs x=>ins lt x s) v.1)) (by simp at B;omega) ?_ (v:=([a],l)) ⟨rfl,rfl,by simp[Srt]⟩
  .rw[<-sL h];exact this
  .rintro L i ⟨s,r⟩ ⟨e,c,g⟩ hi j;dsimp only at e c g j ⊢;cases r with
   |nil=>
    rw[stop _ _ _ (by simp at c ⊢;omega)];simp
   |cons x r=>
    have y:s.length+1+r.length=(a::l).length:=by simp at c ⊢;omega
    rw[<-e,step L s x r y (by omega) g,Bw];have:=j (ins lt x s,r) ⟨by dsimp only;rw[ALA,e],by dsimp only;simp at c ⊢;omega,ALE h x s g⟩ (by simp at c;omega);rw[<-this,e]
def Tz{γ:Type}{F:(Int->AA γ)->Int->AA γ}{l:List α}{x:α}(J:List α->AA γ)(g:l.length<2 ^ 62)
 (step:∀L (i:Nat) (h:i<l.length),F L (i:Int)=br (lt l[i] x) (L (w64 ((i:Int)+1))) (J (l.take i++x::l.drop i)))
 (stop:∀L,F L (l.length:Int)=J (l++[x])):A9 F big 0=J (put lt x l):=by
 refine(DK (n:=l.length) (λi (_:Unit)=>(i:Int)) (λ_ _=>True) (λi _=>J (l.take i++put lt x (l.drop i))) (by omega) ?_ (v:=()) trivial).trans (by simp);intro L i _ _ hi c;rcases Aa i l.length with h|h
 .rw[step L i h,Bv h,Dt h,put];cases e:lt l[i] x with
  |true=>
   have a:l.take (i+1)=l.take i++[l[i]]:=by rw[CT,AR h];rfl
   rw[BQ,c () trivial h,a,BR];rfl
  |false=>rfl
 grind[put]
end
def WV(t w:List α)(z:α):at? (t++z::w) (t.length:Int)=some z:=by rw[KY];simp
def WW(t w:List α)(z x:α):at? (t++z::x::w) ((t.length+1:Nat):Int)=some x:=by rw[KY];simp
def AEk(t w:List α)(z a:α):(t++z::w).set t.length a=t++a::w:=by simp
def AEl(t w:List α)(z x a:α):(t++z::x::w).set (t.length+1) a=t++z::a::w:=by
 rw[List.set_append_right _ _ (by omega),show t.length+1-t.length=1 by omega];rfl
theorem KW(n:Nat)(h:0<n)(a:n<2 ^ 63):w64 ((n:Int)-1)=((n-1:Nat):Int):=by grind[A7]
def uM(a b:Int):fV a b=some (if a<b then -1 else if a>b then 1 else 0):=by
 grind[fV,AIi,AB,BX]
def ltE(a b:A2):Bool:=decide (a.Level<b.Level)||((a.Level==b.Level)&&decide (a.A5<b.A5))
theorem Uh{a b:A2}:ltE a b=true↔a.Level<b.Level\/a.Level=b.Level/\a.A5<b.A5:=by simp[ltE]
def ATv{a b:A2}:ltE a b=false↔¬(a.Level<b.Level\/a.Level=b.Level/\a.A5<b.A5):=by rw[<-Uh];simp
def ltP(a b:Bf):Bool:=decide (a.At<b.At)||((a.At==b.At)&&decide (a.Id<b.Id))
theorem Rt{a b:Bf}:ltP a b=true↔a.At<b.At\/a.At=b.At/\a.Id<b.Id:=by simp[ltP]
def me{a b:Bf}:ltP a b=false↔¬(a.At<b.At\/a.At=b.At/\a.Id<b.Id):=by rw[<-Rt];simp
theorem eH:Swo ltE:=⟨λa b h=>by rw[Uh]at h;rw[ATv];omega,λa b c h=>by rw[Uh]at *;rw[Uh];omega⟩
theorem FV:Swo ltP:=⟨λa b h=>by rw[Rt]at h;rw[me];omega,λa b c h=>by rw[Rt]at *;rw[Rt];omega⟩
def eJ(a b:Bf)(c:ltP a b=false)(e:ltP b a=false):a=b:=by
 rw[me]at c e;have ⟨x,y⟩:=a;have ⟨z,w⟩:=b
 grind
theorem T5(a b:A2):APb a b=some (ltE a b):=by
 unfold APb dh ltE;simp only[AV,Ck,AIJ]
theorem dE(a b:Bf):APu a b=some (ltP a b):=by
 unfold APu di ltP;simp only[AV,Ck,AIJ]
def Qe(a b:A2):∃c,U8 a b=some c/\decide (c<0)=ltE a b:=by
 unfold U8;rw[uM,AB,Bu,uM,AB];refine⟨if a.Level<b.Level then -1 else if a.Level>b.Level then 1 else if a.A5<b.A5 then -1 else if a.A5>b.A5 then 1 else 0,?_,?_⟩
 .split<;>split<;>simp_all
 grind[Uh]
theorem Te(a b:A2):AAZ a b=some (ltE a b):=by
 unfold AAZ;have ⟨c,e,g⟩:=Qe a b;rw[e,AB,g]
def N8(a b:Bf):∃c,Sx a b=some c/\decide (c<0)=ltP a b/\decide (c>0)=ltP b a:=by
 unfold Sx;rw[uM,AB,Bu,uM,AB];refine⟨if a.At<b.At then -1 else if a.At>b.At then 1 else if a.Id<b.Id then -1 else if a.Id>b.Id then 1 else 0,?_,?_,?_⟩
 .split<;>split<;>simp_all
 .grind[Rt]
 grind[Rt]
def Aa7{l:List A2}(H:l.length<2 ^ 62):AIk l 0 l.length=some (Dg ltE l):=by
 unfold AIk DX;refine sK eH H ?_ ?_
 .intro L s x r J O g;unfold Dx;dsimp only;rw[CF (by omega),BQ];have:=aJ (G:=Dy U8 0 L s.length) (E:=λv=>L (v,((s.length+1:Nat):Int))) (x:=x) (r:=r) (M:=s.length) eH ?_ ?_ ?_ s.length big s [] rfl (by omega) (Jl _ (by omega)) (by simp) g
  .rw[Be,CX]at this;exact this
  all_goals unfold Dy Dw Ea
  .intro L' t z w I B;have ⟨c,q,a⟩:=Qe x z;have e:=KW (t.length+1) (by omega) (by omega);have h:((t.length+1:Nat):Int)>0:=by omega
   dsimp only;have y:c<0:=by rw[B,decide_eq_true_iff]at a;exact a
   simp only[BX,AV,e,DM,WV,WW,AB,q,AEk,AEl,Ag,h,y,if_true]
  .intro L' t z w I B;have ⟨c,q,a⟩:=Qe x z;have e:=KW (t.length+1) (by omega) (by omega);have h:((t.length+1:Nat):Int)>0:=by omega
   have j:=Bv (i:=s.length) (n:=s.length+1) (by omega) (by omega);dsimp only;have y:¬c<0:=by rw[B,decide_eq_false_iff_not]at a;exact a
   simp only[BX,AV,e,DM,WV,WW,AB,q,h,y,if_true,if_false,j]
  .intro L' w;have j:=Bv (i:=s.length) (n:=s.length+1) (by omega) (by omega);dsimp only;rw[BX,ifN,AV,BW,AV,j]
 grind[Dx,BX]
theorem AYi{l:List Bf}(H:l.length<2 ^ 62):AAT l 0 l.length=some (Dg ltP l):=by
 unfold AAT DX;refine sK FV H ?_ ?_
 .intro L s x r J O g;unfold Dx;dsimp only;rw[CF (by omega),BQ];have:=aJ (G:=Dy Sx 0 L s.length) (E:=λv=>L (v,((s.length+1:Nat):Int))) (x:=x) (r:=r) (M:=s.length) FV ?_ ?_ ?_ s.length big s [] rfl (by omega) (Jl _ (by omega)) (by simp) g
  .rw[Be,CX]at this;exact this
  all_goals unfold Dy Dw Ea
  .intro L' t z w I B;have ⟨c,q,a,_⟩:=N8 x z;have e:=KW (t.length+1) (by omega) (by omega);have h:((t.length+1:Nat):Int)>0:=by omega
   dsimp only;have y:c<0:=by rw[B,decide_eq_true_iff]at a;exact a
   simp only[BX,AV,e,DM,WV,WW,AB,q,AEk,AEl,Ag,h,y,if_true]
  .intro L' t z w I B;have ⟨c,q,a,_⟩:=N8 x z;have e:=KW (t.length+1) (by omega) (by omega);have h:((t.length+1:Nat):Int)>0:=by omega
   have j:=Bv (i:=s.length) (n:=s.length+1) (by omega) (by omega);dsimp only;have y:¬c<0:=by rw[B,decide_eq_false_iff_not]at a;exact a
   simp only[BX,AV,e,DM,WV,WW,AB,q,h,y,if_true,if_false,j]
  .intro L' w;have j:=Bv (i:=s.length) (n:=s.length+1) (by omega) (by omega);dsimp only;rw[BX,ifN,AV,BW,AV,j]
 grind[Dx,BX]
def AX7{l:List A2}(e:l.length<=19):pj l=some (Dg ltE l):=by
 unfold pj AIl Gy;have ⟨n,c⟩:=QE 0 (by omega);have a:=Aa7 (l:=l) (by omega);unfold AIk at a
 grind[GW,DW,BX,AV,Hz,AB,GX]
def AX8{l:List Bf}(e:l.length<=19):qA l=some (Dg ltP l):=by
 unfold qA AIp Gy;have ⟨n,c⟩:=QE 0 (by omega);have a:=AYi (l:=l) (by omega);unfold AAT at a
 grind[GW,DW,BX,AV,Hz,AB,GX]
set_option maxRecDepth 100000
def AWo(a:n<256):∃c,AIf (IntKind.u64.wrap (n:Int))=some c:=by
 have e:IntKind.u64.wrap (n:Int)=n:=by
  simp only[IntKind.wrap,IntKind.bits,IntKind.signed];simp;omega
 unfold AIf APG;rw[e,BX,ifN,AV];unfold fN;dsimp only;rw[BX,ifN,AV];unfold fO;dsimp only;rw[BX,ifN,AV];unfold fP;dsimp only;rw[BM (UInt8.toNat_lt (toB (n:Int))),AB,AB];exact⟨_,rfl⟩
def AZ2{l:List Bf}(g:l.length<=12):AIg l=some (Dg ltP l):=by
 unfold AIg APH;have ⟨c,a⟩:=AWo (n:=l.length) (by omega);rw[a,AB];have ⟨n,e⟩:=QE 0 (by omega)
 grind[DW,AAU,BX,A7,AYi,AB]
section
variable{α σ γ:Type}
def TU{l:List α}{F:(σ×Int->AA γ)->σ×Int->AA γ}(f:σ->α->σ)(I:Nat->σ->Prop)(J:σ->AA γ)(a:l.length<2 ^ 63)
 (step:∀L i (h:i<l.length) v,I i v->F L (v,(i:Int))=L (f v l[i],w64 ((i:Int)+1))) (FD:∀i (h:i<l.length) v,I i v->I (i+1) (f v l[i]))
 (stop:∀L v,I l.length v->F L (v,(l.length:Int))=J v) {v0:σ} (e:I 0 v0):A9 F big (v0,0)=J (l.foldl f v0):=by
 refine(DK (n:=l.length) (λi (v:σ)=>(v,(i:Int))) I (λi v=>J ((l.drop i).foldl f v)) a ?_ e);intro L i v c hi g;rcases Aa i l.length with h|h
 .rw[step L i h v c,Bv h a,Dt h,Bw];exact g _ (FD i h v c) h
 grind
def EJ(eq:α->α->Bool):List α->List α->Bool| [],[]=>true|x::a,y::b=>eq x y&&EJ eq a b|_,_=>false
theorem HR{eq:α->α->Bool}(c:∀x y,eq x y=true↔x=y):∀{a b:List α},EJ eq a b=true↔a=b| [],[]=>by simp[EJ]| [],y::b=>by simp[EJ]|x::a,[]=>by simp[EJ]|x::a,y::b=>by rw[EJ,AF,c,HR c,CE]
def nd{eq:α->α->Bool}:∀{a b:List α},a.length≠b.length->EJ eq a b=false| [],[],h=>by simp at h| [],y::b,h=>rfl|x::a,[],h=>rfl|x::a,y::b,h=>by rw[EJ,nd (a:=a) (b:=b) (by simpa using h),Dq]
def AVo{eq:α->α->Bool}{a b:List α}{F:(Int->AA Bool)->Int->AA Bool}(c:a.length<2 ^ 63)(e:a.length=b.length)
 (step:∀L i (h:i<a.length) (j:i<b.length),F L (i:Int)=br (!(eq a[i] b[i])) (some false) (L (w64 ((i:Int)+1)))) (stop:∀L,F L (a.length:Int)=some true):A9 F big 0=some (EJ eq a b):=by
 refine(DK (n:=a.length) (λi (_:Unit)=>(i:Int)) (λ_ _=>True) (λi _=>some (EJ eq (a.drop i) (b.drop i))) c ?_ (v:=()) trivial);intro L i _ _ hi g;rcases Aa i a.length with h|h
 .rw[step L i h (by omega),Bv h c,Dt h,Dt (l:=b) (i:=i) (by omega),EJ,BG];cases eq a[i] b[i] with|true=>rw[BQ,g () trivial h];rfl|false=>rfl
 .obtain rfl:i=a.length:=by omega
  rw[stop,Cq,As (by omega)];rfl
theorem Ow{eq:α->α->Bool}{a b:List α}{F:(Int->AA Bool)->Int->AA Bool}(c:a.length<2 ^ 63)
 (step:∀L i (h:i<a.length) (g:i<b.length),F L (i:Int)=br (!(eq a[i] b[i])) (some false) (L (w64 ((i:Int)+1)))) (stop:∀L,F L (a.length:Int)=some true) :
 br ((a.length:Int) != (b.length:Int)) (some false) (A9 F big 0)=some (EJ eq a b):=by
 by_cases h:a.length=b.length
 .have e:((a.length:Int) != (b.length:Int))=false:=by simp[h]
  rw[e,BW,AVo c h step stop]
 .have e:((a.length:Int) != (b.length:Int))=true:=by simp;omega
  rw[e,BQ,nd h]
def atF(p:α->Bool):List α->Nat->Int| [],_=>-1|x::l,i=>if p x=true then (i:Int) else atF p l (i+1)
theorem RJ{p:α->Bool}{l:List α}{F:(Int->AA Int)->Int->AA Int}(a:l.length<2 ^ 63)
 (step:∀L i (h:i<l.length),F L (i:Int)=br (p l[i]) (some (i:Int)) (L (w64 ((i:Int)+1)))) (stop:∀L,F L (l.length:Int)=some (-1)):A9 F big 0=some (atF p l 0):=by
 refine(DK (n:=l.length) (λi (_:Unit)=>(i:Int)) (λ_ _=>True) (λi _=>some (atF p (l.drop i) i)) a ?_ (v:=()) trivial);intro L i _ _ hi c;rcases Aa i l.length with h|h
 .rw[step L i h,Bv h a,Dt h,atF];cases p l[i] with|true=>rfl|false=>rw[BW,c () trivial h];simp
 .obtain rfl:i=l.length:=by omega
  rw[stop,Cq];rfl
def eu{p:α->Bool}:∀{l:List α} {s:Nat},atF p l s<0↔∀x∈l,p x=false
 | [],s=>by simp[atF]|x::l,s=>by
  unfold atF;split
  .rename_i h;simp[h]
  .rename_i h;rw[eu];simp[h]
theorem zw{p:α->Bool}:∀{l:List α} {i:Nat} (s:Nat) (h:i<l.length),p l[i]=true->((atF p l s != ((s+i:Nat):Int))=decide (atF p (l.take i) s>=0))
 | [],i,s,h,a=>by simp at h|x::l,0,s,h,a=>by
  simp only[List.getElem_cons_zero]at a;simp[atF,a]
 |x::l,i+1,s,h,a=>by
  simp only[List.getElem_cons_succ]at a;rw[List.take_succ_cons,atF,atF];by_cases c:p x=true
  .grind
  .rw[AT c,AT c];have:=zw (l:=l) (i:=i) (s+1) (by simpa using h) a;rw[<-this,show s+1+i=s+(i+1) by omega]
end
def M8(cabin:Int)(n:Int)(p:AU):Int:=if (p.AZ==cabin)=true then n+1 else n
def Da(l:List AU)(cabin:Int):Int:=l.foldl (M8 cabin) 0
def VE(cabin:Int)(n:Int)(p:AU):Int:=if ((p.State==2)&&((p.AZ==cabin)&&inB p.BL 1 6))=true then n+p.BL else n
def Ja(l:List AU)(cabin:Int):Int:=l.foldl (VE cabin) 0
def VY(cabin:Int)(n:Int)(p:AU):Int:=if ((p.B0==cabin)&&inB p.BL 1 6)=true then n+p.BL else n
def J2(l:List AU)(cabin:Int):Int:=l.foldl (VY cabin) 0
def pf(cabin:Int)(p:AU){n:Int}(h:0<=n/\n<=i):0<=M8 cabin n p/\M8 cabin n p<=((i+1:Nat):Int):=by unfold M8;split<;>omega
def YD(cabin:Int)(p:AU){n:Int}(h:0<=n/\n<=6*i):0<=VE cabin n p/\VE cabin n p<=6*((i+1:Nat):Int):=by
 grind[VE,B9]
def Y4(cabin:Int)(p:AU){n:Int}(h:0<=n/\n<=6*i):0<=VY cabin n p/\VY cabin n p<=6*((i+1:Nat):Int):=by
 grind[VY,B9]
def SC{l:List AU}(e:l.length<2 ^ 58)(c:Int):AMG l c=some (Da l c):=by
 unfold AMG;refine TU (l:=l) (M8 c) (λi n=>0<=n/\n<=i) some (by omega) ?_ (λi h v a=>pf c _ a) ?_ (by simp)
 .grind[uU,uS,M8,BM,AB,AV,A7,Bu]
 grind[uU,AIc,BW,AV]
def Rk{l:List AU}(e:l.length<2 ^ 58)(c:Int):pk l c=some (Da l c):=by
 unfold pk;refine TU (l:=l) (M8 c) (λi n=>0<=n/\n<=i) some (by omega) ?_ (λi h v a=>pf c _ a) ?_ (by simp)
 .grind[fU,fT,M8,BM,AB,AV,A7,Bu]
 grind[fU,AAY,BW,AV]
def cj{l:List AU}(y:l.length<2 ^ 58)(c:Int):APF l c=some (Ja l c):=by
 unfold APF;refine TU (l:=l) (VE c) (λi n=>0<=n/\n<=6*i) some (by omega) ?_ (λi h v a=>YD c _ a) ?_ (by simp)
 .intro L i h v a;have e:=YD c l[i] a;unfold VE at e ⊢;unfold uO dZ uN;dsimp only;rw[CF h,BQ];simp only[BM h,AB,AV,GZ,BW];cases g:l[i].State==2<;>cases j:l[i].AZ==c<;>cases q:inB l[i].BL 1 6<;>simp only[BQ,BW,CU,By,if_true,BJ,if_false]
  grind[A7]
 grind[uO,AIa,BW,AV]
def cH{l:List AU}(y:l.length<2 ^ 58)(c:Int):fy l c=some (Ja l c):=by
 unfold fy;refine TU (l:=l) (VE c) (λi n=>0<=n/\n<=6*i) some (by omega) ?_ (λi h v a=>YD c _ a) ?_ (by simp)
 .intro L i h v a;have e:=YD c l[i] a;unfold VE at e ⊢;unfold gC Wt fz;dsimp only;rw[CF h,BQ];simp only[BM h,AB,AV,Fv,BW];cases g:l[i].State==2<;>cases j:l[i].AZ==c<;>cases q:inB l[i].BL 1 6<;>simp only[BQ,BW,CU,By,if_true,BJ,if_false]
  grind[A7]
 grind[gC,AAo,BW,AV]
def dB{l:List AU}(q:l.length<2 ^ 58)(c:Int):AMF l c=some (J2 l c):=by
 unfold AMF;refine TU (l:=l) (VY c) (λi n=>0<=n/\n<=6*i) some (by omega) ?_ (λi h v a=>Y4 c _ a) ?_ (by simp)
 .intro L i h v a;have e:=Y4 c l[i] a;unfold VY at e ⊢;unfold uR uP uQ;dsimp only;rw[CF h,BQ];simp only[BM h,AB,AV,GZ,BW];cases g:l[i].B0==c<;>cases j:inB l[i].BL 1 6<;>simp only[BQ,BW,CU,By,if_true,BJ,if_false]
  grind[A7]
 grind[uR,AIb,BW,AV]
def cJ{l:List AU}(q:l.length<2 ^ 58)(c:Int):bR l c=some (J2 l c):=by
 unfold bR;refine TU (l:=l) (VY c) (λi n=>0<=n/\n<=6*i) some (by omega) ?_ (λi h v a=>Y4 c _ a) ?_ (by simp)
 .intro L i h v a;have e:=Y4 c l[i] a;unfold VY at e ⊢;unfold gG gD gF;dsimp only;rw[CF h,BQ];simp only[BM h,AB,AV,Fv,BW];cases g:l[i].B0==c<;>cases j:inB l[i].BL 1 6<;>simp only[BQ,BW,CU,By,if_true,BJ,if_false]
  grind[A7]
 grind[gG,AAp,BW,AV]
def eqE(x y:A2):Bool:=x.Level==y.Level&&(x.A5==y.A5&&(x.Id==y.Id&&(x.BL==y.BL&&true)))
def dx(x y:A2):eqE x y=true↔x=y:=by
 have ⟨a,b,c,d⟩:=x;have ⟨e,f,g,h⟩:=y;simp[eqE]
def eqP(x y:Bf):Bool:=x.At==y.At&&(x.Id==y.Id&&true)
def dy(x y:Bf):eqP x y=true↔x=y:=by
 have ⟨a,b⟩:=x;have ⟨c,d⟩:=y;simp[eqP]
def SH{a b:List A2}(e:a.length<2 ^ 62):APv a b=some (EJ eqE a b):=by
 unfold APv;refine Ow (by omega) ?_ ?_
 .intro L i h c;unfold ux;rw[CF h,BQ,BM h,AB,BM c,AB];rfl
 grind[ux,AKf,BW,AV]
def cE{a b:List A2}(e:a.length<2 ^ 62):AAR a b=some (EJ eqE a b):=by
 unfold AAR;refine Ow (by omega) ?_ ?_
 .intro L i h c;unfold fM;rw[CF h,BQ,BM h,AB,BM c,AB];rfl
 grind[fM,AAS,BW,AV]
theorem P4{a b:List Bf}(e:a.length<2 ^ 62):APx a b=some (EJ eqP a b):=by
 unfold APx;refine Ow (by omega) ?_ ?_
 .intro L i h c;unfold vE;rw[CF h,BQ,BM h,AB,BM c,AB];rfl
 grind[vE,AKi,BW,AV]
def cF{a b:List Bf}(e:a.length<2 ^ 62):AAm a b=some (EJ eqP a b):=by
 unfold AAm;refine Ow (by omega) ?_ ?_
 .intro L i h c;unfold fx;rw[CF h,BQ,BM h,AB,BM c,AB];rfl
 grind[fx,AAn,BW,AV]
def KP{α:Type}(l:List α)(k:Nat)(p:α->Bool):Bool:=match l[k]? with|some x=>p x|none=>true
theorem Ca(h:k<l.length)(p:α->Bool):KP l k p=p l[k]:=by unfold KP;rw[AR h]
def du(i:Nat):decide ((i:Int)>0)=decide (0<i):=by rw[decide_eq_decide];omega
def Nn(l:List α)(x:α):l.length+[x].length=l.length+1:=rfl
theorem SF{l:List A2}(a:l.length<2 ^ 62)(id:Int):AML l id=some (atF (λx=>x.Id==id) l 0):=by
 grind[AML,RJ,AJy,BQ,BM,AB,AJx,BW,AV]
theorem YG{l:List A2}(a:l.length<2 ^ 62)(id:Int):pn l id=some (atF (λx=>x.Id==id) l 0):=by
 unfold pn APJ
 grind[RJ,AB,AAb,API,BQ,BM,AAa,BW,AV]
def AP5(e:A2):Bool:=inB e.Level 0 4&&(inB e.A5 1 1000000&&(inB e.Id 1 999&&inB e.BL 1 6))
def qAt(l:List A2)(i:Nat):Bool:=
 KP l i λe=>AP5 e&&((if 0<i then KP l (i-1) (λd=>ltE d e) else true)&&!(decide (atF (λx=>x.Id==e.Id) (l.take i) 0>=0)))
def LU(l:List A2):Bool:=!(decide ((l.length:Int)>10))&&JK (qAt l) 0 l.length
def zA(l:List A2)(g:l.length<2 ^ 62):AW2 l=some (LU l):=by
 unfold AW2 LU;rw[Kf (n:=l.length) (E:=some true) (qAt l) (by omega) ?_ ?_,Ck,CN,Hy]
 .intro L i h;have q:=Bv h (show l.length<2 ^ 63 by omega);unfold qAt;rw[Ca h];unfold ug;rw[CF h,BQ,BM h,AB];have a:∀b,Xr L i b=br (!b) (L ((i+1:Nat):Int)) (some false):=by intro b;unfold Xr;rw[q];cases b<;>rfl
  have j:(atF (λx=>x.Id==l[i].Id) l 0 != (i:Int))=decide (atF (λx=>x.Id==l[i].Id) (l.take i) 0>=0):=by
   grind[zw]
  have e:∀b,Ua l L i l[i] b=br (!b&&((if 0<i then KP l (i-1) (λd=>ltE d l[i]) else true)&&!(decide (atF (λx=>x.Id==l[i].Id) (l.take i) 0>=0)))) (L ((i+1:Nat):Int)) (some false):=by
   intro b;unfold Ua;rw[du];by_cases c:0<i
   .rw[decide_eq_true c,BQ,AW c,KW i c (by omega),BM (show i-1<l.length by omega),AB,T5,AB,BG,SF g,AB,AV,AV,a,a,j,Ca (by omega)];cases b<;>cases ltE l[i-1] l[i]<;>rfl
   .rw[decide_eq_false c,BW,AT c,SF g,AB,AV,a,j];cases b<;>rfl
  unfold AP5;simp only[GZ,AB,AV,BG,e];generalize ((if 0<i then KP l (i-1) (λd=>ltE d l[i]) else true)&&!(decide (atF (λx=>x.Id==l[i].Id) (l.take i) 0>=0)))=X;cases inB l[i].Level 0 4<;>cases inB l[i].A5 1 1000000<;>cases inB l[i].Id 1 999<;>cases inB l[i].BL 1 6<;>rfl
 grind[ug,AKM,BW,AV]
theorem YH(l:List A2)(q:l.length<2 ^ 62):pq l=some (LU l):=by
 unfold pq LU;rw[Kf (n:=l.length) (E:=some true) (qAt l) (by omega) ?_ ?_,Ck,CN,Hy]
 .intro L i h;have g:=Bv h (show l.length<2 ^ 63 by omega);unfold qAt;rw[Ca h];unfold fW;rw[CF h,BQ,BM h,AB];have a:∀b,QJ L i b=br (!b) (L ((i+1:Nat):Int)) (some false):=by intro b;unfold QJ;rw[g];cases b<;>rfl
  have e:∀b,Sw L i l[i] b=br (!b&&AP5 l[i]) (L ((i+1:Nat):Int)) (some false):=by
   intro b;unfold Sw AP5;have c:w64 (5-1)=4:=by rw[A7]<;>omega
   simp only[Fv,YM,AB,AV,BG,a,c];cases b<;>cases inB l[i].Level 0 4<;>cases inB l[i].A5 1 1000000<;>cases inB l[i].Id 1 999<;>cases inB l[i].BL 1 6<;>rfl
  have j:(0:Int)<=(i:Int)/\(i:Int)<=(l.length:Int):=by omega
  grind[BQ,KW,BM,AB,Te,CD,YG,AV,Ca,ltE,BW]
 grind[fW,AAc,BW,AV]
theorem UB{l:List A2}(a:l.length<=lim):uo l=some l:=by
 unfold uo;rw[CD (by omega),Be]
theorem oC{l:List A2}(c:l.length+1<=lim)(e:A2):AFV l e=some (put ltE e l):=by
 have a:∀i:Nat,i<=l.length->uq l e i=some (l.take i++e::l.drop i):=by
  grind[uq,CD,UB,AB,Co]
 have hlim:=Acx;unfold AFV;refine Tz some (by omega) ?_ ?_
 .grind[ur,dq,BQ,BM,AB,T5,AV]
 grind[ur,dq,BW,AV]
theorem WH{l:List Bf}(c:l.length+1<=lim)(e:Bf):AMP l e=some (put ltP e l):=by
 have a:∀i:Nat,i<=l.length->uy l e i=some (l.take i++e::l.drop i):=by
  grind[uy,CD]
 have hlim:=Acx;unfold AMP;refine Tz some (by omega) ?_ ?_
 .grind[uz,dt,BQ,BM,AB,dE,AV]
 grind[uz,dt,BW,AV]
def MQ(r:AY)(cabin now:Int)(p:AU):AA A2:=if ((FL r p now).2&&(p.AZ==cabin))=true then some (FL r p now).1 else none
def EB(r:AY)(l:List AU)(cabin now:Int):List A2:=Dg ltE (l.filterMap (MQ r cabin now))
def SG(j:r.AX.length<2 ^ 62){l:List AU}(G:l.length<=1048576)(c now:Int):AMO r l c now=some (EB r l c now):=by
 have hlim:=Acx;have e:w64 ((l.length:Int)-1)=(l.length:Int)-1-((0:Nat):Int):=by rw[A7];omega
 unfold AMO EB;rw[e];refine(DK (n:=l.length) (λi (v:List A2)=>(v,(l.length:Int)-1-(i:Int))) (λi v=>v.length<=i) (λi v=>some ((((l.take (l.length-i)).filterMap (MQ r c now)).foldr (put ltE) v))) (by omega) ?_ (v:=[]) (by simp)).trans (by rw[FX,Ch];rfl);intro L i v H hi I;unfold AKe uu uw;dsimp only;rcases Aa i l.length with h|h
 .have ⟨k,E⟩:∃k,l.length=i+(k+1):=⟨l.length-i-1,by omega⟩;have g:(l.length:Int)-1-(i:Int)=(k:Int):=by omega
  have a:k<l.length:=by omega
  have y:w64 ((k:Int)-1)=(l.length:Int)-1-((i+1:Nat):Int):=by rw[A7];omega
  have B:l.take (l.length-i)=l.take (l.length-(i+1))++[l[k]]:=by
   rw[show l.length-i=k+1 by omega,show l.length-(i+1)=k by omega,CT,AR a];rfl
  rw[g,BX,ifP];simp only[BM a,AB,Yu j,Co,zR,AV,BW];have key:(br (FL r l[k] now).2 (br (l[k].AZ==c) (bd (AFV v (FL r l[k] now).1) λq=>L (q,w64 ((k:Int)-1))) (L (v,w64 ((k:Int)-1)))) (L (v,w64 ((k:Int)-1))))=some ((((l.take (l.length-i)).filterMap (MQ r c now)).foldr (put ltE) v)):=by
   grind[oC,AB,MQ,FL,BQ,BW,GI]
  exact key
 .obtain rfl:i=l.length:=by omega
  unfold AKd;rw[BX,ifN,AV,Ek];rfl
def o8(f:α->AA β)(h:i<l.length):(l.take (i+1)).filterMap f=(l.take i).filterMap f++(f l[i]).toList:=by
 rw[CT,AR h,List.filterMap_append];congr 1
def o9(f:α->AA β)(l:List α)(i:Nat):((l.take i).filterMap f).length<=i:=Av (List.length_filterMap_le _ _) (by rw[Aj];omega)
def collect(f:α->AA β){F:(List β×Int->AA γ)->List β×Int->AA γ}(J:List β->AA γ)(e:l.length<=1048576)
 (step:∀L i (h:i<l.length) v,v.length<=i->F L (v,(i:Int))=L (v++(f l[i]).toList,w64 ((i:Int)+1))) (stop:∀L v,F L (v,(l.length:Int))=J v):A9 F big ([],0)=J (l.filterMap f):=by
 refine(DK (n:=l.length) (λi (v:List β)=>(v,(i:Int))) (λi v=>v=(l.take i).filterMap f) (λi v=>J (l.filterMap f)) (by omega) ?_ (by simp));intro L i v a hi c;rcases Aa i l.length with h|h
 .rw[step L i h v (by rw[a];exact o9 _ _ _),Bv h];exact c _ (by rw[a,o8 f h]) h
 grind
def pg(c:Int):∀(l:List AU) (n:Int),l.foldl (M8 c) n=n+(l.countP λp=>p.AZ==c)
 | [],n=>by simp|p::l,n=>by
  rw[Bw,pg c l,List.countP_cons]
  grind[M8]
def eA{β:Type}(f:AU->AA β)(c:Int)(a:∀p,(p.AZ==c)=false->f p=none):∀l:List AU,((l.filterMap f).length:Int)<=Da l c:=by
 intro l;unfold Da;rw[pg,Int.zero_add]
 induction l with
 |nil=>simp|cons p l e=>
  grind
def Ro(e:r.AX.length<2 ^ 62){l:List AU}(a:l.length<=1048576){c:Int}(q:Da l c<=19)(now:Int):bQ r l c now=some (EB r l c now):=by
 have hlim:=Acx;have y:=eA (MQ r c now) c (by intro p h;unfold MQ;rw[h,Dq];rfl) l;unfold bQ EB;rw[collect (l:=l) (MQ r c now) Su a ?_ ?_]
 .unfold Su;rw[AX7 (by omega),AB]
 .intro L i h v B;unfold Sv Wg Wh MQ;dsimp only;rw[CF h,BQ,BM h,AB,Ni e,AB,AV,AV,CD (by rw[Nn];omega),AV,AV];cases g:(FL r l[i] now).2<;>cases j:l[i].AZ==c<;>simp
 grind[Sv,BW,AV]
def NL(cabin:Int)(p:AU):AA Bf:=if ((p.State==2)&&(p.AZ==cabin))=true then some ⟨p.DO,p.Id⟩ else none
def Gt(l:List AU)(cabin:Int):List Bf:=Dg ltP (l.filterMap (NL cabin))
def cq{l:List AU}(e:l.length<=1048576)(c:Int):APw l c=some (Gt l c):=by
 have hlim:=Acx;unfold APw Gt;rw[TU (l:=l) (λv p=>match NL c p with|some x=>put ltP x v|none=>v) (λi v=>v.length<=i) some (by omega) ?_ ?_ ?_ (by simp),<-aP FV eJ]
 .congr 1;generalize ([]:List Bf)=a;clear e
  induction l generalizing a with
  |nil=>rfl|cons p l g=>
   rw[Bw,g,List.filterMap_cons];cases NL c p<;>rfl
 .intro L i h v y;unfold vD vB vC NL;dsimp only;rw[CF h,BQ];simp only[BM h,AB,AV,BW,WH (show v.length+1<=lim by omega)];cases j:l[i].State==2<;>cases q:l[i].AZ==c<;>rfl
 .grind[GI]
 grind[vD,AKh,BW,AV]
def cI{l:List AU}(a:l.length<=1048576){c:Int}(j:Da l c<=19):fw l c=some (Gt l c):=by
 have hlim:=Acx;have q:=eA (NL c) c (by intro p h;unfold NL;rw[h,Dq];rfl) l;unfold fw Gt;rw[collect (l:=l) (NL c) Sz a ?_ ?_]
 .unfold Sz;rw[AX8 (by omega),AB]
 .intro L i h v y;unfold S6 Wr Ws NL;dsimp only;rw[CF h,BQ,BM h,AB,AV,AV,CD (by rw[Nn];omega),AV,AV];cases e:l[i].State==2<;>cases g:l[i].AZ==c<;>simp
 grind[S6,BW,AV]
def R4(p:Bf):Bool:=inB p.At 1 1000008&&inB p.Id 1 999
structure Ph(w:A3):Prop where
 nine:w.Aw.length=9
 few:w.Aw.flatten.length<=10
 pins:∀p∈w.Aw.flatten,R4 p=true
 ids:w.Aw.flatten.Pairwise λa b=>a.Id≠b.Id
 at_:∀i (h:i<w.Aw.length) k (hk:k<w.Aw[i].length),w.Aw[i][k].At.tmod 9=(i:Int)
 srt:∀i (h:i<w.Aw.length) k (hk:k+1<w.Aw[i].length),ltP w.Aw[i][k] w.Aw[i][k+1]=true
def HO(w:A3):Bool:=@decide (Ph w) (Classical.propDecidable _)
theorem EU:HO w=true↔Ph w:=by grind[HO]
def Dc(w:A3):Prop:=w.Aw.length<=1048576/\w.Aw.flatten.length<=1048576
def Xy{l:List (List α)}(h:i<l.length):(l.take i).flatten.length+l[i].length<=l.flatten.length:=by
 grind[Dt,List.take_append_drop]
theorem MW{l:List (List Bf)}(h:i<l.length):l[i].length<=l.flatten.length:=by have:=Xy h;omega
def oD(a:Dc w):APt w=some w.Aw.flatten:=by
 have hlim:=Acx;have c:=a.1;have e:=a.2;unfold APt;refine(DK (n:=w.Aw.length) (λi (v:List Bf)=>(v,(i:Int))) (λi v=>v=(w.Aw.take i).flatten) (λi v=>some w.Aw.flatten) (by omega) ?_ (by simp));intro L i v g hi j;unfold AKb AKa;dsimp only;rcases Aa i w.Aw.length with h|h
 .have:=Xy h
  grind[BQ,BM,AB,CD,Bv,List.take_add_one]
 grind[BW,AV]
def dF(s:List Bf)(i:Nat)(k:Nat):Bool:=KP s k λp=>(p.At.tmod 9==(i:Int))&&(if 0<k then KP s (k-1) (λd=>ltP d p) else true)
def sY(l:List Bf)(i:Nat):Bool:=KP l i λp=>R4 p&&JK (λk=>KP l k λq=>!(q.Id==p.Id)) 0 i
theorem He(H:Dc w):o6 w=some (HO w):=by
 have h1:=H.1;have h2:=H.2;have G:dm w ()=some (JK (λi=>KP w.Aw i λs=>JK (dF s i) 0 s.length) 0 w.Aw.length):=by
  unfold dm;rw[Kf (n:=w.Aw.length) (E:=some true) (λi=>KP w.Aw i λs=>JK (dF s i) 0 s.length) (by omega) ?_ ?_,Ck,CN]
  .intro L i h;have hs:=MW h;rw[Ca h];unfold uj;rw[CF h,BQ];refine Kf (n:=w.Aw[i].length) (E:=L ((i+1:Nat):Int)) (dF w.Aw[i] i) (by omega) ?_ ?_
   .intro L' k a;have I:=Bv a (show w.Aw[i].length<2 ^ 63 by omega);unfold dF;rw[Ca a];unfold uk dn;rw[BM h,AB,CF a,BQ,du];simp only[AB,BM a,AV,I,BQ,BW];by_cases c:0<k
    .rw[decide_eq_true c,BQ,AW c,KW k c (by omega),BM (show k-1<w.Aw[i].length by omega),AB,dE,AB,Ca (show k-1<w.Aw[i].length by omega),bne];cases w.Aw[i][k].At.tmod 9==(i:Int)<;>cases ltP w.Aw[i][k-1] w.Aw[i][k]<;>rfl
    .rw[decide_eq_false c,BW,AT c,bne];cases w.Aw[i][k].At.tmod 9==(i:Int)<;>rfl
   .intro L';unfold uk ADF;rw[BM h,AB,C2,BW,AV,Bv h]
  .intro L;unfold uj ADG;rw[C2,BW,AV]
 have e:∀b,dj w w.Aw.flatten b=some (!b&&(JK (sY w.Aw.flatten) 0 w.Aw.flatten.length&&JK (λi=>KP w.Aw i λs=>JK (dF s i) 0 s.length) 0 w.Aw.length)):=by
  intro b;unfold dj;rw[Kf (n:=w.Aw.flatten.length) (E:=dm w ()) (sY w.Aw.flatten) (by omega) ?_ ?_,G,Ck,Hy]
  .intro L i h;unfold sY;rw[Ca h];have B:∀b,dk w.Aw.flatten L i b=br (!b&&JK (λk=>KP w.Aw.flatten k λq=>!(q.Id==w.Aw.flatten[i].Id)) 0 i) (L ((i+1:Nat):Int)) (some false):=by
    intro b;unfold dk;rw[Kf (n:=i) (E:=L ((i+1:Nat):Int)) (λk=>KP w.Aw.flatten k λq=>!(q.Id==w.Aw.flatten[i].Id)) (by omega) ?_ ?_]
    .cases b<;>rfl
    .intro L' k a;rw[Ca (show k<w.Aw.flatten.length by omega)];unfold ui;rw[CF a,BQ];simp only[BM h,BM (show k<w.Aw.flatten.length by omega),AB,Bv a (show i<2 ^ 63 by omega)];cases w.Aw.flatten[k].Id==w.Aw.flatten[i].Id<;>rfl
    .intro L';unfold ui AKc;rw[C2,BW,AV,Bv h]
   unfold uh R4;rw[CF h,BQ];simp only[BM h,AB,GZ,BG,AV,B];generalize JK (λk=>KP w.Aw.flatten k λq=>!(q.Id==w.Aw.flatten[i].Id)) 0 i=X;cases inB w.Aw.flatten[i].At 1 1000008<;>cases inB w.Aw.flatten[i].Id 1 999<;>rfl
  .intro L;unfold uh;rw[C2,BW,AV]
 unfold o6;rw[oD H,AB,AV,AV,e,e,Bl,By,bne,BG,Ck];congr 1;rw[IS,EU];simp only[AF,beq_iff_eq,A8,decide_eq_false_iff_not,J1];constructor
 .rintro⟨J,O,a3,a4⟩;refine⟨by omega,by omega,?_,?_,?_,?_⟩
  .intro p Z;obtain⟨k,a,rfl⟩:=G6 Z;have:=a3 k a;unfold sY at this;rw[Ca a,AF]at this;exact this.1
  .rw[Cj];intro i j hi g y;have:=a3 j g;unfold sY at this;rw[Ca g,AF,J1]at this;have:=this.2 i y;rw[Ca hi]at this;simpa using this
  .intro i h k a;have:=a4 i h;rw[Ca h,J1]at this;have:=this k a;unfold dF at this;rw[Ca a,AF,beq_iff_eq]at this;exact this.1
  .intro i h k a;have:=a4 i h;rw[Ca h,J1]at this;have:=this (k+1) a;unfold dF at this;rw[Ca a,AF,ifP,DM,Ca (by omega)]at this;exact this.2
 .rintro⟨J,O,a3,a4,S,Y⟩;refine⟨by omega,by omega,?_,?_⟩
  .intro k a;unfold sY;rw[Ca a,AF,J1];refine⟨a3 _ (Ak _),λj g=>?_⟩;rw[Ca (by omega)];rw[Cj]at a4;have:=a4 j k (by omega) a g;simpa using this
  .intro i h;rw[Ca h,J1];intro k a;unfold dF;rw[Ca a,AF,beq_iff_eq];refine⟨S i h k a,?_⟩;split
   .rename_i c;obtain⟨k,rfl⟩:∃j,k=j+1:=⟨k-1,by omega⟩;rw[DM,Ca (by omega)];exact Y i h k a
   .rfl
def PC(m:List (Int×Int))(p:Bf):List (Int×Int):=KE m p.Id (w64 (NI m p.Id+1))
def AVr:∀{m:List (Int×Int)} {n v:Int},n∈m.map (·.1)->(KE m n v).map (·.1)=m.map (·.1)
 | [],n,v,h=>by simp at h|(k,w)::m,n,v,h=>by
  unfold KE;by_cases e:n=k
  .rw[AW e];rfl
  .rw[AT e];rw[AK,Ae]at h;rw[AK,AVr (h.resolve_left e)];rfl
def ALj:∀{m:List (Int×Int)} {n v:Int},n∉m.map (·.1)->(KE m n v).map (·.1)=m.map (·.1)++[n]
 | [],n,v,h=>rfl|(k,w)::m,n,v,h=>by
  unfold KE;rw[AK,Ae,not_or]at h;rw[AT h.1,AK,ALj h.2];rfl
def AOs:∀(l:List Bf) (m:List (Int×Int)),(l.foldl PC m).length<=m.length+l.length/\((l.foldl PC m).length=m.length+l.length↔(∀p∈l,p.Id∉m.map (·.1))/\l.Pairwise λa b=>a.Id≠b.Id)
 | [],m=>by simp|p::l,m=>by
  rw[Bw];have c:=AOs l (PC m p);by_cases h:p.Id∈m.map (·.1)
  .have e:(PC m p).map (·.1)=m.map (·.1):=AVr h;have el:(PC m p).length=m.length:=by simpa using congrArg List.length e
   rw[el]at c;refine⟨by rw[AI];omega,?_⟩;constructor
   .intro g;rw[AI]at g;omega
   .intro g;exact absurd h (g.1 p BK)
  .have e:(PC m p).map (·.1)=m.map (·.1)++[p.Id]:=ALj h;have el:(PC m p).length=m.length+1:=by simpa using congrArg List.length e
   grind[List.pairwise_cons]
def Vz(p:Bf):pt p=some (R4 p):=by
 unfold pt fY R4;simp only[Fv,AB,AV,Ck]
def WI(s:List Bf)(i:Nat)(k:Nat):Bool:=KP s k λp=>R4 p&&((p.At.tmod 9==(i:Int))&&(if 0<k then KP s (k-1) (λd=>!(ltP p d)) else true))
def si(p:Nat->Bool)(h:i<n):JK p i (n-i)=(p i&&JK p (i+1) (n-(i+1))):=by rw[show n-i=(n-(i+1))+1 by omega];rfl
def AH8{s:List Bf}(I:s.length<=1048576){L:List (Int×Int)×Int×Int->AA Bool}(hi:i<9){m:List (Int×Int)}(H:n<=2 ^ 50) :
 A9 (fc L i s) big (m,(n:Int),0)=br (JK (WI s i) 0 s.length) (L (s.foldl PC m,((n+s.length:Nat):Int),((i+1:Nat):Int))) (some false):=by
 refine(DK (n:=s.length) (λk (v:List (Int×Int)×Nat)=>(v.1,(v.2:Int),(k:Int))) (λk v=>v.2=n+k) (λk v=>br (JK (WI s i) k (s.length-k)) (L ((s.drop k).foldl PC v.1,((n+s.length:Nat):Int),((i+1:Nat):Int))) (some false)) (by omega) ?_ (v:=(m,n)) rfl);rintro L' k ⟨m,g⟩ j G q;dsimp only at j q ⊢;unfold fc Sy;dsimp only;rcases Aa k s.length with h|h
 .have e:=q (PC m s[k],g+1) (by dsimp only;omega) h;dsimp only at e;have ew:w64 ((g:Int)+1)=((g+1:Nat):Int):=by rw[A7];rfl
  rw[CF h,BQ,BM h,AB,Vz,AB,BG,si _ h,Dt h,Bw,du];simp only[AV,BQ,BW,Bv h (show s.length<2 ^ 63 by omega),ew];have ed:KE m s[k].Id (w64 (NI m s[k].Id+1))=PC m s[k]:=rfl;rw[ed,e];unfold WI;rw[Ca h];generalize JK _ (k+1) (s.length-(k+1))=X;generalize L _=Z;by_cases a:0<k
  .have ⟨c,y,E,B⟩:=N8 s[k-1] s[k];rw[decide_eq_true a,BQ,AW a,KW k a (by omega),BM (show k-1<s.length by omega),AB,y,AB,B,Ca (show k-1<s.length by omega),bne];cases R4 s[k]<;>cases s[k].At.tmod 9==(i:Int)<;>cases ltP s[k] s[k-1]<;>rfl
  .rw[decide_eq_false a,BW,AT a,bne];cases R4 s[k]<;>cases s[k].At.tmod 9==(i:Int)<;>rfl
 .obtain rfl:k=s.length:=by omega
  unfold AAd;dsimp only;rw[C2,BW,AV,Bv (i:=i) (n:=9) hi (by omega),Ek,Cq,j];rfl
def Ic(I:Dc w):SV w=some (HO w):=by
 have h1:=I.1;have h2:=I.2;unfold SV;rw[bne,BG];by_cases B:w.Aw.length=9
 .have g:((w.Aw.length:Int)==9)=true:=by rw[beq_iff_eq];omega
  rw[g,BQ];have:=(DK (F:=fb w) (n:=w.Aw.length) (λk (v:List (Int×Int)×Nat)=>(v.1,(v.2:Int),(k:Int))) (λk v=>v.2=(w.Aw.take k).flatten.length) (λk v=>br (JK (λi=>KP w.Aw i λs=>JK (WI s i) 0 s.length) k (w.Aw.length-k)) (Wl ((w.Aw.drop k).flatten.foldl PC v.1,((v.2+(w.Aw.drop k).flatten.length:Nat):Int))) (some false)) (by omega) ?_ (v:=([],0)) (by simp))
  .refine Eq.trans this ?_;unfold Wl fZ;simp only[Cu,Ar,AV,Ck,FX];congr 1;have E:=AOs w.Aw.flatten [];rw[AM,Ar]at E;rw[IS,EU];simp only[AF,beq_iff_eq,decide_eq_true_iff,J1];have hm:((w.Aw.flatten.foldl PC []).length:Int)=(w.Aw.flatten.length:Int)↔w.Aw.flatten.Pairwise λa b=>a.Id≠b.Id:=by
    rw[Me,E.2];simp
   rw[hm];constructor
   .rintro⟨y,O,a3⟩;have c:∀i (h:i<w.Aw.length) k (c:k<w.Aw[i].length),R4 w.Aw[i][k]=true/\w.Aw[i][k].At.tmod 9=(i:Int)/\(if 0<k then KP w.Aw[i] (k-1) (λd=>!(ltP w.Aw[i][k] d)) else true)=true:=by
     intro i h k c;have:=y i h;rw[Ca h,J1]at this;have:=this k c;unfold WI at this;rw[Ca c,AF,AF,beq_iff_eq]at this;exact this
    refine⟨B,by omega,?_,a3,λi h k e=>(c i h k e).2.1,?_⟩
    .intro p q;have ⟨s,hs,q⟩:=E9.1 q;obtain⟨i,hi,rfl⟩:=G6 hs;obtain⟨k,e,rfl⟩:=G6 q;exact(c i hi k e).1
    .intro i h k e;have:=(c i h (k+1) e).2.2;rw[ifP,DM,Ca (by omega),A8,me]at this;have G:=(List.pairwise_flatten.1 a3).1 _ (Ak h);rw[Cj]at G;have:=G k (k+1) (by omega) e (by omega);rw[Rt];omega
   .rintro⟨y,O,a3,a4,S,Y⟩;refine⟨?_,by omega,a4⟩;intro i h;rw[Ca h,J1];intro k c;unfold WI;rw[Ca c,AF,AF,beq_iff_eq];refine⟨a3 _ (E9.2 ⟨_,Ak h,Ak c⟩),S i h k c,?_⟩;split
    .obtain⟨k,rfl⟩:∃j,k=j+1:=⟨k-1,by omega⟩;rw[DM,Ca (by omega),A8];exact FV.uB _ _ (Y i h k c)
    .rfl
  .rintro L k ⟨m,n⟩ H c J;dsimp only at H J ⊢;unfold fb;dsimp only;rcases Aa k w.Aw.length with h|h
   .have hf:=Xy h;rw[CF h,BQ,BM h,AB,AH8 (by omega) (by omega) (by omega),si _ h,Ca h];have ef:(w.Aw.take (k+1)).flatten=(w.Aw.take k).flatten++w.Aw[k]:=by rw[CT,AR h,List.flatten_append];simp
    have:=J (w.Aw[k].foldl PC m,n+w.Aw[k].length) (by dsimp only;rw[ef,AH,H]) h;dsimp only at this;rw[this,Dt h,List.flatten_cons,List.foldl_append,AH,CV];generalize JK _ (k+1) _=X;generalize Wl _=Z;cases JK (WI w.Aw[k] k) 0 w.Aw[k].length<;>rfl
   .obtain rfl:k=w.Aw.length:=by omega
    rw[C2,BW,AV,Ek,Cq];rfl
 .have g:((w.Aw.length:Int)==9)=false:=by rw[beq_eq_false_iff_ne];omega
  rw[g,BW];congr 1;have:¬(HO w=true):=by rw[EU];exact λh=>B h.nine
  rw[DG]at this;exact this.symm
def E8(w:A3):List Bf:=if HO w=true then Dg ltP w.Aw.flatten else []
theorem M3(a:Dc w):AFW w=some (E8 w):=by
 have hlim:=Acx;have c:=a.2;unfold AFW E8;rw[He a,AB,BG,oD a,AB,Bu];split
 .rw[TU (l:=w.Aw.flatten) (λv p=>put ltP p v) (λi v=>v.length<=i) some (by omega) ?_ ?_ ?_ (by simp),<-aP FV eJ]
  .grind[vA,BQ,BM,AB,WH]
  .intro i h v e;rw[GI];omega
  grind[vA,AKg,BW,AV]
 .rfl
def PU(c:Dc w):fQ w=some (E8 w):=by
 have hlim:=Acx;have g:=c.1;have j:=c.2;unfold fQ E8;rw[Ic c,AB,BG,Bu];split
 .rename_i a;have a:=EU.1 a;refine(DK (n:=w.Aw.length) (λi (v:List Bf)=>(v,(i:Int))) (λi v=>v=(w.Aw.take i).flatten) (λi v=>some (Dg ltP w.Aw.flatten)) (by omega) ?_ (by simp));intro L i v e hi q;unfold AAW AAV;dsimp only;rcases Aa i w.Aw.length with h|h
  .have:=Xy h
   grind[BQ,BM,AB,CD,Bv,List.take_add_one]
  .obtain rfl:i=w.Aw.length:=by omega
   have:=a.few;rw[C2,BW,AV,e,Ch,AZ2 (by omega),AB]
 .rfl
def FT(c:Ah):Prop:=c.Row.length<=1048576/\Dc c.B6
structure Bt(h:AE):Prop where
 Ds:h.AQ.AX.length<=1048576
 CR:h.AG.length<=1048576
 Dz:h.AJ.length<=1048576
 ES:∀c∈h.AJ,FT c
 todo:h.BF.length<=1048576
 F9:h.BD.length<=1048576
def L0(c:Ah):Bool:=Ep c.AX&&(LU c.Row&&HO c.B6)
def Nu(a:FT c):AMM c=some (L0 c):=by
 have:=a.1;unfold AMM dp L0;simp only[P2,zA c.Row (by omega),He a.2,AB,AV,Ck]
def Rj(a:FT c):pw c=some (L0 c):=by
 have:=a.1;unfold pw Wm L0;simp only[Gs,YH c.Row (by omega),Ic a.2,AB,AV,Ck]
theorem Ih(a:Dc w):(E8 w).length<=1048576:=by
 unfold E8;split
 .rw[Jn];exact a.2
 .simp
def KX(r:AY)(c:Ah)(l:List AU)(k now:Int):Bool:=
 L0 c&&(EJ eqE c.Row (EB r l k now)&&(EJ eqP (E8 c.B6) (Gt l k)&&((c.AX.FQ==Ja l k)&&(c.AX.Gb==J2 l k))))
def AEr(g:r.AX.length<2 ^ 62)(a:FT c){l:List AU}(e:l.length<=1048576)(k now:Int):AWz r c l k now=some (KX r c l k now):=by
 have h:=a.1;have j:=Ih a.2;unfold AWz UQ KX;simp only[Nu a,SG g e,SH (show c.Row.length<2 ^ 62 by omega),M3 a.2,cq e,P4 (show (E8 c.B6).length<2 ^ 62 by omega),cj (show l.length<2 ^ 58 by omega),dB (show l.length<2 ^ 58 by omega),AB,AV,Ck]
def ADg(h:r.AX.length<2 ^ 62)(a:FT c){l:List AU}(g:l.length<=1048576){k:Int}(e:Da l k<=19)(now:Int):AIq r c l k now=some (KX r c l k now):=by
 have j:=a.1;have q:=Ih a.2;unfold AIq QK KX;simp only[Rj a,Ro h g e,cE (show c.Row.length<2 ^ 62 by omega),PU a.2,cI g e,cF (show (E8 c.B6).length<2 ^ 62 by omega),cH (show l.length<2 ^ 58 by omega),cJ (show l.length<2 ^ 58 by omega),AB,AV,Ck]
def I2(q p:AU):Bool:=(q.A5==p.A5)||((decide (q.A5<p.A5)&&decide (p.Since<q.Since))||(decide (p.A5<q.A5)&&decide (q.Since<p.Since)))
def cR(h:AE)(i:Nat):Bool:=
 KP h.AG i λp=>D3 h.AQ p h.Now&&(!(decide (p.A5>=h.A5))&&((if 0<i then KP h.AG (i-1) (λq=>!(decide (q.Id>=p.Id))) else true)&&JK (λk=>KP h.AG k λq=>!(I2 q p)) 0 i))
def LQ(h:AE):Bool:=JK (cR h) 0 h.AG.length
def dS(e:Bt h):AW0 h=some (LQ h):=by
 have y:=e.Ds;have B:=e.CR;unfold AW0 LQ;rw[Kf (n:=h.AG.length) (E:=some true) (cR h) (by omega) ?_ ?_,Ck,CN]
 .intro L i hi;unfold cR;rw[Ca hi];have j:∀b,UY h L i h.AG[i] b=br (!b&&JK (λk=>KP h.AG k λq=>!(I2 q h.AG[i])) 0 i) (L ((i+1:Nat):Int)) (some false):=by
   intro b;unfold UY;rw[Kf (n:=i) (E:=L ((i+1:Nat):Int)) (λk=>KP h.AG k λq=>!(I2 q h.AG[i])) (by omega) ?_ ?_]
   .cases b<;>rfl
   .intro L' k g;have a:k<h.AG.length:=by omega
    have c:∀b,PL L' k b=br (!b) (L' ((k+1:Nat):Int)) (some false):=by intro b;unfold PL;rw[Bv g];cases b<;>rfl
    rw[Ca a];unfold uc I2;rw[CF g,BQ,BM a,AB];simp only[AV,c,gt_iff_lt];cases h.AG[k].A5==h.AG[i].A5<;>cases decide (h.AG[k].A5<h.AG[i].A5)<;>cases decide (h.AG[i].Since<h.AG[k].Since)<;>cases decide (h.AG[i].A5<h.AG[k].A5)<;>cases decide (h.AG[k].Since<h.AG[i].Since)<;>rfl
   .intro L';unfold uc AIt;rw[C2,BW,AV,Bv hi]
  unfold ub
  grind[BQ,BM,AB,Nw,BG,AV,KP,KW,D3,decide_eq_false]
 grind[ub,AIu,BW,AV]
theorem WG{l:List Int}(c:l.length<2 ^ 62)(x:Int):AMK l x=some (l.any (λy=>y==x)):=by
 unfold AMK;refine(DK (n:=l.length) (λi (_:Unit)=>(i:Int)) (λ_ _=>True) (λi _=>some ((l.drop i).any (λy=>y==x))) (by omega) ?_ (v:=()) trivial);intro L i _ _ hi a;unfold AI7 AI6;rcases Aa i l.length with h|h
 .rw[CF h,BQ,BM h,AB,Bv h,Dt h,List.any_cons];cases l[i]==x with|true=>rfl|false=>rw[BW,a () trivial h];rfl
 grind[BW,AV]
theorem Ps{l:List Int}(a:l.length<2 ^ 62)(x:Int):qC l x=some (l.any (λy=>y==x)):=by
 unfold qC APU;rw[RJ (l:=l) (p:=λy=>x==y) (by omega) ?_ ?_,AB]
 .congr 1;rw[IS,decide_eq_true_iff,List.any_eq_true];have:=eu (p:=λy=>x==y) (l:=l) (s:=0)
  grind
 .grind[gH,BQ,BM,AB]
 grind[gH,AAq,BW,AV]
def SK(t:List Int)(n:Int)(i:Nat):Bool:=KP t i λk=>inB k 0 (w64 (n-1))&&!((t.take i).any λy=>y==k)
def Hq(t:List Int)(n:Int):Bool:=JK (SK t n) 0 t.length
def J0(t:List Int)(n:Int):Bool:=t.all λx=>inB x (-1) (w64 (n-1))
def zE(a:Bt h):AW1 h=some (Hq h.BF h.AJ.length&&(J0 h.BD h.AJ.length&&((h.BD.length:Int)==h.AQ.C7))):=by
 have e:=a.todo;have g:=a.F9;have c:dg h ()=some (J0 h.BD h.AJ.length&&((h.BD.length:Int)==h.AQ.C7)):=by
  unfold dg J0;rw[pZ (l:=h.BD) (λx=>inB x (-1) (w64 ((h.AJ.length:Int)-1))) (E:=some ((h.BD.length:Int)==h.AQ.C7)) (by omega) ?_ ?_,Ck]
  .intro L i hi;unfold uf;rw[CF hi,BQ,BM hi,AB,GZ,AB,BG]
  .intro L;unfold uf AJJ;rw[C2,BW,AV]
 unfold AW1 Hq;rw[Kf (n:=h.BF.length) (E:=dg h ()) (SK h.BF h.AJ.length) (by omega) ?_ ?_,c,Ck]
 .intro L i hi;unfold SK;rw[Ca hi];unfold ue ud
  grind[BQ,BM,AB,GZ,BG,CD,WG,AV,Bv,inB]
 grind[ue,BW,AV]
def Wb(h:AE)(i:Nat):Bool:=
 KP h.AJ i λc=>KP h.AQ.AX i (λs=>c.AX.Total==s)&&(KX h.AQ c h.AG i h.Now&&!(decide (Da h.AG i>h.AQ.Room)))
def Nd(h:AE):Bool:=JK (Wb h) 0 h.AJ.length
def DC(h:AE):Bool:=
 Dp h.AQ&&(inB h.Now 0 1000000&&(inB h.A5 1 1000001&&(!(decide ((h.AG.length:Int)>40))&&(((h.AJ.length:Int)==(h.AQ.AX.length:Int))&&(LQ h&&((Hq h.BF h.AJ.length&&(J0 h.BD h.AJ.length&&((h.BD.length:Int)==h.AQ.C7)))&&Nd h))))))
def Gp(a:Bt h):fL h=some (DC h):=by
 have G:=a.Ds;have q:=a.CR;have H:=a.Dz;have B:PI h true=some false:=rfl;unfold fL DC;by_cases y:h.AJ.length=h.AQ.AX.length
 .have g:∀b,da h b=some (!b&&Nd h):=by
   intro b;unfold da Nd;rw[Kf (n:=h.AJ.length) (E:=some true) (Wb h) (by omega) ?_ ?_,Ck,CN,Hy]
   .intro L i hi;have j:∀b,Wf L i b=br (!b) (L ((i+1:Nat):Int)) (some false):=by intro b;unfold Wf;rw[Bv hi];cases b<;>rfl
    unfold Wb;rw[Ca hi,Ca (show i<h.AQ.AX.length by omega)];unfold uV;rw[CF hi,BQ,BM hi,AB,BM (show i<h.AQ.AX.length by omega),AB,AB,AEr (by omega) (a.ES _ (Ak hi)) q,AB,BG,SC (by omega),AB];simp only[AV,j,bne];cases h.AJ[i].AX.Total==h.AQ.AX[i]<;>cases KX h.AQ h.AJ[i] h.AG i h.Now<;>cases decide (Da h.AG i>h.AQ.Room)<;>rfl
   .intro L;unfold uV AId;rw[C2,BW,AV]
  have c:∀b,PI h b=some (!b&&(LQ h&&((Hq h.BF h.AJ.length&&(J0 h.BD h.AJ.length&&((h.BD.length:Int)==h.AQ.C7)))&&Nd h))):=by
   intro b;unfold PI;simp only[dS a,zE a,AB,BG,AV,g,Bl,By,EO,Ck,Hy]
  simp only[Jp (show h.AQ.AX.length<2 ^ 62 by omega),GZ,AB,BG,AV,c,Bl,By,Ck,Hy,bne,EO]
 .have e:((h.AJ.length:Int)==(h.AQ.AX.length:Int))=false:=by rw[beq_eq_false_iff_ne];omega
  simp only[Jp (show h.AQ.AX.length<2 ^ 62 by omega),GZ,AB,BG,AV,bne,e,ER,B,Wa,By,Dq]
def Fz(g:Bt h):SW h=some (DC h):=by
 have h1:=g.Ds;have h2:=g.CR;have h3:=g.Dz;have h4:=g.todo;have h5:=g.F9;have ht:Mj h true=some false:=rfl;unfold SW DC;by_cases Z:Dp h.AQ=false
 .rw[HX (by omega),AB,Z,BG,BW,AV,ht];rfl
 rw[Et]at Z;have hrm:=(CO Z).2.2.1;by_cases c:h.AJ.length≠h.AQ.AX.length
 .have e:((h.AJ.length:Int)==(h.AQ.AX.length:Int))=false:=by rw[beq_eq_false_iff_ne];omega
  simp only[HX (show h.AQ.AX.length<2 ^ 62 by omega),Fv,AB,BG,AV,bne,e,ER,ht,BQ,Wa,By,Dq]
 have c:=Classical.not_not.1 c;have H:UX h ()=some (J0 h.BD h.AJ.length):=by
  unfold UX J0;rw[pZ (l:=h.BD) (λx=>inB x (-1) (w64 ((h.AJ.length:Int)-1))) (E:=some true) (by omega) ?_ ?_,Ck,CN]
  .intro L i hi;unfold ZO;rw[CF hi,BQ,BM hi,AB,Fv,AB,BG,c]
  .intro L;unfold ZO qD;rw[C2,BW,AV]
 have G:UW h ()=some (Hq h.BF h.AJ.length&&J0 h.BD h.AJ.length):=by
  unfold UW Hq;rw[Kf (n:=h.BF.length) (E:=UX h ()) (SK h.BF h.AJ.length) (by omega) ?_ ?_,H,Ck]
  .intro L i hi;unfold SK;rw[Ca hi];unfold ZN ZM;rw[CF hi,BQ,BM hi,AB,YM,AB,BG,CD (by omega),Ag,Ps (by rw[Aj];omega),AB,AV,AV,Bv hi,BQ,c];cases inB h.BF[i] 0 (w64 ((h.AQ.AX.length:Int)-1))<;>cases (h.BF.take i).any (λy=>y==h.BF[i])<;>rfl
  .intro L;unfold ZN;rw[C2,BW,AV]
 have e7:Wu h ()=some (Nd h&&(Hq h.BF h.AJ.length&&J0 h.BD h.AJ.length)):=by
  unfold Wu Nd;rw[Kf (n:=h.AJ.length) (E:=UW h ()) (Wb h) (by omega) ?_ ?_,G,Ck]
  .intro L i hi;have B:∀b,S7 L i b=br (!b) (L ((i+1:Nat):Int)) (some false):=by intro b;unfold S7;rw[Bv hi];cases b<;>rfl
   unfold Wb;rw[Ca hi,Ca (show i<h.AQ.AX.length by omega)];unfold gM;rw[CF hi,BQ,BM hi,AB,BM (show i<h.AQ.AX.length by omega),AB,Rk (by omega),AB];by_cases hc:Da h.AG i>h.AQ.Room
   .rw[decide_eq_true hc];simp only[AV,B,bne,BQ];cases h.AJ[i].AX.Total==h.AQ.AX[i]<;>cases KX h.AQ h.AJ[i] h.AG i h.Now<;>rfl
   .rw[decide_eq_false hc,ADg (by omega) (g.ES _ (Ak hi)) h2 (by omega),AB];simp only[AV,B,bne,BW];cases h.AJ[i].AX.Total==h.AQ.AX[i]<;>cases KX h.AQ h.AJ[i] h.AG i h.Now<;>rfl
  .intro L;unfold gM;rw[C2,BW,AV]
 have J:∀b,Mj h b=some (!b&&(!(decide ((h.AG.length:Int)>40))&&(LQ h&&(Nd h&&(Hq h.BF h.AJ.length&&J0 h.BD h.AJ.length))))):=by
  intro b;unfold Mj LQ;rw[Kf (n:=h.AG.length) (E:=Wu h ()) (cR h) (by omega) ?_ ?_,e7,Ck,Hy,Hy]
  .intro L i hi;unfold cR;rw[Ca hi];have O:∀b,QL h L i h.AG[i] b=br (!b&&JK (λk=>KP h.AG k λq=>!(I2 q h.AG[i])) 0 i) (L ((i+1:Nat):Int)) (some false):=by
    intro b;unfold QL;rw[CD (by omega),Kf (n:=i) (E:=L ((i+1:Nat):Int)) (λk=>KP h.AG k λq=>!(I2 q h.AG[i])) (by omega) ?_ ?_]
    .cases b<;>rfl
    .intro L' k hk;have Y:k<h.AG.length:=by omega
     have S:∀b,Mk L' k b=br (!b) (L' ((k+1:Nat):Int)) (some false):=by intro b;unfold Mk;rw[Bv hk];cases b<;>rfl
     have a:(h.AG.take i).length=i:=by rw[Aj];omega
     have I:at? (h.AG.take i) (k:Int)=some h.AG[k]:=by rw[BM (by omega)];simp
     rw[Ca Y];unfold gK I2;rw[Ag,a,CF hk,BQ,I,AB];have eb:(h.AG[i].A5==h.AG[k].A5)=(h.AG[k].A5==h.AG[i].A5):=BEq.comm;simp only[AV,S,gt_iff_lt,eb];cases h.AG[k].A5==h.AG[i].A5<;>cases decide (h.AG[k].A5<h.AG[i].A5)<;>cases decide (h.AG[i].Since<h.AG[k].Since)<;>cases decide (h.AG[i].A5<h.AG[k].A5)<;>cases decide (h.AG[k].Since<h.AG[i].Since)<;>rfl
    .intro L';have a:(h.AG.take i).length=i:=by rw[Aj];omega
     unfold gK AAr;rw[Ag,a,C2,BW,AV,Bv hi]
   unfold gJ;rw[CF hi,BQ,BM hi,AB,Nj (by omega),AB,BG,du];simp only[AV,O];generalize JK (λk=>KP h.AG k λq=>!(I2 q h.AG[i])) 0 i=X;by_cases j:0<i
   .rw[decide_eq_true j,BQ,AW j,KW i j (by omega),BM (show i-1<h.AG.length by omega),AB,Ca (show i-1<h.AG.length by omega)];cases D3 h.AQ h.AG[i] h.Now<;>cases decide (h.AG[i].A5>=h.A5)<;>cases decide (h.AG[i-1].Id>=h.AG[i].Id)<;>rfl
   .rw[decide_eq_false j,BW,AT j];cases D3 h.AQ h.AG[i] h.Now<;>cases decide (h.AG[i].A5>=h.A5)<;>rfl
  .intro L;unfold gJ;rw[C2,BW,AV]
 have e:((h.AJ.length:Int)==(h.AQ.AX.length:Int))=true:=by rw[beq_iff_eq];omega
 simp only[HX (show h.AQ.AX.length<2 ^ 62 by omega),Fv,AB,BG,AV,J,Bl,By,Ck,Hy,bne,EO,e,BQ,ER,CU];congr 1;ac_rfl
def RW(n:Int):Bool:=inB n 0 9999
def AV2(n:Int):dL n=some (RW n):=by unfold dL RW;rw[GZ,AB]
def ATZ(n:Int):SX n=some (RW n):=by unfold SX RW;rw[Fv,AB]
def KJ(q:Bq):Bool:=
 if q.Kind=1 then RW q.Id&&(RW q.AZ&&(inB q.B0 (-1) 9999&&(RW q.BL&&RW q.DS)))
 else if q.Kind=2\/q.Kind=4\/q.Kind=5\/q.Kind=7 then RW q.Id&&(q.AZ==0&&(q.B0==0&&(q.BL==0&&q.DS==0)))
 else if q.Kind=3 then RW q.AZ&&(RW q.BL&&(q.Id==0&&(q.B0==0&&q.DS==0)))
 else if q.Kind=6 then q.Id==0&&(q.AZ==0&&(q.B0==0&&(q.BL==0&&q.DS==0)))
 else false
def oA(q:Bq):uX q=some (KJ q):=by
 have ⟨k,a,b,c,d,e⟩:=q;unfold uX I8 UR I8 KJ;simp only[AV,AV2,AB,GZ,Ck,Bu,beq_iff_eq]
 grind
def mO(q:Bq):Ww q=some (KJ q):=by
 have ⟨k,a,b,c,d,e⟩:=q;unfold Ww HU QN HU KJ;simp only[AV,ATZ,AB,Fv,Ck,Bu,beq_iff_eq]
 grind
structure CY(e:Az):Prop where
 EW:Bt e.Ax
 log:e.Aq.Log.Data.length<=1048576
 even:e.Aq.Ec.Data.length<=1048576
 odd:e.Aq.Odd.Data.length<=1048576
 laid:e.Laid.length<=1048576
def DB(e:Az):Bool:=DC e.Ax&&(GR e.Aq&&(!(decide ((e.Laid.length:Int)>8))&&(inB e.Seq e.Laid.length 1000000&&e.Laid.all KJ)))
def F3(a:CY e):uY e=some (DB e):=by
 have g:=a.laid;have c:∀b,US e b=some (!b&&e.Laid.all KJ):=by
  intro b;unfold US;rw[pZ (l:=e.Laid) KJ (E:=some true) (by omega) ?_ ?_,Ck,CN,Hy]
  .intro L i h;unfold uZ;rw[CF h,BQ,BM h,AB,oA,AB,BG]
  .grind[uZ,AIe,BW,AV]
 unfold uY DB;simp only[Gp a.EW,SI,GZ,AB,BG,AV,c,Bl,By,Ck,Hy,EO]
def Iw(a:CY e):Wx e=some (DB e):=by
 have g:=a.laid;have c:∀b,QO e b=some (!b&&e.Laid.all KJ):=by
  intro b;unfold QO;rw[pZ (l:=e.Laid) KJ (E:=some true) (by omega) ?_ ?_,Ck,CN,Hy]
  .intro L i h;unfold gP;rw[CF h,BQ,BM h,AB,mO,AB,BG]
  .grind[gP,AAt,BW,AV]
 unfold Wx DB;simp only[Fz a.EW,YI,Fv,AB,BG,AV,c,Bl,By,Ck,Hy,EO]
def AaU{F:(Int->AA Bool)->Int->AA Bool}(a:n<2 ^ 63)(step:∀L (i:Nat),i<n->F L (i:Int)=L (w64 ((i:Int)+1)))(stop:∀L,F L (n:Int)=some true) :
 br ((n:Int) != (n:Int)) (some false) (A9 F big 0)=some true:=by
 rw[Bu,AT (by simp)];exact tz a (λL i h=>by rw[step L i h,Bv h a]) stop
def ne_self(a:Int):(a != a)=false:=by simp
@[simp] theorem eG(a b c:Int):Ew a b c=some (decide (b<=a/\a<=c)):=by
 grind[Ew,de,BX,AV]
@[simp] theorem RA(a b c:Int):DN a b c=some (decide (b<=a/\a<=c)):=by
 grind[DN,Wj,BX,AV]
def Fj(n:Nat):List UInt8:=if n<128 then [UInt8.ofNat n] else UInt8.ofNat (n % 128+128)::Fj (n / 128)
decreasing_by omega
def pN(n:Int):List UInt8:=if 0<=n/\n<=2147483647 then Fj n.toNat else []
theorem PZ(h:n<128):Fj n=[UInt8.ofNat n]:=by rw[Fj,AW h]
def Up(h:128<=n):Fj n=UInt8.ofNat (n % 128+128)::Fj (n / 128):=by rw[Fj,ifN]
def Ii(n:Nat):0<(Fj n).length:=by rw[Fj];split<;>simp
def cU:∀(k n:Nat),n<128 ^ (k+1)->(Fj n).length<=k+1
 |0,n,h=>by rw[PZ (by simpa using h)];simp|k+1,n,h=>by
  rcases Aa n 128 with a|a
  .rw[PZ a];simp
  .rw[Up a];have:=cU k (n / 128) (by rw[Cz (by omega)];rw[Hv]at h;exact h);simp only[AI];omega
theorem Kz(h:n<=2147483647):(Fj n).length<=5:=cU 4 n (by omega)
def Pz(n:Int):(pN n).length<=5:=by unfold pN;split
                                   .exact Kz (by omega)
                                   .simp
def ALV{F:(Int×List UInt8->AA (List UInt8))->Int×List UInt8->AA (List UInt8)}
 (hF:∀L n acc,F L (n,acc)=if n<128 then gd (acc.length+1<=lim) (some (acc++[toB n])) else gd (acc.length+1<=lim) (L (w64 (Int.tdiv n 128),acc++[toB (w64 (Int.tmod n 128+128))])))
 {n:Nat} (q:n<=2147483647):A9 F big ((n:Int),[])=some (Fj n):=by
 have:=aW (F:=F) (x:=((n:Int),[])) (λx=>some (x.2++Fj x.1.toNat)) (λx=>0<=x.1/\x.1<=2147483647/\x.2.length+(Fj x.1.toNat).length<=5) (λx=>x.1.toNat) ?_ ?_ ?_
 .simpa using this
 .rintro L ⟨m,acc⟩ ⟨a,j,c⟩ hL;dsimp only at a j c hL ⊢;obtain⟨m,rfl⟩:=Ai a;rw[hF];simp only[Ag]at c hL ⊢;have hlim:acc.length+1<=lim:=by have:=Ii m;unfold lim;omega
  by_cases h:m<128
  .rw[ifP,CD hlim,PZ h,ALn (by omega)]
  .have e:Int.tdiv (m:Int) 128=((m / 128:Nat):Int):=by
    rw[HI (by omega)];rfl
   have g:Int.tmod (m:Int) 128+128=((m % 128+128:Nat):Int):=by
    rw[EK (by omega)];omega
   have y:=Up (n:=m) (by omega);rw[ifN,CD hlim,e,g,A7,A7,ALn (by omega)]
   grind
 .refine⟨by dsimp only;omega,by dsimp only;omega,?_⟩;have:=Kz q;simpa using this
 .dsimp only;omega
@[simp] theorem T7(n:Int):gV n=some (pN n):=by
 unfold gV pN;simp only[eG,AB,BG,BX];split
 .rename_i h;obtain⟨m,rfl⟩:=Ai h.1;refine ALV (λL n acc=>?_) (by omega);unfold AAx AAw;simp only[BX,AV,AI,AM,Ar];by_cases h:n>127
  .grind
  .rw[AT h,ifP]
 .rfl
@[simp] theorem Kw(n:Int):Wo n=some (pN n):=by
 unfold Wo pN;simp only[RA,AB,BG,BX];split
 .rename_i h;obtain⟨m,rfl⟩:=Ai h.1;refine ALV (λL n acc=>?_) (by omega);unfold AAf AAe;simp only[BX,AV,AI,AM,Ar];by_cases h:n>=128
  .grind
  .rw[AT h,ifP]
 .rfl
def rdN:Nat->Nat->Nat->List UInt8->AA (Nat×Nat)
 |0,_,_,_=>none|_+1,_,_,[]=>none|f+1,k,a,d::l=>
  if d.toNat<128 then (if (0<k/\d.toNat=0)\/2147483647<a+(d.toNat % 128)*2 ^ (7*k) then none else some (a+(d.toNat % 128)*2 ^ (7*k),k+1))
  else rdN f (k+1) (a+(d.toNat % 128)*2 ^ (7*k)) l
def vQ(at_:Nat):AA (Nat×Nat)->Int×Int×Bool|some (n,m)=>((n:Int),((at_+m:Nat):Int),true)|none=>(0,0,false)
def gN(b:List UInt8)(i:Int):Int×Int×Bool:=if 0<=i/\i<b.length then vQ i.toNat (rdN 5 0 0 (b.drop i.toNat)) else (0,0,false)
def AEn{c s:Nat}(g:c<128)(a:s<=28):pI (c:Int) (s:Int)=((c*2 ^ s:Nat):Int):=by
 have e:c*2 ^ s<2 ^ 35:=by
  have:2 ^ s<=2 ^ 28:=Gi (by omega) a
  calc c*2 ^ s<=127*2 ^ 28:=Nat.mul_le_mul (by omega) this
   _<2 ^ 35:=by decide
 grind[IntKind.bits,U0]
theorem Qp(h:n<2 ^ 63):(BitVec.ofInt IntKind.i64.bits (n:Int)).toNat=n:=by
 simp only[IntKind.bits,BitVec.toNat_ofInt];omega
def AXg{a b:Nat}(c:a<2 ^ 63)(e:b<2 ^ 63):orI (a:Int) (b:Int)=((a |||b:Nat):Int):=by
 unfold orI;rw[BitVec.toNat_or,Qp c,Qp e];have:a |||b<2 ^ 63:=Nat.or_lt_two_pow c e;rw[U0 (by omega) (by omega)]
def AZr{a c s:Nat}(e:a<2 ^ s):a |||c*2 ^ s=a+c*2 ^ s:=by
 have:=Nat.two_pow_add_eq_or_of_lt e c;rw[Nat.or_comm,Nat.mul_comm,<-this,Nat.add_comm]
def AEJ:∀(k n:Nat),n<128 ^ (k+1)->((Fj n).length=k+1↔k=0\/128 ^ k<=n)
 |0,n,h=>by rw[PZ (by simpa using h)];simp|k+1,n,h=>by
  rcases Aa n 128 with a|a
  .grind[PZ]
  .rw[Up a];have c:n / 128<128 ^ (k+1):=by rw[Cz (by omega)];rw[Hv]at h;exact h
   have:=AEJ k (n / 128) c;have e:128 ^ k<=n / 128↔128 ^ (k+1)<=n:=by rw[Nat.le_div_iff_mul_le (by omega),Hv]
   grind
def AZv(k:Nat):(2:Nat) ^ (7*k)=128 ^ k:=by rw[Nat.pow_mul]
def digit{a c:Nat}(j:k<5)(g:a<128 ^ k)(h:c<128):a+c*2 ^ (7*k)<128 ^ (k+1)/\a+c*2 ^ (7*k)<2 ^ 35:=by
 rw[AZv];have e:a+c*128 ^ k<128 ^ (k+1):=by
  have:c*128 ^ k<=127*128 ^ k:=An _ (by omega);rw[Hv];omega
 refine⟨e,Nat.lt_of_lt_of_le e ?_⟩
 calc 128 ^ (k+1)<=128 ^ 5:=Gi (by omega) (by omega)
  _=2 ^ 35:=by decide
def Q3{b:List UInt8}(I:b.length<2 ^ 62){i:Nat}(hi:i<2 ^ 62):∀(f k a n:Nat),f+k=5->f<n->a<128 ^ k ->
 A9 (QP b i) n ((a:Int),(k:Int))=some (vQ i (rdN f k a (b.drop (i+k))))
 |0,k,a,n,S,Y,g=>by
  obtain⟨n,rfl⟩:∃m,n=m+1:=⟨n-1,by omega⟩;rw[DW];unfold QP AA9;simp only[BX,AV];rw[ifN];rfl
 |f+1,k,a,n,S,Y,g=>by
  obtain⟨n,rfl⟩:∃m,n=m+1:=⟨n-1,by omega⟩;rw[DW];generalize hL:A9 (QP b i) n=L;unfold QP;simp only[BX,AV];rw[ifP,ifN];unfold W5 W6;simp only[BX,AV,BQ,Bu,ge_iff_le,beq_iff_eq,decide_eq_true_eq];rw[A7 (n:=(b.length:Int)-k)];cases e:b.drop (i+k) with
  |nil=>
   have:b.length<=i+k:=Gf.1 e;rw[ifP];rfl
  |cons d l=>
   have X:i+k<b.length:=by
    rcases Aa (i+k) b.length with h|h
    .exact h
    .rw[As h]at e;cases e
   have J:b[i+k]?=some d:=by
    have:=Bz (xs:=b) (i:=i+k) (j:=0);rw[e]at this;simpa using this.symm
   have q:b.drop (i+(k+1))=l:=by
    rw[<-CV,<-C3,e];rfl
   rw[ifN,A7 (n:=(i:Int)+k),show (i:Int)+k=((i+k:Nat):Int) from by push_cast;rfl,KY,J,AB];have O:d.toNat<256:=d.toNat_lt;have G:w64 (7*(k:Int))=((7*k:Nat):Int):=by rw[A7];push_cast;rfl
   have ed:w64 ((d.toNat:Nat):Int)=(d.toNat:Int):=A7 (by omega) (by omega);have em:Int.tmod (d.toNat:Int) 128=((d.toNat % 128:Nat):Int):=by rw[EK (by omega)];rfl
   have ⟨B,Z⟩:=digit (a:=a) (k:=k) (c:=d.toNat % 128) (by omega) g (by omega);have y:orI (a:Int) (pI ((d.toNat % 128:Nat):Int) ((7*k:Nat):Int))=((a+(d.toNat % 128)*2 ^ (7*k):Nat):Int):=by
    rw[AEn (by omega) (by omega)];rw[AXg (by have:=Gi (n:=128) (by omega) (show k<=5 by omega);omega) (by omega),AZr (by rw[AZv];exact g)]
   rw[G,CD (by omega),ed,em,y];simp only[rdN];have E:w64 ((k:Int)+1)=((k+1:Nat):Int):=A7 (by omega) (by omega);by_cases H:d.toNat<128
   .grind[vQ,Prod.mk.injEq,A7]
   .rw[ifN,AT H,E,<-hL,Q3 I hi f (k+1) _ n (by omega) (by omega) B,q]
def Qd{b:List UInt8}(S:b.length<2 ^ 62){i:Nat}(hi:i<2 ^ 62):∀(f k a n:Nat),f+k=5->f<n->a<128 ^ k ->
 A9 (TC b i) n ((a:Int),(k:Int))=some (vQ i (rdN f k a (b.drop (i+k))))
 |0,k,a,n,Z,hn,G=>by
  obtain⟨n,rfl⟩:∃m,n=m+1:=⟨n-1,by omega⟩;rw[DW];unfold TC XB iN;simp only[BX,AV];rw[ifN];rfl
 |f+1,k,a,n,Z,hn,G=>by
  obtain⟨n,rfl⟩:∃m,n=m+1:=⟨n-1,by omega⟩;rw[DW];generalize hL:A9 (TC b i) n=L;unfold TC;simp only[BX,AV];rw[ifP];unfold XB iN;simp only[BX,AV,Bu,bne_iff_ne,Kw,AB,decide_eq_true_eq];rw[A7 (n:=(i:Int)+k),show (i:Int)+k=((i+k:Nat):Int) from by push_cast;rfl];cases e:b.drop (i+k) with
  |nil=>
   have:b.length<=i+k:=Gf.1 e;rw[ifN];rfl
  |cons d l=>
   have hlt:i+k<b.length:=by
    rcases Aa (i+k) b.length with h|h
    .exact h
    .rw[As h]at e;cases e
   have X:b[i+k]?=some d:=by
    have:=Bz (xs:=b) (i:=i+k) (j:=0);rw[e]at this;simpa using this.symm
   have y:b.drop (i+(k+1))=l:=by
    rw[<-CV,<-C3,e];rfl
   rw[ifP,KY,X,AB];have Y:d.toNat<256:=d.toNat_lt;have J:w64 (7*(k:Int))=((7*k:Nat):Int):=by rw[A7];push_cast;rfl
   have ed:w64 ((d.toNat:Nat):Int)=(d.toNat:Int):=A7 (by omega) (by omega);have em:Int.tmod (d.toNat:Int) 128=((d.toNat % 128:Nat):Int):=by rw[EK (by omega)];rfl
   have ⟨q,hs2⟩:=digit (a:=a) (k:=k) (c:=d.toNat % 128) (by omega) G (by omega);have B:w64 ((a:Int)+(pI ((d.toNat % 128:Nat):Int) ((7*k:Nat):Int)))=((a+(d.toNat % 128)*2 ^ (7*k):Nat):Int):=by
    rw[AEn (by omega) (by omega),A7];push_cast;rfl
   rw[J,CD (by omega),ed,em,B];simp only[rdN,Kw,AB];have I:w64 ((k:Int)+1)=((k+1:Nat):Int):=A7 (by omega) (by omega);rw[I];by_cases E:d.toNat<128
   .rw[ifP,AW E];have g:128 ^ k<=a+(d.toNat % 128)*2 ^ (7*k)↔d.toNat≠0:=by
     rw[AZv];constructor
     .rintro h O;rw[O]at h;simp at h;omega
     .intro h;have:1*128 ^ k<=d.toNat % 128*128 ^ k:=An _ (by omega);omega
    have H:((pN ((a+(d.toNat % 128)*2 ^ (7*k):Nat):Int)).length:Int)≠((k+1:Nat):Int)↔(0<k/\d.toNat=0)\/2147483647<a+(d.toNat % 128)*2 ^ (7*k):=by
     unfold pN;split
     .rename_i hle;rw[Ag];have:=AEJ k _ q;rw[g]at this;rw[Ne,Me,this];omega
     .simp only[AM];omega
    grind[vQ,A7]
   .rw[ifN,AT E,<-hL,Qd S hi f (k+1) _ n (by omega) (by omega) q,y]
def Pd(c:b.length<2 ^ 62)(i:Int)(hi:i<2 ^ 62):gq b i=some (gN b i):=by
 unfold gq gN;by_cases a:0<=i
 .obtain⟨j,rfl⟩:=Ai a;have:=Q3 c (i:=j) (by omega) 5 0 0 big (by omega) (Jl _ (by omega)) (by omega);refine Eq.trans this ?_;simp only[Ag,C9];split
  .rfl
  .rw[As (by omega)];rfl
 .have ⟨n,e⟩:=QE 0 (by omega)
  grind[DW,QP,W5,BX,AV]
def PT(c:b.length<2 ^ 62)(i:Int):iM b i=some (gN b i):=by
 unfold iM gN;simp only[RA,AB,BG,BX];rw[A7];by_cases a:0<=i/\i<b.length
 .obtain⟨j,rfl⟩:=Ai a.1;rw[ifP,AW a];have:=Qd c (i:=j) (by omega) 5 0 0 big (by omega) (Jl _ (by omega)) (by omega)
  grind
 grind
def AYk(h:n<256):(UInt8.ofNat n).toNat=n:=by simp;omega
theorem yj:∀(f k a n:Nat) (l:List UInt8),(Fj n).length<=f->(k=0\/n≠0)->a+n*2 ^ (7*k)<=2147483647->rdN f k a (Fj n++l)=some (a+n*2 ^ (7*k),k+(Fj n).length)
 |0,k,a,n,l,h,_,_=>by have:=Ii n;omega|f+1,k,a,n,l,h,q,j=>by
  rcases Aa n 128 with c|c
  .rw[PZ c];simp only[Bm,Be,rdN,AI,AM];rw[AYk (by omega),AW c,Ks c,ifN]
  .rw[Up c]at h ⊢;simp only[Bm,rdN,AI]at h ⊢;rw[AYk (by omega),ifN];have e:(n % 128+128) % 128=n % 128:=by omega
   have g:a+n % 128*2 ^ (7*k)+n / 128*2 ^ (7*(k+1))=a+n*2 ^ (7*k):=by
    grind[Nat.mod_add_div]
   rw[e,yj f (k+1) _ (n / 128) l (by omega) (by omega) (by rw[g];exact j),g];congr 2;omega
theorem eP:∀(f k a:Nat) (l:List UInt8) (N m:Nat),rdN f k a l=some (N,m)->∃n l',l=Fj n++l'/\N=a+n*2 ^ (7*k)/\m=k+(Fj n).length/\(k=0\/n≠0)/\N<=2147483647
 |0,k,a,l,N,m,h=>by cases h
 |f+1,k,a,[],N,m,h=>by cases h
 |f+1,k,a,d::l,N,m,h=>by
  have y:d.toNat<256:=d.toNat_lt;simp only[rdN]at h;split at h
  .rename_i e;split at h
   .cases h
   .rename_i B;cases h;refine⟨d.toNat,l,?_,?_,?_,by omega,by omega⟩
    .rw[PZ e];simp
    .rw[Ks e]
    .rw[PZ e];rfl
  .rename_i e;have ⟨n,l',g,E,j,G,q⟩:=eP f (k+1) _ l N m h;have H:n≠0:=by omega
   have c:128<=d.toNat % 128+128*n:=by omega
   refine⟨d.toNat % 128+128*n,l',?_,?_,?_,.inr (by omega),q⟩
   .rw[Up c,show (d.toNat % 128+128*n) % 128+128=d.toNat by omega,show (d.toNat % 128+128*n) / 128=n by omega,g];simp
   .grind
   .rw[Up c,show (d.toNat % 128+128*n) / 128=n by omega,j];simp only[AI];omega
def rdL:Nat->List UInt8->AA (List Int)
 |0,_=>none|f+1,[]=>some []|f+1,l=>match rdN 5 0 0 l with|some (n,m)=>(rdL f (l.drop m)).map ((n:Int)::·)|none=>none
def okN(n:Int):Prop:=0<=n/\n<=2147483647
def pL(l:List Int):List UInt8:=l.flatMap pN
def AUL{n:Int}(h:okN n):pN n=Fj n.toNat:=by unfold pN;rw[AW (show 0<=n/\n<=2147483647 from h)]
def nF{n:Int}(h:okN n):0<(pN n).length:=by rw[AUL h];exact Ii _
def AHf{n:Int}(h:okN n)(l:List UInt8):rdN 5 0 0 (pN n++l)=some (n.toNat,(pN n).length):=by
 rw[AUL h,yj 5 0 0 n.toNat l (Kz (by have:=h.2;omega)) (.inl rfl) (by have:=h.2;simp;omega)];simp
theorem yh:∀(l:List Int) (f:Nat),(∀n∈l,okN n)->(pL l).length<f->rdL f (pL l)=some l
 | [],f,_,h=>by
  obtain⟨f,rfl⟩:∃g,f=g+1:=⟨f-1,by omega⟩;rfl
 |n::l,f,j,h=>by
  obtain⟨f,rfl⟩:∃g,f=g+1:=⟨f-1,by omega⟩;have a:=j n (by simp);have q:=nF a;have e:pL (n::l)=pN n++pL l:=by simp[pL]
  rw[e]at h ⊢;have c:pN n++pL l≠[]:=by intro h;rw[II]at h;rw[h.1]at q;simp at q
  rw[rdL.eq_3 _ _ (by simpa using c),AHf a];simp only[Es];rw[yh l f (λm y=>j m (by simp[y])) (by rw[AH]at h;omega)];simp only[Option.map_some,Int.toNat_of_nonneg a.1]
def Yj:∀(f:Nat) (s:List UInt8) (l:List Int),rdL f s=some l->s=pL l/\∀n∈l,okN n
 |0,s,l,h=>by cases h
 |f+1,[],l,h=>by cases h;exact⟨rfl,by simp⟩
 |f+1,d::s,l,h=>by
  rw[rdL.eq_3 _ _ (by simp)]at h;split at h
  .rename_i n m B;have ⟨H,l',c,e,g,_,G⟩:=eP _ _ _ _ _ _ B;simp only[Nat.mul_zero,Nat.pow_zero,Nat.mul_one,Ar]at e g;subst e g;rw[Option.map_eq_some_iff]at h;obtain⟨E,j,rfl⟩:=h;rw[c,Es]at j;have ⟨q,y⟩:=Yj f l' E j;refine⟨?_,?_⟩
   .rw[c,q];simp only[pL,CS];rw[AUL ⟨by omega,by omega⟩];simp
   .intro x a;rcases Ae.1 a with rfl|a
    .exact⟨by omega,by omega⟩
    .exact y x a
  .cases h
def AHe:AA (List Int)->List Int×Bool|some l=>(l,true)|none=>([],false)
def nR{b:List UInt8}(y:b.length<=1048576){G:List UInt8->Int->AA (Int×Int×Bool)}(hG:∀i:Int,i<2 ^ 62->G b i=some (gN b i))
 {F:(List Int×Int->AA (List Int×Bool))->List Int×Int->AA (List Int×Bool)}
 (hF:∀L acc i,F L (acc,i)=if i<(b.length:Int) then bd (G b i) λx=>br (!x.2.2) (some ([],false)) (gd (acc.length+1<=lim) (L (acc++[x.1],x.2.1))) else some (acc,true)) :
 ∀(f i n:Nat) (acc:List Int),b.length<f+i->f<=n->acc.length<=i->i<=b.length->A9 F n (acc,(i:Int))=some (match rdL f (b.drop i) with|some l=>(acc++l,true)|none=>([],false))
 |0,i,n,acc,e,g,j,q=>by omega|f+1,i,n,acc,e,g,j,q=>by
  obtain⟨n,rfl⟩:∃m,n=m+1:=⟨n-1,by omega⟩;rw[DW,hF];by_cases hi:i<b.length
  .rw[ifP,hG _ (by omega),AB];unfold gN;rw[ifP,Ag];have c:b.drop i≠[]:=by intro h;rw[Gf]at h;omega
   rw[rdL.eq_3 _ _ (by simpa using c)];cases B:rdN 5 0 0 (b.drop i) with
   |none=>rfl|some p=>
    have ⟨v,m⟩:=p;have ⟨H,l',E,J,O,_,_⟩:=eP _ _ _ _ _ _ B;have I:0<m:=by have:=Ii H;omega
    have a:i+m<=b.length:=by
     have:=congrArg List.length E;rw[BI,AH]at this;omega
    simp only[vQ,BG,BQ];rw[CD (by unfold lim;omega),nR y hG hF f (i+m) n (acc++[(v:Int)]) (by omega) (by omega) (by rw[AH];simp;omega) a,<-C3]
    grind
  .rw[ifN,As (by omega)];simp[rdL]
def Yz(a:b.length<=1048576):ABA b=some (AHe (rdL (b.length+1) b)):=by
 unfold ABA;have:=nR a (G:=gq) (F:=gv b) (λi hi=>Pd (by omega) i hi) (λL acc i=>by unfold gv ABB;simp only[BX,AV];rfl) (b.length+1) 0 big [] (by omega) (by have:=Kh;omega) (by simp) (by omega);refine Eq.trans this ?_;simp only[Cu,Be];cases rdL (b.length+1) b<;>rfl
def YJ(a:b.length<=1048576):ABi b=some (AHe (rdL (b.length+1) b)):=by
 unfold ABi;have:=nR a (G:=iM) (F:=iO b) (λi hi=>PT (by omega) i) (λL acc i=>by unfold iO ABj;simp only[BX,AV];rfl) (b.length+1) 0 big [] (by omega) (by have:=Kh;omega) (by simp) (by omega);refine Eq.trans this ?_;simp only[Cu,Be];cases rdL (b.length+1) b<;>rfl
def nH{l:List Int}(h:l.length<=10000000){G:Int->AA (List UInt8)}(hG:∀n,G n=some (pN n))
 {F:(List UInt8×Int->AA (List UInt8))->List UInt8×Int->AA (List UInt8)}
 (hF:∀L acc i,F L (acc,i)=if i<(l.length:Int) then bd (at? l i) λx=>bd (G x) λy=>gd (acc.length+y.length<=lim) (L (acc++y,w64 (i+1))) else some acc) :
 ∀(f i n:Nat) (acc:List UInt8),l.length<f+i->f<=n->acc.length<=5*i->i<=l.length->A9 F n (acc,(i:Int))=some (acc++pL (l.drop i))
 |0,i,n,acc,a,c,e,g=>by omega|f+1,i,n,acc,a,c,e,g=>by
  obtain⟨n,rfl⟩:∃m,n=m+1:=⟨n-1,by omega⟩;rw[DW,hF];by_cases hi:i<l.length
  .rw[ifP,KY,AR hi,AB,hG,AB];have:=Pz l[i];rw[CD (by unfold lim;omega),A7];have:=nH h hG hF f (i+1) n (acc++pN l[i]) (by omega) (by omega) (by rw[AH];omega) hi;refine Eq.trans this ?_;rw[CM hi];simp only[pL,CS,BR]
  .rw[ifN,As (by omega)];simp[pL]
theorem Yy{l:List Int}(a:l.length<=10000000):bS l=some (pL l):=by
 unfold bS;have:=nH a (G:=gV) (F:=gW l) T7 (λL acc i=>by unfold gW AAy;simp only[BX,AV]) (l.length+1) 0 big [] (by omega) (by have:=Kh;omega) (by simp) (by omega);simpa using this
theorem YK{l:List Int}(a:l.length<=10000000):AAg l=some (pL l):=by
 unfold AAg;have:=nH a (G:=Wo) (F:=fj l) Kw (λL acc i=>by unfold fj AAh;simp only[BX,AV]) (l.length+1) 0 big [] (by omega) (by have:=Kh;omega) (by simp) (by omega);simpa using this
def fld(n:Int):Bool:=decide (0<=n/\n<=9999)
def GJ(q:Bq):Bool:=
 if q.Kind=1 then fld q.Id&&fld q.AZ&&decide (-1<=q.B0/\q.B0<=9999)&&fld q.BL&&fld q.DS
 else if q.Kind=2\/q.Kind=4\/q.Kind=5\/q.Kind=7 then fld q.Id&&(q.AZ==0&&(q.B0==0&&(q.BL==0&&q.DS==0)))
 else if q.Kind=3 then fld q.AZ&&fld q.BL&&(q.Id==0&&(q.B0==0&&q.DS==0))
 else if q.Kind=6 then q.Id==0&&(q.AZ==0&&(q.B0==0&&(q.BL==0&&q.DS==0)))
 else false
def FM(q:Bq):List Int:=
 if q.Kind=1 then [q.Kind,q.Id,q.AZ,q.B0+1,q.BL,q.DS]
 else if q.Kind=3 then [q.Kind,q.AZ,q.BL]
 else if q.Kind=6 then [q.Kind]
 else [q.Kind,q.Id]
def FH(q:Bq):List UInt8:=if GJ q then pL (FM q) else []
@[simp] theorem AHy(n:Int):dL n=some (fld n):=by unfold dL fld;simp
@[simp] theorem AG3(n:Int):SX n=some (fld n):=by unfold SX fld;simp
def AHw(q:Bq):uX q=some (GJ q):=by
 have ⟨k,a,b,c,d,e⟩:=q;unfold uX I8 UR I8 GJ;simp only[Bu,AV,AHy,AB,eG,beq_iff_eq]
 grind
theorem AG1(q:Bq):Ww q=some (GJ q):=by
 have ⟨k,a,b,c,d,e⟩:=q;unfold Ww HU QN HU GJ;simp only[Bu,AV,AG3,AB,RA,beq_iff_eq]
 grind
theorem Jf(h:GJ q=true):(q.Kind=1/\(0<=q.Id/\q.Id<=9999)/\(0<=q.AZ/\q.AZ<=9999)/\(-1<=q.B0/\q.B0<=9999)/\(0<=q.BL/\q.BL<=9999)/\(0<=q.DS/\q.DS<=9999)) \/
 ((q.Kind=2\/q.Kind=4\/q.Kind=5\/q.Kind=7)/\(0<=q.Id/\q.Id<=9999)/\q.AZ=0/\q.B0=0/\q.BL=0/\q.DS=0) \/
 (q.Kind=3/\(0<=q.AZ/\q.AZ<=9999)/\(0<=q.BL/\q.BL<=9999)/\q.Id=0/\q.B0=0/\q.DS=0) \/
 (q.Kind=6/\q.Id=0/\q.AZ=0/\q.B0=0/\q.BL=0/\q.DS=0):=by
 unfold GJ fld at h;split at h
 .grind
 split at h
 .grind
 split at h
 .grind
 grind
theorem nV(h:GJ q=true):∀n∈FM q,okN n:=by
 grind[Jf,FM,okN]
theorem cV(q:Bq):0<(FM q).length/\(FM q).length<=6:=by
 grind[FM]
def VS:ABV q=some (FH q):=by
 unfold ABV FH;rw[AHw,AB,BG,Bu]
 grind[GJ,FM,Bu,A7,Yy,AB]
theorem VH:AA6 q=some (FH q):=by
 grind[AA6,S8,FH,AG1,AB,Bu,GJ,FM,AV,CD,lim,A7,YK]
theorem Tx{n:Int}{l:List Int}(h:okN n):pL (n::l)≠[]:=by
 intro a;have:=nF h;simp only[pL,CS,II]at a
 grind
def yn(h:GJ q=true):FH q≠[]:=by
 grind[FH,nV,FM,Tx]
theorem AUK:∀l:List Int,(pL l).length<=5*l.length
 | []=>by simp[pL]|n::l=>by
  have c:=Pz n;have a:=AUK l;simp only[pL,CS,AH,AI]at a ⊢;omega
def AEZ(q:Bq):(FH q).length<=30:=by
 grind[FH,AUK,cV]
theorem Q0(h:GJ q=true)(f:Nat)(a:(FH q).length<f):rdL f (FH q)=some (FM q):=by
 grind[FH,yh,nV]
def Ot(s:List UInt8):Bq×Bool:=open Classical in if h:∃q,GJ q=true/\FH q=s then (h.choose,true) else (⟨0,0,0,0,0,0⟩,false)
theorem AEa(h:GJ q=true)(a:GJ q'=true)(c:FM q=FM q'):q=q':=by
 grind[Bq,FM,Jf]
theorem AVi(h:GJ q=true)(a:GJ q'=true)(e:FH q=FH q'):q=q':=by
 have c:=Q0 h ((FH q).length+1) (by omega)
 grind[Q0,AEa]
theorem nW(h:GJ q=true):Ot (FH q)=(q,true):=by
 unfold Ot;have a:∃q',GJ q'=true/\FH q'=FH q:=⟨q,h,rfl⟩
 grind[AVi]
theorem MS(h:∀q,GJ q=true->FH q≠s):Ot s=(⟨0,0,0,0,0,0⟩,false):=by
 grind[Ot]
def uH(a b:List UInt8)(x y:AA γ):br (a != b) x y=if a=b then y else x:=by
 unfold br
 grind[grind]
def dQ(s:List UInt8)(q:Bq):QQ s q=if FH q=s then some (q,true) else some (⟨0,0,0,0,0,0⟩,false):=by
 unfold QQ;rw[VS,AB,uH]
def dM(s:List UInt8)(q:Bq):QS s q=if FH q=[]\/FH q≠s then some (⟨0,0,0,0,0,0⟩,false) else some (q,true):=by
 grind[QS,iP,VH,AB,AV,BQ,FH,Bu]
theorem K0(a:s≠[])(h:∀q',GJ q'=true->FH q'=s->q'=q):(if FH q=s then some (q,true) else some (⟨0,0,0,0,0,0⟩,false))=some (Ot s):=by
 grind[FH,GJ,nW,MS]
def sj{f:Nat}(h:rdL f s=none)(a:s.length<f):∀q,GJ q=true->FH q≠s:=by
 grind[Q0]
def Yv{s:List UInt8}(X:s.length<=1048576):qG s=some (Ot s):=by
 unfold qG;rw[BX];by_cases H:(s.length:Int)>60
 .rw[AW H,MS];rintro q _ rfl;have:=AEZ q;omega
 rw[AT H,Yz X,AB];cases L:rdL (s.length+1) s with
 |none=>
  simp only[AHe,BG,BW,AV];unfold W7;rw[BQ,MS (sj L (by omega))]
 |some l=>
  have ⟨J,I⟩:=Yj _ _ _ L;simp only[AHe,BG,BQ,AV];unfold W7;cases l with
  |nil=>
   simp only[AM];show br true _ _=_;rw[BQ,MS];rintro q j B;exact yn j (B.trans J)
  |cons n l=>
   have E:s≠[]:=by rw[J];exact Tx (I n (by simp))
   have O:((((n::l).length:Nat):Int)==0)=false:=by rw[AI,beq_eq_false_iff_ne];omega
   have G:∀q,GJ q=true->FH q=s->FM q=n::l:=by
    rintro q j rfl;have:=Q0 j ((FH q).length+1) (by omega);rw[L]at this;simpa using this.symm
   simp only[O,BW];simp only[WY,AN,AB,dQ,AV,Bu,beq_iff_eq];have okq:∀m∈n::l,0<=m/\m<=2147483647:=λm S=>I m S
   match l,G,okq with
   | [],G,_=>
    rw[AT (by simp),AT (by simp),AT (by simp)];refine K0 E λq j B=>?_
    have ⟨k,a,b,c,d,e⟩:=q;have g:=G _ j B;unfold FM at g;rcases Jf j with h|h|h|h<;>dsimp only at h g
    .rw[AW h.1]at g;simp at g
    .rw[ifN,ifN,ifN]at g;simp at g
    .rw[ifN,AW h.1]at g;simp at g
    .rw[ifN,ifN,AW h.1]at g;simp at g;simp;omega
   | [x],G,okq=>
    rw[AW (by simp)];simp only[show at? [n,x] 1=some x from rfl,AB];refine K0 E λq j B=>?_
    have ⟨k,a,b,c,d,e⟩:=q;have g:=G _ j B;unfold FM at g;rcases Jf j with h|h|h|h<;>dsimp only at h g
    .rw[AW h.1]at g;simp at g
    .rw[ifN,ifN,ifN]at g;simp at g;simp;omega
    .rw[ifN,AW h.1]at g;simp at g
    .rw[ifN,ifN,AW h.1]at g;simp at g
   | [x,y],G,okq=>
    rw[AT (by simp),AW (by simp)];simp only[show at? [n,x,y] 1=some x from rfl,show at? [n,x,y] 2=some y from rfl,AB];refine K0 E λq j B=>?_
    have ⟨k,a,b,c,d,e⟩:=q;have g:=G _ j B;unfold FM at g;rcases Jf j with h|h|h|h<;>dsimp only at h g
    .rw[AW h.1]at g;simp at g
    .rw[ifN,ifN,ifN]at g;simp at g
    .rw[ifN,AW h.1]at g;simp at g;simp;omega
    .rw[ifN,ifN,AW h.1]at g;simp at g
   | [x,y,z,u,v],G,okq=>
    have Y:=okq z (by simp);rw[AT (by simp),AT (by simp),AW (by simp)];simp only[show at? [n,x,y,z,u,v] 1=some x from rfl,show at? [n,x,y,z,u,v] 2=some y from rfl,show at? [n,x,y,z,u,v] 3=some z from rfl,show at? [n,x,y,z,u,v] 4=some u from rfl,show at? [n,x,y,z,u,v] 5=some v from rfl,AB];rw[A7];refine K0 E λq j B=>?_
    have ⟨k,a,b,c,d,e⟩:=q;have g:=G _ j B;unfold FM at g;rcases Jf j with h|h|h|h<;>dsimp only at h g
    .rw[AW h.1]at g;simp at g;simp;omega
    .rw[ifN,ifN,ifN]at g;simp at g
    .rw[ifN,AW h.1]at g;simp at g
    .rw[ifN,ifN,AW h.1]at g;simp at g
   | [x,y,z],G,okq=>
    rw[AT (by simp),AT (by simp),AT (by simp)];refine K0 E λq j B=>?_
    have g:=congrArg List.length (G _ j B)
    have:(FM q).length≠4:=by unfold FM;repeat' split
                             all_goals simp
    simp at g;omega
   | [x,y,z,u],G,okq=>
    rw[AT (by simp),AT (by simp),AT (by simp)];refine K0 E λq j B=>?_
    have g:=congrArg List.length (G _ j B)
    have:(FM q).length≠5:=by unfold FM;repeat' split
                             all_goals simp
    simp at g;omega
   |x::y::z::u::v::w::r,G,okq=>
    rw[AT (by simp;omega),AT (by simp;omega),AT (by simp;omega)];refine K0 E λq j B=>?_
    have g:=congrArg List.length (G _ j B);have:=(cV q).2;simp at g;omega
def YL(a:s≠[])(h:∀q',GJ q'=true->FH q'=s->q'=q):(if FH q=[]\/FH q≠s then some (⟨0,0,0,0,0,0⟩,false) else some (q,true))=some (Ot s):=by
 grind[K0,FH]
def xc{s:List UInt8}(hs:s.length<=1048576):ABk s=some (Ot s):=by
 unfold ABk;rw[YJ hs,AB];cases hr:rdL (s.length+1) s with
 |none=>
  simp only[AHe,BG,BW,AV];unfold XC;rw[BQ,MS (sj hr (by omega))]
 |some l=>
  have ⟨I,H⟩:=Yj _ _ _ hr;simp only[AHe,BG,BQ,AV];unfold XC;cases l with
  |nil=>
   simp only[AM];show br true _ _=_;rw[BQ,MS];rintro q j G;exact yn j (G.trans I)
  |cons n l=>
   have B:s≠[]:=by rw[I];exact Tx (H n (by simp))
   have hb:((((n::l).length:Nat):Int)==0)=false:=by rw[AI,beq_eq_false_iff_ne];omega
   have hq:∀q,GJ q=true->FH q=s->FM q=n::l:=by
    rintro q j rfl;have:=Q0 j ((FH q).length+1) (by omega);rw[hr]at this;simpa using this.symm
   have Z:(n::l).length<=s.length:=by
    rw[I];have:∀l:List Int,(∀m∈l,okN m)->l.length<=(pL l).length:=by
     intro l
     induction l with
     |nil=>simp|cons m l ih=>
      intro h;have j:=nF (h m (by simp));have G:=ih λx J=>h x (by simp[J])
      simp only[pL,CS,AH,AI]at G ⊢;omega
    exact this _ H
   rw[AI]at Z;have e1:Int.toNat 1=1:=rfl;have e5:Int.toNat 5=5:=rfl;have ed:List.take ((n::l).length-1) (List.drop 1 (n::l))=l:=by simp
   simp only[hb,BW];simp only[WY,AN,AB,dM,AV,Bu,beq_iff_eq,e1,e5,ed];rw[CD (by simp;omega),CD (by simp;omega),CD (by unfold lim;omega)];have okq:∀m∈n::l,0<=m/\m<=2147483647:=λm hm=>H m hm
   have J:∀(i:Nat),i<5->∃x,(l++List.replicate 5 (0:Int))[i]?=some x/\(0<=x/\x<=2147483647)/\(∀y,l[i]?=some y->x=y):=by
    intro i hi;have O:i<(l++List.replicate 5 (0:Int)).length:=by rw[AH,List.length_replicate];omega
    refine⟨_,AR O,?_,?_⟩
    .have:(l++List.replicate 5 (0:Int))[i]∈l++List.replicate 5 (0:Int):=Ak O;rw[Bs,List.mem_replicate]at this;rcases this with h|h
     .exact okq _ (Af _ h)
     .omega
    .intro y hy;have Y:=(List.getElem?_eq_some_iff.1 hy);have ⟨j,G⟩:=Y;rw[List.getElem_append_left j,G]
   have ⟨X,hx0,b0,i0⟩:=J 0 (by omega);have ⟨x1,hx1,b1,i1⟩:=J 1 (by omega);have ⟨x2,hx2,b2,i2⟩:=J 2 (by omega);have ⟨x3,hx3,b3,i3⟩:=J 3 (by omega);have ⟨x4,hx4,b4,i4⟩:=J 4 (by omega);have a0:(l++List.replicate 5 (0:Int))[0]?=some X:=hx0;have a1:at? (l++List.replicate 5 (0:Int)) 1=some x1:=by rw[show (1:Int)=((1:Nat):Int) from rfl,KY];exact hx1
   have a2:at? (l++List.replicate 5 (0:Int)) 2=some x2:=by rw[show (2:Int)=((2:Nat):Int) from rfl,KY];exact hx2
   have a3:at? (l++List.replicate 5 (0:Int)) 3=some x3:=by rw[show (3:Int)=((3:Nat):Int) from rfl,KY];exact hx3
   have a4:at? (l++List.replicate 5 (0:Int)) 4=some x4:=by rw[show (4:Int)=((4:Nat):Int) from rfl,KY];exact hx4
   simp only[a0,a1,a2,a3,a4,AB];rw[A7 (n:=x2-1)];have shape:∀q,GJ q=true->FH q=s->q=(if n=1 then ⟨n,X,x1,x2-1,x3,x4⟩ else if n=3 then ⟨n,0,X,0,x1,0⟩ else if n=6 then ⟨n,0,0,0,0,0⟩ else ⟨n,X,0,0,0,0⟩):=by
    intro q j G;have ⟨k,a,b,c,d,e⟩:=q;have g:=hq _ j G;unfold FM at g;rcases Jf j with h|h|h|h<;>dsimp only at h g
    .rw[AW h.1]at g;obtain⟨rfl,rfl⟩:=List.cons.inj g;rw[AW h.1];have j0:=i0 _ rfl;have j1:=i1 _ rfl;have j2:=i2 _ rfl;have j3:=i3 _ rfl;have j4:=i4 _ rfl;simp;omega
    .rw[ifN,ifN,ifN]at g;obtain⟨rfl,rfl⟩:=List.cons.inj g;rw[ifN,ifN,ifN];have j0:=i0 _ rfl;simp;omega
    .rw[ifN,AW h.1]at g;obtain⟨rfl,rfl⟩:=List.cons.inj g;rw[ifN,AW h.1];have j0:=i0 _ rfl;have j1:=i1 _ rfl;simp;omega
    .rw[ifN,ifN,AW h.1]at g;obtain⟨rfl,rfl⟩:=List.cons.inj g;rw[ifN,ifN,AW h.1];simp;omega
   by_cases E:n=1
   .rw[AW E];simp only[AW E]at shape;exact YL B shape
   by_cases L:n=3
   .rw[AT E,AW L];simp only[AT E,AW L]at shape;exact YL B shape
   by_cases S:n=6
   .rw[AT E,AT L,AW S];simp only[AT E,AT L,AW S]at shape;exact YL B shape
   .rw[AT E,AT L,AT S];simp only[AT E,AT L,AT S]at shape;exact YL B shape
@[simp] theorem AZI(q:Bq):We q q=some true:=by
 unfold We;simp[Bu]
def ZL(v:Nat):Nat:=if v % 2=1 then (v / 2) ^^^ 3988292384 else v / 2
def Wd:Nat->Nat->Nat|0,v=>v|k+1,v=>Wd k (ZL v)
def UP:Nat->List UInt8->Nat|v,[]=>v|v,x::l=>UP (Wd 8 (v ^^^ x.toNat)) l
def Ku(s:List UInt8):Nat:=UP 4294967295 s ^^^ 4294967295
def ph{v:Nat}(h:v<2 ^ 32):ZL v<2 ^ 32:=by
 unfold ZL;split
 .exact D6 (by omega) (by omega)
 .omega
def Vg:∀k {v:Nat},v<2 ^ 32->Wd k v<2 ^ 32|0,_,h=>h|k+1,_,h=>Vg k (ph h)
def Vh:∀(l:List UInt8) {v:Nat},v<2 ^ 32->UP v l<2 ^ 32| [],_,h=>h|x::l,v,h=>Vh l (Vg 8 (D6 h (by have:=x.toNat_lt;omega)))
def RC{a b:Nat}(c:a<2 ^ 63)(e:b<2 ^ 63):U5 (a:Int) (b:Int)=((a ^^^ b:Nat):Int):=by
 unfold U5;rw[BitVec.toNat_xor,Qp c,Qp e];have:a ^^^ b<2 ^ 63:=D6 c e;rw[U0 (by omega) (by omega)]
def AOz{a b:Nat}(c:a<2 ^ 63)(e:b<2 ^ 63):eW (a:Int) (b:Int)=((a &&& b:Nat):Int):=by
 grind[Qp,Nat.and_le_left,U0]
theorem Aa6(a:Nat):EF (a:Int) 1=((a / 2:Nat):Int):=by
 grind[IntKind.bits]
def fK{γ:Type}{F:(Int×Int->AA γ)->Int×Int->AA γ}{G:Int->AA γ}
 (hF:∀L (v k:Nat),v<2 ^ 32->k<=8->F L ((v:Int),(k:Int))=if k<8 then L (((ZL v:Nat):Int),((k+1:Nat):Int)) else G (v:Int)) :
 ∀(m k v n:Nat),k+m=8->m<n->v<2 ^ 32->A9 F n ((v:Int),(k:Int))=G ((Wd m v:Nat):Int)
 |0,k,v,0,_,h,_=>by omega|0,k,v,n+1,c,_,a=>by rw[DW,hF _ _ _ a (by omega),ifN];rfl|m+1,k,v,0,_,h,_=>by omega|m+1,k,v,n+1,c,h,a=>by
  rw[DW,hF _ _ _ a (by omega),ifP,fK hF m (k+1) _ n (by omega) (by omega) (ph a)];rfl
def fJ{s:List UInt8}{γ:Type}{F:(Int×Int->AA γ)->Int×Int->AA γ}{G:Int->AA γ}(e:s.length<2 ^ 62)
 (hF:∀L (v i:Nat),v<2 ^ 32->i<=s.length->F L ((v:Int),(i:Int))=match s[i]? with|none=>G (v:Int)|some x=>L (((Wd 8 (v ^^^ x.toNat):Nat):Int),((i+1:Nat):Int))) :
 ∀(m i v n:Nat),i+m=s.length->m<n->v<2 ^ 32->A9 F n ((v:Int),(i:Int))=G ((UP v (s.drop i):Nat):Int)
 |0,i,v,0,_,h,_=>by omega|0,i,v,n+1,hi,_,c=>by
  rw[DW,hF _ _ _ c (by omega),De (by omega),As (by omega)];rfl
 |m+1,i,v,0,_,h,_=>by omega|m+1,i,v,n+1,hi,h,c=>by
  have a:i<s.length:=by omega
  rw[DW,hF _ _ _ c (by omega),AR a];dsimp only;rw[fJ e hF m (i+1) _ n (by omega) (by omega) (Vg 8 (D6 c (by have:=s[i].toNat_lt;omega))),CM a];rfl
def AEt(B:s.length<2 ^ 62):AAz s=some ((Ku s:Nat):Int):=by
 unfold AAz;have:=fJ (F:=gY s) (G:=λv=>some (U5 v 4294967295)) B ?_ s.length 0 4294967295 big (by omega) (Jl _ (by omega)) (by omega)
 .refine Eq.trans this ?_;have e:=RC (a:=UP 4294967295 s) (b:=4294967295) (by have:=Vh s (v:=4294967295) (by omega);omega) (by omega);show some (U5 _ ((4294967295:Nat):Int))=_;rw[Cu,e];rfl
 .intro L v i j hi;unfold gY AA1;simp only[BX,AV,KY];by_cases h:i<s.length
  .rw[ifP,AR h,AB];dsimp only;have H:=s[i].toNat_lt;rw[A7,RC (by omega) (by omega)];have:=fK (F:=ga L (i:Int)) (G:=λv=>L (v,((i+1:Nat):Int))) ?_ 8 0 (v ^^^ s[i].toNat) big (by omega) (Jl _ (by omega)) (D6 j (by omega))
   .exact this
   .intro L5 v k j E;unfold ga gX AA0;simp only[BX,AV];by_cases g:k<8
    .rw[ifP,AW g];have q:Int.tmod (v:Int) 2=((v % 2:Nat):Int):=by rw[EK (by omega)];omega
     have y:Int.tdiv (v:Int) 2=((v / 2:Nat):Int):=by rw[HI (by omega)];omega
     rw[q,y,A7,A7 (n:=(k:Int)+1),Bu,show (3988292384:Int)=((3988292384:Nat):Int) from rfl,RC (by omega) (by omega)];unfold ZL;by_cases c:v % 2=1
     .rw[AW (by rw[c];rfl),AW c];rfl
     .rw[AT (by rw[beq_iff_eq];omega),AT c];rfl
    .rw[ifN,AT g,A7];rfl
  .rw[ifN,De (by omega)]
def ADi(y:s.length<2 ^ 62):AAi s=some ((Ku s:Nat):Int):=by
 unfold AAi;have:=fJ (F:=fm s) (G:=λv=>some (U5 v 4294967295)) y ?_ s.length 0 4294967295 big (by omega) (Jl _ (by omega)) (by omega)
 .refine Eq.trans this ?_;have e:=RC (a:=UP 4294967295 s) (b:=4294967295) (by have:=Vh s (v:=4294967295) (by omega);omega) (by omega);show some (U5 _ ((4294967295:Nat):Int))=_;rw[Cu,e];rfl
 .intro L v i j hi;unfold fm AAk;simp only[BX,AV,KY];by_cases h:i<s.length
  .rw[ifP,AR h,AB];dsimp only;have E:=s[i].toNat_lt;rw[A7,RC (by omega) (by omega)];have:=fK (F:=fq L (i:Int)) (G:=λv=>L (v,((i+1:Nat):Int))) ?_ 8 0 (v ^^^ s[i].toNat) big (by omega) (Jl _ (by omega)) (D6 j (by omega))
   .exact this
   .intro L5 v k j B;unfold fq fk AAj;simp only[BX,AV];by_cases g:k<8
    .rw[ifP,AW g];have q:eW (v:Int) 1=((v % 2:Nat):Int):=by
      rw[show (1:Int)=((1:Nat):Int) from rfl,AOz (by omega) (by omega),Nat.and_one_is_mod]
     rw[q,Aa6,A7 (n:=(k:Int)+1),Bu,show (3988292384:Int)=((3988292384:Nat):Int) from rfl,RC (by omega) (by omega)];unfold ZL;by_cases c:v % 2=1
     .rw[AW (by rw[c];rfl),AW c];rfl
     .rw[AT (by rw[beq_iff_eq];omega),AT c];rfl
    .rw[ifN,AT g,A7];rfl
  .rw[ifN,De (by omega)]
def four(c:Int):List UInt8:=[toB (EF c 24),toB (EF c 16),toB (EF c 8),toB c]
theorem HV(c:Int):(four c).length=4:=rfl
def Pm(q:Int)(b:List UInt8):Prop:=(1<=q/\q<=1000000)/\(1<=b.length/\b.length<=60)
instance (q:Int) (b:List UInt8):Decidable (Pm q b):=by unfold Pm;infer_instance
def frT(q:Int)(b:List UInt8):List UInt8:=four ((Ku (pN q++b):Nat):Int)++(pN q++b)
def frB(q:Int)(b:List UInt8):List UInt8:=if Pm q b then pN ((frT q b).length:Int)++frT q b else []
def PR{q:Int}(h:Pm q b):6<=(frT q b).length/\(frT q b).length<=69:=by
 have a:=Pz q;have c:0<(pN q).length:=by unfold pN;rw[AW (by have:=h.1;omega)];exact Ii _
 have:=h.2;simp only[frT,AH,HV];omega
def PQ{q:Int}(h:Pm q b):7<=(frB q b).length/\(frB q b).length<=74:=by
 have:=PR h;have a:=Pz ((frT q b).length:Int);have c:0<(pN ((frT q b).length:Int)).length:=by unfold pN;rw[ifP];exact Ii _
 unfold frB;rw[AW h,AH];omega
def AQA{q:Int}(h:frB q b≠[]):Pm q b:=by
 grind[frB]
def SE(q:Int)(b:List UInt8):ABW q b=some (frB q b):=by
 unfold ABW gz;simp only[eG,AB,AV,BG,BQ];by_cases c:1<=q/\q<=1000000
 .rw[decide_eq_true c,BQ];by_cases g:(1:Int)<=b.length/\(b.length:Int)<=60
  .have a:Pm q b:=⟨c,by omega⟩;have j:=Pz q;rw[decide_eq_true g,BQ,T7,AB,CD (by unfold P0;omega),AEt (by rw[AH];omega),AB];unfold AA2;rw[AB,CD (by simp only[AH,AI,AM];unfold P0;omega),T7,AB];have e:[toB (EF ((Ku (pN q++b):Nat):Int) 24),toB (EF ((Ku (pN q++b):Nat):Int) 16),toB (EF ((Ku (pN q++b):Nat):Int) 8),toB ((Ku (pN q++b):Nat):Int)]++(pN q++b)=frT q b:=rfl;rw[e];have:=Pz ((frT q b).length:Int);have:=PR a;rw[CD (by unfold P0;omega)];unfold frB;rw[AW a]
  .rw[decide_eq_false g,BW];unfold frB;rw[AT (λh=>g ⟨by have:=h.2;omega,by have:=h.2;omega⟩)]
 .rw[decide_eq_false c,BW];unfold frB;rw[AT (λh=>c h.1)]
def Rm(q:Int)(b:List UInt8):AA7 q b=some (frB q b):=by
 unfold AA7 gl;simp only[RA,AB,AV,BG,BQ];by_cases c:1<=q/\q<=1000000
 .rw[decide_eq_true c,BQ];by_cases g:(1:Int)<=b.length/\(b.length:Int)<=60
  .have a:Pm q b:=⟨c,by omega⟩;have j:=Pz q;rw[decide_eq_true g,BQ,Kw,AB,CD (by unfold lim;omega),ADi (by rw[AH];omega),AB];rw[CD (by simp only[AH,AI,AM];unfold lim;omega),Kw,AB];have e:[toB (EF ((Ku (pN q++b):Nat):Int) 24),toB (EF ((Ku (pN q++b):Nat):Int) 16),toB (EF ((Ku (pN q++b):Nat):Int) 8),toB ((Ku (pN q++b):Nat):Int)]++(pN q++b)=frT q b:=rfl;rw[e];have:=Pz ((frT q b).length:Int);have:=PR a;rw[CD (by unfold P0;omega)];unfold frB;rw[AW a]
  .rw[decide_eq_false g,BW];unfold frB;rw[AT (λh=>g ⟨by have:=h.2;omega,by have:=h.2;omega⟩)]
 .rw[decide_eq_false c,BW];unfold frB;rw[AT (λh=>c h.1)]
def I1{i:Int}(a:0<=i)(c:i<l.length):∃x,at? l i=some x:=by
 obtain⟨n,rfl⟩:=Ai a;exact⟨_,BM (by omega)⟩
def YA{x:Int}(a:0<=x)(c:x<1152921504606846976):w64 (EF (IntKind.u64.wrap (w64 x)) 1)=x / 2:=by
 obtain⟨n,rfl⟩:=Ai a
 grind[A7,IntKind.wrap,IntKind.signed,IntKind.bits,Aa6]
def Ln{α:Type}(n:Nat)(x:AA (List α)):Prop:=∃r,x=some r/\r.length=n
def KZ(k:Nat)(h:k<2 ^ 64):k<big:=Jl k h
def AYc(g:∀x y,∃c,cmp x y=some c){b:Int}(h0:0<=a)(ha:a<=l.length)(hb:b<=l.length)(hl:l.length<1099511627776):Ln l.length (DX cmp l a b):=by
 unfold DX;rw[A7];refine LO (λx=>x.1.length=l.length/\a+1<=x.2/\x.2<=2*1099511627776) (λx=>(b-x.2).toNat) (λr:List α=>r.length=l.length) ?_ big (l,a+1) ⟨rfl,by dsimp only;omega,by dsimp only;omega⟩ (KZ _ (by dsimp only;omega));rintro L ⟨v,i⟩ ⟨E,hi,q⟩ H;dsimp only at E hi q H;unfold Dx;dsimp only;rw[BX];split
 .rename_i S;refine LO (λx=>x.1.length=l.length/\a<=x.2/\x.2<=i) (λx=>(x.2-a).toNat) (λr:List α=>r.length=l.length) ?_ big (v,i) ⟨E,by dsimp only;omega,by dsimp only;omega⟩ (KZ _ (by dsimp only;omega));rintro L' ⟨u,j⟩ ⟨e,X,B⟩ h;dsimp only at e X B h;have out:∀(u:List α),u.length=l.length->∃r,Ea cmp L i u=some r/\r.length=l.length:=by
   intro u e;unfold Ea;rw[A7];exact H (u,i+1) ⟨e,by dsimp only;omega,by dsimp only;omega⟩ (by dsimp only;omega)
  unfold Dy;dsimp only;rw[BX];split
  .rename_i Y;have G:w64 (j-1)=j-1:=A7 (by omega) (by omega);have ⟨x1,q1⟩:=I1 (l:=u) (i:=j) (by omega) (by omega);have ⟨J,I⟩:=I1 (l:=u) (i:=j-1) (by omega) (by omega);have ⟨c,O⟩:=g x1 J;have ⟨x3,Z⟩:=I1 (l:=List.set u j.toNat J) (i:=j-1) (by omega) (by rw[BP];omega);simp only[G,q1,I,AB,O,AV];unfold Dw;rw[BX];split
   .simp only[G,q1,I,Z,AB];exact h (_,j-1) ⟨by simp only[BP];exact e,by dsimp only;omega,by dsimp only;omega⟩ (by dsimp only;omega)
   .rw[AV];exact out u e
  .rw[AV];unfold Dw;rw[BW,AV];exact out u e
 .exact⟨v,rfl,E⟩
def AH1{b n:Int}(G:0<=a)(H:0<=b)(I:a+n<=l.length)(J:b+n<=l.length)(O:l.length<1099511627776):Ln l.length (El cmp l a b n):=by
 unfold El;refine LO (λx=>x.1.length=l.length/\0<=x.2) (λx=>(n-x.2).toNat) (λr:List α=>r.length=l.length) ?_ big (l,0) ⟨rfl,by dsimp only;omega⟩ (KZ _ (by dsimp only;omega));rintro L ⟨v,i⟩ ⟨c,hi⟩ e;dsimp only at c hi e;unfold LC;dsimp only;rw[BX];split
 .rename_i q;have g:w64 (a+i)=a+i:=A7 (by omega) (by omega);have h:w64 (b+i)=b+i:=A7 (by omega) (by omega);have j:w64 (i+1)=i+1:=A7 (by omega) (by omega);have ⟨S,q1⟩:=I1 (l:=v) (i:=a+i) (by omega) (by omega);have ⟨E,y⟩:=I1 (l:=v) (i:=b+i) (by omega) (by omega);have ⟨X,B⟩:=I1 (l:=List.set v (a+i).toNat E) (i:=b+i) (by omega) (by rw[BP];omega);simp only[g,h,j,q1,y,B,AB];exact e (_,i+1) ⟨by simp only[BP];exact c,by dsimp only;omega⟩ (by dsimp only;omega)
 .exact⟨v,rfl,c⟩
def Aa3{b:Int}(I:0<=a)(J:a<m)(O:m<b)(S:b<=l.length)(X:l.length<1099511627776):Ln l.length (IE cmp l a m b):=by
 unfold IE;rw[A7 (n:=m-a),A7 (n:=b-m)];refine LO (λx=>x.1.length=l.length/\0<x.2.1/\x.2.1<=m-a/\0<x.2.2/\x.2.2<=b-m) (λx=>(x.2.1+x.2.2).toNat) (λr:List α=>r.length=l.length) ?_ big (l,m-a,b-m) ⟨rfl,by dsimp only;omega,by dsimp only;omega,by dsimp only;omega,by dsimp only;omega⟩ (KZ _ (by dsimp only;omega));rintro L ⟨v,i,j⟩ ⟨h,hi,y,H,B⟩ E;dsimp only at h hi y H B E;unfold NV;dsimp only;have q:w64 (m-i)=m-i:=A7 (by omega) (by omega);have G:w64 (w64 (m+j)-i)=m+j-i:=by rw[A7 (n:=m+j)];exact A7
 by_cases e:i=j
 .subst e;rw[show (i != i)=false from by simp,BW,AV];unfold NU;have ⟨r,g,c⟩:=AH1 (cmp:=cmp) (l:=v) (a:=m-i) (b:=m) (n:=i) (by omega) (by omega) (by omega) (by omega) (by omega);dsimp only;rw[q,g,AB];exact⟨r,rfl,c.trans h⟩
 .rw[show (i != j)=true from by simp[e],BQ,BX];split
  .have ⟨r,g,c⟩:=AH1 (cmp:=cmp) (l:=v) (a:=m-i) (b:=m) (n:=j) (by omega) (by omega) (by omega) (by omega) (by omega);rw[q,g,AB,A7 (n:=i-j)];exact E (r,i-j,j) ⟨c.trans h,by dsimp only;omega,by dsimp only;omega,by dsimp only;omega,by dsimp only;omega⟩ (by dsimp only;omega)
  .have ⟨r,g,c⟩:=AH1 (cmp:=cmp) (l:=v) (a:=m-i) (b:=m+j-i) (n:=i) (by omega) (by omega) (by omega) (by omega) (by omega);rw[q,G,g,AB,A7 (n:=j-i)];exact E (r,i,j-i) ⟨c.trans h,by dsimp only;omega,by dsimp only;omega,by dsimp only;omega,by dsimp only;omega⟩ (by dsimp only;omega)
def zi{α:Type}(k:Nat)(r:List α->Int->Int->Int->AA (List α)):Prop:=
 ∀(l:List α) (a m b:Int),0<=a->a<m->m<b->b<=l.length->l.length<1099511627776->b-a<=2 ^ k->Ln l.length (r l a m b)
def AOf{cmp:α->α->AA Int}{r:List α->Int->Int->Int->AA (List α)}(B:zi k r){b s:Int}(L:0<=a)(O:a<m)(S:m<b)(X:b<=l.length)(Z:l.length<1099511627776)(Y:b-a<=2 ^ (k+1))
 (G:a<=s) (H:s<=(a+b) / 2) (I:s<=m) (J:(a+b) / 2+m-b<=s):Ln l.length (IW cmp r l a m b s):=by
 have q:w64 (EF (IntKind.u64.wrap (w64 (a+b))) 1)=(a+b) / 2:=YA (by omega) (by omega);have y:w64 (w64 ((a+b) / 2+m)-s)=(a+b) / 2+m-s:=by rw[A7 (n:=(a+b) / 2+m)];exact A7
 have E:(2:Int) ^ (k+1)=2*2 ^ k:=by rw[Int.pow_succ];omega
 have c:∀v:List α,v.length=l.length->Ln l.length (Gl cmp r a m b s v):=by
  intro v h;unfold Gl IZ;rw[q,y,BX];split
  .rw[AV,BX];split
   .have ⟨x,j,e⟩:Ln v.length (r v ((a+b) / 2) ((a+b) / 2+m-s) b):=B v ((a+b) / 2) ((a+b) / 2+m-s) b (by omega) (by omega) (by omega) (by omega) (by omega) (by omega);rw[j,AB];exact⟨x,rfl,e.trans h⟩
   .exact⟨v,rfl,h⟩
  .rw[AV,BW];exact⟨v,rfl,h⟩
 have g:∀v:List α,v.length=l.length->Ln l.length (Gk cmp r a m b s v):=by
  intro v h;unfold Gk IY;rw[q,BX];split
  .rw[AV,BX];split
   .have ⟨x,j,e⟩:Ln v.length (r v a s ((a+b) / 2)):=B v a s ((a+b) / 2) (by omega) (by omega) (by omega) (by omega) (by omega) (by omega);rw[j,AB,AV];exact c x (e.trans h)
   .rw[AV];exact c v h
  .rw[AV,BW,AV];exact c v h
 unfold IW IX;rw[q,y,BX];split
 .rw[AV,BX];split
  .have ⟨x,j,e⟩:=Aa3 (cmp:=cmp) (l:=l) (a:=s) (m:=m) (b:=(a+b) / 2+m-s) (by omega) (by omega) (by omega) (by omega) (by omega);rw[j,AB,AV];exact g x e
  .rw[AV];exact g l rfl
 grind[AV,BW]
def ALl(g:∀x y,∃c,cmp x y=some c){r:List α->Int->Int->Int->AA (List α)}(hr:zi k r):zi (k+1) (F7 cmp r):=by
 intro l a m b h0 h1 h2 h3 hl hk;show Ln l.length (F7 cmp r l a m b);have e0:w64 (EF (IntKind.u64.wrap (w64 (a+b))) 1)=(a+b) / 2:=YA (by omega) (by omega);unfold F7;rw[A7 (n:=m-a)];by_cases c1:m-a=1
 .rw[show (m-a==1)=true from by simp[c1],BQ];refine LO (λx=>m<=x.1/\x.1<=x.2/\x.2<=b) (λx=>(x.2-x.1).toNat) (λr:List α=>r.length=l.length) ?_ big (m,b) ⟨by dsimp only;omega,by dsimp only;omega,by dsimp only;omega⟩ (KZ _ (by dsimp only;omega));rintro L ⟨i,j⟩ ⟨hi,H,Y⟩ h;dsimp only at hi H Y h;unfold Lk;dsimp only;rw[BX];split
  .have eh:w64 (EF (IntKind.u64.wrap (w64 (i+j))) 1)=(i+j) / 2:=YA (by omega) (by omega);have e:w64 ((i+j) / 2+1)=(i+j) / 2+1:=A7 (by omega) (by omega);have ⟨G,q1⟩:=I1 (l:=l) (i:=(i+j) / 2) (by omega) (by omega);have ⟨J,E⟩:=I1 (l:=l) (i:=a) (by omega) (by omega);have ⟨c,O⟩:=g G J;simp only[eh,e,q1,E,AB,O];rw[BX];split
   .exact h ((i+j) / 2+1,j) ⟨by dsimp only;omega,by dsimp only;omega,by dsimp only;omega⟩ (by dsimp only;omega)
   .exact h (i,(i+j) / 2) ⟨by dsimp only;omega,by dsimp only;omega,by dsimp only;omega⟩ (by dsimp only;omega)
  .rw[AV];unfold Lg;refine LO (λx=>x.1.length=l.length/\a<=x.2) (λx=>(i-1-x.2).toNat) (λr:List α=>r.length=l.length) ?_ big (l,a) ⟨rfl,by dsimp only;omega⟩ (KZ _ (by dsimp only;omega));rintro L' ⟨u,q⟩ ⟨I,Z⟩ B;dsimp only at I Z B;unfold Ll HE;dsimp only;rw[A7 (n:=i-1),BX];split
   .have S:w64 (q+1)=q+1:=A7 (by omega) (by omega);have ⟨G,q1⟩:=I1 (l:=u) (i:=q+1) (by omega) (by omega);have ⟨J,E⟩:=I1 (l:=u) (i:=q) (by omega) (by omega);have ⟨x3,q3⟩:=I1 (l:=List.set u q.toNat G) (i:=q+1) (by omega) (by rw[BP];omega);simp only[S,q1,E,q3,AB];exact B (_,q+1) ⟨by simp only[BP];exact I,by dsimp only;omega⟩ (by dsimp only;omega)
   .rw[AV];exact⟨u,rfl,I⟩
 .rw[show (m-a==1)=false from by simp[c1],BW,AV];unfold Lh;rw[A7 (n:=b-m)];by_cases c2:b-m=1
  .rw[show (b-m==1)=true from by simp[c2],BQ];refine LO (λx=>a<=x.1/\x.1<=x.2/\x.2<=m) (λx=>(x.2-x.1).toNat) (λr:List α=>r.length=l.length) ?_ big (a,m) ⟨by dsimp only;omega,by dsimp only;omega,by dsimp only;omega⟩ (KZ _ (by dsimp only;omega));rintro L ⟨i,j⟩ ⟨hi,H,Y⟩ h;dsimp only at hi H Y h;unfold Lm;dsimp only;rw[BX];split
   .have eh:w64 (EF (IntKind.u64.wrap (w64 (i+j))) 1)=(i+j) / 2:=YA (by omega) (by omega);have e:w64 ((i+j) / 2+1)=(i+j) / 2+1:=A7 (by omega) (by omega);have ⟨G,q1⟩:=I1 (l:=l) (i:=(i+j) / 2) (by omega) (by omega);have ⟨J,E⟩:=I1 (l:=l) (i:=m) (by omega) (by omega);have ⟨c,O⟩:=g J G;simp only[eh,e,q1,E,AB,O];cases X:decide (c<0)
    .rw[show (!false)=true from rfl,BQ];exact h ((i+j) / 2+1,j) ⟨by dsimp only;omega,by dsimp only;omega,by dsimp only;omega⟩ (by dsimp only;omega)
    .rw[show (!true)=false from rfl,BW];exact h (i,(i+j) / 2) ⟨by dsimp only;omega,by dsimp only;omega,by dsimp only;omega⟩ (by dsimp only;omega)
   .rw[AV];unfold Li;refine LO (λx=>x.1.length=l.length/\x.2<=m/\i<=x.2) (λx=>(x.2-i).toNat) (λr:List α=>r.length=l.length) ?_ big (l,m) ⟨rfl,by dsimp only;omega,by dsimp only;omega⟩ (KZ _ (by dsimp only;omega));rintro L' ⟨u,q⟩ ⟨I,Z,hq2⟩ B;dsimp only at I Z hq2 B;unfold Lo HE;dsimp only;rw[BX];split
    .have S:w64 (q-1)=q-1:=A7 (by omega) (by omega);have ⟨G,q1⟩:=I1 (l:=u) (i:=q-1) (by omega) (by omega);have ⟨J,E⟩:=I1 (l:=u) (i:=q) (by omega) (by omega);have ⟨x3,q3⟩:=I1 (l:=List.set u q.toNat G) (i:=q-1) (by omega) (by rw[BP];omega);simp only[S,q1,E,q3,AB];exact B (_,q-1) ⟨by simp only[BP];exact I,by dsimp only;omega,by dsimp only;omega⟩ (by dsimp only;omega)
    .rw[AV];exact⟨u,rfl,I⟩
  .rw[show (b-m==1)=false from by simp[c2],BW,AV];have key:∀s t:Int,a<=s->s<=t->t<=(a+b) / 2->t<=m->(a+b) / 2+m-b<=s->Ln l.length (Gj cmp r l a m b (s,t)):=by
    intro s t p1 p2 p3 p4 p5;unfold Gj;refine LO (λx=>a<=x.1/\x.1<=x.2/\x.2<=(a+b) / 2/\x.2<=m/\(a+b) / 2+m-b<=x.1) (λx=>(x.2-x.1).toNat) (λr:List α=>r.length=l.length) ?_ big (s,t) ⟨p1,p2,p3,p4,p5⟩ (KZ _ (by dsimp only;omega));rintro L ⟨i,j⟩ ⟨g1,g2,g3,g4,g5⟩ h;dsimp only at g1 g2 g3 g4 g5 h;unfold LD;dsimp only;rw[BX];split
    .have eh:w64 (EF (IntKind.u64.wrap (w64 (i+j))) 1)=(i+j) / 2:=YA (by omega) (by omega);have e:w64 ((i+j) / 2+1)=(i+j) / 2+1:=A7 (by omega) (by omega);have ep:w64 (w64 (w64 ((a+b) / 2+m)-1)-(i+j) / 2)=(a+b) / 2+m-1-(i+j) / 2:=by
      rw[A7 (n:=(a+b) / 2+m),A7 (n:=(a+b) / 2+m-1)];exact A7
     have ⟨G,q1⟩:=I1 (l:=l) (i:=(i+j) / 2) (by omega) (by omega);have ⟨J,E⟩:=I1 (l:=l) (i:=(a+b) / 2+m-1-(i+j) / 2) (by omega) (by omega);have ⟨c,O⟩:=g J G;simp only[e0,eh,e,ep,q1,E,AB,O];cases X:decide (c<0)
     .rw[show (!false)=true from rfl,BQ];exact h ((i+j) / 2+1,j) ⟨by dsimp only;omega,by dsimp only;omega,by dsimp only;omega,by dsimp only;omega,by dsimp only;omega⟩ (by dsimp only;omega)
     .rw[show (!true)=false from rfl,BW];exact h (i,(i+j) / 2) ⟨by dsimp only;omega,by dsimp only;omega,by dsimp only;omega,by dsimp only;omega,by dsimp only;omega⟩ (by dsimp only;omega)
    .rw[AV];exact AOf hr h0 h1 h2 h3 hl hk g1 (by omega) (by omega) g5
   unfold Lj;rw[e0,BX];split
   .rw[AV,A7 (n:=(a+b) / 2+m),A7 (n:=(a+b) / 2+m-b)];exact key _ _ (by omega) (by omega) (by omega) (by omega) (by omega)
   .rw[AV];exact key _ _ (by omega) (by omega) (by omega) (by omega) (by omega)
def AEx(g:∀x y,∃c,cmp x y=some c){mrg:List α->Int->Int->Int->AA (List α)}(S:∀(l:List α) (a m b:Int),0<=a->a<m->m<b->b<=l.length->l.length<=40->Ln l.length (mrg l a m b))(Z:l.length<=40):Ln l.length (Gy cmp mrg l (l.length:Int)):=by
 unfold Gy;have O:∀v:List α,v.length=l.length->Ln l.length (A9 (GX cmp mrg (l.length:Int)) big (v,20)):=by
  intro v Y;refine LO (λx=>x.1.length=l.length/\(x.2=20\/x.2=40)) (λx=>(40-x.2).toNat) (λr:List α=>r.length=l.length) ?_ big (v,20) ⟨Y,.inl rfl⟩ (KZ _ (by dsimp only;omega));rintro L ⟨u,s⟩ ⟨j,X⟩ G;dsimp only at j X G;unfold GX;dsimp only;rw[BX];split
  .have E:s=20:=by omega
   subst E;have out:∀w:List α,w.length=l.length->Ln l.length (H2 cmp mrg L 20 w):=by
    intro w B;unfold H2;rw[A7];exact G (w,20*2) ⟨B,.inr rfl⟩ (by dsimp only;omega)
   rw[A7 (n:=2*20)];refine LO (λx=>x.1.length=l.length/\x.2.2=x.2.1+40/\(x.2.1=0\/x.2.1=40)) (λx=>(40-x.2.1).toNat) (λr:List α=>r.length=l.length) ?_ big (u,0,2*20) ⟨j,by dsimp only;omega,.inl rfl⟩ (KZ _ (by dsimp only;omega));rintro L' ⟨w,a,b⟩ ⟨B,h,I⟩ H;dsimp only at B h I H;unfold NX;dsimp only;rw[BX];split
   .have ⟨x,q,e⟩:=S w a (a+20) b (by omega) (by omega) (by omega) (by omega) (by omega);rw[A7 (n:=a+20),q,AB,A7 (n:=2*20),A7 (n:=b+2*20)];exact H (x,b,b+2*20) ⟨e.trans B,by dsimp only;omega,by dsimp only;omega⟩ (by dsimp only;omega)
   .rw[AV];unfold NW;dsimp only;rw[A7 (n:=a+20),BX];split
    .have ⟨x,q,e⟩:=S w a (a+20) (l.length:Int) (by omega) (by omega) (by omega) (by omega) (by omega);rw[q,AB,AV];exact out x (e.trans B)
    .rw[AV];exact out w B
  .exact⟨u,rfl,j⟩
 have key:Ln l.length (A9 (GW cmp mrg (l.length:Int)) big (l,0,20)):=by
  refine LO (λx=>x.1.length=l.length/\0<=x.2.1/\x.2.1<=(l.length:Int)/\x.2.2=x.2.1+20) (λx=>(60-x.2.1).toNat) (λr:List α=>r.length=l.length) ?_ big (l,0,20) ⟨rfl,by dsimp only;omega,by dsimp only;omega,by dsimp only;omega⟩ (KZ _ (by dsimp only;omega));rintro L ⟨u,a,b⟩ ⟨j,I,J,h⟩ G;dsimp only at j I J h G;unfold GW;dsimp only;rw[BX];split
  .have ⟨x,q,e⟩:=AYc g (l:=u) (a:=a) (b:=b) (by omega) (by omega) (by omega) (by omega);rw[q,AB,A7 (n:=b+20)];exact G (x,b,b+20) ⟨e.trans j,by dsimp only;omega,by dsimp only;omega,rfl⟩ (by dsimp only;omega)
  .rw[AV];unfold Hz;dsimp only;have ⟨x,q,e⟩:=AYc g (l:=u) (a:=a) (b:=(l.length:Int)) (by omega) (by omega) (by omega) (by omega);rw[q,AB];exact O x (e.trans j)
 exact key
def tQ:∀k,zi (α:=A2) k (λl a m b=>(cY k).d (l,a,m,b,(),()))
 |0=>by
  intro l a m b c e g j B q
  grind
 |k+1=>ALl (λx y=>(Qe x y).imp λ_ h=>h.1) (tQ k)
def ADv{l:List A2}{b:Int}(c:0<=a)(e:a<m)(g:m<b)(h:b<=l.length)(j:l.length<=40):Ln l.length (APL l a m b):=
 tQ 7 l a m b c e g h (by omega) (by have:(2:Int) ^ 7=128:=rfl;omega)
def oE{l:List A2}(c:l.length<=40):Ln l.length (pj l):=by
 unfold pj AIl;have ⟨x,e,a⟩:=AEx (λx y=>(Qe x y).imp λ_ h=>h.1) (mrg:=APL) (λ_ _ _ _=>ADv) c;rw[e,AB];exact⟨x,rfl,a⟩
def ALk:∀k,zi (α:=Bf) k (λl a m b=>(cZ k).d (l,a,m,b,(),()))
 |0=>by
  intro l a m b c e g j B q
  grind
 |k+1=>ALl (λx y=>(N8 x y).imp λ_ h=>h.1) (ALk k)
def AMl{l:List Bf}{b:Int}(c:0<=a)(e:a<m)(g:m<b)(h:b<=l.length)(j:l.length<=40):Ln l.length (APT l a m b):=
 ALk 7 l a m b c e g h (by omega) (by have:(2:Int) ^ 7=128:=rfl;omega)
def zJ{l:List Bf}(c:l.length<=40):Ln l.length (qA l):=by
 unfold qA AIp;have ⟨x,e,a⟩:=AEx (λx y=>(N8 x y).imp λ_ h=>h.1) (mrg:=APT) (λ_ _ _ _=>AMl) c;rw[e,AB];exact⟨x,rfl,a⟩
def K5(f:α->List β)(J:List β->AA γ){F:(List β×Int->AA γ)->List β×Int->AA γ}(c:l.length<=1048576)(m:Nat)(e:∀x,(f x).length<=m){v0:List β}
 (step:∀L i (h:i<l.length) v,v.length<=v0.length+m*i->F L (v,(i:Int))=L (v++f l[i],w64 ((i:Int)+1))) (stop:∀L v,F L (v,(l.length:Int))=J v):A9 F big (v0,0)=J (v0++l.flatMap f):=by
 refine(DK (n:=l.length) (λi (v:List β)=>(v,(i:Int))) (λi v=>v=v0++(l.take i).flatMap f/\v.length<=v0.length+m*i) (λi v=>J (v0++l.flatMap f)) (by omega) ?_ ⟨by simp,by simp⟩);rintro L i v ⟨g,a⟩ hi j;rcases Aa i l.length with h|h
 .rw[step L i h v a,Bv h]
  grind[List.take_add_one]
 grind
def Fm{α β:Type}(f:α->List β){m:Nat}(a:∀x,(f x).length<=m):∀l:List α,(l.flatMap f).length<=m*l.length
 | []=>by simp|x::l=>by
  have:=Fm f a l;have:=a x;rw[CS,AH,AI,Nat.mul_add];omega
def Je(r:AY):List Int:=[r.Cd,r.Room,r.BL,r.CK,r.B7,r.Rest,r.Cl,r.C7]++r.AX
def Lt(p:AU):List Int:=[p.Id,p.AZ,w64 (p.B0+1),p.BL,p.DS,p.Since,p.A5,p.State,p.DO,p.Du]
def Fi(h:AE):List Int:=
 (([((Je h.AQ).length:Int)]++Je h.AQ++[h.Now,h.A5,(h.AG.length:Int)]++h.AG.flatMap Lt)++h.AJ.flatMap (λc=>[c.AX.D7]))++[(h.BF.length:Int)]++h.BF++h.BD.flatMap (λx=>[w64 (x+1)])
def AT0(h:AE):List Int:=if DC h=true then Fi h else []
def Jm(a:DC h=true):Dp h.AQ=true/\(0<=h.Now/\h.Now<=1000000)/\(1<=h.A5/\h.A5<=1000001)/\h.AG.length<=40/\h.AJ.length=h.AQ.AX.length/\LQ h=true/\Hq h.BF h.AJ.length=true/\J0 h.BD h.AJ.length=true/\(h.BD.length:Int)=h.AQ.C7/\Nd h=true:=by
 grind[DC,B9]
def Uj(e:Bt h)(a:DC h=true):(Fi h).length<=2000000:=by
 have g:=Jm a;have E:=CO g.1;have j:=Fm Lt (m:=10) (λ_=>Ab _) h.AG;have q:=Fm (λc:Ah=>[c.AX.D7]) (m:=1) (λ_=>Ab _) h.AJ;have y:=Fm (λx:Int=>[w64 (x+1)]) (m:=1) (λ_=>Ab _) h.BD;have B:=e.todo;unfold Fi Je;simp only[AH,AI,AM];omega
def nr(c:r.AX.length<=1048576)(a:Dp r=true):AIr r=some (Je r):=by
 unfold AIr;rw[Jp (by omega),AB,a,BG,BQ,CD (by simp only[AI,AM];unfold lim;omega)];rfl
def Tg(c:r.AX.length<=1048576)(a:Dp r=true):qF r=some (Je r):=by
 unfold qF;rw[HX (by omega),AB,a,BG,BQ,CD (by simp only[AI,AM];unfold lim;omega)];rfl
def MR(r:AY):(Je r).length=8+r.AX.length:=by unfold Je;simp only[AH,AI,AM]
def tN(a:Bt h)(g:DC h=true):AAu h=some (Fi h):=by
 have hlim:=Acx;have j:=Jm g;have X:=CO j.1;have E:=a.CR;have G:=a.Dz;have O:=a.todo;have H:=a.F9;have B:∀v:List Int,v.length<=5000000->Wz h v=some (v++[(h.BF.length:Int)]++h.BF++h.BD.flatMap (λx=>[w64 (x+1)])):=by
  intro v J;unfold Wz;rw[CD (by rw[Nn];omega),CD (by rw[AH,BZ];omega)];refine K5 (l:=h.BD) (λx=>[w64 (x+1)]) some H 1 (λ_=>Ab _) ?_ ?_
  .grind[gU,BQ,BM,AB,CD]
  .intro L q;unfold gU AAv;dsimp only;rw[C2,BW,AV]
 have y:∀v:List Int,v.length<=3000000->Wy h v=some ((v++h.AJ.flatMap (λc=>[c.AX.D7]))++[(h.BF.length:Int)]++h.BF++h.BD.flatMap (λx=>[w64 (x+1)])):=by
  intro v J;have I:=Fm (λc:Ah=>[c.AX.D7]) (m:=1) (λ_=>Ab _) h.AJ;unfold Wy;rw[K5 (l:=h.AJ) (λc=>[c.AX.D7]) (Wz h) G 1 (λ_=>Ab _) ?_ ?_,B _ (by rw[AH];omega)]
  .grind[gT,BQ,BM,AB,CD]
  .intro L q;unfold gT;dsimp only;rw[C2,BW,AV]
 have I:=Fm Lt (m:=10) (λ_=>Ab _) h.AG;have S:=MR h.AQ;have Y:=a.Ds;unfold AAu;rw[Gp a,AB,g,BG,BQ,nr a.Ds j.1,AB,CD (by rw[BZ];omega),CD (by simp only[AH,BZ,AI,AM];omega)];rw[K5 (l:=h.AG) Lt (Wy h) E 10 (λ_=>Ab _) ?_ ?_,y _ (by simp only[AH,BZ,AI,AM];omega)]
 .rfl
 .intro L i hi q e;simp only[AH,BZ,AI,AM]at e;unfold gQ;dsimp only;rw[CF hi,BQ,BM hi,AB,CD (by simp only[AI,AM];omega)];rfl
 grind[gQ,BW,AV]
def AMg(a:Bt h)(g:DC h=true):AIn h=some (Fi h):=by
 have hlim:=Acx;have j:=Jm g;have X:=CO j.1;have E:=a.CR;have G:=a.Dz;have O:=a.todo;have H:=a.F9;have B:∀v:List Int,v.length<=5000000->Wq h v=some (v++[(h.BF.length:Int)]++h.BF++h.BD.flatMap (λx=>[w64 (x+1)])):=by
  intro v J;unfold Wq;rw[CD (by rw[Nn];omega),CD (by rw[AH,BZ];omega)];refine K5 (l:=h.BD) (λx=>[w64 (x+1)]) some H 1 (λ_=>Ab _) ?_ ?_
  .grind[fv,BQ,BM,AB,CD]
  .intro L q;unfold fv AAl;dsimp only;rw[C2,BW,AV]
 have y:∀v:List Int,v.length<=3000000->Wp h v=some ((v++h.AJ.flatMap (λc=>[c.AX.D7]))++[(h.BF.length:Int)]++h.BF++h.BD.flatMap (λx=>[w64 (x+1)])):=by
  intro v J;have I:=Fm (λc:Ah=>[c.AX.D7]) (m:=1) (λ_=>Ab _) h.AJ;unfold Wp;rw[K5 (l:=h.AJ) (λc=>[c.AX.D7]) (Wq h) G 1 (λ_=>Ab _) ?_ ?_,B _ (by rw[AH];omega)]
  .grind[fu,BQ,BM,AB,CD]
  .intro L q;unfold fu;dsimp only;rw[C2,BW,AV]
 have I:=Fm Lt (m:=10) (λ_=>Ab _) h.AG;have S:=MR h.AQ;have Y:=a.Ds;unfold AIn;rw[Fz a,AB,g,BG,BQ,Tg a.Ds j.1,AB,CD (by rw[BZ];omega),CD (by simp only[AH,BZ,AI,AM];omega)];rw[K5 (l:=h.AG) Lt (Wp h) E 10 (λ_=>Ab _) ?_ ?_,y _ (by simp only[AH,BZ,AI,AM];omega)]
 .rfl
 .intro L i hi q e;simp only[AH,BZ,AI,AM]at e;unfold ft;dsimp only;rw[CF hi,BQ,BM hi,AB,CD (by simp only[AI,AM];omega)];rfl
 grind[ft,BW,AV]
def AGx(a:Bt h)(g:DC h=true):AA3 h=some (Fi h):=by
 have hlim:=Acx;have j:=Jm g;have X:=CO j.1;have E:=a.CR;have G:=a.Dz;have O:=a.todo;have H:=a.F9;have B:∀v:List Int,v.length<=5000000->W4 h v=some (v++[(h.BF.length:Int)]++h.BF++h.BD.flatMap (λx=>[w64 (x+1)])):=by
  intro v J;unfold W4;rw[CD (by rw[Nn];omega),CD (by rw[AH,BZ];omega)];refine K5 (l:=h.BD) (λx=>[w64 (x+1)]) some H 1 (λ_=>Ab _) ?_ ?_
  .grind[gj,BQ,BM,AB,CD]
  .intro L q;unfold gj AA4;dsimp only;rw[C2,BW,AV]
 have y:∀v:List Int,v.length<=3000000->W0 h v=some ((v++h.AJ.flatMap (λc=>[c.AX.D7]))++[(h.BF.length:Int)]++h.BF++h.BD.flatMap (λx=>[w64 (x+1)])):=by
  intro v J;have I:=Fm (λc:Ah=>[c.AX.D7]) (m:=1) (λ_=>Ab _) h.AJ;unfold W0;rw[K5 (l:=h.AJ) (λc=>[c.AX.D7]) (W4 h) G 1 (λ_=>Ab _) ?_ ?_,B _ (by rw[AH];omega)]
  .grind[gi,BQ,BM,AB,CD]
  .intro L q;unfold gi;dsimp only;rw[C2,BW,AV]
 have I:=Fm Lt (m:=10) (λ_=>Ab _) h.AG;have S:=MR h.AQ;have Y:=a.Ds;unfold AA3;rw[Fz a,AB,g,BG,BQ,Tg a.Ds j.1,AB,CD (by rw[BZ];omega),CD (by simp only[AH,BZ,AI,AM];omega)];rw[K5 (l:=h.AG) Lt (W0 h) E 10 (λ_=>Ab _) ?_ ?_,y _ (by simp only[AH,BZ,AI,AM];omega)]
 .rfl
 .intro L i hi q e;simp only[AH,BZ,AI,AM]at e;unfold gh;dsimp only;rw[CF hi,BQ,BM hi,AB,CD (by simp only[AI,AM];omega)];rfl
 grind[gh,BW,AV]
def DF(h:AE)(q:Int):List UInt8:=if DC h=true/\inB q 0 1000000=true then four ((Ku (pL (q::Fi h)):Nat):Int)++pL (q::Fi h) else []
theorem YZ:∀l:List Int,(pL l).length<=5*l.length
 | []=>by simp[pL]|x::l=>by
  have:=YZ l;have:=Pz x;unfold pL at *;rw[CS,AH,AI];omega
def Iy(c:Bt h)(q:Int):qE h q=some (DF h q):=by
 have hlim:=Acx;have hslim:P0=4611686018427387904:=rfl;unfold qE DF;rw[Gp c,AB,BG,AV,GZ,AB,AV];by_cases a:DC h=true
 .have j:=Uj c a;have e:=YZ (q::Fi h);rw[AI]at e;rw[a,BQ];unfold gb;rw[BG,tN c a,AB,CD (by rw[BZ];omega),List.singleton_append,Yy (by rw[AI];omega),AB,AEt (by omega),AB];unfold AA2;rw[AB];cases y:inB q 0 1000000 with
  |false=>rfl|true=>
   rw[BQ,CD (by simp only[AI,AM];omega),AW ⟨rfl,rfl⟩];rfl
 .rw[AT (λg=>a g.1)];rw[DG]at a;rw[a,BW];rfl
def Pv(c:Bt h)(q:Int):pz h q=some (DF h q):=by
 have hslim:P0=4611686018427387904:=rfl;unfold pz DF orE;by_cases a:DC h=true
 .have H:=Uj c a;have B:=YZ (q::Fi h);rw[AI]at B;have G:=Pz q;have E:=YZ (Fi h);have y:(Fi h).isEmpty=false:=by
   unfold Fi;simp
  have j:pN q++pL (Fi h)=pL (q::Fi h):=rfl;have e:py h q=some (if inB q 0 1000000=true then four ((Ku (pL (q::Fi h)):Nat):Int)++pL (q::Fi h) else []):=by
   unfold py;rw[AGx c a,AB,CD y,Fv,AB,BG];cases I:inB q 0 1000000 with
   |false=>rfl|true=>
    rw[BQ,Kw,AB,YK (by omega),AB,CD (by omega),j,ADi (by omega),AB,CD (by simp only[AI,AM];omega)];rfl
  grind
 .rw[AT (λg=>a g.1)];rw[DG]at a;have e:py h q=none:=by
   unfold py AA3;rw[Fz c,AB,a,BG,BW,AWl]
  rw[e];dsimp only;unfold AIm APM;rw[Fz c,AB,a,BG,BW,AB]
section
variable{α:Type}{Q:Int->α->Int->Prop}
end
def AWL{t:List Int}(e:n<=4)(h:Hq t n=true):t.length<=4:=by
 unfold Hq at h;rw[J1]at h;refine Classical.byContradiction λa=>?_
 have key:∀i (hi:i<t.length),0<=t[i]/\t[i]<n/\∀j (c:j<i),t[j]'(by omega)≠t[i]:=by
  grind[SK,Ca,B9,A7,List.mem_take_iff_getElem]
 have g:=key 0 (by omega);have q:=key 1 (by omega);have y:=key 2 (by omega);have B:=key 3 (by omega);have E:=key 4 (by omega)
 grind
def AMo:(AT0 h).length<=500:=by
 unfold AT0;split
 .rename_i e;have a:=Jm e;have B:=CO a.1;have g:=Fm Lt (m:=10) (λ_=>Ab _) h.AG;have j:=Fm (λc:Ah=>[c.AX.D7]) (m:=1) (λ_=>Ab _) h.AJ;have q:=Fm (λx:Int=>[w64 (x+1)]) (m:=1) (λ_=>Ab _) h.BD;have y:=AWL (t:=h.BF) (n:=h.AJ.length) (by omega) a.2.2.2.2.2.2.1;unfold Fi Je;simp only[AH,AI,AM];omega
 .simp
def MH(n:Int):BO×Bool:=if Ep ⟨n,0,0,n,0⟩=true then (⟨n,0,0,n,0⟩,true) else (⟨0,0,0,0,0⟩,false)
def G8(n:Int):Ah×Bool:=if (MH n).2=true then (⟨(MH n).1,[],⟨List.replicate 9 []⟩⟩,true) else (⟨⟨0,0,0,0,0⟩,[],⟨[]⟩⟩,false)
def DV(r:AY):AE×Bool:=
 if Dp r=true then (⟨r,0,1,[],r.AX.map (λn=>(G8 n).1),[],List.replicate r.C7.toNat (-1)⟩,true) else (⟨⟨[],0,0,0,0,0,0,0,0⟩,0,0,[],[],[],[]⟩,false)
theorem mr:ABC=some ⟨List.replicate 9 []⟩:=by
 unfold ABC;refine(DK (n:=9) (λi (v:A3)=>((i:Int),v)) (λi v=>v.Aw=List.replicate i []) (λ_ _=>some (⟨List.replicate 9 []⟩:A3)) (by omega) ?_ (v:=⟨[]⟩) rfl);rintro L i ⟨s⟩ a hi c
 grind[ABE,ABD,BX,CD,lim,Bv,List.replicate_succ',AV]
theorem mq:AIy=some ⟨List.replicate 9 []⟩:=rfl
def sW(a:r.AX.length<=1048576):HK r=some r:=by
 unfold HK;rw[CD (by unfold lim;omega),Be]
def sV(a:r.AX.length<=1048576):qH r=some r:=by
 unfold qH Kv;rw[CD (by unfold lim;omega),AB]
theorem AD1(n:Int):AIo n=some (MH n):=by
 unfold AIo MH;rw[P2,AB,BG,Bu];split<;>rfl
def AG8(n:Int):AIv n=some (G8 n):=by
 grind[AIv,G8,AD1,AB,mr,Bu]
def mo(q:r.AX.length<=1048576):ABF r=some (DV r):=by
 unfold ABF DV;rw[Jp (by omega),AB,BG,sW q,AB,Bu];by_cases a:Dp r=true
 .have B:=CO a;rw[AW a,AW a];refine DK (n:=r.AX.length) (λi (v:AE)=>((i:Int),v)) (λi v=>v=⟨r,0,1,[],(r.AX.take i).map (λn=>(G8 n).1),[],[]⟩) (λ_ _=>_) (by omega) ?_ (v:=⟨r,0,1,[],[],[],[]⟩) (by simp);rintro L i v c hi g;unfold ABI;dsimp only at g ⊢;rcases Aa i r.AX.length with h|h
  .rw[CF h,BQ,BM h,AB,AG8,AB,CD (by rw[c,Nn];simp;unfold lim;omega),Bv h];refine g _ ?_ h;have e:r.AX.take (i+1)=r.AX.take i++[r.AX[i]]:=by rw[CT,AR h];rfl
   rw[c,e,Cx];rfl
  .obtain rfl:i=r.AX.length:=by omega
   rw[C2,BW,AV,c,Ch];unfold ABG;have ⟨n,E⟩:=Ai (show 0<=r.C7 by omega);refine DK (n:=n) (λi (v:AE)=>((i:Int),v)) (λi v=>v=⟨r,0,1,[],r.AX.map (λn=>(G8 n).1),[],List.replicate i (-1)⟩) (λ_ _=>_) (by omega) ?_ (v:=⟨r,0,1,[],r.AX.map (λn=>(G8 n).1),[],[]⟩) rfl;rintro L j w G y g;unfold ABJ ABH
   grind[BQ,CD,lim,Bv,List.replicate_succ',BW,AV]
 .rw[AT a,AT a]
theorem AD0(n:Int):AIx n=some (MH n):=by
 unfold AIx MH;rw[Gs,AB,BG,Bu];split<;>rfl
def AG7(n:Int):AIz n=some (G8 n):=by
 grind[AIz,G8,AD0,AB,mq,Bu]
def mn(q:r.AX.length<=1048576):ABK r=some (DV r):=by
 unfold ABK DV;rw[HX (by omega),AB,BG,sV q,AB,Bu];by_cases a:Dp r=true
 .have B:=CO a;rw[AW a,AW a];refine DK (n:=r.AX.length) (λi (v:AE)=>((i:Int),v)) (λi v=>v=⟨r,0,1,[],(r.AX.take i).map (λn=>(G8 n).1),[],[]⟩) (λ_ _=>_) (by omega) ?_ (v:=⟨r,0,1,[],[],[],[]⟩) (by simp);rintro L i v c hi g;unfold ABN;dsimp only at g ⊢;rcases Aa i r.AX.length with h|h
  .rw[CF h,BQ,BM h,AB,AG7,AB,CD (by rw[c,Nn];simp;unfold lim;omega),Bv h];refine g _ ?_ h;have e:r.AX.take (i+1)=r.AX.take i++[r.AX[i]]:=by rw[CT,AR h];rfl
   rw[c,e,Cx];rfl
  .obtain rfl:i=r.AX.length:=by omega
   rw[C2,BW,AV,c,Ch];unfold ABL;have ⟨n,E⟩:=Ai (show 0<=r.C7 by omega);refine DK (n:=n) (λi (v:AE)=>((i:Int),v)) (λi v=>v=⟨r,0,1,[],r.AX.map (λn=>(G8 n).1),[],List.replicate i (-1)⟩) (λ_ _=>_) (by omega) ?_ (v:=⟨r,0,1,[],r.AX.map (λn=>(G8 n).1),[],[]⟩) rfl;rintro L j w G y g;unfold ABO ABM
   grind[BQ,CD,lim,Bv,List.replicate_succ',BW,AV]
 .rw[AT a,AT a]
theorem uJ(n:Int):FT (G8 n).1:=by
 unfold G8;split
 .exact⟨by simp,by simp,by simp⟩
 .exact⟨by simp,by simp,by simp⟩
def Ia(a:r.AX.length<=1048576):Bt (DV r).1:=by
 unfold DV;split
 .rename_i c;have e:=CO c;refine⟨a,by simp,by simpa using a,?_,by simp,?_⟩
  .grind[uJ]
  .simp;omega
 .exact⟨by simp,by simp,by simp,by simp,by simp,by simp⟩
def Ka:Az:=⟨⟨⟨[],0,0,0,0,0,0,0,0⟩,0,0,[],[],[],[]⟩,⟨⟨[],0⟩,⟨[],0⟩,⟨[],0⟩⟩,0,[]⟩
def Fl(r:AY):Az×Bool:=
 if (DV r).2=true then (⟨(DV r).1,⟨⟨[],0⟩,⟨DF (DV r).1 0,((DF (DV r).1 0).length:Int)⟩,⟨[],0⟩⟩,0,[]⟩,true) else (Ka,false)
theorem FI(h:AE)(q:Int):(DF h q).length<=2600:=by
 unfold DF;split
 .rename_i c;have a:=AMo (h:=h);unfold AT0 at a
  grind[YZ,HV]
 .simp
def ADz(a:r.AX.length<=1048576):AIw r=some (Fl r):=by
 unfold AIw Fl;rw[mo a,AB,BG,Iy (Ia a),AB,Bu];split<;>rfl
def ADy(a:r.AX.length<=1048576):AI0 r=some (Fl r):=by
 have e:=FI (DV r).1 0;have c:Ev ⟨DF (DV r).1 0,0⟩=true:=by
  grind[Ev,B9]
 unfold AI0 Fl bV;rw[mn a,AB,BG,Pv (Ia a),AB,FB,AB,c,BG,BQ,AB,Bu];split<;>rfl
def VC(a:r.AX.length<=1048576):CY (Fl r).1:=by
 have c:=FI (DV r).1 0;unfold Fl;split
 .exact⟨Ia a,by simp,by dsimp only;omega,by simp,by simp⟩
 .exact⟨⟨by simp[Ka],by simp[Ka],by simp[Ka],by simp[Ka],by simp[Ka],by simp[Ka]⟩,by simp[Ka],by simp[Ka],by simp[Ka],by simp[Ka]⟩
def TX{w pre l:List UInt8}{i:Int}(a:w=pre++(Fj n++l))(hi:i=pre.length)(c:n<=2147483647):gN w i=((n:Int),((pre.length+(Fj n).length:Nat):Int),true):=by
 subst a;subst hi;have:=Ii n;unfold gN
 grind[List.length_append,Int.toNat_natCast,List.drop_left,yj,Kz,vQ]
def vP{w:List UInt8}{i n j:Int}(h:gN w i=(n,j,true)):∃(m:Nat) (l:List UInt8),0<=i/\i<w.length/\w.drop i.toNat=Fj m++l/\n=(m:Int)/\j=i+(Fj m).length/\m<=2147483647:=by
 unfold gN at h;split at h
 .rename_i hi;cases a:rdN 5 0 0 (w.drop i.toNat) with
  |none=>rw[a]at h;simp[vQ]at h|some x=>
   grind[vQ,Prod.mk.injEq,eP]
 .simp at h
def vN{q:Int}(h:Pm q b):frB q b=Fj (frT q b).length++(four ((Ku (pN q++b):Nat):Int)++(Fj q.toNat++b))/\frT q b=four ((Ku (pN q++b):Nat):Int)++(Fj q.toNat++b):=by
 have hT:=PR h;have e:pN q=Fj q.toNat:=by unfold pN;rw[AW (by have:=h.1;omega)]
 have a:frT q b=four ((Ku (pN q++b):Nat):Int)++(Fj q.toNat++b):=by unfold frT;rw[e]
 refine⟨?_,a⟩;unfold frB;rw[AW h,<-a];have c:pN ((frT q b).length:Int)=Fj (frT q b).length:=by unfold pN;rw[ifP,Ag]
 rw[c]
theorem AKu{q q':Int}{a:List UInt8}(h:Pm q b)(j:Pm q' a)(Y:frB q b <+: d)(E:frB q' a <+: d):q=q'/\b=a:=by
 obtain⟨r,rfl⟩:=Y;have ⟨r',y⟩:=E;have ⟨L,H⟩:=vN h;have ⟨B,c⟩:=vN j;have hT:=PR h;have hT':=PR j;rw[L,B,<-H,<-c,BR,BR]at y;have O:=TX (w:=Fj (frT q b).length++(frT q b++r)) (pre:=[]) (i:=0) rfl rfl (by omega:(frT q b).length<=2147483647);have I:=TX (w:=Fj (frT q b).length++(frT q b++r)) (pre:=[]) (i:=0) (l:=frT q' a++r') (by rw[<-y];rfl) rfl (by omega:(frT q' a).length<=2147483647);rw[O]at I;have X:(frT q b).length=(frT q' a).length:=by have:=congrArg Prod.fst I;simp at this;omega
 rw[<-X]at y;have G:=List.append_cancel_left y;have e:=(D8 G (by omega)).1;rw[H,c]at e;have g:=(D8 e (by rw[HV,HV])).2;have S:=TX (w:=Fj q.toNat++b) (pre:=[]) (i:=0) rfl rfl (by have:=h.1;omega:q.toNat<=2147483647);have J:=TX (w:=Fj q.toNat++b) (pre:=[]) (i:=0) (l:=a) (by rw[<-g];rfl) rfl (by have:=j.1;omega:q'.toNat<=2147483647);rw[S]at J;have Z:q.toNat=q'.toNat:=by have:=congrArg Prod.fst J;simp at this;omega
 rw[<-Z]at g;have:=h.1;have:=j.1
 grind[List.append_cancel_left]
def ADW(d:List UInt8)(i:Int):B5×Bool:=
 open Classical in if h:∃x:Int×List UInt8,Pm x.1 x.2/\frB x.1 x.2 <+: d then (⟨h.choose.1,h.choose.2,i+(frB h.choose.1 h.choose.2).length⟩,true) else (⟨0,[],0⟩,false)
theorem AKv{q:Int}{i:Int}(h:Pm q b)(a:frB q b <+: d):ADW d i=(⟨q,b,i+(frB q b).length⟩,true):=by
 unfold ADW;have c:∃x:Int×List UInt8,Pm x.1 x.2/\frB x.1 x.2 <+: d:=⟨(q,b),h,a⟩
 grind[AKu]
theorem Ue{i:Int}(h:∀q b,Pm q b->¬frB q b <+: d):ADW d i=(⟨0,[],0⟩,false):=by
 grind[ADW]
def RZ(d:List UInt8)(i:Int):(∃q b,Pm q b/\frB q b <+: d/\ADW d i=(⟨q,b,i+(frB q b).length⟩,true))\/((∀q b,Pm q b->¬frB q b <+: d)/\ADW d i=(⟨0,[],0⟩,false)):=by
 grind[Pm,frB,AKv,Ue]
def Pl(s:List UInt8)(i:Int):B5×Bool:=if 0<=i/\i<=s.length then ADW (s.drop i.toNat) i else (⟨0,[],0⟩,false)
@[simp] theorem Mv(a b:Int):iQ a b=some (if a<b then a else b):=by
 unfold iQ;rw[BX];split<;>rfl
def AE2{p:List UInt8}(h:p <+: d)(a:p.length<=n):p <+: d.take n:=by
 grind[List.take_append,List.take_of_length_le]
def dV(b:List UInt8):(b==[])=decide (b=[]):=by cases b<;>rfl
def y5(hs:s.length<2 ^ 62)(i:Int):ABl s i=some (Pl s i):=by
 unfold ABl Pl;rw[eG,AB,BG,BX];by_cases hi:0<=i/\i<=(s.length:Int)
 rotate_left
 .rw[AT hi,AT hi]
 rw[AW hi,AW hi,Mv,AB,A7];generalize hx:(if (s.length:Int)<i+80 then (s.length:Int) else i+80)=x;have O:i<=x/\x<=(s.length:Int):=by split at hx<;>omega
 rw[CD ⟨hi.1,O⟩];unfold XD iR iS;have hW:(s.drop i.toNat).take (x.toNat-i.toNat)=(s.drop i.toNat).take 80:=by
  split at hx
  .rw[BE (by rw[BI];omega),BE (by rw[BI];omega)]
  .congr 1;omega
 rw[hW];generalize hd:s.drop i.toNat=d at *;have hdl:d.length=s.length-i.toNat:=by rw[<-hd,BI]
 generalize J:d.take 80=w;have hwl:w.length<=80/\w.length<=d.length:=by rw[<-J,Aj];omega
 rw[Pd (by omega) _ (by omega),AB];have L:w <+: d:=by rw[<-J];exact IA _ _
 rcases RZ d i with ⟨q,b,c,hp,G⟩|⟨I,G⟩
 ·-- there is a frame
  have hl:=PQ c;have ⟨r,j⟩:=AE2 (n:=80) hp (by omega);rw[J]at j;have ⟨y,B⟩:=vN c;have hT:=PR c;have hq:=c.1;have S:gN w 0=(((frT q b).length:Int),(((Fj (frT q b).length).length:Nat):Int),true):=by
   rw[TX (w:=w) (i:=0) (pre:=[]) (n:=(frT q b).length) (l:=frT q b++r) (by rw[<-j,y,<-B];simp) (by simp) (by omega)];simp
  have hm:=Kz (n:=(frT q b).length) (by omega);have hfl:(frB q b).length=(Fj (frT q b).length).length+(frT q b).length:=by rw[y,<-B,AH]
  have hwl2:w.length=(frB q b).length+r.length:=by rw[<-j,AH]
  generalize hM:(Fj (frT q b).length).length=M at *;generalize hN:(frT q b).length=N at *;have hN2:N=4+(Fj q.toNat).length+b.length:=by rw[<-hN,B];simp[HV];omega
  rw[S];dsimp only;rw[BG,BQ,A7 (n:=(w.length:Int)-M),BX,ifN,decide_eq_false (by omega),AV,BW,A7 (n:=(M:Int)+4)];have X:gN w ((M:Int)+4)=(q,((M+4+(Fj q.toNat).length:Nat):Int),true):=by
   rw[TX (pre:=Fj N++four ((Ku (pN q++b):Nat):Int)) (n:=q.toNat) (l:=b++r) (by rw[<-j,y];simp) (by simp[HV,hM]) (by omega)];simp[HV,hM];omega
  rw[Pd (by omega) _ (by omega),AB,X];dsimp only;rw[BG,BQ,A7 (n:=(M:Int)+N),decide_eq_false (by omega),AV,BW,CD (by omega),CD (by omega)];have hb:((w.drop ((M+4+(Fj q.toNat).length:Nat):Int).toNat).take (((M:Int)+N).toNat-((M+4+(Fj q.toNat).length:Nat):Int).toNat))=b:=by
   have e3:w=(Fj N++four ((Ku (pN q++b):Nat):Int)++Fj q.toNat)++(b++r):=by rw[<-j,y];simp
   rw[Ag,e3,Cw (by simp[HV,hM];omega),Ce (by omega)]
  have hf:((w.drop 0).take (((M:Int)+N).toNat-0))=frB q b:=by
   rw[Cu,<-j,Ce (by omega)]
  rw[hb,hf,SE,AB];have g:(frB q b != frB q b)=false:=by simp
  have E:(b==[])=false:=by rw[dV];have:=c.2;cases b<;>simp at this ⊢
  rw[g,BW,AV,E,BW,G];have hfw:(((Fj N).length:Nat):Int)=M:=by omega
  simp only[AD,A6,and_true,B5.mk.injEq,true_and];rw[A7 (n:=i+M),A7];omega
 ·-- there is none
  rw[G];rcases hg:gN w 0 with ⟨n,m,ok⟩;cases ok with
  |false=>dsimp only;simp only[BG,BW,BQ,AV]|true=>
   have ⟨n',l,h1,h2,h3,h4,h5,h6⟩:=vP hg;have hn5:=Kz h6;have hwlen:w.length=(Fj n').length+l.length:=by have:=congrArg List.length h3;simpa using this
   dsimp only;rw[BG,BQ,A7 (n:=(w.length:Int)-m),BX];by_cases Y:n>(w.length:Int)-m
   .rw[AW Y];simp only[BQ,AV]
   rw[AT Y,AV,BX];by_cases Z:n<5
   .rw[AW Z]
   rw[AT Z,A7 (n:=m+4),Pd (by omega) _ (by omega),AB];rcases H:gN w (m+4) with ⟨q,k,ok⟩;cases ok with
   |false=>dsimp only;simp only[BG,BW,BQ,AV]|true=>
    have ⟨q',l',S,X,g3,g4,g5,g6⟩:=vP H;dsimp only;rw[BG,BQ,A7 (n:=m+n),AV,BX];by_cases h9:k>m+n
    .rw[AW h9]
    rw[AT h9,CD (by omega),CD (by omega),SE,AB,uH,Cu,FX];generalize hbb:List.take ((m+n).toNat-k.toNat) (List.drop k.toNat w)=bb;by_cases e:frB q bb=List.take (m+n).toNat w
    .rw[AW e];exfalso;have g:frB q bb≠[]:=by
      rw[e];intro h;have:=congrArg List.length h;rw[Aj]at this;simp only[AM]at this;omega
     exact I q bb (AQA g) (by rw[e];exact(IA _ _).trans L)
    .rw[AT e];simp only[BQ,AV]
def xT(hs:s.length<2 ^ 62)(i:Int)(hi':i<2 ^ 62):ABo s i=some (Pl s i):=by
 unfold ABo Pl NS;rw[RA,AB,AB,A7 (n:=(s.length:Int)-1),BG,BX];by_cases hi:0<=i/\i<=(s.length:Int)
 rotate_left
 .rw[ifN,AT hi]
 rw[AW hi];by_cases hi2:i=(s.length:Int)
 .rw[ifN];congr 1;rw[Ue];intro q b E Z;have J:=PQ E;have:=Z.length_le;rw[BI]at this;omega
 rw[ifP];simp only[BJ,if_false];rw[A7 (n:=i+5)];generalize hx:(if i+5<(s.length:Int) then i+5 else (s.length:Int))=x;have S:i<=x/\x<=(s.length:Int):=by split at hx<;>omega
 rw[CD ⟨hi.1,S⟩];unfold XE iV;have hW:(s.drop i.toNat).take (x.toNat-i.toNat)=(s.drop i.toNat).take 5:=by
  split at hx
  .congr 1;omega
  .rw[BE (by rw[BI];omega),BE (by rw[BI];omega)]
 rw[hW];generalize hd:s.drop i.toNat=d at *;have hdl:d.length=s.length-i.toNat:=by rw[<-hd,BI]
 generalize hw:d.take 5=w;have hwl:w.length<=5/\w.length<=d.length:=by rw[<-hw,Aj];omega
 rw[PT (by omega),AB];have h:∀m:Int,0<=m->i+m<=s.length->s.drop (i+m).toNat=d.drop m.toNat:=by
  intro m h0 E;rw[<-hd,C3];congr 1;omega
 rcases RZ d i with ⟨q,b,c,hp,H⟩|⟨O,H⟩
 ·-- there is a frame
  have J:=PQ c;have ⟨r,y⟩:=hp;have ⟨B,e⟩:=vN c;have hT:=PR c;have hq:=c.1;have hm:=Kz (n:=(frT q b).length) (by omega);have X:gN w 0=(((frT q b).length:Int),(((Fj (frT q b).length).length:Nat):Int),true):=by
   rw[TX (w:=w) (i:=0) (pre:=[]) (n:=(frT q b).length) (l:=(frT q b++r).take (5-(Fj (frT q b).length).length)) (by
    rw[<-hw,<-y,B,<-e,BR,List.take_append,BE hm];rfl) (by simp) (by omega)];simp
  have hfl:(frB q b).length=(Fj (frT q b).length).length+(frT q b).length:=by rw[B,<-e,AH]
  have hdl2:d.length=(frB q b).length+r.length:=by rw[<-y,AH]
  generalize hM:(Fj (frT q b).length).length=M at *;generalize hN:(frT q b).length=N at *;have hN2:N=4+(Fj q.toNat).length+b.length:=by rw[<-hN,e];simp[HV];omega
  rw[X];dsimp only;rw[BG,BQ,BX,ifN,A7 (n:=(s.length:Int)-i),A7 (n:=(s.length:Int)-i-M),decide_eq_false (by omega),AV,BW];rw[A7 (n:=i+M),A7 (n:=i+M+N),CD (by omega),h _ (by omega) (by omega),Ag];have hT2:(d.drop M).take ((i+M+N).toNat-(i+M).toNat)=frT q b:=by
   rw[<-y,B,<-e,BR,Cw hM,Ce (by omega)]
  rw[hT2];have Y:gN (frT q b) 4=(q,((4+(Fj q.toNat).length:Nat):Int),true):=by
   rw[TX (pre:=four ((Ku (pN q++b):Nat):Int)) (n:=q.toNat) (l:=b) e (by simp[HV]) (by omega)];simp[HV];omega
  rw[PT (by omega),AB,Y];dsimp only;rw[BG,BQ,CD (by omega)];have hb:((frT q b).drop ((4+(Fj q.toNat).length:Nat):Int).toNat).take ((frT q b).length-((4+(Fj q.toNat).length:Nat):Int).toNat)=b:=by
   rw[Ag,hN,e,<-BR,Cw (by simp[HV]),BE (by omega)]
  have hf:((d).take ((i+M+N).toNat-i.toNat))=frB q b:=by
   rw[<-y,Ce (by omega)]
  rw[hb,Rm,AB];have L:(frB q b==[])=false:=by rw[dV];cases hh:frB q b with|nil=>rw[hh]at J;simp at J|cons=>rfl
  rw[L,BW,CD (by omega),hf,AV];have j:(frB q b != frB q b)=false:=by simp
  rw[j,BW,H];simp only[AD,A6,and_true,B5.mk.injEq,true_and];omega
 ·-- there is none
  rw[H];rcases hg:gN w 0 with ⟨n,m,ok⟩;cases ok with
  |false=>dsimp only;simp only[BG,BW,BQ,AV]|true=>
   have ⟨n',l,E,Z,h3,h4,h5,h6⟩:=vP hg;have hn5:=Kz h6;have hwlen:w.length=(Fj n').length+l.length:=by have:=congrArg List.length h3;simpa using this
   dsimp only;rw[BG,BQ,BX];by_cases h7:n<6
   .rw[AW h7];simp only[BQ,AV]
   rw[AT h7,A7 (n:=(s.length:Int)-i),A7 (n:=(s.length:Int)-i-m),AV,BX];by_cases h8:n>(s.length:Int)-i-m
   .rw[AW h8]
   rw[AT h8,A7 (n:=i+m),A7 (n:=i+m+n),CD (by omega),h _ (by omega) (by omega)];generalize ht:(d.drop m.toNat).take ((i+m+n).toNat-(i+m).toNat)=t;have htl:t.length<=s.length:=by rw[<-ht,Aj,BI];omega
   rw[PT (by omega),AB];rcases I:gN t 4 with ⟨q,k,ok⟩;cases ok with
   |false=>dsimp only;simp only[BG,BW,BQ,AV]|true=>
    have ⟨q',l',X,Y,g3,g4,g5,g6⟩:=vP I;have hkl:k<=t.length:=by
     have:=congrArg List.length g3;rw[BI,AH]at this;omega
    dsimp only;rw[BG,BQ,CD (by omega),Rm,AB];generalize hbb:List.take (t.length-k.toNat) (List.drop k.toNat t)=bb;rw[dV,BX];by_cases G:frB q bb=[]
    .rw[AW G];simp only[BQ,AV]
    rw[AT G,CD (by omega),AV,uH];by_cases g:frB q bb=List.take ((i+m+n).toNat-i.toNat) d
    .exfalso;exact O q bb (AQA G) (by rw[g];exact IA _ _)
    .rw[AT g]
def sD{i:Int}(h:(Pl s i).2=true):0<=i/\i+7<=(Pl s i).1.Next/\(Pl s i).1.Next<=s.length:=by
 unfold Pl at h ⊢;split at h
 .rename_i hi;rw[AW hi];rcases RZ (s.drop i.toNat) i with ⟨q,b,c,j,a⟩|⟨g,a⟩
  .rw[a];have:=PQ c;have e:=j.length_le;rw[BI]at e;dsimp only;omega
  .rw[a]at h;simp at h
 .simp at h
def frs:Nat->List UInt8->Int->List B5|0,_,_=>[]|f+1,s,i=>if (Pl s i).2=true then (Pl s i).1::frs f s (Pl s i).1.Next else []
def EI(s:List UInt8):List B5:=frs (s.length+1) s 0
def vO{s:List UInt8}(q:s.length<=1048576){G:Int->AA (B5×Bool)}(hG:∀i:Int,0<=i->i<=s.length->G i=some (Pl s i)){F:(List B5×Int->AA (List B5))->List B5×Int->AA (List B5)}
 (hF:∀L acc i,F L (acc,i)=bd (G i) λx=>br (!x.2) (some acc) (gd (acc.length+[x.1].length<=lim) (L (acc++[x.1],x.1.Next)))) :
 ∀(f n:Nat) (acc:List B5) (i:Int),0<=i->i<=s.length->s.length<f+i->f<=n->(acc.length:Int)<=i->A9 F n (acc,i)=some (acc++frs f s i)
 |0,n,acc,i,a,c,e,g,h=>by omega|f+1,0,acc,i,a,c,e,g,h=>by omega|f+1,n+1,acc,i,a,c,e,g,h=>by
  rw[DW,hF,hG i a c,AB,BG];unfold frs;cases y:(Pl s i).2 with
  |false=>simp|true=>
   have j:=sD y;rw[BQ,CD (by simp only[AI,AM];unfold lim;omega),AW rfl];rw[vO q hG hF f n _ _ (by omega) j.2.2 (by omega) (by omega) (by rw[AH,AI,AM];omega)];simp
def T6(a:s.length<=1048576):rF s=some (EI s):=by
 unfold rF EI;have:=vO a (G:=ABl s) (F:=iT s) (λi _ _=>y5 (by omega) i) (λL acc i=>by unfold iT;rfl) (s.length+1) big [] 0 (by omega) (by omega) (by omega) (by have:=Kh;omega) (by simp);rw[this];simp
def Tf(a:s.length<=1048576):rG s=some (EI s):=by
 unfold rG EI;have:=vO a (G:=ABo s) (F:=iW s) (λi _ _=>xT (by omega) i (by omega)) (λL acc i=>by unfold iW;rfl) (s.length+1) big [] 0 (by omega) (by omega) (by omega) (by have:=Kh;omega) (by simp);rw[this];simp
def AKw:∀(f:Nat) (s:List UInt8) (i:Int),0<=i->i<=s.length->((frs f s i).length:Int)<=s.length-i
 |0,s,i,a,h=>by simp[frs];omega|f+1,s,i,a,h=>by
  unfold frs;split
  .rename_i e;have c:=sD e;have:=AKw f s (Pl s i).1.Next (by omega) c.2.2;rw[AI];omega
  .simp;omega
def MD(s:List UInt8):(EI s).length<=s.length:=by
 have:=AKw (s.length+1) s 0 (by omega) (by omega);unfold EI;omega
def WO(p:Int):Int->List B5->Int|r,[]=>r|r,f::l=>if f.Seq<=p then WO p f.Next l else r
def Nv(c:x.Log.Data.length<=1048576)(p:Int):AI8 x p=some (WO p 0 (EI x.Log.Data)):=by
 unfold AI8;rw[T6 c,AB];have g:=MD x.Log.Data;generalize EI x.Log.Data=l at *;refine DK (n:=l.length) (λi (v:Int)=>(v,(i:Int))) (λ_ _=>True) (λi v=>some (WO p v (l.drop i))) (by omega) ?_ trivial;intro L i v _ hi e;unfold ABn iU ABm;dsimp only;simp only[dec_lt,AV];rcases Aa i l.length with h|h
 .rw[decide_eq_true h,BQ,BM h,AB,AB,AB,AB,BX,Bv h,Dt h];unfold WO;by_cases a:l[i].Seq<=p
  .rw[AW a,AW a,e _ trivial h]
  .rw[AT a,AT a]
 .rw[decide_eq_false (by omega),BW,BW,As h];rfl
def xW(c:x.Log.Data.length<=1048576)(p:Int):AI9 x p=some (WO p 0 (EI x.Log.Data)):=by
 unfold AI9;rw[Tf c,AB];have g:=MD x.Log.Data;generalize EI x.Log.Data=l at *;refine DK (n:=l.length) (λi (v:Int)=>(v,(i:Int))) (λ_ _=>True) (λi v=>some (WO p v (l.drop i))) (by omega) ?_ trivial;intro L i v _ hi e;unfold ABp iX;dsimp only;simp only[dec_lt,AV];rcases Aa i l.length with h|h
 .rw[decide_eq_true h,BQ,BM h,AB,AB,BX,Bv h,Dt h];unfold WO;by_cases a:l[i].Seq<=p
  .rw[ifN,AW a,e _ trivial h]
  .rw[ifP,AT a]
 .rw[decide_eq_false (by omega),BW,As h];rfl
def AXM(q:Int):frB q []=[]:=by unfold frB;rw[AT (λh=>by have:=h.2.1;simp at this)]
def AEv(n:Int)(q:Bq):ABX n q=some (frB n (FH q)):=by
 unfold ABX;rw[VS,AB,dV,BX];split
 .rename_i h;rw[h,AXM]
 .rw[SE,AB]
def ADl(n:Int)(q:Bq):AA8 n q=some (frB n (FH q)):=by
 unfold AA8;rw[VH,AB,Rm,AB]
def AP9(q:Int)(b:List UInt8):(frB q b).length<=74:=by
 by_cases h:Pm q b
 .exact(PQ h).2
 .unfold frB;rw[AT h];simp
def AaJ{l:List A2}(a:l.length<=1048576):uo l=some l:=UB (by unfold lim;omega)
theorem AAP{F:(Int×A3->AA A3)->Int×A3->AA A3}(c:Dc w)
 (step:∀L i (h:i<w.Aw.length) (v:A3),v.Aw.length=i->F L ((i:Int),v)=L (w64 ((i:Int)+1),⟨v.Aw++[w.Aw[i]]⟩)) (stop:∀L v,F L ((w.Aw.length:Int),v)=some v):A9 F big (0,⟨[]⟩)=some w:=by
 have e:=c.1;refine DK (n:=w.Aw.length) (λi (v:A3)=>((i:Int),v)) (λi v=>v=⟨w.Aw.take i⟩) (λ_ _=>some w) (by omega) ?_ (v:=⟨[]⟩) (by simp);intro L i v a hi g;rcases Aa i w.Aw.length with h|h
 .rw[step L i h v (by rw[a];simp;omega),Bv h]
  grind[List.take_add_one]
 .obtain rfl:i=w.Aw.length:=by omega
  rw[stop,a,Ch]
def UO(a:Dc w):gw w=some w:=by
 have hlim:=Acx;have c:=a.1;have e:=a.2
 grind[gw,AAP,MW,ABS,BQ,BM,AB,CD,ABR,BW,AV]
def UN(a:Dc w):iC w=some w:=by
 have hlim:=Acx;have c:=a.1;have e:=a.2
 grind[iC,AAP,MW,ABZ,BQ,BM,AB,CD,ABY,BW,AV]
def AMC(a:FT c):AI1 c=some c:=by
 unfold AI1;rw[AaJ a.1,AB,UO a.2,AB]
def AMB(a:FT c):AI3 c=some c:=by
 unfold AI3 W8;have:=a.1;rw[CD (by unfold lim;omega),AB,UN a.2,AB]
theorem UM{l:List Int}(a:l.length<=1048576):Kv l=some l:=by
 unfold Kv;rw[CD (by unfold lim;omega)]
def AAO{F:(Int×AE->AA AE)->Int×AE->AA AE}(e:Bt h)
 (step:∀L i (hi:i<h.AJ.length) (v:AE),v.AJ.length=i->F L ((i:Int),v)=L (w64 ((i:Int)+1),⟨v.AQ,v.Now,v.A5,v.AG,v.AJ++[h.AJ[i]],v.BF,v.BD⟩)) (stop:∀L v,F L ((h.AJ.length:Int),v)=some v):A9 F big (0,⟨h.AQ,h.Now,h.A5,h.AG,[],h.BF,h.BD⟩)=some h:=by
 have g:=e.Dz;refine DK (n:=h.AJ.length) (λi (v:AE)=>((i:Int),v)) (λi v=>v=⟨h.AQ,h.Now,h.A5,h.AG,h.AJ.take i,h.BF,h.BD⟩) (λ_ _=>some h) (by omega) ?_ (v:=⟨h.AQ,h.Now,h.A5,h.AG,[],h.BF,h.BD⟩) (by simp);intro L i v c hi j;rcases Aa i h.AJ.length with a|a
 .rw[step L i a v (by rw[c];simp;omega),Bv a]
  grind[List.take_add_one]
 .obtain rfl:i=h.AJ.length:=by omega
  rw[stop,c,Ch]
def IC(a:Bt h):OS h=some h:=by
 have hlim:=Acx;have c:=a.Ds;have p1:=a.CR;have p2:=a.todo;have p3:=a.F9;have p4:=a.Dz;have e:0+h.AG.length<=lim:=by omega
 have g:0+h.BF.length<=lim:=by omega
 have j:0+h.BD.length<=lim:=by omega
 unfold OS;simp only[sW c,AB,CD e,CD g,CD j,AIC,Be,LZ,Kj,DU,Cf,ABT,Ml,ABU,gx,DI,qI,QR,ZP,N3,N4,qM,qJ,gy,qO,ZQ,ZS,ZR,ZT,qQ,qP,qN,Iv,qT,ZU,ZW,ZV,ZX,qV,qU,qS,UZ,ZY,ZZ,qZ,qY,qX,qy,Za,qv,qh,rC,rB,rA,qg,qW,qR];refine AAO a ?_ ?_
 .intro L i hi v q;unfold Zb;dsimp only;rw[CF hi,BQ,BM hi,AB,AMC (a.ES _ (Ak hi)),AB,CD (by rw[Nn];omega)]
 grind[Zb,rD,BW,AV]
theorem HP(a:Bt h):OR h=some h:=by
 have hlim:=Acx;have c:=a.Ds;have p1:=a.CR;have p2:=a.todo;have p3:=a.F9;have p4:=a.Dz;have e:0+h.AG.length<=lim:=by omega
 unfold OR;simp only[sV c,AB,CD e,UM p2,UM p3,Co,LF,LG,LH,LI,Kj,LJ,LK,LZ,Ij,KV,M5,Nz,SM];refine AAO a ?_ ?_
 .intro L i hi v g;unfold gk;dsimp only;rw[CF hi,BQ,BM hi,AB,AMB (a.ES _ (Ak hi)),AB,CD (by rw[Nn];omega)]
 grind[gk,AA5,BW,AV]
def GL(a:CY e):U9 e=some e:=by
 have hlim:=Acx;have:=a.laid;have g:0+e.Laid.length<=lim:=by omega
 unfold U9;simp only[IC a.EW,AB,CD g,Co,LF,LG,LH,LI,Kj,LJ,LK,LZ,Ij,KV,M5,Nz,SM,Be]
def OO(a:CY e):bU e=some e:=by
 have hlim:=Acx;have:=a.laid;unfold bU;rw[HP a.EW,AB,CD (by omega)]
def E1(a:Bp)(s:List UInt8):Bp×Bool:=if Ev a=true/\(a.Data.length:Int)+s.length<=20000 then (⟨a.Data++s,a.Safe⟩,true) else (a,false)
theorem Dm{a:Bp}:Ev a=true↔(a.Data.length:Int)<=20000/\0<=a.Safe/\a.Safe<=a.Data.length:=by
 grind[Ev,B9]
def M1{a:Bp}(c:s.length<=4000):g9 a s=some (E1 a s):=by
 grind[P0,g9,iA,E1,IK,AB,BG,AV,Ev,A7,CD,BX]
def cD{a:Bp}(c:a.Data.length<=1048576)(e:s.length<=4000):gm a s=some (E1 a s):=by
 grind[P0,gm,gn,E1,CD,FB,AB,AV,BQ,Dm,BW]
def KC(e:Az)(q:Bq):Az×Int:=
 if DB e=false then (e,21) else if KJ q=false then (e,22) else if e.Seq=1000000 then (e,23) else if e.Laid.length=8\/(E1 e.Aq.Log (frB (w64 (e.Seq+1)) (FH q))).2=false then (e,24)
 else (⟨e.Ax,⟨(E1 e.Aq.Log (frB (w64 (e.Seq+1)) (FH q))).1,e.Aq.Ec,e.Aq.Odd⟩,w64 (e.Seq+1),e.Laid++[q]⟩,0)
def AV1{e:Az}(a:CY e)(q:Bq):AI2 e q=some (KC e q):=by
 have hlim:=Acx;have g:=a.laid;have c:=AP9 (w64 (e.Seq+1)) (FH q);unfold AI2 KC;simp only[GL a,F3 a,oA,AEv,M1 (Av c (by omega):(frB (w64 (e.Seq+1)) (FH q)).length<=4000),AB,Co,LF,LG,LH,LI,Kj,LJ,LK,LZ,Ij,KV,M5,Nz,SM,BG,AV];unfold iB;rw[BG,BQ,CD (by rw[Nn];omega)];cases DB e with
 |false=>rfl|true=>
  cases KJ q with
  |false=>rfl|true=>
   simp only[BQ,Bu,beq_iff_eq]
   grind
def ATY(a:CY e)(q:Bq):AIs e q=some (KC e q):=by
 have hlim:=Acx;have g:=a.laid;have c:=AP9 (w64 (e.Seq+1)) (FH q);unfold AIs KC;simp only[OO a,Iw a,mO,ADl,cD a.log (Av c (by omega):(frB (w64 (e.Seq+1)) (FH q)).length<=4000),AB,Co,LF,LG,LH,LI,Kj,LJ,LK,LZ,Ij,KV,M5,Nz,SM,BG]
 grind[CD,Bu]
def FU(h:DB e=true):DC e.Ax=true/\GR e.Aq=true/\e.Laid.length<=8/\((e.Laid.length:Int)<=e.Seq/\e.Seq<=1000000)/\e.Laid.all KJ=true:=by
 grind[DB,B9]
def bM{a:Bp}(c:a.Data.length<=1048576):(E1 a s).1.Data.length<=1048576:=by
 grind[E1]
def ADq(a:CY e)(q:Bq):CY (KC e q).1:=by
 unfold KC;split
 .exact a
 .rename_i c;rw[Et]at c;have g:=FU c;split
  .exact a
  .split
   .exact a
   .split
    .exact a
    .exact⟨a.EW,bM a.log,a.even,a.odd,by dsimp only;rw[AH,BZ];omega⟩
end Lv.P
