/- Plain laws about what the program computes. -/
import Derived.Test.YtfokjgkkeobaiaaGreatKA
set_option linter.all false
noncomputable section
open Bool renaming and_eq_true->AF,and_false->Dk,and_true->CK,eq_iff_iff->IN,false_and->Bt,false_eq_true->BI,not_eq_false->Er,not_eq_true->DD,not_eq_true'->A8,not_false->EM,not_not->EK,not_true->Bq,true_and->Ce
open Int renaming eq_ofNat_of_zero_le->Ah,ofNat_inj->MY,tdiv_eq_ediv_of_nonneg->HF,tmod_eq_emod_of_nonneg->EG,toNat_natCast->Af
open List renaming append_assoc->BP,append_eq_nil_iff->IG,append_inj->D2,append_nil->CV,cons_append->Bi,drop_drop->C1,drop_eq_getElem_cons->FO,drop_eq_nil_iff->Gb,drop_eq_nil_of_le->A1,drop_left->Ep,drop_left'->Cr,drop_length->Ck,drop_zero->Co,flatMap_cons->CR,foldl_cons->Bs,foldr_cons->Ku,getElem?_cons_zero->AN,getElem?_drop->Bu,getElem?_eq_getElem->AR,getElem?_eq_none->Da,getElem_mem->Ao,getElem_of_mem->G2,length_append->AJ,length_cons->AI,length_drop->BH,length_nil->AM,length_set->BO,length_singleton->Bk,length_take->Ai,map_append->Cs,map_cons->AK,mem_append->Bn,mem_cons->Ad,mem_cons_of_mem->Ae,mem_cons_self->BJ,mem_flatten->E7,nil_append->Bb,pairwise_cons->Bj,pairwise_iff_getElem->Cf,take_add_one->CS,take_left'->Ca,take_length->CO,take_of_length_le->BC,take_prefix->H7
open List.cons renaming injEq->CB
open Nat renaming add_assoc->CT,add_sub_cancel->DK,add_zero->C6,div_lt_iff_lt_mul->Cx,le_refl->Ab,le_trans->Aw,lt_or_ge->Aa,mod_eq_of_lt->Ki,mul_le_mul_right->Ak,pow_le_pow_right->Gf,pow_succ->Hr,sub_self->Eg,sub_zero->FU,xor_lt_two_pow->Dz,zero_add->Aq
open Option.some renaming injEq->AD
open Prod.mk renaming injEq->A5
namespace Lv.P
open Lv Go
variable{w:A2}{e:A6}{h:AE}{r:AY}{c:Ag}{x:Bo}{q q':Bp}{a m:Int}{b d s:List UInt8}{i k n:Nat}{α β γ σ τ:Type}{l:List α}{cmp:α->α->AA Int}
theorem Uu{n:Int}(a:-9223372036854775808<=n)(c:n<9223372036854775808):IntKind.i64.wrap n=n:=by
 simp only[IntKind.wrap,IntKind.bits,IntKind.signed];simp;omega
theorem A7{n:Int}(a:-9223372036854775808<=n)(c:n<9223372036854775808):w64 n=n:=Uu a c
theorem AU1{n:Int}(a:0<=n)(c:n<256):IntKind.u8.wrap n=n:=by
 simp only[IntKind.wrap,IntKind.bits,IntKind.signed];simp;omega
theorem AKd(h:n<256):toB (n:Int)=UInt8.ofNat n:=by
 unfold toB;rw[AU1 (by omega) (by omega)];rfl
@[simp] theorem KS{α:Type}(l:List α)(i:Nat):at? l (i:Int)=l[i]?:=by simp[at?]
@[simp] theorem WR{α:Type}(l:List α):at? l 0=l[0]?:=by simp[at?]
theorem Jj(k:Nat)(h:k<2 ^ 64):k<big:=by have:=Mz;omega
theorem OH(k:Nat)(h:k<2 ^ 64):∃n,big=n+1+k:=⟨big-1-k,by have:=Mz;omega⟩
section
variable{σ γ:Type}
theorem AC4{F:(σ->AA γ)->σ->AA γ}(R:σ->AA γ)(I:σ->Prop)(μ:σ->Nat)
 (step:∀(L:σ->AA γ) x,I x->(∀y,I y->μ y<μ x->L y=R y)->F L x=R x):∀n x,I x->μ x<n->BE F n x=R x
 |0,x,_,h=>by omega|n+1,x,hI,e=>by
  rw[Di];exact step _ x hI λy a c=>AC4 R I μ step n y a (by omega)
theorem Z3{F:(σ->AA γ)->σ->AA γ}(R:σ->AA γ)(I:σ->Prop)(μ:σ->Nat)
 (step:∀(L:σ->AA γ) x,I x->(∀y,I y->μ y<μ x->L y=R y)->F L x=R x) {x:σ} (hI:I x) (a:μ x<2 ^ 64):BE F big x=R x:=
 AC4 R I μ step big x hI (Jj _ a)
end
section
variable{α γ:Type}
@[simp] theorem BT(x y:AA γ):br true x y=x:=rfl
@[simp] theorem Bd(x y:AA γ):br false x y=y:=rfl
@[simp] theorem BW(p:Prop) [Decidable p] (x y:AA γ):br (decide p) x y=if p then x else y:=by unfold br;by_cases h:p<;>simp[h]
@[simp] theorem BM(b:Bool)(x y:AA γ):br (!b) x y=br b y x:=by cases b<;>rfl
@[simp] theorem AB(a:α)(f:α->AA γ):bd (some a) f=f a:=by rw[tI];rfl
@[simp] theorem AVM(f:α->AA γ):bd none f=none:=by rw[tI];rfl
@[simp] theorem AV(F:α->AA γ)(x:α):jn F x=F x:=ASJ F x
theorem CE{p:Prop} [Decidable p] (h:p) (x:AA γ):gd p x=x:=by rw[AO3,AW h]
theorem Bw(b:Bool)(x y:AA γ):br b x y=if b=true then x else y:=rfl
end
theorem DI{F:(τ->AA γ)->τ->AA γ}(st:Nat->σ->τ)(I:Nat->σ->Prop)(R:Nat->σ->AA γ)(B:n<2 ^ 63)
 (step:∀L i v,I i v->i<=n->(∀a,I (i+1) a->i<n->L (st (i+1) a)=R (i+1) a)->F L (st i v)=R i v) {v:σ} (c:I 0 v):BE F big (st 0 v)=R 0 v:=by
 have key:∀(m i k:Nat) (v:σ),i+m=n->m<k->I i v->BE F k (st i v)=R i v:=by
  intro m
  induction m with
  |zero=>
   intro i k v hi q h;obtain⟨k,rfl⟩:∃j,k=j+1:=⟨k-1,by omega⟩;rw[Di];exact step _ i v h (by omega) λa _ g=>by omega
  |succ m y=>
   intro i k v hi q h;obtain⟨k,rfl⟩:∃j,k=j+1:=⟨k-1,by omega⟩;rw[Di];exact step _ i v h (by omega) λa e g=>y (i+1) k a (by omega) (by omega) e
 exact key n 0 big v (by omega) (Jj _ (by omega)) c
theorem BQ(h:i<l.length):at? l (i:Int)=some l[i]:=by rw[KS,AR h]
theorem dec_lt{l:Nat}:decide ((i:Int)<(l:Int))=decide (i<l):=by rw[decide_eq_decide];omega
theorem B1(h:i<n)(a:n<2 ^ 63):w64 ((i:Int)+1)=((i+1:Nat):Int):=by rw[A7 (by omega) (by omega)];rfl
theorem AVB{F:(Int->AA Bool)->Int->AA Bool}(a:n<2 ^ 63)
 (step:∀L (i:Nat),i<n->F L (i:Int)=L ((i+1:Nat):Int)) (stop:∀L,F L (n:Int)=some true):BE F big 0=some true:=by
 have:=DI (F:=F) (n:=n) (λi (_:Unit)=>(i:Int)) (λ_ _=>True) (λ_ _=>some true) a ?_ (v:=()) trivial
 .exact this
 .intro L i v _ hi c;rcases Aa i n with h|h
  .rw[step L i h];exact c () trivial h
  .obtain rfl:i=n:=by omega
   exact stop L
theorem Dl(h:i<l.length):l.drop i=l[i]::l.drop (i+1):=FO h
theorem LA{σ γ:Type}{F:(σ->AA γ)->σ->AA γ}(I:σ->Prop)(μ:σ->Nat)(Q:γ->Prop)
 (step:∀(L:σ->AA γ) x,I x->(∀y,I y->μ y<μ x->∃r,L y=some r/\Q r)->∃r,F L x=some r/\Q r):∀n x,I x->μ x<n->∃r,BE F n x=some r/\Q r
 |0,x,_,h=>by omega|n+1,x,hI,e=>by
  rw[Di];exact step _ x hI λy a c=>LA I μ Q step n y a (by omega)
theorem Xm{F:(τ->AA γ)->τ->AA γ}(st:Nat->σ->τ)(I:Nat->σ->Prop)(Q:γ->Prop)(B:n<2 ^ 63)
 (step:∀L i v,I i v->i<=n->(∀a,I (i+1) a->i<n->∃r,L (st (i+1) a)=some r/\Q r)->∃r,F L (st i v)=some r/\Q r) {v:σ} (c:I 0 v):∃r,BE F big (st 0 v)=some r/\Q r:=by
 have key:∀(m i k:Nat) (v:σ),i+m=n->m<k->I i v->∃r,BE F k (st i v)=some r/\Q r:=by
  intro m
  induction m with
  |zero=>
   intro i k v hi q h;obtain⟨k,rfl⟩:∃j,k=j+1:=⟨k-1,by omega⟩;rw[Di];exact step _ i v h (by omega) λa _ g=>by omega
  |succ m y=>
   intro i k v hi q h;obtain⟨k,rfl⟩:∃j,k=j+1:=⟨k-1,by omega⟩;rw[Di];exact step _ i v h (by omega) λa e g=>y (i+1) k a (by omega) (by omega) e
 exact key n 0 big v (by omega) (Jj _ (by omega)) c
def inB(a b c:Int):Bool:=decide (b<=a/\a<=c)
theorem B8{b c:Int}:inB a b c=true↔b<=a/\a<=c:=by grind[inB]
theorem GX(a b c:Int):Et a b c=some (inB a b c):=by
 grind[Et,cj,inB,BW,AV]
theorem GJ(a b c:Int):DP a b c=some (inB a b c):=by
 grind[DP,We,inB,BW,AV]
theorem Xz(a b:Int):NL a b=some (inB a 0 (w64 (b-1))):=by unfold NL;rw[GJ,AB]
theorem Cn(a b:Bool):br a (some b) (some false)=some (a&&b):=by cases a<;>rfl
theorem AHJ(a b:Bool):br a (some true) (some b)=some (a||b):=by cases a<;>rfl
theorem Ht(a b:Bool):br a (some false) (some b)=some (!a&&b):=by cases a<;>rfl
theorem WT(a:Bool)(x:AA γ):br a x x=x:=by cases a<;>rfl
def JG(p:Nat->Bool):Nat->Nat->Bool|_,0=>true|i,m+1=>p i&&JG p (i+1) m
theorem ADX{p:Nat->Bool}:∀{m i:Nat},JG p i m=true↔∀k,i<=k->k<i+m->p k=true
 |0,i=>by simp[JG];omega|m+1,i=>by
  unfold JG;rw[AF,ADX]
  grind
theorem Jy{p:Nat->Bool}:JG p 0 n=true↔∀k,k<n->p k=true:=by
 grind[ADX]
theorem KX{F:(Int->AA Bool)->Int->AA Bool}{E:AA Bool}(p:Nat->Bool)(a:n<2 ^ 63)
 (step:∀L (i:Nat),i<n->F L (i:Int)=br (p i) (L ((i+1:Nat):Int)) (some false)) (stop:∀L,F L (n:Int)=E):BE F big 0=br (JG p 0 n) E (some false):=by
 have:=DI (F:=F) (n:=n) (λi (_:Unit)=>(i:Int)) (λ_ _=>True) (λi _=>br (JG p i (n-i)) E (some false)) a ?_ (v:=()) trivial
 .exact this
 .intro L i v _ hi c;rcases Aa i n with h|h
  .rw[step L i h,c () trivial h,show n-i=(n-(i+1))+1 by omega,show JG p i (n-(i+1)+1)=(p i&&JG p (i+1) (n-(i+1))) from rfl];cases p i<;>rfl
  .obtain rfl:i=n:=by omega
   rw[stop,Eg];rfl
theorem ANk(l:List α)(p:α->Bool)(q:Nat->Bool)(h:∀k (a:k<l.length),q k=p l[k]):JG q 0 l.length=l.all p:=by
 grind[Jy,List.getElem_of_mem]
theorem CF(h:i<n):decide ((i:Int)<(n:Int))=true:=by rw[decide_eq_true_iff];omega
theorem C0(n:Nat):decide ((n:Int)<(n:Int))=false:=by rw[decide_eq_false_iff_not];omega
theorem oV{F:(Int->AA Bool)->Int->AA Bool}{E:AA Bool}(p:α->Bool)(a:l.length<2 ^ 63)
 (step:∀L (i:Nat) (h:i<l.length),F L (i:Int)=br (p l[i]) (L (w64 ((i:Int)+1))) (some false)) (stop:∀L,F L (l.length:Int)=E):BE F big 0=br (l.all p) E (some false):=by
 have:=KX (F:=F) (n:=l.length) (E:=E) (λi=>match l[i]? with|some x=>p x|none=>true) a ?_ stop
 .grind[ANk]
 .intro L i h;rw[step L i h,B1 h a];simp[h]
def Ds(r:AY):Bool:=inB r.AX.length 1 4&&(inB r.CZ 1 5&&(inB r.Room 1 10&&(inB r.BK 1 6&&(inB r.CI 1 12&&(r.AX.all (λx=>inB x 1 60)&&(inB r.B6 1 8&&(inB r.Rest 0 8&&(inB r.Cg 1 4&&inB r.C4 1 3))))))))
theorem Ie(c:r.AX.length<2 ^ 62):tj r=some (Ds r):=by
 have a:∀b,RM r b=some (!b&&(r.AX.all (λx=>inB x 1 60)&&(inB r.B6 1 8&&(inB r.Rest 0 8&&(inB r.Cg 1 4&&inB r.C4 1 3))))):=by
  intro b;unfold RM;rw[oV (l:=r.AX) (λx=>inB x 1 60) (E:=some (inB r.B6 1 8&&(inB r.Rest 0 8&&(inB r.Cg 1 4&&inB r.C4 1 3)))) (by omega) ?_ ?_,Cn,Ht]
  .intro L i h;unfold tk;rw[CF h,BT,BQ h,AB,GX,AB,BM]
  .intro L;unfold tk AHh Wd;rw[C0,Bd];simp only[AV,GX,AB,Cn]
 unfold tj;simp only[GX,AB,BM,AV,a,Bq,Bt,Cn,EK];rfl
theorem HS(a:r.AX.length<2 ^ 62):Wf r=some (Ds r):=by
 unfold Wf;rw[GJ,AB,BM];rw[oV (l:=r.AX) (λx=>inB x 1 60) (E:=some (inB r.CZ 1 5&&(inB r.Room 1 10&&(inB r.BK 1 6&&(inB r.CI 1 12&&(inB r.B6 1 8&&(inB r.Cg 1 4&&(inB r.C4 1 3&&inB r.Rest 0 8)))))))) (by omega) ?_ ?_,Cn,Cn]
 .unfold Ds;congr 1;ac_rfl
 .intro L i h;unfold eT;rw[CF h,BT,BQ h,AB,GJ,AB,BM]
 .intro L;unfold eT zl Kz;rw[C0,Bd];simp only[AV,GJ,AB,Cn]
theorem CL(h:Ds r=true):(1<=r.AX.length/\r.AX.length<=4)/\(1<=r.CZ/\r.CZ<=5)/\(1<=r.Room/\r.Room<=10)/\(1<=r.BK/\r.BK<=6)/\(1<=r.CI/\r.CI<=12)/\(∀x∈r.AX,1<=x/\x<=60)/\(1<=r.B6/\r.B6<=8)/\(0<=r.Rest/\r.Rest<=8)/\(1<=r.Cg/\r.Cg<=4)/\(1<=r.C4/\r.C4<=3):=by
 grind[Ds,B8]
def Dw(r:AY)(p:AU)(now:Int):Bool:=
 Ds r&&(inB now 0 1000000&&(inB p.Id 1 999&&(inB p.AZ 0 (w64 ((r.AX.length:Int)-1))&&(inB p.Bz (-1) (w64 ((r.AX.length:Int)-1))&&(!(p.Bz==p.AZ)&&(inB p.BK 1 r.BK&&(inB p.DS 0 (w64 (r.CZ-1))&&(inB p.Since 0 now&&(inB p.A4 1 1000000&&(inB p.Dm 0 (w64 (r.Cg-1))&&(((p.State==1)&&inB p.DM 0 (w64 (now+r.Rest)))||((p.State==2)&&inB p.DM 1 (w64 (now+r.B6))))))))))))))
theorem Np(e:r.AX.length<2 ^ 62)(p:AU)(now:Int):AEf r p now=some (Dw r p now):=by
 have c:∀b,RN r p now b=some (!b&&(((p.State==1)&&inB p.DM 0 (w64 (now+r.Rest)))||((p.State==2)&&inB p.DM 1 (w64 (now+r.B6))))):=by
  intro b;unfold RN UO;simp only[GX,AB,AV,Cn,AHJ];cases p.State==1<;>cases b<;>rfl
 have a:∀b,PE r p now b=some (!b&&(inB p.BK 1 r.BK&&(inB p.DS 0 (w64 (r.CZ-1))&&(inB p.Since 0 now&&(inB p.A4 1 1000000&&(inB p.Dm 0 (w64 (r.Cg-1))&&(((p.State==1)&&inB p.DM 0 (w64 (now+r.Rest)))||((p.State==2)&&inB p.DM 1 (w64 (now+r.B6)))))))))):=by
  intro b;unfold PE;simp only[GX,AB,AV,BM,c,Bq,Bt,Cn,Ht,EK]
 unfold AEf;simp only[Ie e,GX,AB,AV,BM,a,Bq,Bt,Cn];rfl
theorem Nb(e:r.AX.length<2 ^ 62)(p:AU)(now:Int):eU r p now=some (Dw r p now):=by
 have c:∀b,OJ r p now b=some (!b&&(((p.State==1)&&inB p.DM 0 (w64 (now+r.Rest)))||((p.State==2)&&inB p.DM 1 (w64 (now+r.B6))))):=by
  intro b;unfold OJ QH;simp only[GJ,AB,AV,Cn,AHJ];cases p.State==1<;>cases b<;>rfl
 have a:∀b,Mb r p now b=some (!b&&(inB p.BK 1 r.BK&&(inB p.DS 0 (w64 (r.CZ-1))&&(inB p.Since 0 now&&(inB p.A4 1 1000000&&(inB p.Dm 0 (w64 (r.Cg-1))&&(((p.State==1)&&inB p.DM 0 (w64 (now+r.Rest)))||((p.State==2)&&inB p.DM 1 (w64 (now+r.B6)))))))))):=by
  intro b;unfold Mb;simp only[GJ,Xz,AB,AV,BM,c,Bq,Bt,Cn,Ht,EK]
 unfold eU;simp only[HS e,GJ,Xz,AB,AV,BM,a,Bq,Bt,Cn];rfl
def Zy(r:AY)(tier waited:Int):Int:=if 0>w64 (tier-w64 (waited.tdiv r.CI)) then 0 else w64 (tier-w64 (waited.tdiv r.CI))
theorem OZ(a b:Int):O0 a b=some (if a>b then a else b):=by
 unfold O0;rw[BW];split<;>rfl
theorem ye(a:r.CI≠0)(t w:Int):AVd r t w=some (Zy r t w):=by
 unfold AVd;rw[CE a,OZ,AB];rfl
theorem rY(r:AY)(t w:Int):0<=Zy r t w:=by unfold Zy;split<;>omega
theorem FB{p:AU}{now:Int}(h:Dw r p now=true):Ds r=true/\(0<=now/\now<=1000000)/\(1<=p.Id/\p.Id<=999)/\(0<=p.AZ/\p.AZ<=r.AX.length-1)/\(-1<=p.Bz/\p.Bz<=r.AX.length-1)/\p.Bz≠p.AZ/\(1<=p.BK/\p.BK<=r.BK)/\(0<=p.DS/\p.DS<=r.CZ-1)/\(0<=p.Since/\p.Since<=now)/\(1<=p.A4/\p.A4<=1000000)/\(0<=p.Dm/\p.Dm<=r.Cg-1)/\(p.State=1/\0<=p.DM/\p.DM<=now+r.Rest\/p.State=2/\1<=p.DM/\p.DM<=now+r.B6):=by
 grind[Dw,B8,CL,A7]
def I6(r:AY)(p:AU)(now:Int):Int:=if Dw r p now=true then Zy r p.DS (w64 (now-p.Since)) else -1
theorem yT(a:r.AX.length<2 ^ 62)(p:AU)(now:Int):AVe r p now=some (I6 r p now):=by
 unfold AVe I6;rw[Np a,AB,BM,Bw];split
 .rename_i h;have:=(CL (FB h).1).2.2.2.2.1;rw[ye (by omega),AB]
 .rfl
theorem wg(c:r.AX.length<2 ^ 62)(p:AU)(now:Int):AHj r p now=some (I6 r p now):=by
 unfold AHj I6;rw[Nb c,AB,BM,Bw];split
 .rename_i h;have a:=FB h;have j:=CL a.1;unfold AN8 Wi;rw[HS c,a.1,AB,BM,BT,Xz,AB,BM];have e:inB p.DS 0 (w64 (r.CZ-1))=true:=by rw[B8,A7 (by omega) (by omega)];omega
  have g:decide (w64 (now-p.Since)<0)=false:=by rw[A7 (by omega) (by omega)];simp;omega
  rw[e,BT,AV,g,Bd,CE (by omega),AB,AW rfl]
  grind[Zy]
 .rfl
def FH(r:AY)(p:AU)(now:Int):A0×Bool:=if Dw r p now=true/\p.State=1 then (⟨I6 r p now,p.A4,p.Id,p.BK⟩,true) else (⟨0,0,0,0⟩,false)
theorem Yi(a:r.AX.length<2 ^ 62)(p:AU)(now:Int):ALC r p now=some (FH r p now):=by
 unfold ALC uC FH;rw[yT a,AB,BW,AV,AV,BT];by_cases h:Dw r p now=true
 .have:=rY r p.DS (w64 (now-p.Since))
  grind[I6,Bw]
 grind[I6]
theorem Na(a:r.AX.length<2 ^ 62)(p:AU)(now:Int):pA r p now=some (FH r p now):=by
 grind[pA,fC,FH,Nb,AB,Bw,AV,wg]
def El(l:BN):Bool:=inB l.Total 1 60&&(inB l.D1 0 l.Total&&(inB l.FL 0 l.Total&&(inB l.GA 0 l.Total&&((w64 (w64 (l.D1+l.FL)+l.GA)==l.Total)&&inB l.GZ 0 l.GA))))
theorem P3(l:BN):AEg l=some (El l):=by
 unfold AEg RO El;simp only[GX,AB,AV,Cn]
theorem Gq(l:BN):Mc l=some (El l):=by
 unfold Mc OK El;simp only[GJ,AB,AV,Cn]
def Ec(a:B4):Bool:=decide ((a.Data.length:Int)<=20000)&&inB a.Safe 0 a.Data.length
theorem IJ(a:B4):cJ a=some (Ec a):=by
 unfold cJ ta Ec;simp only[GX,AB,AV,Cn]
theorem FZ(a:B4):SS a=some (Ec a):=by
 unfold SS fW Ec;simp only[GJ,AB,AV,Cn]
def Fq(s:Bo):Bool:=Ec s.Log&&(Ec s.Eo&&Ec s.Odd)
theorem SE(s:Bo):AK6 s=some (Fq s):=by
 unfold AK6 ch Fq;simp only[IJ,AB,AV,Cn]
theorem Xv(s:Bo):AAI s=some (Fq s):=by
 unfold AAI Wq Fq;simp only[FZ,AB,AV,Cn]
section
variable{α:Type}(lt:α->α->Bool)
def put(x:α):List α->List α| []=>[x]|z::l=>if lt z x=true then z::put x l else x::z::l
def ins(x:α):List α->List α| []=>[x]|z::l=>if lt x z=true then x::z::l else z::ins x l
structure Swo:Prop where
 tE:∀a b,lt a b=true->lt b a=false
 neg:∀a b c,lt a c=true->lt a b=true\/lt b c=true
def Dd(l:List α):List α:=l.foldr (put lt) []
variable {lt}
theorem Swo.trans(h:Swo lt){a b c:α}(g:lt a b=true)(j:lt b c=true):lt a c=true:=by
 rcases h.neg a c b g with e|e
 .exact e
 .rw[h.tE _ _ j]at e;cases e
theorem AJ4(h:Swo lt)(x y:α):∀l,ins lt x (put lt y l)=put lt y (ins lt x l)
 | []=>by simp only[put,ins]|z::l=>by
  cases c:lt z y with
  |true=>
   cases a:lt x z with
   |true=>simp only[put,ins,c,a,h.trans a c,if_true]|false=>simp[put,ins,c,a,AJ4 h x y l]
  |false=>
   cases a:lt x y with
   |true=>
    have e:lt x z=true:=(h.neg x z y a).resolve_right (by simp[c]);simp[put,ins,c,a,e]
   |false=>
    grind[put,ins]
theorem xz(h:Swo lt)(j:∀a b,lt a b=false->lt b a=false->a=b)(x y:α):∀l,put lt x (put lt y l)=put lt y (put lt x l)
 | []=>by
  simp only[put];cases c:lt y x with
  |true=>simp[h.tE _ _ c]|false=>
   cases e:lt x y with
   |true=>simp|false=>simp[j _ _ c e]
 |z::l=>by
  cases c:lt z y with
  |true=>
   cases e:lt z x with
   |true=>simp only[put,c,e,if_true];rw[xz h j x y l]|false=>
    have g:lt x y=true:=(h.neg z x y c).resolve_left (by simp[e]);simp[put,c,e,g]
  |false=>
   cases e:lt z x with
   |true=>
    have g:lt y x=true:=(h.neg z y x e).resolve_left (by simp[c]);simp[put,c,e,g]
   |false=>
    cases g:lt y x with
    |true=>simp[put,c,e,g,h.tE _ _ g]|false=>
     cases q:lt x y with
     |true=>simp[put,c,e,g,q]|false=>simp[j _ _ g q]
theorem rA(h:Swo lt):∀(l acc:List α) (a:α),l.foldl (λs x=>ins lt x s) (put lt a acc)=put lt a (l.foldl (λs x=>ins lt x s) acc)| [],_,_=>rfl|x::l,acc,a=>by rw[Bs,AJ4 h,rA h l,Bs]
theorem rP(h:Swo lt):∀l:List α,l.foldl (λs x=>ins lt x s) []=Dd lt l
 | []=>rfl|a::l=>by
  rw[Bs,show ins lt a []=put lt a [] from rfl,rA h,rP h l];rfl
theorem rB(h:Swo lt)(c:∀a b,lt a b=false->lt b a=false->a=b):∀(l acc:List α) (a:α),l.foldl (λs x=>put lt x s) (put lt a acc)=put lt a (l.foldl (λs x=>put lt x s) acc)| [],_,_=>rfl|x::l,acc,a=>by rw[Bs,xz h c,rB h c l,Bs]
theorem Zt(h:Swo lt)(c:∀a b,lt a b=false->lt b a=false->a=b):∀l:List α,l.foldl (λs x=>put lt x s) []=Dd lt l| []=>rfl|a::l=>by rw[Bs,rB h c,Zt h c l];rfl
theorem GH(x:α):∀l,(put lt x l).length=l.length+1| []=>rfl|z::l=>by unfold put;split<;>simp[GH x l]
theorem AJ1(x:α):∀l,(ins lt x l).length=l.length+1| []=>rfl|z::l=>by unfold ins;split<;>simp[AJ1 x l]
theorem Jl:∀l:List α,(Dd lt l).length=l.length
 | []=>rfl|a::l=>by
  have:=Jl l;unfold Dd at this ⊢;rw[Ku,GH,this];rfl
theorem Uk{x a:α}:∀{l},a∈put lt x l↔a=x\/a∈l
 | []=>by simp[put]|z::l=>by
  unfold put;split
  .rw[Ad,Uk,Ad]
   grind
  .simp
theorem AJ2{x a:α}:∀{l},a∈ins lt x l↔a=x\/a∈l
 | []=>by simp[ins]|z::l=>by
  unfold ins;split
  .simp
  .rw[Ad,AJ2,Ad]
   grind
theorem Qh{a:α}:∀{l:List α},a∈Dd lt l↔a∈l
 | []=>by simp[Dd]|z::l=>by
  have:=Qh (a:=a) (l:=l);unfold Dd at this ⊢;rw[Ku,Uk,this,Ad]
def Srt(lt:α->α->Bool)(l:List α):Prop:=l.Pairwise λa b=>lt b a=false
theorem AJ5(h:Swo lt)(x:α):∀l,Srt lt l->Srt lt (ins lt x l)
 | [],_=>by simp[ins,Srt]|z::l,a=>by
  unfold Srt at a;rw[Bj]at a;unfold ins Srt;split
  .rename_i g;rw[Bj,Bj];refine⟨?_,a⟩;intro b c;rcases Ad.1 c with rfl|c
   .exact h.tE _ _ g
   .cases e:lt b x with|false=>rfl|true=>exact absurd (h.trans e g) (by simp[a.1 b c])
  .rename_i g;rw[Bj];refine⟨?_,AJ5 h x l a.2⟩
   grind[AJ2]
theorem Zq{x:α}{e:List α}(h:∀b∈e,lt x b=true):∀{s1:List α},(∀a∈s1,lt x a=false)->ins lt x (s1++e)=s1++x::e
 | [],_=>by
  cases e with
  |nil=>rfl|cons b s=>unfold ins;rw[Bb];simp[h b BJ]
 |a::s1,g=>by
  rw[Bi];unfold ins;rw[g a BJ,AT (by simp),Zq h λc j=>g c (Ae _ j)];rfl
theorem Zp{γ:Type}(h:Swo lt){G:(List α×Int->AA γ)->List α×Int->AA γ}{E:List α->AA γ}{x:α}{r:List α}{M:Nat}
 (I:∀L t z w,t.length<M->lt x z=true->G L (t++z::x::w,((t.length+1:Nat):Int))=L (t++x::z::w,(t.length:Int)))
 (J:∀L t z w,t.length<M->lt x z=false->G L (t++z::x::w,((t.length+1:Nat):Int))=E (t++z::x::w)) (O:∀L w,G L (x::w,0)=E (x::w)) :
 ∀(k N:Nat) (s1 c:List α),s1.length=k->k<=M->k<N->(∀b∈c,lt x b=true)->Srt lt s1->BE G N (s1++x::(c++r),(k:Int))=E (ins lt x (s1++c)++r)
 |k,0,s1,c,q,hM,hN,y,j=>by omega|0,N+1,s1,c,q,hM,hN,y,j=>by
  obtain rfl:=List.eq_nil_of_length_eq_zero q;rw[Di,Bb,Zq (s1:=[]) y (by simp)];exact O _ _
 |k+1,N+1,s1,c,q,hM,hN,y,j=>by
  rcases List.eq_nil_or_concat s1 with rfl|⟨t,z,rfl⟩
  .simp at q
  simp only[List.concat_eq_append]at q j ⊢;have X:t.length=k:=by simpa using q
  have S:Srt lt t/\∀a∈t,lt z a=false:=by
   unfold Srt at j ⊢;rw[List.pairwise_append]at j;exact⟨j.1,λa g=>j.2.2 a g z (by simp)⟩
  rw[Di];subst X;cases H:lt x z with
  |true=>
   have e:t++[z]++x::(c++r)=t++z::x::(c++r):=by simp
   rw[e,I _ _ _ _ (by omega) H];have:=Zp (r:=r) h I J O t.length N t (z::c) rfl (by omega) (by omega) (by simpa[H] using y) S.1;rw[Bi]at this;rw[this];simp
  |false=>
   have e:t++[z]++x::(c++r)=t++z::x::(c++r):=by simp
   rw[e,J _ _ _ _ (by omega) H,Zq y ?_]
   .simp
   .intro a g;rw[Bn]at g;rcases g with g|g
    .cases e:lt x a with
     |false=>rfl|true=>
      rcases h.neg x z a e with B|B
      .rw[H]at B;cases B
      .rw[S.2 a g]at B;cases B
    .rw[List.mem_singleton]at g;subst g;exact H
theorem rO(h:Swo lt){F:(List α×Int->AA (List α))->List α×Int->AA (List α)}{v0:List α}(B:v0.length<2 ^ 62)
 (step:∀L s x r,s.length+1+r.length=v0.length->0<s.length->Srt lt s->F L (s++x::r,(s.length:Int))=L (ins lt x s++r,((s.length+1:Nat):Int)))
 (stop:∀L v (i:Nat),v0.length<=i->F L (v,(i:Int))=some v):BE F big (v0,1)=some (Dd lt v0):=by
 cases v0 with
 |nil=>
  have:=OH 0 (by omega);have ⟨n,q⟩:=this;rw[q,C6,Di];exact stop _ _ 1 (by simp)
 |cons a l=>
  have:=DI (F:=F) (n:=l.length) (λi (v:List α×List α)=>(v.1++v.2,((i+1:Nat):Int))) (λi v=>v.1.length=i+1/\v.2.length+i=l.length/\Srt lt v.1) (λi v=>some (v.2.foldl (λs x=>ins lt x s) v.1)) (by simp at B;omega) ?_ (v:=([a],l)) ⟨rfl,rfl,by simp[Srt]⟩
  .rw[<-rP h];exact this
  .rintro L i ⟨s,r⟩ ⟨e,c,g⟩ hi j;dsimp only at e c g j ⊢;cases r with
   |nil=>
    rw[stop _ _ _ (by simp at c ⊢;omega)];simp
   |cons x r=>
    have y:s.length+1+r.length=(a::l).length:=by simp at c ⊢;omega
    rw[<-e,step L s x r y (by omega) g,Bs];have:=j (ins lt x s,r) ⟨by dsimp only;rw[AJ1,e],by dsimp only;simp at c ⊢;omega,AJ5 h x s g⟩ (by simp at c;omega);rw[<-this,e]
theorem Tw{γ:Type}{F:(Int->AA γ)->Int->AA γ}{l:List α}{x:α}(J:List α->AA γ)(g:l.length<2 ^ 62)
 (step:∀L (i:Nat) (h:i<l.length),F L (i:Int)=br (lt l[i] x) (L (w64 ((i:Int)+1))) (J (l.take i++x::l.drop i)))
 (stop:∀L,F L (l.length:Int)=J (l++[x])):BE F big 0=J (put lt x l):=by
 refine(DI (n:=l.length) (λi (_:Unit)=>(i:Int)) (λ_ _=>True) (λi _=>J (l.take i++put lt x (l.drop i))) (by omega) ?_ (v:=()) trivial).trans (by simp);intro L i _ _ hi c;rcases Aa i l.length with h|h
 .rw[step L i h,B1 h (by omega),Dl h,put];cases e:lt l[i] x with
  |true=>
   have a:l.take (i+1)=l.take i++[l[i]]:=by rw[CS,AR h];rfl
   rw[BT,c () trivial h,a,BP];rfl
  |false=>rfl
 grind[put]
end
theorem WN(t w:List α)(z:α):at? (t++z::w) (t.length:Int)=some z:=by rw[KS];simp
theorem WO(t w:List α)(z x:α):at? (t++z::x::w) ((t.length+1:Nat):Int)=some x:=by rw[KS];simp
theorem ADt(t w:List α)(z a:α):(t++z::w).set t.length a=t++a::w:=by simp
theorem ADu(t w:List α)(z x a:α):(t++z::x::w).set (t.length+1) a=t++z::a::w:=by
 rw[List.set_append_right _ _ (by omega),show t.length+1-t.length=1 by omega];rfl
theorem KQ(n:Nat)(h:0<n)(a:n<2 ^ 63):w64 ((n:Int)-1)=((n-1:Nat):Int):=by grind[A7]
theorem tP(a b:Int):eX a b=some (if a<b then -1 else if a>b then 1 else 0):=by
 grind[eX,AHi,AB,BW]
def ltE(a b:A0):Bool:=decide (a.Level<b.Level)||((a.Level==b.Level)&&decide (a.A4<b.A4))
theorem Ub{a b:A0}:ltE a b=true↔a.Level<b.Level\/a.Level=b.Level/\a.A4<b.A4:=by simp[ltE]
theorem ASX{a b:A0}:ltE a b=false↔¬(a.Level<b.Level\/a.Level=b.Level/\a.A4<b.A4):=by rw[<-Ub];simp
def ltP(a b:Bc):Bool:=decide (a.At<b.At)||((a.At==b.At)&&decide (a.Id<b.Id))
theorem Rq{a b:Bc}:ltP a b=true↔a.At<b.At\/a.At=b.At/\a.Id<b.Id:=by simp[ltP]
theorem lg{a b:Bc}:ltP a b=false↔¬(a.At<b.At\/a.At=b.At/\a.Id<b.Id):=by rw[<-Rq];simp
theorem dX:Swo ltE:=⟨λa b h=>by rw[Ub]at h;rw[ASX];omega,λa b c h=>by rw[Ub]at *;rw[Ub];omega⟩
theorem FQ:Swo ltP:=⟨λa b h=>by rw[Rq]at h;rw[lg];omega,λa b c h=>by rw[Rq]at *;rw[Rq];omega⟩
theorem dZ(a b:Bc)(c:ltP a b=false)(e:ltP b a=false):a=b:=by
 rw[lg]at c e;have ⟨x,y⟩:=a;have ⟨z,w⟩:=b
 grind
theorem T3(a b:A0):AOQ a b=some (ltE a b):=by
 unfold AOQ dB ltE;simp only[AV,Cn,AHJ]
theorem cD(a b:Bc):AOi a b=some (ltP a b):=by
 unfold AOi dC ltP;simp only[AV,Cn,AHJ]
theorem Qe(a b:A0):∃c,U2 a b=some c/\decide (c<0)=ltE a b:=by
 unfold U2;rw[tP,AB,Bw,tP,AB];refine⟨if a.Level<b.Level then -1 else if a.Level>b.Level then 1 else if a.A4<b.A4 then -1 else if a.A4>b.A4 then 1 else 0,?_,?_⟩
 .split<;>split<;>simp_all
 grind[Ub]
theorem Ta(a b:A0):zn a b=some (ltE a b):=by
 unfold zn;have ⟨c,e,g⟩:=Qe a b;rw[e,AB,g]
theorem Nz(a b:Bc):∃c,Sr a b=some c/\decide (c<0)=ltP a b/\decide (c>0)=ltP b a:=by
 unfold Sr;rw[tP,AB,Bw,tP,AB];refine⟨if a.At<b.At then -1 else if a.At>b.At then 1 else if a.Id<b.Id then -1 else if a.Id>b.Id then 1 else 0,?_,?_,?_⟩
 .split<;>split<;>simp_all
 .grind[Rq]
 grind[Rq]
theorem AZf{l:List A0}(H:l.length<2 ^ 62):AHk l 0 l.length=some (Dd ltE l):=by
 unfold AHk DT;refine rO dX H ?_ ?_
 .intro L s x r J O g;unfold Dq;dsimp only;rw[CF (by omega),BT];have:=Zp (G:=Dr U2 0 L s.length) (E:=λv=>L (v,((s.length+1:Nat):Int))) (x:=x) (r:=r) (M:=s.length) dX ?_ ?_ ?_ s.length big s [] rfl (by omega) (Jj _ (by omega)) (by simp) g
  .rw[Bb,CV]at this;exact this
  all_goals unfold Dr Dp EU
  .intro L' t z w I B;have ⟨c,q,a⟩:=Qe x z;have e:=KQ (t.length+1) (by omega) (by omega);have h:((t.length+1:Nat):Int)>0:=by omega
   dsimp only;have y:c<0:=by rw[B,decide_eq_true_iff]at a;exact a
   simp only[BW,AV,e,DK,WN,WO,AB,q,ADt,ADu,Af,h,y,if_true]
  .intro L' t z w I B;have ⟨c,q,a⟩:=Qe x z;have e:=KQ (t.length+1) (by omega) (by omega);have h:((t.length+1:Nat):Int)>0:=by omega
   have j:=B1 (i:=s.length) (n:=s.length+1) (by omega) (by omega);dsimp only;have y:¬c<0:=by rw[B,decide_eq_false_iff_not]at a;exact a
   simp only[BW,AV,e,DK,WN,WO,AB,q,h,y,if_true,if_false,j]
  .intro L' w;have j:=B1 (i:=s.length) (n:=s.length+1) (by omega) (by omega);dsimp only;rw[BW,AT (by omega),AV,Bd,AV,j]
 grind[Dq,BW]
theorem AXL{l:List Bc}(H:l.length<2 ^ 62):zh l 0 l.length=some (Dd ltP l):=by
 unfold zh DT;refine rO FQ H ?_ ?_
 .intro L s x r J O g;unfold Dq;dsimp only;rw[CF (by omega),BT];have:=Zp (G:=Dr Sr 0 L s.length) (E:=λv=>L (v,((s.length+1:Nat):Int))) (x:=x) (r:=r) (M:=s.length) FQ ?_ ?_ ?_ s.length big s [] rfl (by omega) (Jj _ (by omega)) (by simp) g
  .rw[Bb,CV]at this;exact this
  all_goals unfold Dr Dp EU
  .intro L' t z w I B;have ⟨c,q,a,_⟩:=Nz x z;have e:=KQ (t.length+1) (by omega) (by omega);have h:((t.length+1:Nat):Int)>0:=by omega
   dsimp only;have y:c<0:=by rw[B,decide_eq_true_iff]at a;exact a
   simp only[BW,AV,e,DK,WN,WO,AB,q,ADt,ADu,Af,h,y,if_true]
  .intro L' t z w I B;have ⟨c,q,a,_⟩:=Nz x z;have e:=KQ (t.length+1) (by omega) (by omega);have h:((t.length+1:Nat):Int)>0:=by omega
   have j:=B1 (i:=s.length) (n:=s.length+1) (by omega) (by omega);dsimp only;have y:¬c<0:=by rw[B,decide_eq_false_iff_not]at a;exact a
   simp only[BW,AV,e,DK,WN,WO,AB,q,h,y,if_true,if_false,j]
  .intro L' w;have j:=B1 (i:=s.length) (n:=s.length+1) (by omega) (by omega);dsimp only;rw[BW,AT (by omega),AV,Bd,AV,j]
 grind[Dq,BW]
theorem AWj{l:List A0}(e:l.length<=19):ou l=some (Dd ltE l):=by
 unfold ou AHl Gw;have ⟨n,c⟩:=OH 0 (by omega);have a:=AZf (l:=l) (by omega);unfold AHk at a
 grind[GU,Di,BW,AV,Hu,AB,GV]
theorem AWk{l:List Bc}(e:l.length<=19):pD l=some (Dd ltP l):=by
 unfold pD AHp Gw;have ⟨n,c⟩:=OH 0 (by omega);have a:=AXL (l:=l) (by omega);unfold zh at a
 grind[GU,Di,BW,AV,Hu,AB,GV]
set_option maxRecDepth 100000
theorem AVP(a:n<256):∃c,AHf (IntKind.u64.wrap (n:Int))=some c:=by
 have e:IntKind.u64.wrap (n:Int)=n:=by
  simp only[IntKind.wrap,IntKind.bits,IntKind.signed];simp;omega
 unfold AHf AN4;rw[e,BW,AT (by omega),AV];unfold eP;dsimp only;rw[BW,AT (by omega),AV];unfold eQ;dsimp only;rw[BW,AT (by omega),AV];unfold eR;dsimp only;rw[BQ (UInt8.toNat_lt (toB (n:Int))),AB,AB];exact⟨_,rfl⟩
theorem AYe{l:List Bc}(g:l.length<=12):AHg l=some (Dd ltP l):=by
 unfold AHg AN5;have ⟨c,a⟩:=AVP (n:=l.length) (by omega);rw[a,AB];have ⟨n,e⟩:=OH 0 (by omega)
 grind[Di,zi,BW,A7,AXL,AB]
section
variable{α σ γ:Type}
theorem TQ{l:List α}{F:(σ×Int->AA γ)->σ×Int->AA γ}(f:σ->α->σ)(I:Nat->σ->Prop)(J:σ->AA γ)(a:l.length<2 ^ 63)
 (step:∀L i (h:i<l.length) v,I i v->F L (v,(i:Int))=L (f v l[i],w64 ((i:Int)+1))) (E9:∀i (h:i<l.length) v,I i v->I (i+1) (f v l[i]))
 (stop:∀L v,I l.length v->F L (v,(l.length:Int))=J v) {v0:σ} (e:I 0 v0):BE F big (v0,0)=J (l.foldl f v0):=by
 refine(DI (n:=l.length) (λi (v:σ)=>(v,(i:Int))) I (λi v=>J ((l.drop i).foldl f v)) a ?_ e);intro L i v c hi g;rcases Aa i l.length with h|h
 .rw[step L i h v c,B1 h a,Dl h,Bs];exact g _ (E9 i h v c) h
 grind
def Eu(eq:α->α->Bool):List α->List α->Bool| [],[]=>true|x::a,y::b=>eq x y&&Eu eq a b|_,_=>false
theorem ID{eq:α->α->Bool}(c:∀x y,eq x y=true↔x=y):∀{a b:List α},Eu eq a b=true↔a=b| [],[]=>by simp[Eu]| [],y::b=>by simp[Eu]|x::a,[]=>by simp[Eu]|x::a,y::b=>by rw[Eu,AF,c,ID c,CB]
theorem mo{eq:α->α->Bool}:∀{a b:List α},a.length≠b.length->Eu eq a b=false| [],[],h=>by simp at h| [],y::b,h=>rfl|x::a,[],h=>rfl|x::a,y::b,h=>by rw[Eu,mo (a:=a) (b:=b) (by simpa using h),Dk]
theorem AUO{eq:α->α->Bool}{a b:List α}{F:(Int->AA Bool)->Int->AA Bool}(c:a.length<2 ^ 63)(e:a.length=b.length)
 (step:∀L i (h:i<a.length) (j:i<b.length),F L (i:Int)=br (!(eq a[i] b[i])) (some false) (L (w64 ((i:Int)+1)))) (stop:∀L,F L (a.length:Int)=some true):BE F big 0=some (Eu eq a b):=by
 refine(DI (n:=a.length) (λi (_:Unit)=>(i:Int)) (λ_ _=>True) (λi _=>some (Eu eq (a.drop i) (b.drop i))) c ?_ (v:=()) trivial);intro L i _ _ hi g;rcases Aa i a.length with h|h
 .rw[step L i h (by omega),B1 h c,Dl h,Dl (l:=b) (i:=i) (by omega),Eu,BM];cases eq a[i] b[i] with|true=>rw[BT,g () trivial h];rfl|false=>rfl
 .obtain rfl:i=a.length:=by omega
  rw[stop,Ck,A1 (by omega)];rfl
theorem T0{eq:α->α->Bool}{a b:List α}{F:(Int->AA Bool)->Int->AA Bool}(c:a.length<2 ^ 63)
 (step:∀L i (h:i<a.length) (g:i<b.length),F L (i:Int)=br (!(eq a[i] b[i])) (some false) (L (w64 ((i:Int)+1)))) (stop:∀L,F L (a.length:Int)=some true) :
 br ((a.length:Int) != (b.length:Int)) (some false) (BE F big 0)=some (Eu eq a b):=by
 by_cases h:a.length=b.length
 .have e:((a.length:Int) != (b.length:Int))=false:=by simp[h]
  rw[e,Bd,AUO c h step stop]
 .have e:((a.length:Int) != (b.length:Int))=true:=by simp;omega
  rw[e,BT,mo h]
def atF(p:α->Bool):List α->Nat->Int| [],_=>-1|x::l,i=>if p x=true then (i:Int) else atF p l (i+1)
theorem RG{p:α->Bool}{l:List α}{F:(Int->AA Int)->Int->AA Int}(a:l.length<2 ^ 63)
 (step:∀L i (h:i<l.length),F L (i:Int)=br (p l[i]) (some (i:Int)) (L (w64 ((i:Int)+1)))) (stop:∀L,F L (l.length:Int)=some (-1)):BE F big 0=some (atF p l 0):=by
 refine(DI (n:=l.length) (λi (_:Unit)=>(i:Int)) (λ_ _=>True) (λi _=>some (atF p (l.drop i) i)) a ?_ (v:=()) trivial);intro L i _ _ hi c;rcases Aa i l.length with h|h
 .rw[step L i h,B1 h a,Dl h,atF];cases p l[i] with|true=>rfl|false=>rw[Bd,c () trivial h];simp
 .obtain rfl:i=l.length:=by omega
  rw[stop,Ck];rfl
theorem dx{p:α->Bool}:∀{l:List α} {s:Nat},atF p l s<0↔∀x∈l,p x=false
 | [],s=>by simp[atF]|x::l,s=>by
  unfold atF;split
  .rename_i h;simp[h]
  .rename_i h;rw[dx];simp[h]
theorem zJ{p:α->Bool}:∀{l:List α} {i:Nat} (s:Nat) (h:i<l.length),p l[i]=true->((atF p l s != ((s+i:Nat):Int))=decide (atF p (l.take i) s>=0))
 | [],i,s,h,a=>by simp at h|x::l,0,s,h,a=>by
  simp only[List.getElem_cons_zero]at a;simp[atF,a]
 |x::l,i+1,s,h,a=>by
  simp only[List.getElem_cons_succ]at a;rw[List.take_succ_cons,atF,atF];by_cases c:p x=true
  .grind
  .rw[AT c,AT c];have:=zJ (l:=l) (i:=i) (s+1) (by simpa using h) a;rw[<-this,show s+1+i=s+(i+1) by omega]
end
def M1(cabin:Int)(n:Int)(p:AU):Int:=if (p.AZ==cabin)=true then n+1 else n
def DW(l:List AU)(cabin:Int):Int:=l.foldl (M1 cabin) 0
def U8(cabin:Int)(n:Int)(p:AU):Int:=if ((p.State==2)&&((p.AZ==cabin)&&inB p.BK 1 6))=true then n+p.BK else n
def JV(l:List AU)(cabin:Int):Int:=l.foldl (U8 cabin) 0
def VR(cabin:Int)(n:Int)(p:AU):Int:=if ((p.Bz==cabin)&&inB p.BK 1 6)=true then n+p.BK else n
def Jz(l:List AU)(cabin:Int):Int:=l.foldl (VR cabin) 0
theorem og(cabin:Int)(p:AU){n:Int}(h:0<=n/\n<=i):0<=M1 cabin n p/\M1 cabin n p<=((i+1:Nat):Int):=by unfold M1;split<;>omega
theorem Xq(cabin:Int)(p:AU){n:Int}(h:0<=n/\n<=6*i):0<=U8 cabin n p/\U8 cabin n p<=6*((i+1:Nat):Int):=by
 grind[U8,B8]
theorem Ys(cabin:Int)(p:AU){n:Int}(h:0<=n/\n<=6*i):0<=VR cabin n p/\VR cabin n p<=6*((i+1:Nat):Int):=by
 grind[VR,B8]
theorem R9{l:List AU}(e:l.length<2 ^ 58)(c:Int):AK5 l c=some (DW l c):=by
 unfold AK5;refine TQ (l:=l) (M1 c) (λi n=>0<=n/\n<=i) some (by omega) ?_ (λi h v a=>og c _ a) ?_ (by simp)
 .grind[tY,tX,M1,BQ,AB,AV,A7,Bw]
 grind[tY,AHc,Bd,AV]
theorem Rj{l:List AU}(e:l.length<2 ^ 58)(c:Int):oz l c=some (DW l c):=by
 unfold oz;refine TQ (l:=l) (M1 c) (λi n=>0<=n/\n<=i) some (by omega) ?_ (λi h v a=>og c _ a) ?_ (by simp)
 .grind[eW,eV,M1,BQ,AB,AV,A7,Bw]
 grind[eW,zm,Bd,AV]
theorem bz{l:List AU}(y:l.length<2 ^ 58)(c:Int):AN3 l c=some (JV l c):=by
 unfold AN3;refine TQ (l:=l) (U8 c) (λi n=>0<=n/\n<=6*i) some (by omega) ?_ (λi h v a=>Xq c _ a) ?_ (by simp)
 .intro L i h v a;have e:=Xq c l[i] a;unfold U8 at e ⊢;unfold tT cZ tQ;dsimp only;rw[CF h,BT];simp only[BQ h,AB,AV,GX,Bd];cases g:l[i].State==2<;>cases j:l[i].AZ==c<;>cases q:inB l[i].BK 1 6<;>simp only[BT,Bd,Ce,Bt,if_true,BI,if_false]
  grind[A7]
 grind[tT,AHa,Bd,AV]
theorem bS{l:List AU}(y:l.length<2 ^ 58)(c:Int):fM l c=some (JV l c):=by
 unfold fM;refine TQ (l:=l) (U8 c) (λi n=>0<=n/\n<=6*i) some (by omega) ?_ (λi h v a=>Xq c _ a) ?_ (by simp)
 .intro L i h v a;have e:=Xq c l[i] a;unfold U8 at e ⊢;unfold fO Wo fN;dsimp only;rw[CF h,BT];simp only[BQ h,AB,AV,GJ,Bd];cases g:l[i].State==2<;>cases j:l[i].AZ==c<;>cases q:inB l[i].BK 1 6<;>simp only[BT,Bd,Ce,Bt,if_true,BI,if_false]
  grind[A7]
 grind[fO,AAE,Bd,AV]
theorem cB{l:List AU}(q:l.length<2 ^ 58)(c:Int):AK4 l c=some (Jz l c):=by
 unfold AK4;refine TQ (l:=l) (VR c) (λi n=>0<=n/\n<=6*i) some (by omega) ?_ (λi h v a=>Ys c _ a) ?_ (by simp)
 .intro L i h v a;have e:=Ys c l[i] a;unfold VR at e ⊢;unfold tW tU tV;dsimp only;rw[CF h,BT];simp only[BQ h,AB,AV,GX,Bd];cases g:l[i].Bz==c<;>cases j:inB l[i].BK 1 6<;>simp only[BT,Bd,Ce,Bt,if_true,BI,if_false]
  grind[A7]
 grind[tW,AHb,Bd,AV]
theorem bV{l:List AU}(q:l.length<2 ^ 58)(c:Int):aq l c=some (Jz l c):=by
 unfold aq;refine TQ (l:=l) (VR c) (λi n=>0<=n/\n<=6*i) some (by omega) ?_ (λi h v a=>Ys c _ a) ?_ (by simp)
 .intro L i h v a;have e:=Ys c l[i] a;unfold VR at e ⊢;unfold fR fP fQ;dsimp only;rw[CF h,BT];simp only[BQ h,AB,AV,GJ,Bd];cases g:l[i].Bz==c<;>cases j:inB l[i].BK 1 6<;>simp only[BT,Bd,Ce,Bt,if_true,BI,if_false]
  grind[A7]
 grind[fR,AAF,Bd,AV]
def eqE(x y:A0):Bool:=x.Level==y.Level&&(x.A4==y.A4&&(x.Id==y.Id&&(x.BK==y.BK&&true)))
theorem dO(x y:A0):eqE x y=true↔x=y:=by
 have ⟨a,b,c,d⟩:=x;have ⟨e,f,g,h⟩:=y;simp[eqE]
def eqP(x y:Bc):Bool:=x.At==y.At&&(x.Id==y.Id&&true)
theorem dP(x y:Bc):eqP x y=true↔x=y:=by
 have ⟨a,b⟩:=x;have ⟨c,d⟩:=y;simp[eqP]
theorem SD{a b:List A0}(e:a.length<2 ^ 62):AOj a b=some (Eu eqE a b):=by
 unfold AOj;refine T0 (by omega) ?_ ?_
 .intro L i h c;unfold uI;rw[CF h,BT,BQ h,AB,BQ c,AB];rfl
 grind[uI,AJW,Bd,AV]
theorem bQ{a b:List A0}(e:a.length<2 ^ 62):zf a b=some (Eu eqE a b):=by
 unfold zf;refine T0 (by omega) ?_ ?_
 .intro L i h c;unfold eO;rw[CF h,BT,BQ h,AB,BQ c,AB];rfl
 grind[eO,zg,Bd,AV]
theorem P5{a b:List Bc}(e:a.length<2 ^ 62):AOl a b=some (Eu eqP a b):=by
 unfold AOl;refine T0 (by omega) ?_ ?_
 .intro L i h c;unfold uP;rw[CF h,BT,BQ h,AB,BQ c,AB];rfl
 grind[uP,AJZ,Bd,AV]
theorem bR{a b:List Bc}(e:a.length<2 ^ 62):AAC a b=some (Eu eqP a b):=by
 unfold AAC;refine T0 (by omega) ?_ ?_
 .intro L i h c;unfold fL;rw[CF h,BT,BQ h,AB,BQ c,AB];rfl
 grind[fL,AAD,Bd,AV]
def KL{α:Type}(l:List α)(k:Nat)(p:α->Bool):Bool:=match l[k]? with|some x=>p x|none=>true
theorem CX(h:k<l.length)(p:α->Bool):KL l k p=p l[k]:=by unfold KL;rw[AR h]
theorem dL(i:Nat):decide ((i:Int)>0)=decide (0<i):=by rw[decide_eq_decide];omega
theorem Nf(l:List α)(x:α):l.length+[x].length=l.length+1:=rfl
theorem SB{l:List A0}(a:l.length<2 ^ 62)(id:Int):ALA l id=some (atF (λx=>x.Id==id) l 0):=by
 grind[ALA,RG,AI3,BT,BQ,AB,AI2,Bd,AV]
theorem Xt{l:List A0}(a:l.length<2 ^ 62)(id:Int):o6 l id=some (atF (λx=>x.Id==id) l 0):=by
 unfold o6 AN7
 grind[RG,AB,zq,AN6,BT,BQ,zp,Bd,AV]
def AOt(e:A0):Bool:=inB e.Level 0 4&&(inB e.A4 1 1000000&&(inB e.Id 1 999&&inB e.BK 1 6))
def qAt(l:List A0)(i:Nat):Bool:=
 KL l i λe=>AOt e&&((if 0<i then KL l (i-1) (λd=>ltE d e) else true)&&!(decide (atF (λx=>x.Id==e.Id) (l.take i) 0>=0)))
def LG(l:List A0):Bool:=!(decide ((l.length:Int)>10))&&JG (qAt l) 0 l.length
theorem yW(l:List A0)(g:l.length<2 ^ 62):AVc l=some (LG l):=by
 unfold AVc LG;rw[KX (n:=l.length) (E:=some true) (qAt l) (by omega) ?_ ?_,Cn,CK,Ht]
 .intro L i h;have q:=B1 h (show l.length<2 ^ 63 by omega);unfold qAt;rw[CX h];unfold tu;rw[CF h,BT,BQ h,AB];have a:∀b,XZ L i b=br (!b) (L ((i+1:Nat):Int)) (some false):=by intro b;unfold XZ;rw[q];cases b<;>rfl
  have j:(atF (λx=>x.Id==l[i].Id) l 0 != (i:Int))=decide (atF (λx=>x.Id==l[i].Id) (l.take i) 0>=0):=by
   grind[zJ]
  have e:∀b,UU l L i l[i] b=br (!b&&((if 0<i then KL l (i-1) (λd=>ltE d l[i]) else true)&&!(decide (atF (λx=>x.Id==l[i].Id) (l.take i) 0>=0)))) (L ((i+1:Nat):Int)) (some false):=by
   intro b;unfold UU;rw[dL];by_cases c:0<i
   .rw[decide_eq_true c,BT,AW c,KQ i c (by omega),BQ (show i-1<l.length by omega),AB,T3,AB,BM,SB g,AB,AV,AV,a,a,j,CX (by omega)];cases b<;>cases ltE l[i-1] l[i]<;>rfl
   .rw[decide_eq_false c,Bd,AT c,SB g,AB,AV,a,j];cases b<;>rfl
  unfold AOt;simp only[GX,AB,AV,BM,e];generalize ((if 0<i then KL l (i-1) (λd=>ltE d l[i]) else true)&&!(decide (atF (λx=>x.Id==l[i].Id) (l.take i) 0>=0)))=X;cases inB l[i].Level 0 4<;>cases inB l[i].A4 1 1000000<;>cases inB l[i].Id 1 999<;>cases inB l[i].BK 1 6<;>rfl
 grind[tu,AJI,Bd,AV]
theorem Xu(l:List A0)(q:l.length<2 ^ 62):o7 l=some (LG l):=by
 unfold o7 LG;rw[KX (n:=l.length) (E:=some true) (qAt l) (by omega) ?_ ?_,Cn,CK,Ht]
 .intro L i h;have g:=B1 h (show l.length<2 ^ 63 by omega);unfold qAt;rw[CX h];unfold eY;rw[CF h,BT,BQ h,AB];have a:∀b,QI L i b=br (!b) (L ((i+1:Nat):Int)) (some false):=by intro b;unfold QI;rw[g];cases b<;>rfl
  have e:∀b,Sq L i l[i] b=br (!b&&AOt l[i]) (L ((i+1:Nat):Int)) (some false):=by
   intro b;unfold Sq AOt;have c:w64 (5-1)=4:=by rw[A7]<;>omega
   simp only[GJ,Xz,AB,AV,BM,a,c];cases b<;>cases inB l[i].Level 0 4<;>cases inB l[i].A4 1 1000000<;>cases inB l[i].Id 1 999<;>cases inB l[i].BK 1 6<;>rfl
  have j:(0:Int)<=(i:Int)/\(i:Int)<=(l.length:Int):=by omega
  grind[BT,KQ,BQ,AB,Ta,CE,Xt,AV,CX,ltE,Bd]
 grind[eY,zr,Bd,AV]
theorem T7{l:List A0}(a:l.length<=lim):uD l=some l:=by
 unfold uD;rw[CE (by omega),Bb]
theorem nI{l:List A0}(c:l.length+1<=lim)(e:A0):AEh l e=some (put ltE e l):=by
 have a:∀i:Nat,i<=l.length->uE l e i=some (l.take i++e::l.drop i):=by
  grind[uE,CE,T7,AB,Cp]
 have hlim:lim=268435456:=rfl;unfold AEh;refine Tw some (by omega) ?_ ?_
 .grind[uF,dJ,BT,BQ,AB,T3,AV]
 grind[uF,dJ,Bd,AV]
theorem V8{l:List Bc}(c:l.length+1<=lim)(e:Bc):ALE l e=some (put ltP e l):=by
 have a:∀i:Nat,i<=l.length->uJ l e i=some (l.take i++e::l.drop i):=by
  grind[uJ,CE]
 have hlim:lim=268435456:=rfl;unfold ALE;refine Tw some (by omega) ?_ ?_
 .grind[uK,dK,BT,BQ,AB,cD,AV]
 grind[uK,dK,Bd,AV]
def MH(r:AY)(cabin now:Int)(p:AU):AA A0:=if ((FH r p now).2&&(p.AZ==cabin))=true then some (FH r p now).1 else none
def D5(r:AY)(l:List AU)(cabin now:Int):List A0:=Dd ltE (l.filterMap (MH r cabin now))
theorem SC(j:r.AX.length<2 ^ 62){l:List AU}(G:l.length<=1048576)(c now:Int):ALD r l c now=some (D5 r l c now):=by
 have hlim:lim=268435456:=rfl;have e:w64 ((l.length:Int)-1)=(l.length:Int)-1-((0:Nat):Int):=by rw[A7 (by omega) (by omega)];omega
 unfold ALD D5;rw[e];refine(DI (n:=l.length) (λi (v:List A0)=>(v,(l.length:Int)-1-(i:Int))) (λi v=>v.length<=i) (λi v=>some ((((l.take (l.length-i)).filterMap (MH r c now)).foldr (put ltE) v))) (by omega) ?_ (v:=[]) (by simp)).trans (by rw[FU,CO];rfl);intro L i v H hi I;unfold AJV uG uH;dsimp only;rcases Aa i l.length with h|h
 .have ⟨k,E⟩:∃k,l.length=i+(k+1):=⟨l.length-i-1,by omega⟩;have g:(l.length:Int)-1-(i:Int)=(k:Int):=by omega
  have a:k<l.length:=by omega
  have y:w64 ((k:Int)-1)=(l.length:Int)-1-((i+1:Nat):Int):=by rw[A7 (by omega) (by omega)];omega
  have B:l.take (l.length-i)=l.take (l.length-(i+1))++[l[k]]:=by
   rw[show l.length-i=k+1 by omega,show l.length-(i+1)=k by omega,CS,AR a];rfl
  rw[g,BW,AW (by omega)];simp only[BQ a,AB,Yi j,Cp,yo,AV,Bd];have key:(br (FH r l[k] now).2 (br (l[k].AZ==c) (bd (AEh v (FH r l[k] now).1) λq=>L (q,w64 ((k:Int)-1))) (L (v,w64 ((k:Int)-1)))) (L (v,w64 ((k:Int)-1))))=some ((((l.take (l.length-i)).filterMap (MH r c now)).foldr (put ltE) v)):=by
   grind[nI,AB,MH,FH,BT,Bd,GH]
  exact key
 .obtain rfl:i=l.length:=by omega
  unfold AJU;rw[BW,AT (by omega),AV,Eg];rfl
theorem n7(f:α->AA β)(h:i<l.length):(l.take (i+1)).filterMap f=(l.take i).filterMap f++(f l[i]).toList:=by
 rw[CS,AR h,List.filterMap_append];congr 1
theorem n8(f:α->AA β)(l:List α)(i:Nat):((l.take i).filterMap f).length<=i:=Aw (List.length_filterMap_le _ _) (by rw[Ai];omega)
theorem collect(f:α->AA β){F:(List β×Int->AA γ)->List β×Int->AA γ}(J:List β->AA γ)(e:l.length<=1048576)
 (step:∀L i (h:i<l.length) v,v.length<=i->F L (v,(i:Int))=L (v++(f l[i]).toList,w64 ((i:Int)+1))) (stop:∀L v,F L (v,(l.length:Int))=J v):BE F big ([],0)=J (l.filterMap f):=by
 refine(DI (n:=l.length) (λi (v:List β)=>(v,(i:Int))) (λi v=>v=(l.take i).filterMap f) (λi v=>J (l.filterMap f)) (by omega) ?_ (by simp));intro L i v a hi c;rcases Aa i l.length with h|h
 .rw[step L i h v (by rw[a];exact n8 _ _ _),B1 h (by omega)];exact c _ (by rw[a,n7 f h]) h
 grind
theorem oh(c:Int):∀(l:List AU) (n:Int),l.foldl (M1 c) n=n+(l.countP λp=>p.AZ==c)
 | [],n=>by simp|p::l,n=>by
  rw[Bs,oh c l,List.countP_cons]
  grind[M1]
theorem dQ{β:Type}(f:AU->AA β)(c:Int)(a:∀p,(p.AZ==c)=false->f p=none):∀l:List AU,((l.filterMap f).length:Int)<=DW l c:=by
 intro l;unfold DW;rw[oh,Int.zero_add]
 induction l with
 |nil=>simp|cons p l e=>
  grind
theorem Rk(e:r.AX.length<2 ^ 62){l:List AU}(a:l.length<=1048576){c:Int}(q:DW l c<=19)(now:Int):ak r l c now=some (D5 r l c now):=by
 have hlim:lim=268435456:=rfl;have y:=dQ (MH r c now) c (by intro p h;unfold MH;rw[h,Dk];rfl) l;unfold ak D5;rw[collect (l:=l) (MH r c now) So a ?_ ?_]
 .unfold So;rw[AWj (by omega),AB]
 .intro L i h v B;unfold Sp Wb Wc MH;dsimp only;rw[CF h,BT,BQ h,AB,Na e,AB,AV,AV,CE (by rw[Nf];omega),AV,AV];cases g:(FH r l[i] now).2<;>cases j:l[i].AZ==c<;>simp
 grind[Sp,Bd,AV]
def ND(cabin:Int)(p:AU):AA Bc:=if ((p.State==2)&&(p.AZ==cabin))=true then some ⟨p.DM,p.Id⟩ else none
def Gr(l:List AU)(cabin:Int):List Bc:=Dd ltP (l.filterMap (ND cabin))
theorem cA{l:List AU}(e:l.length<=1048576)(c:Int):AOk l c=some (Gr l c):=by
 have hlim:lim=268435456:=rfl;unfold AOk Gr;rw[TQ (l:=l) (λv p=>match ND c p with|some x=>put ltP x v|none=>v) (λi v=>v.length<=i) some (by omega) ?_ ?_ ?_ (by simp),<-Zt FQ dZ]
 .congr 1;generalize ([]:List Bc)=a;clear e
  induction l generalizing a with
  |nil=>rfl|cons p l g=>
   rw[Bs,g,List.filterMap_cons];cases ND c p<;>rfl
 .intro L i h v y;unfold uO uM uN ND;dsimp only;rw[CF h,BT];simp only[BQ h,AB,AV,Bd,V8 (show v.length+1<=lim by omega)];cases j:l[i].State==2<;>cases q:l[i].AZ==c<;>rfl
 .grind[GH]
 grind[uO,AJY,Bd,AV]
theorem bU{l:List AU}(a:l.length<=1048576){c:Int}(j:DW l c<=19):fK l c=some (Gr l c):=by
 have hlim:lim=268435456:=rfl;have q:=dQ (ND c) c (by intro p h;unfold ND;rw[h,Dk];rfl) l;unfold fK Gr;rw[collect (l:=l) (ND c) Su a ?_ ?_]
 .unfold Su;rw[AWk (by omega),AB]
 .intro L i h v y;unfold Sv Wm Wn ND;dsimp only;rw[CF h,BT,BQ h,AB,AV,AV,CE (by rw[Nf];omega),AV,AV];cases e:l[i].State==2<;>cases g:l[i].AZ==c<;>simp
 grind[Sv,Bd,AV]
def Ry(p:Bc):Bool:=inB p.At 1 1000008&&inB p.Id 1 999
structure Pg(w:A2):Prop where
 nine:w.Au.length=9
 few:w.Au.flatten.length<=10
 pins:∀p∈w.Au.flatten,Ry p=true
 ids:w.Au.flatten.Pairwise λa b=>a.Id≠b.Id
 at_:∀i (h:i<w.Au.length) k (hk:k<w.Au[i].length),w.Au[i][k].At.tmod 9=(i:Int)
 srt:∀i (h:i<w.Au.length) k (hk:k+1<w.Au[i].length),ltP w.Au[i][k] w.Au[i][k+1]=true
def HL(w:A2):Bool:=@decide (Pg w) (Classical.propDecidable _)
theorem EO:HL w=true↔Pg w:=by grind[HL]
def DY(w:A2):Prop:=w.Au.length<=1048576/\w.Au.flatten.length<=1048576
theorem Xl{l:List (List α)}(h:i<l.length):(l.take i).flatten.length+l[i].length<=l.flatten.length:=by
 grind[Dl,List.take_append_drop]
theorem MO{l:List (List Bc)}(h:i<l.length):l[i].length<=l.flatten.length:=by have:=Xl h;omega
theorem nJ(a:DY w):AOh w=some w.Au.flatten:=by
 have hlim:lim=268435456:=rfl;have c:=a.1;have e:=a.2;unfold AOh;refine(DI (n:=w.Au.length) (λi (v:List Bc)=>(v,(i:Int))) (λi v=>v=(w.Au.take i).flatten) (λi v=>some w.Au.flatten) (by omega) ?_ (by simp));intro L i v g hi j;unfold AJS AJR;dsimp only;rcases Aa i w.Au.length with h|h
 .have:=Xl h
  grind[BT,BQ,AB,CE,B1,List.take_add_one]
 grind[Bd,AV]
def cE(s:List Bc)(i:Nat)(k:Nat):Bool:=KL s k λp=>(p.At.tmod 9==(i:Int))&&(if 0<k then KL s (k-1) (λd=>ltP d p) else true)
def rf(l:List Bc)(i:Nat):Bool:=KL l i λp=>Ry p&&JG (λk=>KL l k λq=>!(q.Id==p.Id)) 0 i
theorem HY(H:DY w):ny w=some (HL w):=by
 have h1:=H.1;have h2:=H.2;have G:dG w ()=some (JG (λi=>KL w.Au i λs=>JG (cE s i) 0 s.length) 0 w.Au.length):=by
  unfold dG;rw[KX (n:=w.Au.length) (E:=some true) (λi=>KL w.Au i λs=>JG (cE s i) 0 s.length) (by omega) ?_ ?_,Cn,CK]
  .intro L i h;have hs:=MO h;rw[CX h];unfold uA;rw[CF h,BT];refine KX (n:=w.Au[i].length) (E:=L ((i+1:Nat):Int)) (cE w.Au[i] i) (by omega) ?_ ?_
   .intro L' k a;have I:=B1 a (show w.Au[i].length<2 ^ 63 by omega);unfold cE;rw[CX a];unfold uB dH;rw[BQ h,AB,CF a,BT,dL];simp only[AB,BQ a,AV,I,BT,Bd];by_cases c:0<k
    .rw[decide_eq_true c,BT,AW c,KQ k c (by omega),BQ (show k-1<w.Au[i].length by omega),AB,cD,AB,CX (show k-1<w.Au[i].length by omega),bne];cases w.Au[i][k].At.tmod 9==(i:Int)<;>cases ltP w.Au[i][k-1] w.Au[i][k]<;>rfl
    .rw[decide_eq_false c,Bd,AT c,bne];cases w.Au[i][k].At.tmod 9==(i:Int)<;>rfl
   .intro L';unfold uB ACO;rw[BQ h,AB,C0,Bd,AV,B1 h (by omega)]
  .intro L;unfold uA ACP;rw[C0,Bd,AV]
 have e:∀b,dE w w.Au.flatten b=some (!b&&(JG (rf w.Au.flatten) 0 w.Au.flatten.length&&JG (λi=>KL w.Au i λs=>JG (cE s i) 0 s.length) 0 w.Au.length)):=by
  intro b;unfold dE;rw[KX (n:=w.Au.flatten.length) (E:=dG w ()) (rf w.Au.flatten) (by omega) ?_ ?_,G,Cn,Ht]
  .intro L i h;unfold rf;rw[CX h];have B:∀b,dF w.Au.flatten L i b=br (!b&&JG (λk=>KL w.Au.flatten k λq=>!(q.Id==w.Au.flatten[i].Id)) 0 i) (L ((i+1:Nat):Int)) (some false):=by
    intro b;unfold dF;rw[KX (n:=i) (E:=L ((i+1:Nat):Int)) (λk=>KL w.Au.flatten k λq=>!(q.Id==w.Au.flatten[i].Id)) (by omega) ?_ ?_]
    .cases b<;>rfl
    .intro L' k a;rw[CX (show k<w.Au.flatten.length by omega)];unfold tz;rw[CF a,BT];simp only[BQ h,BQ (show k<w.Au.flatten.length by omega),AB,B1 a (show i<2 ^ 63 by omega)];cases w.Au.flatten[k].Id==w.Au.flatten[i].Id<;>rfl
    .intro L';unfold tz AJT;rw[C0,Bd,AV,B1 h (by omega)]
   unfold tx Ry;rw[CF h,BT];simp only[BQ h,AB,GX,BM,AV,B];generalize JG (λk=>KL w.Au.flatten k λq=>!(q.Id==w.Au.flatten[i].Id)) 0 i=X;cases inB w.Au.flatten[i].At 1 1000008<;>cases inB w.Au.flatten[i].Id 1 999<;>rfl
  .intro L;unfold tx;rw[C0,Bd,AV]
 unfold ny;rw[nJ H,AB,AV,AV,e,e,Bq,Bt,bne,BM,Cn];congr 1;rw[IN,EO];simp only[AF,beq_iff_eq,A8,decide_eq_false_iff_not,Jy];constructor
 .rintro⟨J,O,a3,a4⟩;refine⟨by omega,by omega,?_,?_,?_,?_⟩
  .intro p Z;obtain⟨k,a,rfl⟩:=G2 Z;have:=a3 k a;unfold rf at this;rw[CX a,AF]at this;exact this.1
  .rw[Cf];intro i j hi g y;have:=a3 j g;unfold rf at this;rw[CX g,AF,Jy]at this;have:=this.2 i y;rw[CX hi]at this;simpa using this
  .intro i h k a;have:=a4 i h;rw[CX h,Jy]at this;have:=this k a;unfold cE at this;rw[CX a,AF,beq_iff_eq]at this;exact this.1
  .intro i h k a;have:=a4 i h;rw[CX h,Jy]at this;have:=this (k+1) a;unfold cE at this;rw[CX a,AF,AW (by omega),DK,CX (by omega)]at this;exact this.2
 .rintro⟨J,O,a3,a4,S,Y⟩;refine⟨by omega,by omega,?_,?_⟩
  .intro k a;unfold rf;rw[CX a,AF,Jy];refine⟨a3 _ (Ao _),λj g=>?_⟩;rw[CX (by omega)];rw[Cf]at a4;have:=a4 j k (by omega) a g;simpa using this
  .intro i h;rw[CX h,Jy];intro k a;unfold cE;rw[CX a,AF,beq_iff_eq];refine⟨S i h k a,?_⟩;split
   .rename_i c;obtain⟨k,rfl⟩:∃j,k=j+1:=⟨k-1,by omega⟩;rw[DK,CX (by omega)];exact Y i h k a
   .rfl
def O5(m:List (Int×Int))(p:Bc):List (Int×Int):=KA m p.Id (w64 (NA m p.Id+1))
theorem AUR:∀{m:List (Int×Int)} {n v:Int},n∈m.map (·.1)->(KA m n v).map (·.1)=m.map (·.1)
 | [],n,v,h=>by simp at h|(k,w)::m,n,v,h=>by
  unfold KA;by_cases e:n=k
  .rw[AW e];rfl
  .rw[AT e];rw[AK,Ad]at h;rw[AK,AUR (h.resolve_left e)];rfl
theorem AKZ:∀{m:List (Int×Int)} {n v:Int},n∉m.map (·.1)->(KA m n v).map (·.1)=m.map (·.1)++[n]
 | [],n,v,h=>rfl|(k,w)::m,n,v,h=>by
  unfold KA;rw[AK,Ad,not_or]at h;rw[AT h.1,AK,AKZ h.2];rfl
theorem ANg:∀(l:List Bc) (m:List (Int×Int)),(l.foldl O5 m).length<=m.length+l.length/\((l.foldl O5 m).length=m.length+l.length↔(∀p∈l,p.Id∉m.map (·.1))/\l.Pairwise λa b=>a.Id≠b.Id)
 | [],m=>by simp|p::l,m=>by
  rw[Bs];have c:=ANg l (O5 m p);by_cases h:p.Id∈m.map (·.1)
  .have e:(O5 m p).map (·.1)=m.map (·.1):=AUR h;have el:(O5 m p).length=m.length:=by simpa using congrArg List.length e
   rw[el]at c;refine⟨by rw[AI];omega,?_⟩;constructor
   .intro g;rw[AI]at g;omega
   .intro g;exact absurd h (g.1 p BJ)
  .have e:(O5 m p).map (·.1)=m.map (·.1)++[p.Id]:=AKZ h;have el:(O5 m p).length=m.length+1:=by simpa using congrArg List.length e
   grind[List.pairwise_cons]
theorem Vr(p:Bc):o8 p=some (Ry p):=by
 unfold o8 eZ Ry;simp only[GJ,AB,AV,Cn]
def V9(s:List Bc)(i:Nat)(k:Nat):Bool:=KL s k λp=>Ry p&&((p.At.tmod 9==(i:Int))&&(if 0<k then KL s (k-1) (λd=>!(ltP p d)) else true))
theorem rr(p:Nat->Bool)(h:i<n):JG p i (n-i)=(p i&&JG p (i+1) (n-(i+1))):=by rw[show n-i=(n-(i+1))+1 by omega];rfl
theorem AG9{s:List Bc}(I:s.length<=1048576){L:List (Int×Int)×Int×Int->AA Bool}(hi:i<9){m:List (Int×Int)}(H:n<=2 ^ 50) :
 BE (fB L i s) big (m,(n:Int),0)=br (JG (V9 s i) 0 s.length) (L (s.foldl O5 m,((n+s.length:Nat):Int),((i+1:Nat):Int))) (some false):=by
 refine(DI (n:=s.length) (λk (v:List (Int×Int)×Nat)=>(v.1,(v.2:Int),(k:Int))) (λk v=>v.2=n+k) (λk v=>br (JG (V9 s i) k (s.length-k)) (L ((s.drop k).foldl O5 v.1,((n+s.length:Nat):Int),((i+1:Nat):Int))) (some false)) (by omega) ?_ (v:=(m,n)) rfl);rintro L' k ⟨m,g⟩ j G q;dsimp only at j q ⊢;unfold fB Ss;dsimp only;rcases Aa k s.length with h|h
 .have e:=q (O5 m s[k],g+1) (by dsimp only;omega) h;dsimp only at e;have ew:w64 ((g:Int)+1)=((g+1:Nat):Int):=by rw[A7 (by omega) (by omega)];rfl
  rw[CF h,BT,BQ h,AB,Vr,AB,BM,rr _ h,Dl h,Bs,dL];simp only[AV,BT,Bd,B1 h (show s.length<2 ^ 63 by omega),ew];have ed:KA m s[k].Id (w64 (NA m s[k].Id+1))=O5 m s[k]:=rfl;rw[ed,e];unfold V9;rw[CX h];generalize JG _ (k+1) (s.length-(k+1))=X;generalize L _=Z;by_cases a:0<k
  .have ⟨c,y,E,B⟩:=Nz s[k-1] s[k];rw[decide_eq_true a,BT,AW a,KQ k a (by omega),BQ (show k-1<s.length by omega),AB,y,AB,B,CX (show k-1<s.length by omega),bne];cases Ry s[k]<;>cases s[k].At.tmod 9==(i:Int)<;>cases ltP s[k] s[k-1]<;>rfl
  .rw[decide_eq_false a,Bd,AT a,bne];cases Ry s[k]<;>cases s[k].At.tmod 9==(i:Int)<;>rfl
 .obtain rfl:k=s.length:=by omega
  unfold zt;dsimp only;rw[C0,Bd,AV,B1 (i:=i) (n:=9) hi (by omega),Eg,Ck,j];rfl
theorem IY(I:DY w):SQ w=some (HL w):=by
 have h1:=I.1;have h2:=I.2;unfold SQ;rw[bne,BM];by_cases B:w.Au.length=9
 .have g:((w.Au.length:Int)==9)=true:=by rw[beq_iff_eq];omega
  rw[g,BT];have:=(DI (F:=fA w) (n:=w.Au.length) (λk (v:List (Int×Int)×Nat)=>(v.1,(v.2:Int),(k:Int))) (λk v=>v.2=(w.Au.take k).flatten.length) (λk v=>br (JG (λi=>KL w.Au i λs=>JG (V9 s i) 0 s.length) k (w.Au.length-k)) (Wg ((w.Au.drop k).flatten.foldl O5 v.1,((v.2+(w.Au.drop k).flatten.length:Nat):Int))) (some false)) (by omega) ?_ (v:=([],0)) (by simp))
  .refine Eq.trans this ?_;unfold Wg eu;simp only[Co,Aq,AV,Cn,FU];congr 1;have E:=ANg w.Au.flatten [];rw[AM,Aq]at E;rw[IN,EO];simp only[AF,beq_iff_eq,decide_eq_true_iff,Jy];have hm:((w.Au.flatten.foldl O5 []).length:Int)=(w.Au.flatten.length:Int)↔w.Au.flatten.Pairwise λa b=>a.Id≠b.Id:=by
    rw[MY,E.2];simp
   rw[hm];constructor
   .rintro⟨y,O,a3⟩;have c:∀i (h:i<w.Au.length) k (c:k<w.Au[i].length),Ry w.Au[i][k]=true/\w.Au[i][k].At.tmod 9=(i:Int)/\(if 0<k then KL w.Au[i] (k-1) (λd=>!(ltP w.Au[i][k] d)) else true)=true:=by
     intro i h k c;have:=y i h;rw[CX h,Jy]at this;have:=this k c;unfold V9 at this;rw[CX c,AF,AF,beq_iff_eq]at this;exact this
    refine⟨B,by omega,?_,a3,λi h k e=>(c i h k e).2.1,?_⟩
    .intro p q;have ⟨s,hs,q⟩:=E7.1 q;obtain⟨i,hi,rfl⟩:=G2 hs;obtain⟨k,e,rfl⟩:=G2 q;exact(c i hi k e).1
    .intro i h k e;have:=(c i h (k+1) e).2.2;rw[AW (by omega),DK,CX (by omega),A8,lg]at this;have G:=(List.pairwise_flatten.1 a3).1 _ (Ao h);rw[Cf]at G;have:=G k (k+1) (by omega) e (by omega);rw[Rq];omega
   .rintro⟨y,O,a3,a4,S,Y⟩;refine⟨?_,by omega,a4⟩;intro i h;rw[CX h,Jy];intro k c;unfold V9;rw[CX c,AF,AF,beq_iff_eq];refine⟨a3 _ (E7.2 ⟨_,Ao h,Ao c⟩),S i h k c,?_⟩;split
    .obtain⟨k,rfl⟩:∃j,k=j+1:=⟨k-1,by omega⟩;rw[DK,CX (by omega),A8];exact FQ.tE _ _ (Y i h k c)
    .rfl
  .rintro L k ⟨m,n⟩ H c J;dsimp only at H J ⊢;unfold fA;dsimp only;rcases Aa k w.Au.length with h|h
   .have hf:=Xl h;rw[CF h,BT,BQ h,AB,AG9 (by omega) (by omega) (by omega),rr _ h,CX h];have ef:(w.Au.take (k+1)).flatten=(w.Au.take k).flatten++w.Au[k]:=by rw[CS,AR h,List.flatten_append];simp
    have:=J (w.Au[k].foldl O5 m,n+w.Au[k].length) (by dsimp only;rw[ef,AJ,H]) h;dsimp only at this;rw[this,Dl h,List.flatten_cons,List.foldl_append,AJ,CT];generalize JG _ (k+1) _=X;generalize Wg _=Z;cases JG (V9 w.Au[k] k) 0 w.Au[k].length<;>rfl
   .obtain rfl:k=w.Au.length:=by omega
    rw[C0,Bd,AV,Eg,Ck];rfl
 .have g:((w.Au.length:Int)==9)=false:=by rw[beq_eq_false_iff_ne];omega
  rw[g,Bd];congr 1;have:¬(HL w=true):=by rw[EO];exact λh=>B h.nine
  rw[DD]at this;exact this.symm
def E6(w:A2):List Bc:=if HL w=true then Dd ltP w.Au.flatten else []
theorem Mw(a:DY w):AEi w=some (E6 w):=by
 have hlim:lim=268435456:=rfl;have c:=a.2;unfold AEi E6;rw[HY a,AB,BM,nJ a,AB,Bw];split
 .rw[TQ (l:=w.Au.flatten) (λv p=>put ltP p v) (λi v=>v.length<=i) some (by omega) ?_ ?_ ?_ (by simp),<-Zt FQ dZ]
  .grind[uL,BT,BQ,AB,V8]
  .intro i h v e;rw[GH];omega
  grind[uL,AJX,Bd,AV]
 .rfl
theorem PQ(c:DY w):eS w=some (E6 w):=by
 have hlim:lim=268435456:=rfl;have g:=c.1;have j:=c.2;unfold eS E6;rw[IY c,AB,BM,Bw];split
 .rename_i a;have a:=EO.1 a;refine(DI (n:=w.Au.length) (λi (v:List Bc)=>(v,(i:Int))) (λi v=>v=(w.Au.take i).flatten) (λi v=>some (Dd ltP w.Au.flatten)) (by omega) ?_ (by simp));intro L i v e hi q;unfold zk zj;dsimp only;rcases Aa i w.Au.length with h|h
  .have:=Xl h
   grind[BT,BQ,AB,CE,B1,List.take_add_one]
  .obtain rfl:i=w.Au.length:=by omega
   have:=a.few;rw[C0,Bd,AV,e,CO,AYe (by omega),AB]
 .rfl
def FP(c:Ag):Prop:=c.Row.length<=1048576/\DY c.B5
structure Br(h:AE):Prop where
 EA:h.AQ.AX.length<=1048576
 CP:h.AG.length<=1048576
 Dt:h.AH.length<=1048576
 EN:∀c∈h.AH,FP c
 todo:h.BD.length<=1048576
 F8:h.BB.length<=1048576
def Lj(c:Ag):Bool:=El c.AX&&(LG c.Row&&HL c.B5)
theorem Nn(a:FP c):ALB c=some (Lj c):=by
 have:=a.1;unfold ALB dI Lj;simp only[P3,yW c.Row (by omega),HY a.2,AB,AV,Cn]
theorem Ri(a:FP c):o9 c=some (Lj c):=by
 have:=a.1;unfold o9 Wh Lj;simp only[Gq,Xu c.Row (by omega),IY a.2,AB,AV,Cn]
theorem Ib(a:DY w):(E6 w).length<=1048576:=by
 unfold E6;split
 .rw[Jl];exact a.2
 .simp
def KR(r:AY)(c:Ag)(l:List AU)(k now:Int):Bool:=
 Lj c&&(Eu eqE c.Row (D5 r l k now)&&(Eu eqP (E6 c.B5) (Gr l k)&&((c.AX.FL==JV l k)&&(c.AX.GZ==Jz l k))))
theorem AD0(g:r.AX.length<2 ^ 62)(a:FP c){l:List AU}(e:l.length<=1048576)(k now:Int):AVZ r c l k now=some (KR r c l k now):=by
 have h:=a.1;have j:=Ib a.2;unfold AVZ UL KR;simp only[Nn a,SC g e,SD (show c.Row.length<2 ^ 62 by omega),Mw a.2,cA e,P5 (show (E6 c.B5).length<2 ^ 62 by omega),bz (show l.length<2 ^ 58 by omega),cB (show l.length<2 ^ 58 by omega),AB,AV,Cn]
theorem ACo(h:r.AX.length<2 ^ 62)(a:FP c){l:List AU}(g:l.length<=1048576){k:Int}(e:DW l k<=19)(now:Int):AHq r c l k now=some (KR r c l k now):=by
 have j:=a.1;have q:=Ib a.2;unfold AHq QJ KR;simp only[Ri a,Rk h g e,bQ (show c.Row.length<2 ^ 62 by omega),PQ a.2,bU g e,bR (show (E6 c.B5).length<2 ^ 62 by omega),bS (show l.length<2 ^ 58 by omega),bV (show l.length<2 ^ 58 by omega),AB,AV,Cn]
def Ix(q p:AU):Bool:=(q.A4==p.A4)||((decide (q.A4<p.A4)&&decide (p.Since<q.Since))||(decide (p.A4<q.A4)&&decide (q.Since<p.Since)))
def bh(h:AE)(i:Nat):Bool:=
 KL h.AG i λp=>Dw h.AQ p h.Now&&(!(decide (p.A4>=h.A4))&&((if 0<i then KL h.AG (i-1) (λq=>!(decide (q.Id>=p.Id))) else true)&&JG (λk=>KL h.AG k λq=>!(Ix q p)) 0 i))
def LC(h:AE):Bool:=JG (bh h) 0 h.AG.length
theorem cS(e:Br h):AVa h=some (LC h):=by
 have y:=e.EA;have B:=e.CP;unfold AVa LC;rw[KX (n:=h.AG.length) (E:=some true) (bh h) (by omega) ?_ ?_,Cn,CK]
 .intro L i hi;unfold bh;rw[CX hi];have j:∀b,UR h L i h.AG[i] b=br (!b&&JG (λk=>KL h.AG k λq=>!(Ix q h.AG[i])) 0 i) (L ((i+1:Nat):Int)) (some false):=by
   intro b;unfold UR;rw[KX (n:=i) (E:=L ((i+1:Nat):Int)) (λk=>KL h.AG k λq=>!(Ix q h.AG[i])) (by omega) ?_ ?_]
   .cases b<;>rfl
   .intro L' k g;have a:k<h.AG.length:=by omega
    have c:∀b,PF L' k b=br (!b) (L' ((k+1:Nat):Int)) (some false):=by intro b;unfold PF;rw[B1 g (by omega)];cases b<;>rfl
    rw[CX a];unfold tn Ix;rw[CF g,BT,BQ a,AB];simp only[AV,c,gt_iff_lt];cases h.AG[k].A4==h.AG[i].A4<;>cases decide (h.AG[k].A4<h.AG[i].A4)<;>cases decide (h.AG[i].Since<h.AG[k].Since)<;>cases decide (h.AG[i].A4<h.AG[k].A4)<;>cases decide (h.AG[k].Since<h.AG[i].Since)<;>rfl
   .intro L';unfold tn AHv;rw[C0,Bd,AV,B1 hi (by omega)]
  unfold tl
  grind[BT,BQ,AB,Np,BM,AV,KL,KQ,Dw,decide_eq_false]
 grind[tl,AHw,Bd,AV]
theorem V7{l:List Int}(c:l.length<2 ^ 62)(x:Int):AK9 l x=some (l.any (λy=>y==x)):=by
 unfold AK9;refine(DI (n:=l.length) (λi (_:Unit)=>(i:Int)) (λ_ _=>True) (λi _=>some ((l.drop i).any (λy=>y==x))) (by omega) ?_ (v:=()) trivial);intro L i _ _ hi a;unfold AID AIC;rcases Aa i l.length with h|h
 .rw[CF h,BT,BQ h,AB,B1 h (by omega),Dl h,List.any_cons];cases l[i]==x with|true=>rfl|false=>rw[Bd,a () trivial h];rfl
 grind[Bd,AV]
theorem Ps{l:List Int}(a:l.length<2 ^ 62)(x:Int):pE l x=some (l.any (λy=>y==x)):=by
 unfold pE AOI;rw[RG (l:=l) (p:=λy=>x==y) (by omega) ?_ ?_,AB]
 .congr 1;rw[IN,decide_eq_true_iff,List.any_eq_true];have:=dx (p:=λy=>x==y) (l:=l) (s:=0)
  grind
 .grind[fS,BT,BQ,AB]
 grind[fS,AAG,Bd,AV]
def SH(t:List Int)(n:Int)(i:Nat):Bool:=KL t i λk=>inB k 0 (w64 (n-1))&&!((t.take i).any λy=>y==k)
def Hm(t:List Int)(n:Int):Bool:=JG (SH t n) 0 t.length
def Jx(t:List Int)(n:Int):Bool:=t.all λx=>inB x (-1) (w64 (n-1))
theorem ya(a:Br h):AVb h=some (Hm h.BD h.AH.length&&(Jx h.BB h.AH.length&&((h.BB.length:Int)==h.AQ.C4))):=by
 have e:=a.todo;have g:=a.F8;have c:cq h ()=some (Jx h.BB h.AH.length&&((h.BB.length:Int)==h.AQ.C4)):=by
  unfold cq Jx;rw[oV (l:=h.BB) (λx=>inB x (-1) (w64 ((h.AH.length:Int)-1))) (E:=some ((h.BB.length:Int)==h.AQ.C4)) (by omega) ?_ ?_,Cn]
  .intro L i hi;unfold tt;rw[CF hi,BT,BQ hi,AB,GX,AB,BM]
  .intro L;unfold tt AIQ;rw[C0,Bd,AV]
 unfold AVb Hm;rw[KX (n:=h.BD.length) (E:=cq h ()) (SH h.BD h.AH.length) (by omega) ?_ ?_,c,Cn]
 .intro L i hi;unfold SH;rw[CX hi];unfold tq tp
  grind[BT,BQ,AB,GX,BM,CE,V7,AV,B1,inB]
 grind[tq,Bd,AV]
def WU(h:AE)(i:Nat):Bool:=
 KL h.AH i λc=>KL h.AQ.AX i (λs=>c.AX.Total==s)&&(KR h.AQ c h.AG i h.Now&&!(decide (DW h.AG i>h.AQ.Room)))
def NV(h:AE):Bool:=JG (WU h) 0 h.AH.length
def C9(h:AE):Bool:=
 Ds h.AQ&&(inB h.Now 0 1000000&&(inB h.A4 1 1000001&&(!(decide ((h.AG.length:Int)>40))&&(((h.AH.length:Int)==(h.AQ.AX.length:Int))&&(LC h&&((Hm h.BD h.AH.length&&(Jx h.BB h.AH.length&&((h.BB.length:Int)==h.AQ.C4)))&&NV h))))))
theorem Gm(a:Br h):eM h=some (C9 h):=by
 have G:=a.EA;have q:=a.CP;have H:=a.Dt;have B:PD h true=some false:=rfl;unfold eM C9;by_cases y:h.AH.length=h.AQ.AX.length
 .have g:∀b,cg h b=some (!b&&NV h):=by
   intro b;unfold cg NV;rw[KX (n:=h.AH.length) (E:=some true) (WU h) (by omega) ?_ ?_,Cn,CK,Ht]
   .intro L i hi;have j:∀b,Wa L i b=br (!b) (L ((i+1:Nat):Int)) (some false):=by intro b;unfold Wa;rw[B1 hi (by omega)];cases b<;>rfl
    unfold WU;rw[CX hi,CX (show i<h.AQ.AX.length by omega)];unfold tZ;rw[CF hi,BT,BQ hi,AB,BQ (show i<h.AQ.AX.length by omega),AB,AB,AD0 (by omega) (a.EN _ (Ao hi)) q,AB,BM,R9 (by omega),AB];simp only[AV,j,bne];cases h.AH[i].AX.Total==h.AQ.AX[i]<;>cases KR h.AQ h.AH[i] h.AG i h.Now<;>cases decide (DW h.AG i>h.AQ.Room)<;>rfl
   .intro L;unfold tZ AHd;rw[C0,Bd,AV]
  have c:∀b,PD h b=some (!b&&(LC h&&((Hm h.BD h.AH.length&&(Jx h.BB h.AH.length&&((h.BB.length:Int)==h.AQ.C4)))&&NV h))):=by
   intro b;unfold PD;simp only[cS a,ya a,AB,BM,AV,g,Bq,Bt,EK,Cn,Ht]
  simp only[Ie (show h.AQ.AX.length<2 ^ 62 by omega),GX,AB,BM,AV,c,Bq,Bt,Cn,Ht,bne,EK]
 .have e:((h.AH.length:Int)==(h.AQ.AX.length:Int))=false:=by rw[beq_eq_false_iff_ne];omega
  simp only[Ie (show h.AQ.AX.length<2 ^ 62 by omega),GX,AB,BM,AV,bne,e,EM,B,WT,Bt,Dk]
theorem Fz(g:Br h):SR h=some (C9 h):=by
 have h1:=g.EA;have h2:=g.CP;have h3:=g.Dt;have h4:=g.todo;have h5:=g.F8;have ht:Me h true=some false:=rfl;unfold SR C9;by_cases Z:Ds h.AQ=false
 .rw[HS (by omega),AB,Z,BM,Bd,AV,ht];rfl
 rw[Er]at Z;have hrm:=(CL Z).2.2.1;by_cases c:h.AH.length≠h.AQ.AX.length
 .have e:((h.AH.length:Int)==(h.AQ.AX.length:Int))=false:=by rw[beq_eq_false_iff_ne];omega
  simp only[HS (show h.AQ.AX.length<2 ^ 62 by omega),GJ,AB,BM,AV,bne,e,EM,ht,BT,WT,Bt,Dk]
 have c:=Classical.not_not.1 c;have H:UQ h ()=some (Jx h.BB h.AH.length):=by
  unfold UQ Jx;rw[oV (l:=h.BB) (λx=>inB x (-1) (w64 ((h.AH.length:Int)-1))) (E:=some true) (by omega) ?_ ?_,Cn,CK]
  .intro L i hi;unfold Y9;rw[CF hi,BT,BQ hi,AB,GJ,AB,BM,c]
  .intro L;unfold Y9 pF;rw[C0,Bd,AV]
 have G:UP h ()=some (Hm h.BD h.AH.length&&Jx h.BB h.AH.length):=by
  unfold UP Hm;rw[KX (n:=h.BD.length) (E:=UQ h ()) (SH h.BD h.AH.length) (by omega) ?_ ?_,H,Cn]
  .intro L i hi;unfold SH;rw[CX hi];unfold Y8 Y7;rw[CF hi,BT,BQ hi,AB,Xz,AB,BM,CE (by omega),Af,Ps (by rw[Ai];omega),AB,AV,AV,B1 hi (by omega),BT,c];cases inB h.BD[i] 0 (w64 ((h.AQ.AX.length:Int)-1))<;>cases (h.BD.take i).any (λy=>y==h.BD[i])<;>rfl
  .intro L;unfold Y8;rw[C0,Bd,AV]
 have e7:Wp h ()=some (NV h&&(Hm h.BD h.AH.length&&Jx h.BB h.AH.length)):=by
  unfold Wp NV;rw[KX (n:=h.AH.length) (E:=UP h ()) (WU h) (by omega) ?_ ?_,G,Cn]
  .intro L i hi;have B:∀b,Sw L i b=br (!b) (L ((i+1:Nat):Int)) (some false):=by intro b;unfold Sw;rw[B1 hi (by omega)];cases b<;>rfl
   unfold WU;rw[CX hi,CX (show i<h.AQ.AX.length by omega)];unfold fV;rw[CF hi,BT,BQ hi,AB,BQ (show i<h.AQ.AX.length by omega),AB,Rj (by omega),AB];by_cases hc:DW h.AG i>h.AQ.Room
   .rw[decide_eq_true hc];simp only[AV,B,bne,BT];cases h.AH[i].AX.Total==h.AQ.AX[i]<;>cases KR h.AQ h.AH[i] h.AG i h.Now<;>rfl
   .rw[decide_eq_false hc,ACo (by omega) (g.EN _ (Ao hi)) h2 (by omega),AB];simp only[AV,B,bne,Bd];cases h.AH[i].AX.Total==h.AQ.AX[i]<;>cases KR h.AQ h.AH[i] h.AG i h.Now<;>rfl
  .intro L;unfold fV;rw[C0,Bd,AV]
 have J:∀b,Me h b=some (!b&&(!(decide ((h.AG.length:Int)>40))&&(LC h&&(NV h&&(Hm h.BD h.AH.length&&Jx h.BB h.AH.length))))):=by
  intro b;unfold Me LC;rw[KX (n:=h.AG.length) (E:=Wp h ()) (bh h) (by omega) ?_ ?_,e7,Cn,Ht,Ht]
  .intro L i hi;unfold bh;rw[CX hi];have O:∀b,QK h L i h.AG[i] b=br (!b&&JG (λk=>KL h.AG k λq=>!(Ix q h.AG[i])) 0 i) (L ((i+1:Nat):Int)) (some false):=by
    intro b;unfold QK;rw[CE (by omega),KX (n:=i) (E:=L ((i+1:Nat):Int)) (λk=>KL h.AG k λq=>!(Ix q h.AG[i])) (by omega) ?_ ?_]
    .cases b<;>rfl
    .intro L' k hk;have Y:k<h.AG.length:=by omega
     have S:∀b,Mf L' k b=br (!b) (L' ((k+1:Nat):Int)) (some false):=by intro b;unfold Mf;rw[B1 hk (by omega)];cases b<;>rfl
     have a:(h.AG.take i).length=i:=by rw[Ai];omega
     have I:at? (h.AG.take i) (k:Int)=some h.AG[k]:=by rw[BQ (by omega)];simp
     rw[CX Y];unfold fU Ix;rw[Af,a,CF hk,BT,I,AB];have eb:(h.AG[i].A4==h.AG[k].A4)=(h.AG[k].A4==h.AG[i].A4):=BEq.comm;simp only[AV,S,gt_iff_lt,eb];cases h.AG[k].A4==h.AG[i].A4<;>cases decide (h.AG[k].A4<h.AG[i].A4)<;>cases decide (h.AG[i].Since<h.AG[k].Since)<;>cases decide (h.AG[i].A4<h.AG[k].A4)<;>cases decide (h.AG[k].Since<h.AG[i].Since)<;>rfl
    .intro L';have a:(h.AG.take i).length=i:=by rw[Ai];omega
     unfold fU AAH;rw[Af,a,C0,Bd,AV,B1 hi (by omega)]
   unfold fT;rw[CF hi,BT,BQ hi,AB,Nb (by omega),AB,BM,dL];simp only[AV,O];generalize JG (λk=>KL h.AG k λq=>!(Ix q h.AG[i])) 0 i=X;by_cases j:0<i
   .rw[decide_eq_true j,BT,AW j,KQ i j (by omega),BQ (show i-1<h.AG.length by omega),AB,CX (show i-1<h.AG.length by omega)];cases Dw h.AQ h.AG[i] h.Now<;>cases decide (h.AG[i].A4>=h.A4)<;>cases decide (h.AG[i-1].Id>=h.AG[i].Id)<;>rfl
   .rw[decide_eq_false j,Bd,AT j];cases Dw h.AQ h.AG[i] h.Now<;>cases decide (h.AG[i].A4>=h.A4)<;>rfl
  .intro L;unfold fT;rw[C0,Bd,AV]
 have e:((h.AH.length:Int)==(h.AQ.AX.length:Int))=true:=by rw[beq_iff_eq];omega
 simp only[HS (show h.AQ.AX.length<2 ^ 62 by omega),GJ,AB,BM,AV,J,Bq,Bt,Cn,Ht,bne,EK,e,BT,EM,Ce];congr 1;ac_rfl
def RU(n:Int):Bool:=inB n 0 9999
theorem AUd(n:Int):cK n=some (RU n):=by unfold cK RU;rw[GX,AB]
theorem ASA(n:Int):SU n=some (RU n):=by unfold SU RU;rw[GJ,AB]
def KF(q:Bp):Bool:=
 if q.Kind=1 then RU q.Id&&(RU q.AZ&&(inB q.Bz (-1) 9999&&(RU q.BK&&RU q.DS)))
 else if q.Kind=2\/q.Kind=4\/q.Kind=5\/q.Kind=7 then RU q.Id&&(q.AZ==0&&(q.Bz==0&&(q.BK==0&&q.DS==0)))
 else if q.Kind=3 then RU q.AZ&&(RU q.BK&&(q.Id==0&&(q.Bz==0&&q.DS==0)))
 else if q.Kind=6 then q.Id==0&&(q.AZ==0&&(q.Bz==0&&(q.BK==0&&q.DS==0)))
 else false
theorem nG(q:Bp):te q=some (KF q):=by
 have ⟨k,a,b,c,d,e⟩:=q;unfold te I3 UM I3 KF;simp only[AV,AUd,AB,GX,Cn,Bw,beq_iff_eq]
 grind
theorem ACv(q:Bp):ar q=some (KF q):=by
 have ⟨k,a,b,c,d,e⟩:=q;unfold ar HO QL HO KF;simp only[AV,ASA,AB,GJ,Cn,Bw,beq_iff_eq]
 grind
structure Ch(e:A6):Prop where
 D9:Br e.Av
 log:e.An.Log.Data.length<=1048576
 even:e.An.Eo.Data.length<=1048576
 odd:e.An.Odd.Data.length<=1048576
 laid:e.Laid.length<=1048576
def C8(e:A6):Bool:=C9 e.Av&&(Fq e.An&&(!(decide ((e.Laid.length:Int)>8))&&(inB e.Seq e.Laid.length 1000000&&e.Laid.all KF)))
theorem FN(a:Ch e):tf e=some (C8 e):=by
 have g:=a.laid;have c:∀b,UN e b=some (!b&&e.Laid.all KF):=by
  intro b;unfold UN;rw[oV (l:=e.Laid) KF (E:=some true) (by omega) ?_ ?_,Cn,CK,Ht]
  .intro L i h;unfold th;rw[CF h,BT,BQ h,AB,nG,AB,BM]
  .grind[th,AHe,Bd,AV]
 unfold tf C8;simp only[Gm a.D9,SE,GX,AB,BM,AV,c,Bq,Bt,Cn,Ht,EK]
theorem Pt(a:Ch e):pG e=some (C8 e):=by
 have g:=a.laid;have c:∀b,QM e b=some (!b&&e.Laid.all KF):=by
  intro b;unfold QM;rw[oV (l:=e.Laid) KF (E:=some true) (by omega) ?_ ?_,Cn,CK,Ht]
  .intro L i h;unfold fY;rw[CF h,BT,BQ h,AB,ACv,AB,BM]
  .grind[fY,AAJ,Bd,AV]
 unfold pG C8;simp only[Fz a.D9,Xv,GJ,AB,BM,AV,c,Bq,Bt,Cn,Ht,EK]
theorem AY5{F:(Int->AA Bool)->Int->AA Bool}(a:n<2 ^ 63)(step:∀L (i:Nat),i<n->F L (i:Int)=L (w64 ((i:Int)+1)))(stop:∀L,F L (n:Int)=some true) :
 br ((n:Int) != (n:Int)) (some false) (BE F big 0)=some true:=by
 rw[Bw,AT (by simp)];exact AVB a (λL i h=>by rw[step L i h,B1 h a]) stop
theorem ne_self(a:Int):(a != a)=false:=by simp
@[simp] theorem dW(a b c:Int):Et a b c=some (decide (b<=a/\a<=c)):=by
 grind[Et,cj,BW,AV]
@[simp] theorem Q9(a b c:Int):DP a b c=some (decide (b<=a/\a<=c)):=by
 grind[DP,We,BW,AV]
def Fi(n:Nat):List UInt8:=if n<128 then [UInt8.ofNat n] else UInt8.ofNat (n % 128+128)::Fi (n / 128)
decreasing_by omega
def pN(n:Int):List UInt8:=if 0<=n/\n<=2147483647 then Fi n.toNat else []
theorem PV(h:n<128):Fi n=[UInt8.ofNat n]:=by rw[Fi,AW h]
theorem Uj(h:128<=n):Fi n=UInt8.ofNat (n % 128+128)::Fi (n / 128):=by rw[Fi,AT (by omega)]
theorem Ic(n:Nat):0<(Fi n).length:=by rw[Fi];split<;>simp
theorem bk:∀(k n:Nat),n<128 ^ (k+1)->(Fi n).length<=k+1
 |0,n,h=>by rw[PV (by simpa using h)];simp|k+1,n,h=>by
  rcases Aa n 128 with a|a
  .rw[PV a];simp
  .rw[Uj a];have:=bk k (n / 128) (by rw[Cx (by omega)];rw[Hr]at h;exact h);simp only[AI];omega
theorem Ko(h:n<=2147483647):(Fi n).length<=5:=bk 4 n (by omega)
theorem P0(n:Int):(pN n).length<=5:=by unfold pN;split
                                       .exact Ko (by omega)
                                       .simp
theorem AKL{F:(Int×List UInt8->AA (List UInt8))->Int×List UInt8->AA (List UInt8)}
 (hF:∀L n acc,F L (n,acc)=if n<128 then gd (acc.length+1<=lim) (some (acc++[toB n])) else gd (acc.length+1<=lim) (L (w64 (Int.tdiv n 128),acc++[toB (w64 (Int.tmod n 128+128))])))
 {n:Nat} (q:n<=2147483647):BE F big ((n:Int),[])=some (Fi n):=by
 have:=Z3 (F:=F) (x:=((n:Int),[])) (λx=>some (x.2++Fi x.1.toNat)) (λx=>0<=x.1/\x.1<=2147483647/\x.2.length+(Fi x.1.toNat).length<=5) (λx=>x.1.toNat) ?_ ?_ ?_
 .simpa using this
 .rintro L ⟨m,acc⟩ ⟨a,j,c⟩ hL;dsimp only at a j c hL ⊢;obtain⟨m,rfl⟩:=Ah a;rw[hF];simp only[Af]at c hL ⊢;have hlim:acc.length+1<=lim:=by have:=Ic m;unfold lim;omega
  by_cases h:m<128
  .rw[AW (by omega),CE hlim,PV h,AKd (by omega)]
  .have e:Int.tdiv (m:Int) 128=((m / 128:Nat):Int):=by
    rw[HF (by omega)];rfl
   have g:Int.tmod (m:Int) 128+128=((m % 128+128:Nat):Int):=by
    rw[EG (by omega)];omega
   have y:=Uj (n:=m) (by omega);rw[AT (by omega),CE hlim,e,g,A7 (by omega) (by omega),A7 (by omega) (by omega),AKd (by omega)]
   grind
 .refine⟨by dsimp only;omega,by dsimp only;omega,?_⟩;have:=Ko q;simpa using this
 .dsimp only;omega
@[simp] theorem T5(n:Int):fh n=some (pN n):=by
 unfold fh pN;simp only[dW,AB,BM,BW];split
 .rename_i h;obtain⟨m,rfl⟩:=Ah h.1;refine AKL (λL n acc=>?_) (by omega);unfold AAN AAM;simp only[BW,AV,AI,AM,Aq];by_cases h:n>127
  .grind
  .rw[AT h,AW (by omega)]
 .rfl
@[simp] theorem Kl(n:Int):Wj n=some (pN n):=by
 unfold Wj pN;simp only[Q9,AB,BM,BW];split
 .rename_i h;obtain⟨m,rfl⟩:=Ah h.1;refine AKL (λL n acc=>?_) (by omega);unfold zw zu;simp only[BW,AV,AI,AM,Aq];by_cases h:n>=128
  .grind
  .rw[AT h,AW (by omega)]
 .rfl
def rdN:Nat->Nat->Nat->List UInt8->AA (Nat×Nat)
 |0,_,_,_=>none|_+1,_,_,[]=>none|f+1,k,a,d::l=>
  if d.toNat<128 then (if (0<k/\d.toNat=0)\/2147483647<a+(d.toNat % 128)*2 ^ (7*k) then none else some (a+(d.toNat % 128)*2 ^ (7*k),k+1))
  else rdN f (k+1) (a+(d.toNat % 128)*2 ^ (7*k)) l
def uc(at_:Nat):AA (Nat×Nat)->Int×Int×Bool|some (n,m)=>((n:Int),((at_+m:Nat):Int),true)|none=>(0,0,false)
def gN(b:List UInt8)(i:Int):Int×Int×Bool:=if 0<=i/\i<b.length then uc i.toNat (rdN 5 0 0 (b.drop i.toNat)) else (0,0,false)
theorem ADw{c s:Nat}(g:c<128)(a:s<=28):oG (c:Int) (s:Int)=((c*2 ^ s:Nat):Int):=by
 have e:c*2 ^ s<2 ^ 35:=by
  have:2 ^ s<=2 ^ 28:=Gf (by omega) a
  calc c*2 ^ s<=127*2 ^ 28:=Nat.mul_le_mul (by omega) this
   _<2 ^ 35:=by decide
 grind[IntKind.bits,Uu]
theorem Qp(h:n<2 ^ 63):(BitVec.ofInt IntKind.i64.bits (n:Int)).toNat=n:=by
 simp only[IntKind.bits,BitVec.toNat_ofInt];omega
theorem AWH{a b:Nat}(c:a<2 ^ 63)(e:b<2 ^ 63):orI (a:Int) (b:Int)=((a |||b:Nat):Int):=by
 unfold orI;rw[BitVec.toNat_or,Qp c,Qp e];have:a |||b<2 ^ 63:=Nat.or_lt_two_pow c e;rw[Uu (by omega) (by omega)]
theorem AYT{a c s:Nat}(e:a<2 ^ s):a |||c*2 ^ s=a+c*2 ^ s:=by
 have:=Nat.two_pow_add_eq_or_of_lt e c;rw[Nat.or_comm,Nat.mul_comm,<-this,Nat.add_comm]
theorem ADS:∀(k n:Nat),n<128 ^ (k+1)->((Fi n).length=k+1↔k=0\/128 ^ k<=n)
 |0,n,h=>by rw[PV (by simpa using h)];simp|k+1,n,h=>by
  rcases Aa n 128 with a|a
  .grind[PV]
  .rw[Uj a];have c:n / 128<128 ^ (k+1):=by rw[Cx (by omega)];rw[Hr]at h;exact h
   have:=ADS k (n / 128) c;have e:128 ^ k<=n / 128↔128 ^ (k+1)<=n:=by rw[Nat.le_div_iff_mul_le (by omega),Hr]
   grind
theorem AYX(k:Nat):(2:Nat) ^ (7*k)=128 ^ k:=by rw[Nat.pow_mul]
theorem digit{a c:Nat}(j:k<5)(g:a<128 ^ k)(h:c<128):a+c*2 ^ (7*k)<128 ^ (k+1)/\a+c*2 ^ (7*k)<2 ^ 35:=by
 rw[AYX];have e:a+c*128 ^ k<128 ^ (k+1):=by
  have:c*128 ^ k<=127*128 ^ k:=Ak _ (by omega);rw[Hr];omega
 refine⟨e,Nat.lt_of_lt_of_le e ?_⟩
 calc 128 ^ (k+1)<=128 ^ 5:=Gf (by omega) (by omega)
  _=2 ^ 35:=by decide
theorem Q3{b:List UInt8}(I:b.length<2 ^ 62){i:Nat}(hi:i<2 ^ 62):∀(f k a n:Nat),f+k=5->f<n->a<128 ^ k ->
 BE (QN b i) n ((a:Int),(k:Int))=some (uc i (rdN f k a (b.drop (i+k))))
 |0,k,a,n,S,Y,g=>by
  obtain⟨n,rfl⟩:∃m,n=m+1:=⟨n-1,by omega⟩;rw[Di];unfold QN AAW;simp only[BW,AV];rw[AT (by omega)];rfl
 |f+1,k,a,n,S,Y,g=>by
  obtain⟨n,rfl⟩:∃m,n=m+1:=⟨n-1,by omega⟩;rw[Di];generalize hL:BE (QN b i) n=L;unfold QN;simp only[BW,AV];rw[AW (by omega),AT (by omega)];unfold Wv Ww;simp only[BW,AV,BT,Bw,ge_iff_le,beq_iff_eq,decide_eq_true_eq];rw[A7 (n:=(b.length:Int)-k) (by omega) (by omega)];cases e:b.drop (i+k) with
  |nil=>
   have:b.length<=i+k:=Gb.1 e;rw[AW (by omega)];rfl
  |cons d l=>
   have X:i+k<b.length:=by
    rcases Aa (i+k) b.length with h|h
    .exact h
    .rw[A1 h]at e;cases e
   have J:b[i+k]?=some d:=by
    have:=Bu (xs:=b) (i:=i+k) (j:=0);rw[e]at this;simpa using this.symm
   have q:b.drop (i+(k+1))=l:=by
    rw[<-CT,<-C1,e];rfl
   rw[AT (by omega),A7 (n:=(i:Int)+k) (by omega) (by omega),show (i:Int)+k=((i+k:Nat):Int) from by push_cast;rfl,KS,J,AB];have O:d.toNat<256:=d.toNat_lt;have G:w64 (7*(k:Int))=((7*k:Nat):Int):=by rw[A7 (by omega) (by omega)];push_cast;rfl
   have ed:w64 ((d.toNat:Nat):Int)=(d.toNat:Int):=A7 (by omega) (by omega);have em:Int.tmod (d.toNat:Int) 128=((d.toNat % 128:Nat):Int):=by rw[EG (by omega)];rfl
   have ⟨B,Z⟩:=digit (a:=a) (k:=k) (c:=d.toNat % 128) (by omega) g (by omega);have y:orI (a:Int) (oG ((d.toNat % 128:Nat):Int) ((7*k:Nat):Int))=((a+(d.toNat % 128)*2 ^ (7*k):Nat):Int):=by
    rw[ADw (by omega) (by omega)];rw[AWH (by have:=Gf (n:=128) (by omega) (show k<=5 by omega);omega) (by omega),AYT (by rw[AYX];exact g)]
   rw[G,CE (by omega),ed,em,y];simp only[rdN];have E:w64 ((k:Int)+1)=((k+1:Nat):Int):=A7 (by omega) (by omega);by_cases H:d.toNat<128
   .grind[uc,Prod.mk.injEq,A7]
   .rw[AT (by omega),AT H,E,<-hL,Q3 I hi f (k+1) _ n (by omega) (by omega) B,q]
theorem Qd{b:List UInt8}(S:b.length<2 ^ 62){i:Nat}(hi:i<2 ^ 62):∀(f k a n:Nat),f+k=5->f<n->a<128 ^ k ->
 BE (Sy b i) n ((a:Int),(k:Int))=some (uc i (rdN f k a (b.drop (i+k))))
 |0,k,a,n,Z,hn,G=>by
  obtain⟨n,rfl⟩:∃m,n=m+1:=⟨n-1,by omega⟩;rw[Di];unfold Sy Wy gF;simp only[BW,AV];rw[AT (by omega)];rfl
 |f+1,k,a,n,Z,hn,G=>by
  obtain⟨n,rfl⟩:∃m,n=m+1:=⟨n-1,by omega⟩;rw[Di];generalize hL:BE (Sy b i) n=L;unfold Sy;simp only[BW,AV];rw[AW (by omega)];unfold Wy gF;simp only[BW,AV,Bw,bne_iff_ne,Kl,AB,decide_eq_true_eq];rw[A7 (n:=(i:Int)+k) (by omega) (by omega),show (i:Int)+k=((i+k:Nat):Int) from by push_cast;rfl];cases e:b.drop (i+k) with
  |nil=>
   have:b.length<=i+k:=Gb.1 e;rw[AT (by omega)];rfl
  |cons d l=>
   have hlt:i+k<b.length:=by
    rcases Aa (i+k) b.length with h|h
    .exact h
    .rw[A1 h]at e;cases e
   have X:b[i+k]?=some d:=by
    have:=Bu (xs:=b) (i:=i+k) (j:=0);rw[e]at this;simpa using this.symm
   have y:b.drop (i+(k+1))=l:=by
    rw[<-CT,<-C1,e];rfl
   rw[AW (by omega),KS,X,AB];have Y:d.toNat<256:=d.toNat_lt;have J:w64 (7*(k:Int))=((7*k:Nat):Int):=by rw[A7 (by omega) (by omega)];push_cast;rfl
   have ed:w64 ((d.toNat:Nat):Int)=(d.toNat:Int):=A7 (by omega) (by omega);have em:Int.tmod (d.toNat:Int) 128=((d.toNat % 128:Nat):Int):=by rw[EG (by omega)];rfl
   have ⟨q,hs2⟩:=digit (a:=a) (k:=k) (c:=d.toNat % 128) (by omega) G (by omega);have B:w64 ((a:Int)+(oG ((d.toNat % 128:Nat):Int) ((7*k:Nat):Int)))=((a+(d.toNat % 128)*2 ^ (7*k):Nat):Int):=by
    rw[ADw (by omega) (by omega),A7 (by omega) (by omega)];push_cast;rfl
   rw[J,CE (by omega),ed,em,B];simp only[rdN,Kl,AB];have I:w64 ((k:Int)+1)=((k+1:Nat):Int):=A7 (by omega) (by omega);rw[I];by_cases E:d.toNat<128
   .rw[AW (by omega),AW E];have g:128 ^ k<=a+(d.toNat % 128)*2 ^ (7*k)↔d.toNat≠0:=by
     rw[AYX];constructor
     .rintro h O;rw[O]at h;simp at h;omega
     .intro h;have:1*128 ^ k<=d.toNat % 128*128 ^ k:=Ak _ (by omega);omega
    have H:((pN ((a+(d.toNat % 128)*2 ^ (7*k):Nat):Int)).length:Int)≠((k+1:Nat):Int)↔(0<k/\d.toNat=0)\/2147483647<a+(d.toNat % 128)*2 ^ (7*k):=by
     unfold pN;split
     .rename_i hle;rw[Af];have:=ADS k _ q;rw[g]at this;rw[Ne,MY,this];omega
     .simp only[AM];omega
    grind[uc,A7]
   .rw[AT (by omega),AT E,<-hL,Qd S hi f (k+1) _ n (by omega) (by omega) q,y]
theorem PZ(c:b.length<2 ^ 62)(i:Int)(hi:i<2 ^ 62):fz b i=some (gN b i):=by
 unfold fz gN;by_cases a:0<=i
 .obtain⟨j,rfl⟩:=Ah a;have:=Q3 c (i:=j) (by omega) 5 0 0 big (by omega) (Jj _ (by omega)) (by omega);refine Eq.trans this ?_;simp only[Af,C6];split
  .rfl
  .rw[A1 (by omega)];rfl
 .have ⟨n,e⟩:=OH 0 (by omega)
  grind[Di,QN,Wv,BW,AV]
theorem PO(c:b.length<2 ^ 62)(i:Int):gD b i=some (gN b i):=by
 unfold gD gN;simp only[Q9,AB,BM,BW];rw[A7 (by omega) (by omega)];by_cases a:0<=i/\i<b.length
 .obtain⟨j,rfl⟩:=Ah a.1;rw[AW (by omega),AW a];have:=Qd c (i:=j) (by omega) 5 0 0 big (by omega) (Jj _ (by omega)) (by omega)
  grind
 grind
theorem AXN(h:n<256):(UInt8.ofNat n).toNat=n:=by simp;omega
theorem yC:∀(f k a n:Nat) (l:List UInt8),(Fi n).length<=f->(k=0\/n≠0)->a+n*2 ^ (7*k)<=2147483647->rdN f k a (Fi n++l)=some (a+n*2 ^ (7*k),k+(Fi n).length)
 |0,k,a,n,l,h,_,_=>by have:=Ic n;omega|f+1,k,a,n,l,h,q,j=>by
  rcases Aa n 128 with c|c
  .rw[PV c];simp only[Bi,Bb,rdN,AI,AM];rw[AXN (by omega),AW c,Ki c,AT (by omega)]
  .rw[Uj c]at h ⊢;simp only[Bi,rdN,AI]at h ⊢;rw[AXN (by omega),AT (by omega)];have e:(n % 128+128) % 128=n % 128:=by omega
   have g:a+n % 128*2 ^ (7*k)+n / 128*2 ^ (7*(k+1))=a+n*2 ^ (7*k):=by
    grind[Nat.mod_add_div]
   rw[e,yC f (k+1) _ (n / 128) l (by omega) (by omega) (by rw[g];exact j),g];congr 2;omega
theorem dh:∀(f k a:Nat) (l:List UInt8) (N m:Nat),rdN f k a l=some (N,m)->∃n l',l=Fi n++l'/\N=a+n*2 ^ (7*k)/\m=k+(Fi n).length/\(k=0\/n≠0)/\N<=2147483647
 |0,k,a,l,N,m,h=>by cases h
 |f+1,k,a,[],N,m,h=>by cases h
 |f+1,k,a,d::l,N,m,h=>by
  have y:d.toNat<256:=d.toNat_lt;simp only[rdN]at h;split at h
  .rename_i e;split at h
   .cases h
   .rename_i B;cases h;refine⟨d.toNat,l,?_,?_,?_,by omega,by omega⟩
    .rw[PV e];simp
    .rw[Ki e]
    .rw[PV e];rfl
  .rename_i e;have ⟨n,l',g,E,j,G,q⟩:=dh f (k+1) _ l N m h;have H:n≠0:=by omega
   have c:128<=d.toNat % 128+128*n:=by omega
   refine⟨d.toNat % 128+128*n,l',?_,?_,?_,.inr (by omega),q⟩
   .rw[Uj c,show (d.toNat % 128+128*n) % 128+128=d.toNat by omega,show (d.toNat % 128+128*n) / 128=n by omega,g];simp
   .grind
   .rw[Uj c,show (d.toNat % 128+128*n) / 128=n by omega,j];simp only[AI];omega
def rdL:Nat->List UInt8->AA (List Int)
 |0,_=>none|f+1,[]=>some []|f+1,l=>match rdN 5 0 0 l with|some (n,m)=>(rdL f (l.drop m)).map ((n:Int)::·)|none=>none
def okN(n:Int):Prop:=0<=n/\n<=2147483647
def pL(l:List Int):List UInt8:=l.flatMap pN
theorem ASx{n:Int}(h:okN n):pN n=Fi n.toNat:=by unfold pN;rw[AW (show 0<=n/\n<=2147483647 from h)]
theorem mM{n:Int}(h:okN n):0<(pN n).length:=by rw[ASx h];exact Ic _
theorem AGk{n:Int}(h:okN n)(l:List UInt8):rdN 5 0 0 (pN n++l)=some (n.toNat,(pN n).length):=by
 rw[ASx h,yC 5 0 0 n.toNat l (Ko (by have:=h.2;omega)) (.inl rfl) (by have:=h.2;simp;omega)];simp
theorem yB:∀(l:List Int) (f:Nat),(∀n∈l,okN n)->(pL l).length<f->rdL f (pL l)=some l
 | [],f,_,h=>by
  obtain⟨f,rfl⟩:∃g,f=g+1:=⟨f-1,by omega⟩;rfl
 |n::l,f,j,h=>by
  obtain⟨f,rfl⟩:∃g,f=g+1:=⟨f-1,by omega⟩;have a:=j n (by simp);have q:=mM a;have e:pL (n::l)=pN n++pL l:=by simp[pL]
  rw[e]at h ⊢;have c:pN n++pL l≠[]:=by intro h;rw[IG]at h;rw[h.1]at q;simp at q
  rw[rdL.eq_3 _ _ (by simpa using c),AGk a];simp only[Ep];rw[yB l f (λm y=>j m (by simp[y])) (by rw[AJ]at h;omega)];simp only[Option.map_some,Int.toNat_of_nonneg a.1]
theorem YX:∀(f:Nat) (s:List UInt8) (l:List Int),rdL f s=some l->s=pL l/\∀n∈l,okN n
 |0,s,l,h=>by cases h
 |f+1,[],l,h=>by cases h;exact⟨rfl,by simp⟩
 |f+1,d::s,l,h=>by
  rw[rdL.eq_3 _ _ (by simp)]at h;split at h
  .rename_i n m B;have ⟨H,l',c,e,g,_,G⟩:=dh _ _ _ _ _ _ B;simp only[Nat.mul_zero,Nat.pow_zero,Nat.mul_one,Aq]at e g;subst e g;rw[Option.map_eq_some_iff]at h;obtain⟨E,j,rfl⟩:=h;rw[c,Ep]at j;have ⟨q,y⟩:=YX f l' E j;refine⟨?_,?_⟩
   .rw[c,q];simp only[pL,CR];rw[ASx ⟨by omega,by omega⟩];simp
   .intro x a;rcases Ad.1 a with rfl|a
    .exact⟨by omega,by omega⟩
    .exact y x a
  .cases h
def AGj:AA (List Int)->List Int×Bool|some l=>(l,true)|none=>([],false)
theorem mZ{b:List UInt8}(y:b.length<=1048576){G:List UInt8->Int->AA (Int×Int×Bool)}(hG:∀i:Int,i<2 ^ 62->G b i=some (gN b i))
 {F:(List Int×Int->AA (List Int×Bool))->List Int×Int->AA (List Int×Bool)}
 (hF:∀L acc i,F L (acc,i)=if i<(b.length:Int) then bd (G b i) λx=>br (!x.2.2) (some ([],false)) (gd (acc.length+1<=lim) (L (acc++[x.1],x.2.1))) else some (acc,true)) :
 ∀(f i n:Nat) (acc:List Int),b.length<f+i->f<=n->acc.length<=i->i<=b.length->BE F n (acc,(i:Int))=some (match rdL f (b.drop i) with|some l=>(acc++l,true)|none=>([],false))
 |0,i,n,acc,e,g,j,q=>by omega|f+1,i,n,acc,e,g,j,q=>by
  obtain⟨n,rfl⟩:∃m,n=m+1:=⟨n-1,by omega⟩;rw[Di,hF];by_cases hi:i<b.length
  .rw[AW (by omega),hG _ (by omega),AB];unfold gN;rw[AW (by omega),Af];have c:b.drop i≠[]:=by intro h;rw[Gb]at h;omega
   rw[rdL.eq_3 _ _ (by simpa using c)];cases B:rdN 5 0 0 (b.drop i) with
   |none=>rfl|some p=>
    have ⟨v,m⟩:=p;have ⟨H,l',E,J,O,_,_⟩:=dh _ _ _ _ _ _ B;have I:0<m:=by have:=Ic H;omega
    have a:i+m<=b.length:=by
     have:=congrArg List.length E;rw[BH,AJ]at this;omega
    simp only[uc,BM,BT];rw[CE (by unfold lim;omega),mZ y hG hF f (i+m) n (acc++[(v:Int)]) (by omega) (by omega) (by rw[AJ];simp;omega) a,<-C1]
    grind
  .rw[AT (by omega),A1 (by omega)];simp[rdL]
theorem Yn(a:b.length<=1048576):AAX b=some (AGj (rdL (b.length+1) b)):=by
 unfold AAX;have:=mZ a (G:=fz) (F:=gC b) (λi hi=>PZ (by omega) i hi) (λL acc i=>by unfold gC AAY;simp only[BW,AV];rfl) (b.length+1) 0 big [] (by omega) (by have:=Mz;omega) (by simp) (by omega);refine Eq.trans this ?_;simp only[Co,Bb];cases rdL (b.length+1) b<;>rfl
theorem Xw(a:b.length<=1048576):AAZ b=some (AGj (rdL (b.length+1) b)):=by
 unfold AAZ;have:=mZ a (G:=gD) (F:=gG b) (λi hi=>PO (by omega) i) (λL acc i=>by unfold gG AAa;simp only[BW,AV];rfl) (b.length+1) 0 big [] (by omega) (by have:=Mz;omega) (by simp) (by omega);refine Eq.trans this ?_;simp only[Co,Bb];cases rdL (b.length+1) b<;>rfl
theorem mP{l:List Int}(h:l.length<=10000000){G:Int->AA (List UInt8)}(hG:∀n,G n=some (pN n))
 {F:(List UInt8×Int->AA (List UInt8))->List UInt8×Int->AA (List UInt8)}
 (hF:∀L acc i,F L (acc,i)=if i<(l.length:Int) then bd (at? l i) λx=>bd (G x) λy=>gd (acc.length+y.length<=lim) (L (acc++y,w64 (i+1))) else some acc) :
 ∀(f i n:Nat) (acc:List UInt8),l.length<f+i->f<=n->acc.length<=5*i->i<=l.length->BE F n (acc,(i:Int))=some (acc++pL (l.drop i))
 |0,i,n,acc,a,c,e,g=>by omega|f+1,i,n,acc,a,c,e,g=>by
  obtain⟨n,rfl⟩:∃m,n=m+1:=⟨n-1,by omega⟩;rw[Di,hF];by_cases hi:i<l.length
  .rw[AW (by omega),KS,AR hi,AB,hG,AB];have:=P0 l[i];rw[CE (by unfold lim;omega),A7 (by omega) (by omega)];have:=mP h hG hF f (i+1) n (acc++pN l[i]) (by omega) (by omega) (by rw[AJ];omega) hi;refine Eq.trans this ?_;rw[FO hi];simp only[pL,CR,BP]
  .rw[AT (by omega),A1 (by omega)];simp[pL]
theorem Ym{l:List Int}(a:l.length<=10000000):au l=some (pL l):=by
 unfold au;have:=mP a (G:=fh) (F:=fj l) T5 (λL acc i=>by unfold fj AAO;simp only[BW,AV]) (l.length+1) 0 big [] (by omega) (by have:=Mz;omega) (by simp) (by omega);simpa using this
theorem Xx{l:List Int}(a:l.length<=10000000):zx l=some (pL l):=by
 unfold zx;have:=mP a (G:=Wj) (F:=fD l) Kl (λL acc i=>by unfold fD zy;simp only[BW,AV]) (l.length+1) 0 big [] (by omega) (by have:=Mz;omega) (by simp) (by omega);simpa using this
def fld(n:Int):Bool:=decide (0<=n/\n<=9999)
def GI(q:Bp):Bool:=
 if q.Kind=1 then fld q.Id&&fld q.AZ&&decide (-1<=q.Bz/\q.Bz<=9999)&&fld q.BK&&fld q.DS
 else if q.Kind=2\/q.Kind=4\/q.Kind=5\/q.Kind=7 then fld q.Id&&(q.AZ==0&&(q.Bz==0&&(q.BK==0&&q.DS==0)))
 else if q.Kind=3 then fld q.AZ&&fld q.BK&&(q.Id==0&&(q.Bz==0&&q.DS==0))
 else if q.Kind=6 then q.Id==0&&(q.AZ==0&&(q.Bz==0&&(q.BK==0&&q.DS==0)))
 else false
def FI(q:Bp):List Int:=
 if q.Kind=1 then [q.Kind,q.Id,q.AZ,q.Bz+1,q.BK,q.DS]
 else if q.Kind=3 then [q.Kind,q.AZ,q.BK]
 else if q.Kind=6 then [q.Kind]
 else [q.Kind,q.Id]
def FR(q:Bp):List UInt8:=if GI q then pL (FI q) else []
@[simp] theorem AG0(n:Int):cK n=some (fld n):=by unfold cK fld;simp
@[simp] theorem AF7(n:Int):SU n=some (fld n):=by unfold SU fld;simp
theorem AGz(q:Bp):te q=some (GI q):=by
 have ⟨k,a,b,c,d,e⟩:=q;unfold te I3 UM I3 GI;simp only[Bw,AV,AG0,AB,dW,beq_iff_eq]
 grind
theorem AF6(q:Bp):ar q=some (GI q):=by
 have ⟨k,a,b,c,d,e⟩:=q;unfold ar HO QL HO GI;simp only[Bw,AV,AF7,AB,Q9,beq_iff_eq]
 grind
theorem Jb(h:GI q=true):(q.Kind=1/\(0<=q.Id/\q.Id<=9999)/\(0<=q.AZ/\q.AZ<=9999)/\(-1<=q.Bz/\q.Bz<=9999)/\(0<=q.BK/\q.BK<=9999)/\(0<=q.DS/\q.DS<=9999)) \/
 ((q.Kind=2\/q.Kind=4\/q.Kind=5\/q.Kind=7)/\(0<=q.Id/\q.Id<=9999)/\q.AZ=0/\q.Bz=0/\q.BK=0/\q.DS=0) \/
 (q.Kind=3/\(0<=q.AZ/\q.AZ<=9999)/\(0<=q.BK/\q.BK<=9999)/\q.Id=0/\q.Bz=0/\q.DS=0) \/
 (q.Kind=6/\q.Id=0/\q.AZ=0/\q.Bz=0/\q.BK=0/\q.DS=0):=by
 unfold GI fld at h;split at h
 .grind
 split at h
 .grind
 split at h
 .grind
 grind
theorem me(h:GI q=true):∀n∈FI q,okN n:=by
 grind[Jb,FI,okN]
theorem bm(q:Bp):0<(FI q).length/\(FI q).length<=6:=by
 grind[FI]
theorem VL:AAs q=some (FR q):=by
 unfold AAs FR;rw[AGz,AB,BM,Bw]
 grind[GI,FI,Bw,A7,Ym,AB]
theorem oB:AHs q=some (FR q):=by
 grind[AHs,Sx,FR,AF6,AB,Bw,GI,FI,AV,CE,lim,A7,Xx]
theorem Tt{n:Int}{l:List Int}(h:okN n):pL (n::l)≠[]:=by
 intro a;have:=mM h;simp only[pL,CR,IG]at a
 grind
theorem yE(h:GI q=true):FR q≠[]:=by
 grind[FR,me,FI,Tt]
theorem ASw:∀l:List Int,(pL l).length<=5*l.length
 | []=>by simp[pL]|n::l=>by
  have c:=P0 n;have a:=ASw l;simp only[pL,CR,AJ,AI]at a ⊢;omega
theorem ADi(q:Bp):(FR q).length<=30:=by
 grind[FR,ASw,bm]
theorem Qz(h:GI q=true)(f:Nat)(a:(FR q).length<f):rdL f (FR q)=some (FI q):=by
 grind[FR,yB,me]
def Ol(s:List UInt8):Bp×Bool:=open Classical in if h:∃q,GI q=true/\FR q=s then (h.choose,true) else (⟨0,0,0,0,0,0⟩,false)
theorem ADj(h:GI q=true)(a:GI q'=true)(c:FI q=FI q'):q=q':=by
 grind[Bp,FI,Jb]
theorem AUI(h:GI q=true)(a:GI q'=true)(e:FR q=FR q'):q=q':=by
 have c:=Qz h ((FR q).length+1) (by omega)
 grind[Qz,ADj]
theorem mg(h:GI q=true):Ol (FR q)=(q,true):=by
 unfold Ol;have a:∃q',GI q'=true/\FR q'=FR q:=⟨q,h,rfl⟩
 grind[AUI]
theorem MJ(h:∀q,GI q=true->FR q≠s):Ol s=(⟨0,0,0,0,0,0⟩,false):=by
 grind[Ol]
theorem tK(a b:List UInt8)(x y:AA γ):br (a != b) x y=if a=b then y else x:=by
 unfold br
 grind[grind]
theorem cQ(s:List UInt8)(q:Bp):QO s q=if FR q=s then some (q,true) else some (⟨0,0,0,0,0,0⟩,false):=by
 unfold QO;rw[VL,AB,tK]
theorem cL(s:List UInt8)(q:Bp):QP s q=if FR q=[]\/FR q≠s then some (⟨0,0,0,0,0,0⟩,false) else some (q,true):=by
 grind[QP,gH,oB,AB,AV,BT,FR,Bw]
theorem Kq(a:s≠[])(h:∀q',GI q'=true->FR q'=s->q'=q):(if FR q=s then some (q,true) else some (⟨0,0,0,0,0,0⟩,false))=some (Ol s):=by
 grind[FR,GI,mg,MJ]
theorem rz{f:Nat}(h:rdL f s=none)(a:s.length<f):∀q,GI q=true->FR q≠s:=by
 grind[Qz]
theorem Yj{s:List UInt8}(X:s.length<=1048576):pJ s=some (Ol s):=by
 unfold pJ;rw[BW];by_cases H:(s.length:Int)>60
 .rw[AW H,MJ];rintro q _ rfl;have:=ADi q;omega
 rw[AT H,Yn X,AB];cases L:rdL (s.length+1) s with
 |none=>
  simp only[AGj,BM,Bd,AV];unfold Wx;rw[BT,MJ (rz L (by omega))]
 |some l=>
  have ⟨J,I⟩:=YX _ _ _ L;simp only[AGj,BM,BT,AV];unfold Wx;cases l with
  |nil=>
   simp only[AM];show br true _ _=_;rw[BT,MJ];rintro q j B;exact yE j (B.trans J)
  |cons n l=>
   have E:s≠[]:=by rw[J];exact Tt (I n (by simp))
   have O:((((n::l).length:Nat):Int)==0)=false:=by rw[AI,beq_eq_false_iff_ne];omega
   have G:∀q,GI q=true->FR q=s->FI q=n::l:=by
    rintro q j rfl;have:=Qz j ((FR q).length+1) (by omega);rw[L]at this;simpa using this.symm
   simp only[O,Bd];simp only[WR,AN,AB,cQ,AV,Bw,beq_iff_eq];have okq:∀m∈n::l,0<=m/\m<=2147483647:=λm S=>I m S
   match l,G,okq with
   | [],G,_=>
    rw[AT (by simp),AT (by simp),AT (by simp)];refine Kq E λq j B=>?_
    have ⟨k,a,b,c,d,e⟩:=q;have g:=G _ j B;unfold FI at g;rcases Jb j with h|h|h|h<;>dsimp only at h g
    .rw[AW h.1]at g;simp at g
    .rw[AT (by omega),AT (by omega),AT (by omega)]at g;simp at g
    .rw[AT (by omega),AW h.1]at g;simp at g
    .rw[AT (by omega),AT (by omega),AW h.1]at g;simp at g;simp;omega
   | [x],G,okq=>
    rw[AW (by simp)];simp only[show at? [n,x] 1=some x from rfl,AB];refine Kq E λq j B=>?_
    have ⟨k,a,b,c,d,e⟩:=q;have g:=G _ j B;unfold FI at g;rcases Jb j with h|h|h|h<;>dsimp only at h g
    .rw[AW h.1]at g;simp at g
    .rw[AT (by omega),AT (by omega),AT (by omega)]at g;simp at g;simp;omega
    .rw[AT (by omega),AW h.1]at g;simp at g
    .rw[AT (by omega),AT (by omega),AW h.1]at g;simp at g
   | [x,y],G,okq=>
    rw[AT (by simp),AW (by simp)];simp only[show at? [n,x,y] 1=some x from rfl,show at? [n,x,y] 2=some y from rfl,AB];refine Kq E λq j B=>?_
    have ⟨k,a,b,c,d,e⟩:=q;have g:=G _ j B;unfold FI at g;rcases Jb j with h|h|h|h<;>dsimp only at h g
    .rw[AW h.1]at g;simp at g
    .rw[AT (by omega),AT (by omega),AT (by omega)]at g;simp at g
    .rw[AT (by omega),AW h.1]at g;simp at g;simp;omega
    .rw[AT (by omega),AT (by omega),AW h.1]at g;simp at g
   | [x,y,z,u,v],G,okq=>
    have Y:=okq z (by simp);rw[AT (by simp),AT (by simp),AW (by simp)];simp only[show at? [n,x,y,z,u,v] 1=some x from rfl,show at? [n,x,y,z,u,v] 2=some y from rfl,show at? [n,x,y,z,u,v] 3=some z from rfl,show at? [n,x,y,z,u,v] 4=some u from rfl,show at? [n,x,y,z,u,v] 5=some v from rfl,AB];rw[A7 (by omega) (by omega)];refine Kq E λq j B=>?_
    have ⟨k,a,b,c,d,e⟩:=q;have g:=G _ j B;unfold FI at g;rcases Jb j with h|h|h|h<;>dsimp only at h g
    .rw[AW h.1]at g;simp at g;simp;omega
    .rw[AT (by omega),AT (by omega),AT (by omega)]at g;simp at g
    .rw[AT (by omega),AW h.1]at g;simp at g
    .rw[AT (by omega),AT (by omega),AW h.1]at g;simp at g
   | [x,y,z],G,okq=>
    rw[AT (by simp),AT (by simp),AT (by simp)];refine Kq E λq j B=>?_
    have g:=congrArg List.length (G _ j B)
    have:(FI q).length≠4:=by unfold FI;repeat' split
                             all_goals simp
    simp at g;omega
   | [x,y,z,u],G,okq=>
    rw[AT (by simp),AT (by simp),AT (by simp)];refine Kq E λq j B=>?_
    have g:=congrArg List.length (G _ j B)
    have:(FI q).length≠5:=by unfold FI;repeat' split
                             all_goals simp
    simp at g;omega
   |x::y::z::u::v::w::r,G,okq=>
    rw[AT (by simp;omega),AT (by simp;omega),AT (by simp;omega)];refine Kq E λq j B=>?_
    have g:=congrArg List.length (G _ j B);have:=(bm q).2;simp at g;omega
theorem Xy(a:s≠[])(h:∀q',GI q'=true->FR q'=s->q'=q):(if FR q=[]\/FR q≠s then some (⟨0,0,0,0,0,0⟩,false) else some (q,true))=some (Ol s):=by
 grind[Kq,FR]
theorem w6{s:List UInt8}(hs:s.length<=1048576):AAb s=some (Ol s):=by
 unfold AAb;rw[Xw hs,AB];cases hr:rdL (s.length+1) s with
 |none=>
  simp only[AGj,BM,Bd,AV];unfold Wz;rw[BT,MJ (rz hr (by omega))]
 |some l=>
  have ⟨I,H⟩:=YX _ _ _ hr;simp only[AGj,BM,BT,AV];unfold Wz;cases l with
  |nil=>
   simp only[AM];show br true _ _=_;rw[BT,MJ];rintro q j G;exact yE j (G.trans I)
  |cons n l=>
   have B:s≠[]:=by rw[I];exact Tt (H n (by simp))
   have hb:((((n::l).length:Nat):Int)==0)=false:=by rw[AI,beq_eq_false_iff_ne];omega
   have hq:∀q,GI q=true->FR q=s->FI q=n::l:=by
    rintro q j rfl;have:=Qz j ((FR q).length+1) (by omega);rw[hr]at this;simpa using this.symm
   have Z:(n::l).length<=s.length:=by
    rw[I];have:∀l:List Int,(∀m∈l,okN m)->l.length<=(pL l).length:=by
     intro l
     induction l with
     |nil=>simp|cons m l ih=>
      intro h;have j:=mM (h m (by simp));have G:=ih λx J=>h x (by simp[J])
      simp only[pL,CR,AJ,AI]at G ⊢;omega
    exact this _ H
   rw[AI]at Z;have e1:Int.toNat 1=1:=rfl;have e5:Int.toNat 5=5:=rfl;have ed:List.take ((n::l).length-1) (List.drop 1 (n::l))=l:=by simp
   simp only[hb,Bd];simp only[WR,AN,AB,cL,AV,Bw,beq_iff_eq,e1,e5,ed];rw[CE (by simp;omega),CE (by simp;omega),CE (by unfold lim;omega)];have okq:∀m∈n::l,0<=m/\m<=2147483647:=λm hm=>H m hm
   have J:∀(i:Nat),i<5->∃x,(l++List.replicate 5 (0:Int))[i]?=some x/\(0<=x/\x<=2147483647)/\(∀y,l[i]?=some y->x=y):=by
    intro i hi;have O:i<(l++List.replicate 5 (0:Int)).length:=by rw[AJ,List.length_replicate];omega
    refine⟨_,AR O,?_,?_⟩
    .have:(l++List.replicate 5 (0:Int))[i]∈l++List.replicate 5 (0:Int):=Ao O;rw[Bn,List.mem_replicate]at this;rcases this with h|h
     .exact okq _ (Ae _ h)
     .omega
    .intro y hy;have Y:=(List.getElem?_eq_some_iff.1 hy);have ⟨j,G⟩:=Y;rw[List.getElem_append_left j,G]
   have ⟨X,hx0,b0,i0⟩:=J 0 (by omega);have ⟨x1,hx1,b1,i1⟩:=J 1 (by omega);have ⟨x2,hx2,b2,i2⟩:=J 2 (by omega);have ⟨x3,hx3,b3,i3⟩:=J 3 (by omega);have ⟨x4,hx4,b4,i4⟩:=J 4 (by omega);have a0:(l++List.replicate 5 (0:Int))[0]?=some X:=hx0;have a1:at? (l++List.replicate 5 (0:Int)) 1=some x1:=by rw[show (1:Int)=((1:Nat):Int) from rfl,KS];exact hx1
   have a2:at? (l++List.replicate 5 (0:Int)) 2=some x2:=by rw[show (2:Int)=((2:Nat):Int) from rfl,KS];exact hx2
   have a3:at? (l++List.replicate 5 (0:Int)) 3=some x3:=by rw[show (3:Int)=((3:Nat):Int) from rfl,KS];exact hx3
   have a4:at? (l++List.replicate 5 (0:Int)) 4=some x4:=by rw[show (4:Int)=((4:Nat):Int) from rfl,KS];exact hx4
   simp only[a0,a1,a2,a3,a4,AB];rw[A7 (n:=x2-1) (by omega) (by omega)];have shape:∀q,GI q=true->FR q=s->q=(if n=1 then ⟨n,X,x1,x2-1,x3,x4⟩ else if n=3 then ⟨n,0,X,0,x1,0⟩ else if n=6 then ⟨n,0,0,0,0,0⟩ else ⟨n,X,0,0,0,0⟩):=by
    intro q j G;have ⟨k,a,b,c,d,e⟩:=q;have g:=hq _ j G;unfold FI at g;rcases Jb j with h|h|h|h<;>dsimp only at h g
    .rw[AW h.1]at g;obtain⟨rfl,rfl⟩:=List.cons.inj g;rw[AW h.1];have j0:=i0 _ rfl;have j1:=i1 _ rfl;have j2:=i2 _ rfl;have j3:=i3 _ rfl;have j4:=i4 _ rfl;simp;omega
    .rw[AT (by omega),AT (by omega),AT (by omega)]at g;obtain⟨rfl,rfl⟩:=List.cons.inj g;rw[AT (by omega),AT (by omega),AT (by omega)];have j0:=i0 _ rfl;simp;omega
    .rw[AT (by omega),AW h.1]at g;obtain⟨rfl,rfl⟩:=List.cons.inj g;rw[AT (by omega),AW h.1];have j0:=i0 _ rfl;have j1:=i1 _ rfl;simp;omega
    .rw[AT (by omega),AT (by omega),AW h.1]at g;obtain⟨rfl,rfl⟩:=List.cons.inj g;rw[AT (by omega),AT (by omega),AW h.1];simp;omega
   by_cases E:n=1
   .rw[AW E];simp only[AW E]at shape;exact Xy B shape
   by_cases L:n=3
   .rw[AT E,AW L];simp only[AT E,AW L]at shape;exact Xy B shape
   by_cases S:n=6
   .rw[AT E,AT L,AW S];simp only[AT E,AT L,AW S]at shape;exact Xy B shape
   .rw[AT E,AT L,AT S];simp only[AT E,AT L,AT S]at shape;exact Xy B shape
@[simp] theorem AXv(q:Bp):WZ q q=some true:=by
 unfold WZ;simp[Bw]
def Y6(v:Nat):Nat:=if v % 2=1 then (v / 2) ^^^ 3988292384 else v / 2
def WY:Nat->Nat->Nat|0,v=>v|k+1,v=>WY k (Y6 v)
def UK:Nat->List UInt8->Nat|v,[]=>v|v,x::l=>UK (WY 8 (v ^^^ x.toNat)) l
def Kk(s:List UInt8):Nat:=UK 4294967295 s ^^^ 4294967295
theorem ot{v:Nat}(h:v<2 ^ 32):Y6 v<2 ^ 32:=by
 unfold Y6;split
 .exact Dz (by omega) (by omega)
 .omega
theorem VY:∀k {v:Nat},v<2 ^ 32->WY k v<2 ^ 32|0,_,h=>h|k+1,_,h=>VY k (ot h)
theorem VZ:∀(l:List UInt8) {v:Nat},v<2 ^ 32->UK v l<2 ^ 32| [],_,h=>h|x::l,v,h=>VZ l (VY 8 (Dz h (by have:=x.toNat_lt;omega)))
theorem RB{a b:Nat}(c:a<2 ^ 63)(e:b<2 ^ 63):Uz (a:Int) (b:Int)=((a ^^^ b:Nat):Int):=by
 unfold Uz;rw[BitVec.toNat_xor,Qp c,Qp e];have:a ^^^ b<2 ^ 63:=Dz c e;rw[Uu (by omega) (by omega)]
theorem ANn{a b:Nat}(c:a<2 ^ 63)(e:b<2 ^ 63):dq (a:Int) (b:Int)=((a &&& b:Nat):Int):=by
 grind[Qp,Nat.and_le_left,Uu]
theorem AZe(a:Nat):EB (a:Int) 1=((a / 2:Nat):Int):=by
 grind[IntKind.bits]
theorem eL{γ:Type}{F:(Int×Int->AA γ)->Int×Int->AA γ}{G:Int->AA γ}
 (hF:∀L (v k:Nat),v<2 ^ 32->k<=8->F L ((v:Int),(k:Int))=if k<8 then L (((Y6 v:Nat):Int),((k+1:Nat):Int)) else G (v:Int)) :
 ∀(m k v n:Nat),k+m=8->m<n->v<2 ^ 32->BE F n ((v:Int),(k:Int))=G ((WY m v:Nat):Int)
 |0,k,v,0,_,h,_=>by omega|0,k,v,n+1,c,_,a=>by rw[Di,hF _ _ _ a (by omega),AT (by omega)];rfl|m+1,k,v,0,_,h,_=>by omega|m+1,k,v,n+1,c,h,a=>by
  rw[Di,hF _ _ _ a (by omega),AW (by omega),eL hF m (k+1) _ n (by omega) (by omega) (ot a)];rfl
theorem eK{s:List UInt8}{γ:Type}{F:(Int×Int->AA γ)->Int×Int->AA γ}{G:Int->AA γ}(e:s.length<2 ^ 62)
 (hF:∀L (v i:Nat),v<2 ^ 32->i<=s.length->F L ((v:Int),(i:Int))=match s[i]? with|none=>G (v:Int)|some x=>L (((WY 8 (v ^^^ x.toNat):Nat):Int),((i+1:Nat):Int))) :
 ∀(m i v n:Nat),i+m=s.length->m<n->v<2 ^ 32->BE F n ((v:Int),(i:Int))=G ((UK v (s.drop i):Nat):Int)
 |0,i,v,0,_,h,_=>by omega|0,i,v,n+1,hi,_,c=>by
  rw[Di,hF _ _ _ c (by omega),Da (by omega),A1 (by omega)];rfl
 |m+1,i,v,0,_,h,_=>by omega|m+1,i,v,n+1,hi,h,c=>by
  have a:i<s.length:=by omega
  rw[Di,hF _ _ _ c (by omega),AR a];dsimp only;rw[eK e hF m (i+1) _ n (by omega) (by omega) (VY 8 (Dz c (by have:=s[i].toNat_lt;omega))),FO a];rfl
theorem AD2(B:s.length<2 ^ 62):AAP s=some ((Kk s:Nat):Int):=by
 unfold AAP;have:=eK (F:=fm s) (G:=λv=>some (Uz v 4294967295)) B ?_ s.length 0 4294967295 big (by omega) (Jj _ (by omega)) (by omega)
 .refine Eq.trans this ?_;have e:=RB (a:=UK 4294967295 s) (b:=4294967295) (by have:=VZ s (v:=4294967295) (by omega);omega) (by omega);show some (Uz _ ((4294967295:Nat):Int))=_;rw[Co,e];rfl
 .intro L v i j hi;unfold fm AAR;simp only[BW,AV,KS];by_cases h:i<s.length
  .rw[AW (by omega),AR h,AB];dsimp only;have H:=s[i].toNat_lt;rw[A7 (by omega) (by omega),RB (by omega) (by omega)];have:=eL (F:=fq L (i:Int)) (G:=λv=>L (v,((i+1:Nat):Int))) ?_ 8 0 (v ^^^ s[i].toNat) big (by omega) (Jj _ (by omega)) (Dz j (by omega))
   .exact this
   .intro L5 v k j E;unfold fq fk AAQ;simp only[BW,AV];by_cases g:k<8
    .rw[AW (by omega),AW g];have q:Int.tmod (v:Int) 2=((v % 2:Nat):Int):=by rw[EG (by omega)];omega
     have y:Int.tdiv (v:Int) 2=((v / 2:Nat):Int):=by rw[HF (by omega)];omega
     rw[q,y,A7 (by omega) (by omega),A7 (n:=(k:Int)+1) (by omega) (by omega),Bw,show (3988292384:Int)=((3988292384:Nat):Int) from rfl,RB (by omega) (by omega)];unfold Y6;by_cases c:v % 2=1
     .rw[AW (by rw[c];rfl),AW c];rfl
     .rw[AT (by rw[beq_iff_eq];omega),AT c];rfl
    .rw[AT (by omega),AT g,A7 (by omega) (by omega)];rfl
  .rw[AT (by omega),Da (by omega)]
theorem ACr(y:s.length<2 ^ 62):z7 s=some ((Kk s:Nat):Int):=by
 unfold z7;have:=eK (F:=fF s) (G:=λv=>some (Uz v 4294967295)) y ?_ s.length 0 4294967295 big (by omega) (Jj _ (by omega)) (by omega)
 .refine Eq.trans this ?_;have e:=RB (a:=UK 4294967295 s) (b:=4294967295) (by have:=VZ s (v:=4294967295) (by omega);omega) (by omega);show some (Uz _ ((4294967295:Nat):Int))=_;rw[Co,e];rfl
 .intro L v i j hi;unfold fF AAA;simp only[BW,AV,KS];by_cases h:i<s.length
  .rw[AW (by omega),AR h,AB];dsimp only;have E:=s[i].toNat_lt;rw[A7 (by omega) (by omega),RB (by omega) (by omega)];have:=eL (F:=fG L (i:Int)) (G:=λv=>L (v,((i+1:Nat):Int))) ?_ 8 0 (v ^^^ s[i].toNat) big (by omega) (Jj _ (by omega)) (Dz j (by omega))
   .exact this
   .intro L5 v k j B;unfold fG fE z8;simp only[BW,AV];by_cases g:k<8
    .rw[AW (by omega),AW g];have q:dq (v:Int) 1=((v % 2:Nat):Int):=by
      rw[show (1:Int)=((1:Nat):Int) from rfl,ANn (by omega) (by omega),Nat.and_one_is_mod]
     rw[q,AZe,A7 (n:=(k:Int)+1) (by omega) (by omega),Bw,show (3988292384:Int)=((3988292384:Nat):Int) from rfl,RB (by omega) (by omega)];unfold Y6;by_cases c:v % 2=1
     .rw[AW (by rw[c];rfl),AW c];rfl
     .rw[AT (by rw[beq_iff_eq];omega),AT c];rfl
    .rw[AT (by omega),AT g,A7 (by omega) (by omega)];rfl
  .rw[AT (by omega),Da (by omega)]
def four(c:Int):List UInt8:=[toB (EB c 24),toB (EB c 16),toB (EB c 8),toB c]
theorem HP(c:Int):(four c).length=4:=rfl
def Pm(q:Int)(b:List UInt8):Prop:=(1<=q/\q<=1000000)/\(1<=b.length/\b.length<=60)
instance (q:Int) (b:List UInt8):Decidable (Pm q b):=by unfold Pm;infer_instance
def frT(q:Int)(b:List UInt8):List UInt8:=four ((Kk (pN q++b):Nat):Int)++(pN q++b)
def frB(q:Int)(b:List UInt8):List UInt8:=if Pm q b then pN ((frT q b).length:Int)++frT q b else []
theorem PL{q:Int}(h:Pm q b):6<=(frT q b).length/\(frT q b).length<=69:=by
 have a:=P0 q;have c:0<(pN q).length:=by unfold pN;rw[AW (by have:=h.1;omega)];exact Ic _
 have:=h.2;simp only[frT,AJ,HP];omega
theorem PJ{q:Int}(h:Pm q b):7<=(frB q b).length/\(frB q b).length<=74:=by
 have:=PL h;have a:=P0 ((frT q b).length:Int);have c:0<(pN ((frT q b).length:Int)).length:=by unfold pN;rw[AW (by omega)];exact Ic _
 unfold frB;rw[AW h,AJ];omega
theorem AOz{q:Int}(h:frB q b≠[]):Pm q b:=by
 grind[frB]
theorem SA(q:Int)(b:List UInt8):AAt q b=some (frB q b):=by
 unfold AAt gP;simp only[dW,AB,AV,BM,BT];by_cases c:1<=q/\q<=1000000
 .rw[decide_eq_true c,BT];by_cases g:(1:Int)<=b.length/\(b.length:Int)<=60
  .have a:Pm q b:=⟨c,by omega⟩;have j:=P0 q;rw[decide_eq_true g,BT,T5,AB,CE (by unfold P1;omega),AD2 (by rw[AJ];omega),AB];unfold AAS;rw[AB,CE (by simp only[AJ,AI,AM];unfold P1;omega),T5,AB];have e:[toB (EB ((Kk (pN q++b):Nat):Int) 24),toB (EB ((Kk (pN q++b):Nat):Int) 16),toB (EB ((Kk (pN q++b):Nat):Int) 8),toB ((Kk (pN q++b):Nat):Int)]++(pN q++b)=frT q b:=rfl;rw[e];have:=P0 ((frT q b).length:Int);have:=PL a;rw[CE (by unfold P1;omega)];unfold frB;rw[AW a]
  .rw[decide_eq_false g,Bd];unfold frB;rw[AT (λh=>g ⟨by have:=h.2;omega,by have:=h.2;omega⟩)]
 .rw[decide_eq_false c,Bd];unfold frB;rw[AT (λh=>c h.1)]
theorem Xs(q:Int)(b:List UInt8):AHt q b=some (frB q b):=by
 unfold AHt fx;simp only[Q9,AB,AV,BM,BT];by_cases c:1<=q/\q<=1000000
 .rw[decide_eq_true c,BT];by_cases g:(1:Int)<=b.length/\(b.length:Int)<=60
  .have a:Pm q b:=⟨c,by omega⟩;have j:=P0 q;rw[decide_eq_true g,BT,Kl,AB,CE (by unfold lim;omega),ACr (by rw[AJ];omega),AB];rw[CE (by simp only[AJ,AI,AM];unfold lim;omega),Kl,AB];have e:[toB (EB ((Kk (pN q++b):Nat):Int) 24),toB (EB ((Kk (pN q++b):Nat):Int) 16),toB (EB ((Kk (pN q++b):Nat):Int) 8),toB ((Kk (pN q++b):Nat):Int)]++(pN q++b)=frT q b:=rfl;rw[e];have:=P0 ((frT q b).length:Int);have:=PL a;rw[CE (by unfold P1;omega)];unfold frB;rw[AW a]
  .rw[decide_eq_false g,Bd];unfold frB;rw[AT (λh=>g ⟨by have:=h.2;omega,by have:=h.2;omega⟩)]
 .rw[decide_eq_false c,Bd];unfold frB;rw[AT (λh=>c h.1)]
theorem Iw{i:Int}(a:0<=i)(c:i<l.length):∃x,at? l i=some x:=by
 obtain⟨n,rfl⟩:=Ah a;exact⟨_,BQ (by omega)⟩
theorem Xn{x:Int}(a:0<=x)(c:x<1152921504606846976):w64 (EB (IntKind.u64.wrap (w64 x)) 1)=x / 2:=by
 obtain⟨n,rfl⟩:=Ah a
 grind[A7,IntKind.wrap,IntKind.signed,IntKind.bits,AZe]
def Ln{α:Type}(n:Nat)(x:AA (List α)):Prop:=∃r,x=some r/\r.length=n
theorem KT(k:Nat)(h:k<2 ^ 64):k<big:=Jj k h
theorem AXE(g:∀x y,∃c,cmp x y=some c){b:Int}(h0:0<=a)(ha:a<=l.length)(hb:b<=l.length)(hl:l.length<1099511627776):Ln l.length (DT cmp l a b):=by
 unfold DT;rw[A7 (by omega) (by omega)];refine LA (λx=>x.1.length=l.length/\a+1<=x.2/\x.2<=2*1099511627776) (λx=>(b-x.2).toNat) (λr:List α=>r.length=l.length) ?_ big (l,a+1) ⟨rfl,by dsimp only;omega,by dsimp only;omega⟩ (KT _ (by dsimp only;omega));rintro L ⟨v,i⟩ ⟨E,hi,q⟩ H;dsimp only at E hi q H;unfold Dq;dsimp only;rw[BW];split
 .rename_i S;refine LA (λx=>x.1.length=l.length/\a<=x.2/\x.2<=i) (λx=>(x.2-a).toNat) (λr:List α=>r.length=l.length) ?_ big (v,i) ⟨E,by dsimp only;omega,by dsimp only;omega⟩ (KT _ (by dsimp only;omega));rintro L' ⟨u,j⟩ ⟨e,X,B⟩ h;dsimp only at e X B h;have out:∀(u:List α),u.length=l.length->∃r,EU cmp L i u=some r/\r.length=l.length:=by
   intro u e;unfold EU;rw[A7 (by omega) (by omega)];exact H (u,i+1) ⟨e,by dsimp only;omega,by dsimp only;omega⟩ (by dsimp only;omega)
  unfold Dr;dsimp only;rw[BW];split
  .rename_i Y;have G:w64 (j-1)=j-1:=A7 (by omega) (by omega);have ⟨x1,q1⟩:=Iw (l:=u) (i:=j) (by omega) (by omega);have ⟨J,I⟩:=Iw (l:=u) (i:=j-1) (by omega) (by omega);have ⟨c,O⟩:=g x1 J;have ⟨x3,Z⟩:=Iw (l:=List.set u j.toNat J) (i:=j-1) (by omega) (by rw[BO];omega);simp only[G,q1,I,AB,O,AV];unfold Dp;rw[BW];split
   .simp only[G,q1,I,Z,AB];exact h (_,j-1) ⟨by simp only[BO];exact e,by dsimp only;omega,by dsimp only;omega⟩ (by dsimp only;omega)
   .rw[AV];exact out u e
  .rw[AV];unfold Dp;rw[Bd,AV];exact out u e
 .exact⟨v,rfl,E⟩
theorem AG3{b n:Int}(G:0<=a)(H:0<=b)(I:a+n<=l.length)(J:b+n<=l.length)(O:l.length<1099511627776):Ln l.length (Eh cmp l a b n):=by
 unfold Eh;refine LA (λx=>x.1.length=l.length/\0<=x.2) (λx=>(n-x.2).toNat) (λr:List α=>r.length=l.length) ?_ big (l,0) ⟨rfl,by dsimp only;omega⟩ (KT _ (by dsimp only;omega));rintro L ⟨v,i⟩ ⟨c,hi⟩ e;dsimp only at c hi e;unfold K3;dsimp only;rw[BW];split
 .rename_i q;have g:w64 (a+i)=a+i:=A7 (by omega) (by omega);have h:w64 (b+i)=b+i:=A7 (by omega) (by omega);have j:w64 (i+1)=i+1:=A7 (by omega) (by omega);have ⟨S,q1⟩:=Iw (l:=v) (i:=a+i) (by omega) (by omega);have ⟨E,y⟩:=Iw (l:=v) (i:=b+i) (by omega) (by omega);have ⟨X,B⟩:=Iw (l:=List.set v (a+i).toNat E) (i:=b+i) (by omega) (by rw[BO];omega);simp only[g,h,j,q1,y,B,AB];exact e (_,i+1) ⟨by simp only[BO];exact c,by dsimp only;omega⟩ (by dsimp only;omega)
 .exact⟨v,rfl,c⟩
theorem AZb{b:Int}(I:0<=a)(J:a<m)(O:m<b)(S:b<=l.length)(X:l.length<1099511627776):Ln l.length (IB cmp l a m b):=by
 unfold IB;rw[A7 (n:=m-a) (by omega) (by omega),A7 (n:=b-m) (by omega) (by omega)];refine LA (λx=>x.1.length=l.length/\0<x.2.1/\x.2.1<=m-a/\0<x.2.2/\x.2.2<=b-m) (λx=>(x.2.1+x.2.2).toNat) (λr:List α=>r.length=l.length) ?_ big (l,m-a,b-m) ⟨rfl,by dsimp only;omega,by dsimp only;omega,by dsimp only;omega,by dsimp only;omega⟩ (KT _ (by dsimp only;omega));rintro L ⟨v,i,j⟩ ⟨h,hi,y,H,B⟩ E;dsimp only at h hi y H B E;unfold NO;dsimp only;have q:w64 (m-i)=m-i:=A7 (by omega) (by omega);have G:w64 (w64 (m+j)-i)=m+j-i:=by rw[A7 (n:=m+j) (by omega) (by omega)];exact A7 (by omega) (by omega)
 by_cases e:i=j
 .subst e;rw[show (i != i)=false from by simp,Bd,AV];unfold NN;have ⟨r,g,c⟩:=AG3 (cmp:=cmp) (l:=v) (a:=m-i) (b:=m) (n:=i) (by omega) (by omega) (by omega) (by omega) (by omega);dsimp only;rw[q,g,AB];exact⟨r,rfl,c.trans h⟩
 .rw[show (i != j)=true from by simp[e],BT,BW];split
  .have ⟨r,g,c⟩:=AG3 (cmp:=cmp) (l:=v) (a:=m-i) (b:=m) (n:=j) (by omega) (by omega) (by omega) (by omega) (by omega);rw[q,g,AB,A7 (n:=i-j) (by omega) (by omega)];exact E (r,i-j,j) ⟨c.trans h,by dsimp only;omega,by dsimp only;omega,by dsimp only;omega,by dsimp only;omega⟩ (by dsimp only;omega)
  .have ⟨r,g,c⟩:=AG3 (cmp:=cmp) (l:=v) (a:=m-i) (b:=m+j-i) (n:=i) (by omega) (by omega) (by omega) (by omega) (by omega);rw[q,G,g,AB,A7 (n:=j-i) (by omega) (by omega)];exact E (r,i,j-i) ⟨c.trans h,by dsimp only;omega,by dsimp only;omega,by dsimp only;omega,by dsimp only;omega⟩ (by dsimp only;omega)
def y8{α:Type}(k:Nat)(r:List α->Int->Int->Int->AA (List α)):Prop:=
 ∀(l:List α) (a m b:Int),0<=a->a<m->m<b->b<=l.length->l.length<1099511627776->b-a<=2 ^ k->Ln l.length (r l a m b)
theorem ANR{cmp:α->α->AA Int}{r:List α->Int->Int->Int->AA (List α)}(B:y8 k r){b s:Int}(L:0<=a)(O:a<m)(S:m<b)(X:b<=l.length)(Z:l.length<1099511627776)(Y:b-a<=2 ^ (k+1))
 (G:a<=s) (H:s<=(a+b) / 2) (I:s<=m) (J:(a+b) / 2+m-b<=s):Ln l.length (IT cmp r l a m b s):=by
 have q:w64 (EB (IntKind.u64.wrap (w64 (a+b))) 1)=(a+b) / 2:=Xn (by omega) (by omega);have y:w64 (w64 ((a+b) / 2+m)-s)=(a+b) / 2+m-s:=by rw[A7 (n:=(a+b) / 2+m) (by omega) (by omega)];exact A7 (by omega) (by omega)
 have E:(2:Int) ^ (k+1)=2*2 ^ k:=by rw[Int.pow_succ];omega
 have c:∀v:List α,v.length=l.length->Ln l.length (Gj cmp r a m b s v):=by
  intro v h;unfold Gj IW;rw[q,y,BW];split
  .rw[AV,BW];split
   .have ⟨x,j,e⟩:Ln v.length (r v ((a+b) / 2) ((a+b) / 2+m-s) b):=B v ((a+b) / 2) ((a+b) / 2+m-s) b (by omega) (by omega) (by omega) (by omega) (by omega) (by omega);rw[j,AB];exact⟨x,rfl,e.trans h⟩
   .exact⟨v,rfl,h⟩
  .rw[AV,Bd];exact⟨v,rfl,h⟩
 have g:∀v:List α,v.length=l.length->Ln l.length (Gi cmp r a m b s v):=by
  intro v h;unfold Gi IV;rw[q,BW];split
  .rw[AV,BW];split
   .have ⟨x,j,e⟩:Ln v.length (r v a s ((a+b) / 2)):=B v a s ((a+b) / 2) (by omega) (by omega) (by omega) (by omega) (by omega) (by omega);rw[j,AB,AV];exact c x (e.trans h)
   .rw[AV];exact c v h
  .rw[AV,Bd,AV];exact c v h
 unfold IT IU;rw[q,y,BW];split
 .rw[AV,BW];split
  .have ⟨x,j,e⟩:=AZb (cmp:=cmp) (l:=l) (a:=s) (m:=m) (b:=(a+b) / 2+m-s) (by omega) (by omega) (by omega) (by omega) (by omega);rw[j,AB,AV];exact g x e
  .rw[AV];exact g l rfl
 grind[AV,Bd]
theorem AKb(g:∀x y,∃c,cmp x y=some c){r:List α->Int->Int->Int->AA (List α)}(hr:y8 k r):y8 (k+1) (F6 cmp r):=by
 intro l a m b h0 h1 h2 h3 hl hk;show Ln l.length (F6 cmp r l a m b);have e0:w64 (EB (IntKind.u64.wrap (w64 (a+b))) 1)=(a+b) / 2:=Xn (by omega) (by omega);unfold F6;rw[A7 (n:=m-a) (by omega) (by omega)];by_cases c1:m-a=1
 .rw[show (m-a==1)=true from by simp[c1],BT];refine LA (λx=>m<=x.1/\x.1<=x.2/\x.2<=b) (λx=>(x.2-x.1).toNat) (λr:List α=>r.length=l.length) ?_ big (m,b) ⟨by dsimp only;omega,by dsimp only;omega,by dsimp only;omega⟩ (KT _ (by dsimp only;omega));rintro L ⟨i,j⟩ ⟨hi,H,Y⟩ h;dsimp only at hi H Y h;unfold LX;dsimp only;rw[BW];split
  .have eh:w64 (EB (IntKind.u64.wrap (w64 (i+j))) 1)=(i+j) / 2:=Xn (by omega) (by omega);have e:w64 ((i+j) / 2+1)=(i+j) / 2+1:=A7 (by omega) (by omega);have ⟨G,q1⟩:=Iw (l:=l) (i:=(i+j) / 2) (by omega) (by omega);have ⟨J,E⟩:=Iw (l:=l) (i:=a) (by omega) (by omega);have ⟨c,O⟩:=g G J;simp only[eh,e,q1,E,AB,O];rw[BW];split
   .exact h ((i+j) / 2+1,j) ⟨by dsimp only;omega,by dsimp only;omega,by dsimp only;omega⟩ (by dsimp only;omega)
   .exact h (i,(i+j) / 2) ⟨by dsimp only;omega,by dsimp only;omega,by dsimp only;omega⟩ (by dsimp only;omega)
  .rw[AV];unfold LS;refine LA (λx=>x.1.length=l.length/\a<=x.2) (λx=>(i-1-x.2).toNat) (λr:List α=>r.length=l.length) ?_ big (l,a) ⟨rfl,by dsimp only;omega⟩ (KT _ (by dsimp only;omega));rintro L' ⟨u,q⟩ ⟨I,Z⟩ B;dsimp only at I Z B;unfold LY HB;dsimp only;rw[A7 (n:=i-1) (by omega) (by omega),BW];split
   .have S:w64 (q+1)=q+1:=A7 (by omega) (by omega);have ⟨G,q1⟩:=Iw (l:=u) (i:=q+1) (by omega) (by omega);have ⟨J,E⟩:=Iw (l:=u) (i:=q) (by omega) (by omega);have ⟨x3,q3⟩:=Iw (l:=List.set u q.toNat G) (i:=q+1) (by omega) (by rw[BO];omega);simp only[S,q1,E,q3,AB];exact B (_,q+1) ⟨by simp only[BO];exact I,by dsimp only;omega⟩ (by dsimp only;omega)
   .rw[AV];exact⟨u,rfl,I⟩
 .rw[show (m-a==1)=false from by simp[c1],Bd,AV];unfold LU;rw[A7 (n:=b-m) (by omega) (by omega)];by_cases c2:b-m=1
  .rw[show (b-m==1)=true from by simp[c2],BT];refine LA (λx=>a<=x.1/\x.1<=x.2/\x.2<=m) (λx=>(x.2-x.1).toNat) (λr:List α=>r.length=l.length) ?_ big (a,m) ⟨by dsimp only;omega,by dsimp only;omega,by dsimp only;omega⟩ (KT _ (by dsimp only;omega));rintro L ⟨i,j⟩ ⟨hi,H,Y⟩ h;dsimp only at hi H Y h;unfold LZ;dsimp only;rw[BW];split
   .have eh:w64 (EB (IntKind.u64.wrap (w64 (i+j))) 1)=(i+j) / 2:=Xn (by omega) (by omega);have e:w64 ((i+j) / 2+1)=(i+j) / 2+1:=A7 (by omega) (by omega);have ⟨G,q1⟩:=Iw (l:=l) (i:=(i+j) / 2) (by omega) (by omega);have ⟨J,E⟩:=Iw (l:=l) (i:=m) (by omega) (by omega);have ⟨c,O⟩:=g J G;simp only[eh,e,q1,E,AB,O];cases X:decide (c<0)
    .rw[show (!false)=true from rfl,BT];exact h ((i+j) / 2+1,j) ⟨by dsimp only;omega,by dsimp only;omega,by dsimp only;omega⟩ (by dsimp only;omega)
    .rw[show (!true)=false from rfl,Bd];exact h (i,(i+j) / 2) ⟨by dsimp only;omega,by dsimp only;omega,by dsimp only;omega⟩ (by dsimp only;omega)
   .rw[AV];unfold LV;refine LA (λx=>x.1.length=l.length/\x.2<=m/\i<=x.2) (λx=>(x.2-i).toNat) (λr:List α=>r.length=l.length) ?_ big (l,m) ⟨rfl,by dsimp only;omega,by dsimp only;omega⟩ (KT _ (by dsimp only;omega));rintro L' ⟨u,q⟩ ⟨I,Z,hq2⟩ B;dsimp only at I Z hq2 B;unfold La HB;dsimp only;rw[BW];split
    .have S:w64 (q-1)=q-1:=A7 (by omega) (by omega);have ⟨G,q1⟩:=Iw (l:=u) (i:=q-1) (by omega) (by omega);have ⟨J,E⟩:=Iw (l:=u) (i:=q) (by omega) (by omega);have ⟨x3,q3⟩:=Iw (l:=List.set u q.toNat G) (i:=q-1) (by omega) (by rw[BO];omega);simp only[S,q1,E,q3,AB];exact B (_,q-1) ⟨by simp only[BO];exact I,by dsimp only;omega,by dsimp only;omega⟩ (by dsimp only;omega)
    .rw[AV];exact⟨u,rfl,I⟩
  .rw[show (b-m==1)=false from by simp[c2],Bd,AV];have key:∀s t:Int,a<=s->s<=t->t<=(a+b) / 2->t<=m->(a+b) / 2+m-b<=s->Ln l.length (Gg cmp r l a m b (s,t)):=by
    intro s t p1 p2 p3 p4 p5;unfold Gg;refine LA (λx=>a<=x.1/\x.1<=x.2/\x.2<=(a+b) / 2/\x.2<=m/\(a+b) / 2+m-b<=x.1) (λx=>(x.2-x.1).toNat) (λr:List α=>r.length=l.length) ?_ big (s,t) ⟨p1,p2,p3,p4,p5⟩ (KT _ (by dsimp only;omega));rintro L ⟨i,j⟩ ⟨g1,g2,g3,g4,g5⟩ h;dsimp only at g1 g2 g3 g4 g5 h;unfold K4;dsimp only;rw[BW];split
    .have eh:w64 (EB (IntKind.u64.wrap (w64 (i+j))) 1)=(i+j) / 2:=Xn (by omega) (by omega);have e:w64 ((i+j) / 2+1)=(i+j) / 2+1:=A7 (by omega) (by omega);have ep:w64 (w64 (w64 ((a+b) / 2+m)-1)-(i+j) / 2)=(a+b) / 2+m-1-(i+j) / 2:=by
      rw[A7 (n:=(a+b) / 2+m) (by omega) (by omega),A7 (n:=(a+b) / 2+m-1) (by omega) (by omega)];exact A7 (by omega) (by omega)
     have ⟨G,q1⟩:=Iw (l:=l) (i:=(i+j) / 2) (by omega) (by omega);have ⟨J,E⟩:=Iw (l:=l) (i:=(a+b) / 2+m-1-(i+j) / 2) (by omega) (by omega);have ⟨c,O⟩:=g J G;simp only[e0,eh,e,ep,q1,E,AB,O];cases X:decide (c<0)
     .rw[show (!false)=true from rfl,BT];exact h ((i+j) / 2+1,j) ⟨by dsimp only;omega,by dsimp only;omega,by dsimp only;omega,by dsimp only;omega,by dsimp only;omega⟩ (by dsimp only;omega)
     .rw[show (!true)=false from rfl,Bd];exact h (i,(i+j) / 2) ⟨by dsimp only;omega,by dsimp only;omega,by dsimp only;omega,by dsimp only;omega,by dsimp only;omega⟩ (by dsimp only;omega)
    .rw[AV];exact ANR hr h0 h1 h2 h3 hl hk g1 (by omega) (by omega) g5
   unfold LW;rw[e0,BW];split
   .rw[AV,A7 (n:=(a+b) / 2+m) (by omega) (by omega),A7 (n:=(a+b) / 2+m-b) (by omega) (by omega)];exact key _ _ (by omega) (by omega) (by omega) (by omega) (by omega)
   .rw[AV];exact key _ _ (by omega) (by omega) (by omega) (by omega) (by omega)
theorem AD6(g:∀x y,∃c,cmp x y=some c){mrg:List α->Int->Int->Int->AA (List α)}(S:∀(l:List α) (a m b:Int),0<=a->a<m->m<b->b<=l.length->l.length<=40->Ln l.length (mrg l a m b))(Z:l.length<=40):Ln l.length (Gw cmp mrg l (l.length:Int)):=by
 unfold Gw;have O:∀v:List α,v.length=l.length->Ln l.length (BE (GV cmp mrg (l.length:Int)) big (v,20)):=by
  intro v Y;refine LA (λx=>x.1.length=l.length/\(x.2=20\/x.2=40)) (λx=>(40-x.2).toNat) (λr:List α=>r.length=l.length) ?_ big (v,20) ⟨Y,.inl rfl⟩ (KT _ (by dsimp only;omega));rintro L ⟨u,s⟩ ⟨j,X⟩ G;dsimp only at j X G;unfold GV;dsimp only;rw[BW];split
  .have E:s=20:=by omega
   subst E;have out:∀w:List α,w.length=l.length->Ln l.length (Hv cmp mrg L 20 w):=by
    intro w B;unfold Hv;rw[A7 (by omega) (by omega)];exact G (w,20*2) ⟨B,.inr rfl⟩ (by dsimp only;omega)
   rw[A7 (n:=2*20) (by omega) (by omega)];refine LA (λx=>x.1.length=l.length/\x.2.2=x.2.1+40/\(x.2.1=0\/x.2.1=40)) (λx=>(40-x.2.1).toNat) (λr:List α=>r.length=l.length) ?_ big (u,0,2*20) ⟨j,by dsimp only;omega,.inl rfl⟩ (KT _ (by dsimp only;omega));rintro L' ⟨w,a,b⟩ ⟨B,h,I⟩ H;dsimp only at B h I H;unfold NQ;dsimp only;rw[BW];split
   .have ⟨x,q,e⟩:=S w a (a+20) b (by omega) (by omega) (by omega) (by omega) (by omega);rw[A7 (n:=a+20) (by omega) (by omega),q,AB,A7 (n:=2*20) (by omega) (by omega),A7 (n:=b+2*20) (by omega) (by omega)];exact H (x,b,b+2*20) ⟨e.trans B,by dsimp only;omega,by dsimp only;omega⟩ (by dsimp only;omega)
   .rw[AV];unfold NP;dsimp only;rw[A7 (n:=a+20) (by omega) (by omega),BW];split
    .have ⟨x,q,e⟩:=S w a (a+20) (l.length:Int) (by omega) (by omega) (by omega) (by omega) (by omega);rw[q,AB,AV];exact out x (e.trans B)
    .rw[AV];exact out w B
  .exact⟨u,rfl,j⟩
 have key:Ln l.length (BE (GU cmp mrg (l.length:Int)) big (l,0,20)):=by
  refine LA (λx=>x.1.length=l.length/\0<=x.2.1/\x.2.1<=(l.length:Int)/\x.2.2=x.2.1+20) (λx=>(60-x.2.1).toNat) (λr:List α=>r.length=l.length) ?_ big (l,0,20) ⟨rfl,by dsimp only;omega,by dsimp only;omega,by dsimp only;omega⟩ (KT _ (by dsimp only;omega));rintro L ⟨u,a,b⟩ ⟨j,I,J,h⟩ G;dsimp only at j I J h G;unfold GU;dsimp only;rw[BW];split
  .have ⟨x,q,e⟩:=AXE g (l:=u) (a:=a) (b:=b) (by omega) (by omega) (by omega) (by omega);rw[q,AB,A7 (n:=b+20) (by omega) (by omega)];exact G (x,b,b+20) ⟨e.trans j,by dsimp only;omega,by dsimp only;omega,rfl⟩ (by dsimp only;omega)
  .rw[AV];unfold Hu;dsimp only;have ⟨x,q,e⟩:=AXE g (l:=u) (a:=a) (b:=(l.length:Int)) (by omega) (by omega) (by omega) (by omega);rw[q,AB];exact O x (e.trans j)
 exact key
theorem sW:∀k,y8 (α:=A0) k (λl a m b=>(bt k).d (l,a,m,b,(),()))
 |0=>by
  intro l a m b c e g j B q
  grind
 |k+1=>AKb (λx y=>(Qe x y).imp λ_ h=>h.1) (sW k)
theorem AC5{l:List A0}{b:Int}(c:0<=a)(e:a<m)(g:m<b)(h:b<=l.length)(j:l.length<=40):Ln l.length (AN9 l a m b):=
 sW 7 l a m b c e g h (by omega) (by have:(2:Int) ^ 7=128:=rfl;omega)
theorem nK{l:List A0}(c:l.length<=40):Ln l.length (ou l):=by
 unfold ou AHl;have ⟨x,e,a⟩:=AD6 (λx y=>(Qe x y).imp λ_ h=>h.1) (mrg:=AN9) (λ_ _ _ _=>AC5) c;rw[e,AB];exact⟨x,rfl,a⟩
theorem AKa:∀k,y8 (α:=Bc) k (λl a m b=>(bu k).d (l,a,m,b,(),()))
 |0=>by
  intro l a m b c e g j B q
  grind
 |k+1=>AKb (λx y=>(Nz x y).imp λ_ h=>h.1) (AKa k)
theorem ALY{l:List Bc}{b:Int}(c:0<=a)(e:a<m)(g:m<b)(h:b<=l.length)(j:l.length<=40):Ln l.length (AOH l a m b):=
 AKa 7 l a m b c e g h (by omega) (by have:(2:Int) ^ 7=128:=rfl;omega)
theorem yf{l:List Bc}(c:l.length<=40):Ln l.length (pD l):=by
 unfold pD AHp;have ⟨x,e,a⟩:=AD6 (λx y=>(Nz x y).imp λ_ h=>h.1) (mrg:=AOH) (λ_ _ _ _=>ALY) c;rw[e,AB];exact⟨x,rfl,a⟩
theorem MS(f:α->List β)(J:List β->AA γ){F:(List β×Int->AA γ)->List β×Int->AA γ}(c:l.length<=1048576)(m:Nat)(e:∀x,(f x).length<=m){v0:List β}
 (step:∀L i (h:i<l.length) v,v.length<=v0.length+m*i->F L (v,(i:Int))=L (v++f l[i],w64 ((i:Int)+1))) (stop:∀L v,F L (v,(l.length:Int))=J v):BE F big (v0,0)=J (v0++l.flatMap f):=by
 refine(DI (n:=l.length) (λi (v:List β)=>(v,(i:Int))) (λi v=>v=v0++(l.take i).flatMap f/\v.length<=v0.length+m*i) (λi v=>J (v0++l.flatMap f)) (by omega) ?_ ⟨by simp,by simp⟩);rintro L i v ⟨g,a⟩ hi j;rcases Aa i l.length with h|h
 .rw[step L i h v a,B1 h (by omega)]
  grind[List.take_add_one]
 grind
theorem Fl{α β:Type}(f:α->List β){m:Nat}(a:∀x,(f x).length<=m):∀l:List α,(l.flatMap f).length<=m*l.length
 | []=>by simp|x::l=>by
  have:=Fl f a l;have:=a x;rw[CR,AJ,AI,Nat.mul_add];omega
def Ja(r:AY):List Int:=[r.CZ,r.Room,r.BK,r.CI,r.B6,r.Rest,r.Cg,r.C4]++r.AX
def Lf(p:AU):List Int:=[p.Id,p.AZ,w64 (p.Bz+1),p.BK,p.DS,p.Since,p.A4,p.State,p.DM,p.Dm]
def Fh(h:AE):List Int:=
 (([((Ja h.AQ).length:Int)]++Ja h.AQ++[h.Now,h.A4,(h.AG.length:Int)]++h.AG.flatMap Lf)++h.AH.flatMap (λc=>[c.AX.D1]))++[(h.BD.length:Int)]++h.BD++h.BB.flatMap (λx=>[w64 (x+1)])
def ASc(h:AE):List Int:=if C9 h=true then Fh h else []
theorem Jk(a:C9 h=true):Ds h.AQ=true/\(0<=h.Now/\h.Now<=1000000)/\(1<=h.A4/\h.A4<=1000001)/\h.AG.length<=40/\h.AH.length=h.AQ.AX.length/\LC h=true/\Hm h.BD h.AH.length=true/\Jx h.BB h.AH.length=true/\(h.BB.length:Int)=h.AQ.C4/\NV h=true:=by
 grind[C9,B8]
theorem Ud(e:Br h)(a:C9 h=true):(Fh h).length<=2000000:=by
 have g:=Jk a;have E:=CL g.1;have j:=Fl Lf (m:=10) (λ_=>Ab _) h.AG;have q:=Fl (λc:Ag=>[c.AX.D1]) (m:=1) (λ_=>Ab _) h.AH;have y:=Fl (λx:Int=>[w64 (x+1)]) (m:=1) (λ_=>Ab _) h.BB;have B:=e.todo;unfold Fh Ja;simp only[AJ,AI,AM];omega
theorem m8(c:r.AX.length<=1048576)(a:Ds r=true):AHr r=some (Ja r):=by
 unfold AHr;rw[Ie (by omega),AB,a,BM,BT,CE (by simp only[AI,AM];unfold lim;omega)];rfl
theorem Tc(c:r.AX.length<=1048576)(a:Ds r=true):pI r=some (Ja r):=by
 unfold pI;rw[HS (by omega),AB,a,BM,BT,CE (by simp only[AI,AM];unfold lim;omega)];rfl
theorem MI(r:AY):(Ja r).length=8+r.AX.length:=by unfold Ja;simp only[AJ,AI,AM]
theorem sT(a:Br h)(g:C9 h=true):AAK h=some (Fh h):=by
 have hlim:lim=268435456:=rfl;have j:=Jk g;have X:=CL j.1;have E:=a.CP;have G:=a.Dt;have O:=a.todo;have H:=a.F8;have B:∀v:List Int,v.length<=5000000->Ws h v=some (v++[(h.BD.length:Int)]++h.BD++h.BB.flatMap (λx=>[w64 (x+1)])):=by
  intro v J;unfold Ws;rw[CE (by rw[Nf];omega),CE (by rw[AJ,Bk];omega)];refine MS (l:=h.BB) (λx=>[w64 (x+1)]) some H 1 (λ_=>Ab _) ?_ ?_
  .grind[fc,BT,BQ,AB,CE]
  .intro L q;unfold fc AAL;dsimp only;rw[C0,Bd,AV]
 have y:∀v:List Int,v.length<=3000000->Wr h v=some ((v++h.AH.flatMap (λc=>[c.AX.D1]))++[(h.BD.length:Int)]++h.BD++h.BB.flatMap (λx=>[w64 (x+1)])):=by
  intro v J;have I:=Fl (λc:Ag=>[c.AX.D1]) (m:=1) (λ_=>Ab _) h.AH;unfold Wr;rw[MS (l:=h.AH) (λc=>[c.AX.D1]) (Ws h) G 1 (λ_=>Ab _) ?_ ?_,B _ (by rw[AJ];omega)]
  .grind[fb,BT,BQ,AB,CE]
  .intro L q;unfold fb;dsimp only;rw[C0,Bd,AV]
 have I:=Fl Lf (m:=10) (λ_=>Ab _) h.AG;have S:=MI h.AQ;have Y:=a.EA;unfold AAK;rw[Gm a,AB,g,BM,BT,m8 a.EA j.1,AB,CE (by rw[Bk];omega),CE (by simp only[AJ,Bk,AI,AM];omega)];rw[MS (l:=h.AG) Lf (Wr h) E 10 (λ_=>Ab _) ?_ ?_,y _ (by simp only[AJ,Bk,AI,AM];omega)]
 .rfl
 .intro L i hi q e;simp only[AJ,Bk,AI,AM]at e;unfold fZ;dsimp only;rw[CF hi,BT,BQ hi,AB,CE (by simp only[AI,AM];omega)];rfl
 grind[fZ,Bd,AV]
theorem ALT(a:Br h)(g:C9 h=true):AHn h=some (Fh h):=by
 have hlim:lim=268435456:=rfl;have j:=Jk g;have X:=CL j.1;have E:=a.CP;have G:=a.Dt;have O:=a.todo;have H:=a.F8;have B:∀v:List Int,v.length<=5000000->Wl h v=some (v++[(h.BD.length:Int)]++h.BD++h.BB.flatMap (λx=>[w64 (x+1)])):=by
  intro v J;unfold Wl;rw[CE (by rw[Nf];omega),CE (by rw[AJ,Bk];omega)];refine MS (l:=h.BB) (λx=>[w64 (x+1)]) some H 1 (λ_=>Ab _) ?_ ?_
  .grind[fJ,BT,BQ,AB,CE]
  .intro L q;unfold fJ AAB;dsimp only;rw[C0,Bd,AV]
 have y:∀v:List Int,v.length<=3000000->Wk h v=some ((v++h.AH.flatMap (λc=>[c.AX.D1]))++[(h.BD.length:Int)]++h.BD++h.BB.flatMap (λx=>[w64 (x+1)])):=by
  intro v J;have I:=Fl (λc:Ag=>[c.AX.D1]) (m:=1) (λ_=>Ab _) h.AH;unfold Wk;rw[MS (l:=h.AH) (λc=>[c.AX.D1]) (Wl h) G 1 (λ_=>Ab _) ?_ ?_,B _ (by rw[AJ];omega)]
  .grind[fI,BT,BQ,AB,CE]
  .intro L q;unfold fI;dsimp only;rw[C0,Bd,AV]
 have I:=Fl Lf (m:=10) (λ_=>Ab _) h.AG;have S:=MI h.AQ;have Y:=a.EA;unfold AHn;rw[Fz a,AB,g,BM,BT,Tc a.EA j.1,AB,CE (by rw[Bk];omega),CE (by simp only[AJ,Bk,AI,AM];omega)];rw[MS (l:=h.AG) Lf (Wk h) E 10 (λ_=>Ab _) ?_ ?_,y _ (by simp only[AJ,Bk,AI,AM];omega)]
 .rfl
 .intro L i hi q e;simp only[AJ,Bk,AI,AM]at e;unfold fH;dsimp only;rw[CF hi,BT,BQ hi,AB,CE (by simp only[AI,AM];omega)];rfl
 grind[fH,Bd,AV]
theorem AF2(a:Br h)(g:C9 h=true):AAT h=some (Fh h):=by
 have hlim:lim=268435456:=rfl;have j:=Jk g;have X:=CL j.1;have E:=a.CP;have G:=a.Dt;have O:=a.todo;have H:=a.F8;have B:∀v:List Int,v.length<=5000000->Wu h v=some (v++[(h.BD.length:Int)]++h.BD++h.BB.flatMap (λx=>[w64 (x+1)])):=by
  intro v J;unfold Wu;rw[CE (by rw[Nf];omega),CE (by rw[AJ,Bk];omega)];refine MS (l:=h.BB) (λx=>[w64 (x+1)]) some H 1 (λ_=>Ab _) ?_ ?_
  .grind[fw,BT,BQ,AB,CE]
  .intro L q;unfold fw AAU;dsimp only;rw[C0,Bd,AV]
 have y:∀v:List Int,v.length<=3000000->Wt h v=some ((v++h.AH.flatMap (λc=>[c.AX.D1]))++[(h.BD.length:Int)]++h.BD++h.BB.flatMap (λx=>[w64 (x+1)])):=by
  intro v J;have I:=Fl (λc:Ag=>[c.AX.D1]) (m:=1) (λ_=>Ab _) h.AH;unfold Wt;rw[MS (l:=h.AH) (λc=>[c.AX.D1]) (Wu h) G 1 (λ_=>Ab _) ?_ ?_,B _ (by rw[AJ];omega)]
  .grind[fv,BT,BQ,AB,CE]
  .intro L q;unfold fv;dsimp only;rw[C0,Bd,AV]
 have I:=Fl Lf (m:=10) (λ_=>Ab _) h.AG;have S:=MI h.AQ;have Y:=a.EA;unfold AAT;rw[Fz a,AB,g,BM,BT,Tc a.EA j.1,AB,CE (by rw[Bk];omega),CE (by simp only[AJ,Bk,AI,AM];omega)];rw[MS (l:=h.AG) Lf (Wt h) E 10 (λ_=>Ab _) ?_ ?_,y _ (by simp only[AJ,Bk,AI,AM];omega)]
 .rfl
 .intro L i hi q e;simp only[AJ,Bk,AI,AM]at e;unfold fu;dsimp only;rw[CF hi,BT,BQ hi,AB,CE (by simp only[AI,AM];omega)];rfl
 grind[fu,Bd,AV]
def DC(h:AE)(q:Int):List UInt8:=if C9 h=true/\inB q 0 1000000=true then four ((Kk (pL (q::Fh h)):Nat):Int)++pL (q::Fh h) else []
theorem YM:∀l:List Int,(pL l).length<=5*l.length
 | []=>by simp[pL]|x::l=>by
  have:=YM l;have:=P0 x;unfold pL at *;rw[CR,AJ,AI];omega
theorem Is(c:Br h)(q:Int):pH h q=some (DC h q):=by
 have hlim:lim=268435456:=rfl;have hslim:P1=4611686018427387904:=rfl;unfold pH DC;rw[Gm c,AB,BM,AV,GX,AB,AV];by_cases a:C9 h=true
 .have j:=Ud c a;have e:=YM (q::Fh h);rw[AI]at e;rw[a,BT];unfold ft;rw[BM,sT c a,AB,CE (by rw[Bk];omega),List.singleton_append,Ym (by rw[AI];omega),AB,AD2 (by omega),AB];unfold AAS;rw[AB];cases y:inB q 0 1000000 with
  |false=>rfl|true=>
   rw[BT,CE (by simp only[AI,AM];omega),AW ⟨rfl,rfl⟩];rfl
 .rw[AT (λg=>a g.1)];rw[DD]at a;rw[a,Bd];rfl
theorem Pw(c:Br h)(q:Int):pC h q=some (DC h q):=by
 have hslim:P1=4611686018427387904:=rfl;unfold pC DC orE;by_cases a:C9 h=true
 .have H:=Ud c a;have B:=YM (q::Fh h);rw[AI]at B;have G:=P0 q;have E:=YM (Fh h);have y:(Fh h).isEmpty=false:=by
   unfold Fh;simp
  have j:pN q++pL (Fh h)=pL (q::Fh h):=rfl;have e:pB h q=some (if inB q 0 1000000=true then four ((Kk (pL (q::Fh h)):Nat):Int)++pL (q::Fh h) else []):=by
   unfold pB;rw[AF2 c a,AB,CE y,GJ,AB,BM];cases I:inB q 0 1000000 with
   |false=>rfl|true=>
    rw[BT,Kl,AB,Xx (by omega),AB,CE (by omega),j,ACr (by omega),AB,CE (by simp only[AI,AM];omega)];rfl
  grind
 .rw[AT (λg=>a g.1)];rw[DD]at a;have e:pB h q=none:=by
   unfold pB AAT;rw[Fz c,AB,a,BM,Bd,AVM]
  rw[e];dsimp only;unfold AHm AOA;rw[Fz c,AB,a,BM,Bd,AB]
section
variable{α:Type}{Q:Int->α->Int->Prop}
end
theorem AUv{t:List Int}(e:n<=4)(h:Hm t n=true):t.length<=4:=by
 unfold Hm at h;rw[Jy]at h;refine Classical.byContradiction λa=>?_
 have key:∀i (hi:i<t.length),0<=t[i]/\t[i]<n/\∀j (c:j<i),t[j]'(by omega)≠t[i]:=by
  grind[SH,CX,B8,A7,List.mem_take_iff_getElem]
 have g:=key 0 (by omega);have q:=key 1 (by omega);have y:=key 2 (by omega);have B:=key 3 (by omega);have E:=key 4 (by omega)
 grind
theorem ALb:(ASc h).length<=500:=by
 unfold ASc;split
 .rename_i e;have a:=Jk e;have B:=CL a.1;have g:=Fl Lf (m:=10) (λ_=>Ab _) h.AG;have j:=Fl (λc:Ag=>[c.AX.D1]) (m:=1) (λ_=>Ab _) h.AH;have q:=Fl (λx:Int=>[w64 (x+1)]) (m:=1) (λ_=>Ab _) h.BB;have y:=AUv (t:=h.BD) (n:=h.AH.length) (by omega) a.2.2.2.2.2.2.1;unfold Fh Ja;simp only[AJ,AI,AM];omega
 .simp
def Ly(n:Int):BN×Bool:=if El ⟨n,0,0,n,0⟩=true then (⟨n,0,0,n,0⟩,true) else (⟨0,0,0,0,0⟩,false)
def G4(n:Int):Ag×Bool:=if (Ly n).2=true then (⟨(Ly n).1,[],⟨List.replicate 9 []⟩⟩,true) else (⟨⟨0,0,0,0,0⟩,[],⟨[]⟩⟩,false)
def Dx(r:AY):AE×Bool:=
 if Ds r=true then (⟨r,0,1,[],r.AX.map (λn=>(G4 n).1),[],List.replicate r.C4.toNat (-1)⟩,true) else (⟨⟨[],0,0,0,0,0,0,0,0⟩,0,0,[],[],[],[]⟩,false)
theorem lu:AAc=some ⟨List.replicate 9 []⟩:=by
 unfold AAc;refine(DI (n:=9) (λi (v:A2)=>((i:Int),v)) (λi v=>v.Au=List.replicate i []) (λ_ _=>some (⟨List.replicate 9 []⟩:A2)) (by omega) ?_ (v:=⟨[]⟩) rfl);rintro L i ⟨s⟩ a hi c
 grind[AAe,AAd,BW,CE,lim,B1,List.replicate_succ',AV]
theorem lq:AH1=some ⟨List.replicate 9 []⟩:=rfl
theorem rb(a:r.AX.length<=1048576):HH r=some r:=by
 unfold HH;rw[CE (by unfold lim;omega),Bb]
theorem ra(a:r.AX.length<=1048576):pK r=some r:=by
 unfold pK K0;rw[CE (by unfold lim;omega),AB]
theorem ADB(n:Int):AHo n=some (Ly n):=by
 unfold AHo Ly;rw[P3,AB,BM,Bw];split<;>rfl
theorem AGB(n:Int):AHx n=some (G4 n):=by
 grind[AHx,G4,ADB,AB,lu,Bw]
theorem AGD(q:r.AX.length<=1048576):AHy r=some (Dx r):=by
 unfold AHy Dx;rw[Ie (by omega),AB,BM,rb q,AB,Bw];by_cases a:Ds r=true
 .have B:=CL a;rw[AW a,AW a];refine DI (n:=r.AX.length) (λi (v:AE)=>((i:Int),v)) (λi v=>v=⟨r,0,1,[],(r.AX.take i).map (λn=>(G4 n).1),[],[]⟩) (λ_ _=>_) (by omega) ?_ (v:=⟨r,0,1,[],[],[],[]⟩) (by simp);rintro L i v c hi g;unfold AAh;dsimp only at g ⊢;rcases Aa i r.AX.length with h|h
  .rw[CF h,BT,BQ h,AB,AGB,AB,CE (by rw[c,Nf];simp;unfold lim;omega),B1 h (by omega)];refine g _ ?_ h;have e:r.AX.take (i+1)=r.AX.take i++[r.AX[i]]:=by rw[CS,AR h];rfl
   rw[c,e,Cs];rfl
  .obtain rfl:i=r.AX.length:=by omega
   rw[C0,Bd,AV,c,CO];unfold AAf;have ⟨n,E⟩:=Ah (show 0<=r.C4 by omega);refine DI (n:=n) (λi (v:AE)=>((i:Int),v)) (λi v=>v=⟨r,0,1,[],r.AX.map (λn=>(G4 n).1),[],List.replicate i (-1)⟩) (λ_ _=>_) (by omega) ?_ (v:=⟨r,0,1,[],r.AX.map (λn=>(G4 n).1),[],[]⟩) rfl;rintro L j w G y g;unfold AAi AAg
   grind[BT,CE,lim,B1,List.replicate_succ',Bd,AV]
 .rw[AT a,AT a]
theorem ADA(n:Int):AH0 n=some (Ly n):=by
 unfold AH0 Ly;rw[Gq,AB,BM,Bw];split<;>rfl
theorem AGA(n:Int):AH2 n=some (G4 n):=by
 grind[AH2,G4,ADA,AB,lq,Bw]
theorem AGC(q:r.AX.length<=1048576):AH3 r=some (Dx r):=by
 unfold AH3 Dx;rw[HS (by omega),AB,BM,ra q,AB,Bw];by_cases a:Ds r=true
 .have B:=CL a;rw[AW a,AW a];refine DI (n:=r.AX.length) (λi (v:AE)=>((i:Int),v)) (λi v=>v=⟨r,0,1,[],(r.AX.take i).map (λn=>(G4 n).1),[],[]⟩) (λ_ _=>_) (by omega) ?_ (v:=⟨r,0,1,[],[],[],[]⟩) (by simp);rintro L i v c hi g;unfold AAl;dsimp only at g ⊢;rcases Aa i r.AX.length with h|h
  .rw[CF h,BT,BQ h,AB,AGA,AB,CE (by rw[c,Nf];simp;unfold lim;omega),B1 h (by omega)];refine g _ ?_ h;have e:r.AX.take (i+1)=r.AX.take i++[r.AX[i]]:=by rw[CS,AR h];rfl
   rw[c,e,Cs];rfl
  .obtain rfl:i=r.AX.length:=by omega
   rw[C0,Bd,AV,c,CO];unfold AAj;have ⟨n,E⟩:=Ah (show 0<=r.C4 by omega);refine DI (n:=n) (λi (v:AE)=>((i:Int),v)) (λi v=>v=⟨r,0,1,[],r.AX.map (λn=>(G4 n).1),[],List.replicate i (-1)⟩) (λ_ _=>_) (by omega) ?_ (v:=⟨r,0,1,[],r.AX.map (λn=>(G4 n).1),[],[]⟩) rfl;rintro L j w G y g;unfold AAm AAk
   grind[BT,CE,lim,B1,List.replicate_succ',Bd,AV]
 .rw[AT a,AT a]
theorem tM(n:Int):FP (G4 n).1:=by
 unfold G4;split
 .exact⟨by simp,by simp,by simp⟩
 .exact⟨by simp,by simp,by simp⟩
theorem NZ(a:r.AX.length<=1048576):Br (Dx r).1:=by
 unfold Dx;split
 .rename_i c;have e:=CL c;refine⟨a,by simp,by simpa using a,?_,by simp,?_⟩
  .grind[tM]
  .simp;omega
 .exact⟨by simp,by simp,by simp,by simp,by simp,by simp⟩
def KU:A6:=⟨⟨⟨[],0,0,0,0,0,0,0,0⟩,0,0,[],[],[],[]⟩,⟨⟨[],0⟩,⟨[],0⟩,⟨[],0⟩⟩,0,[]⟩
def Fk(r:AY):A6×Bool:=
 if (Dx r).2=true then (⟨(Dx r).1,⟨⟨[],0⟩,⟨DC (Dx r).1 0,((DC (Dx r).1 0).length:Int)⟩,⟨[],0⟩⟩,0,[]⟩,true) else (KU,false)
theorem FE(h:AE)(q:Int):(DC h q).length<=2600:=by
 unfold DC;split
 .rename_i c;have a:=ALb (h:=h);unfold ASc at a
  grind[YM,HP]
 .simp
theorem AC9(a:r.AX.length<=1048576):AHz r=some (Fk r):=by
 unfold AHz Fk;rw[AGD a,AB,BM,Is (NZ a),AB,Bw];split<;>rfl
theorem AC8(a:r.AX.length<=1048576):AH4 r=some (Fk r):=by
 have e:=FE (Dx r).1 0;have c:Ec ⟨DC (Dx r).1 0,0⟩=true:=by
  grind[Ec,B8]
 unfold AH4 Fk gJ;rw[AGC a,AB,BM,Pw (NZ a),AB,FZ,AB,c,BM,BT,AB,Bw];split<;>rfl
theorem U6(a:r.AX.length<=1048576):Ch (Fk r).1:=by
 have c:=FE (Dx r).1 0;unfold Fk;split
 .exact⟨NZ a,by simp,by dsimp only;omega,by simp,by simp⟩
 .exact⟨⟨by simp[KU],by simp[KU],by simp[KU],by simp[KU],by simp[KU],by simp[KU]⟩,by simp[KU],by simp[KU],by simp[KU],by simp[KU]⟩
theorem TT{w pre l:List UInt8}{i:Int}(a:w=pre++(Fi n++l))(hi:i=pre.length)(c:n<=2147483647):gN w i=((n:Int),((pre.length+(Fi n).length:Nat):Int),true):=by
 subst a;subst hi;have:=Ic n;unfold gN
 grind[List.length_append,Int.toNat_natCast,List.drop_left,yC,Ko,uc]
theorem ub{w:List UInt8}{i n j:Int}(h:gN w i=(n,j,true)):∃(m:Nat) (l:List UInt8),0<=i/\i<w.length/\w.drop i.toNat=Fi m++l/\n=(m:Int)/\j=i+(Fi m).length/\m<=2147483647:=by
 unfold gN at h;split at h
 .rename_i hi;cases a:rdN 5 0 0 (w.drop i.toNat) with
  |none=>rw[a]at h;simp[uc]at h|some x=>
   grind[uc,Prod.mk.injEq,dh]
 .simp at h
theorem uZ{q:Int}(h:Pm q b):frB q b=Fi (frT q b).length++(four ((Kk (pN q++b):Nat):Int)++(Fi q.toNat++b))/\frT q b=four ((Kk (pN q++b):Nat):Int)++(Fi q.toNat++b):=by
 have hT:=PL h;have e:pN q=Fi q.toNat:=by unfold pN;rw[AW (by have:=h.1;omega)]
 have a:frT q b=four ((Kk (pN q++b):Nat):Int)++(Fi q.toNat++b):=by unfold frT;rw[e]
 refine⟨?_,a⟩;unfold frB;rw[AW h,<-a];have c:pN ((frT q b).length:Int)=Fi (frT q b).length:=by unfold pN;rw[AW (by omega),Af]
 rw[c]
theorem AJl{q q':Int}{a:List UInt8}(h:Pm q b)(j:Pm q' a)(Y:frB q b <+: d)(E:frB q' a <+: d):q=q'/\b=a:=by
 obtain⟨r,rfl⟩:=Y;have ⟨r',y⟩:=E;have ⟨L,H⟩:=uZ h;have ⟨B,c⟩:=uZ j;have hT:=PL h;have hT':=PL j;rw[L,B,<-H,<-c,BP,BP]at y;have O:=TT (w:=Fi (frT q b).length++(frT q b++r)) (pre:=[]) (i:=0) rfl rfl (by omega:(frT q b).length<=2147483647);have I:=TT (w:=Fi (frT q b).length++(frT q b++r)) (pre:=[]) (i:=0) (l:=frT q' a++r') (by rw[<-y];rfl) rfl (by omega:(frT q' a).length<=2147483647);rw[O]at I;have X:(frT q b).length=(frT q' a).length:=by have:=congrArg Prod.fst I;simp at this;omega
 rw[<-X]at y;have G:=List.append_cancel_left y;have e:=(D2 G (by omega)).1;rw[H,c]at e;have g:=(D2 e (by rw[HP,HP])).2;have S:=TT (w:=Fi q.toNat++b) (pre:=[]) (i:=0) rfl rfl (by have:=h.1;omega:q.toNat<=2147483647);have J:=TT (w:=Fi q.toNat++b) (pre:=[]) (i:=0) (l:=a) (by rw[<-g];rfl) rfl (by have:=j.1;omega:q'.toNat<=2147483647);rw[S]at J;have Z:q.toNat=q'.toNat:=by have:=congrArg Prod.fst J;simp at this;omega
 rw[<-Z]at g;have:=h.1;have:=j.1
 grind[List.append_cancel_left]
def ACe(d:List UInt8)(i:Int):B3×Bool:=
 open Classical in if h:∃x:Int×List UInt8,Pm x.1 x.2/\frB x.1 x.2 <+: d then (⟨h.choose.1,h.choose.2,i+(frB h.choose.1 h.choose.2).length⟩,true) else (⟨0,[],0⟩,false)
theorem AJm{q:Int}{i:Int}(h:Pm q b)(a:frB q b <+: d):ACe d i=(⟨q,b,i+(frB q b).length⟩,true):=by
 unfold ACe;have c:∃x:Int×List UInt8,Pm x.1 x.2/\frB x.1 x.2 <+: d:=⟨(q,b),h,a⟩
 grind[AJl]
theorem UZ{i:Int}(h:∀q b,Pm q b->¬frB q b <+: d):ACe d i=(⟨0,[],0⟩,false):=by
 grind[ACe]
theorem RX(d:List UInt8)(i:Int):(∃q b,Pm q b/\frB q b <+: d/\ACe d i=(⟨q,b,i+(frB q b).length⟩,true))\/((∀q b,Pm q b->¬frB q b <+: d)/\ACe d i=(⟨0,[],0⟩,false)):=by
 grind[Pm,frB,AJm,UZ]
def Pl(s:List UInt8)(i:Int):B3×Bool:=if 0<=i/\i<=s.length then ACe (s.drop i.toNat) i else (⟨0,[],0⟩,false)
@[simp] theorem Oa(a b:Int):gm a b=some (if a<b then a else b):=by
 unfold gm;rw[BW];split<;>rfl
theorem AEB{p:List UInt8}(h:p <+: d)(a:p.length<=n):p <+: d.take n:=by
 grind[List.take_append,List.take_of_length_le]
theorem cW(b:List UInt8):(b==[])=decide (b=[]):=by cases b<;>rfl
theorem yR(hs:s.length<2 ^ 62)(i:Int):AA8 s i=some (Pl s i):=by
 unfold AA8 Pl;rw[dW,AB,BM,BW];by_cases hi:0<=i/\i<=(s.length:Int)
 rotate_left
 .rw[AT hi,AT hi]
 rw[AW hi,AW hi,Oa,AB,A7 (by omega) (by omega)];generalize hx:(if (s.length:Int)<i+80 then (s.length:Int) else i+80)=x;have O:i<=x/\x<=(s.length:Int):=by split at hx<;>omega
 rw[CE ⟨hi.1,O⟩];unfold W4 gn gq;have hW:(s.drop i.toNat).take (x.toNat-i.toNat)=(s.drop i.toNat).take 80:=by
  split at hx
  .rw[BC (by rw[BH];omega),BC (by rw[BH];omega)]
  .congr 1;omega
 rw[hW];generalize hd:s.drop i.toNat=d at *;have hdl:d.length=s.length-i.toNat:=by rw[<-hd,BH]
 generalize J:d.take 80=w;have hwl:w.length<=80/\w.length<=d.length:=by rw[<-J,Ai];omega
 rw[PZ (by omega) _ (by omega),AB];have L:w <+: d:=by rw[<-J];exact H7 _ _
 rcases RX d i with ⟨q,b,c,hp,G⟩|⟨I,G⟩
 ·-- there is a frame
  have hl:=PJ c;have ⟨r,j⟩:=AEB (n:=80) hp (by omega);rw[J]at j;have ⟨y,B⟩:=uZ c;have hT:=PL c;have hq:=c.1;have S:gN w 0=(((frT q b).length:Int),(((Fi (frT q b).length).length:Nat):Int),true):=by
   rw[TT (w:=w) (i:=0) (pre:=[]) (n:=(frT q b).length) (l:=frT q b++r) (by rw[<-j,y,<-B];simp) (by simp) (by omega)];simp
  have hm:=Ko (n:=(frT q b).length) (by omega);have hfl:(frB q b).length=(Fi (frT q b).length).length+(frT q b).length:=by rw[y,<-B,AJ]
  have hwl2:w.length=(frB q b).length+r.length:=by rw[<-j,AJ]
  generalize hM:(Fi (frT q b).length).length=M at *;generalize hN:(frT q b).length=N at *;have hN2:N=4+(Fi q.toNat).length+b.length:=by rw[<-hN,B];simp[HP];omega
  rw[S];dsimp only;rw[BM,BT,A7 (n:=(w.length:Int)-M) (by omega) (by omega),BW,AT (by omega),decide_eq_false (by omega),AV,Bd,A7 (n:=(M:Int)+4) (by omega) (by omega)];have X:gN w ((M:Int)+4)=(q,((M+4+(Fi q.toNat).length:Nat):Int),true):=by
   rw[TT (pre:=Fi N++four ((Kk (pN q++b):Nat):Int)) (n:=q.toNat) (l:=b++r) (by rw[<-j,y];simp) (by simp[HP,hM]) (by omega)];simp[HP,hM];omega
  rw[PZ (by omega) _ (by omega),AB,X];dsimp only;rw[BM,BT,A7 (n:=(M:Int)+N) (by omega) (by omega),decide_eq_false (by omega),AV,Bd,CE (by omega),CE (by omega)];have hb:((w.drop ((M+4+(Fi q.toNat).length:Nat):Int).toNat).take (((M:Int)+N).toNat-((M+4+(Fi q.toNat).length:Nat):Int).toNat))=b:=by
   have e3:w=(Fi N++four ((Kk (pN q++b):Nat):Int)++Fi q.toNat)++(b++r):=by rw[<-j,y];simp
   rw[Af,e3,Cr (by simp[HP,hM];omega),Ca (by omega)]
  have hf:((w.drop 0).take (((M:Int)+N).toNat-0))=frB q b:=by
   rw[Co,<-j,Ca (by omega)]
  rw[hb,hf,SA,AB];have g:(frB q b != frB q b)=false:=by simp
  have E:(b==[])=false:=by rw[cW];have:=c.2;cases b<;>simp at this ⊢
  rw[g,Bd,AV,E,Bd,G];have hfw:(((Fi N).length:Nat):Int)=M:=by omega
  simp only[AD,A5,and_true,B3.mk.injEq,true_and];rw[A7 (n:=i+M) (by omega) (by omega),A7 (by omega) (by omega)];omega
 ·-- there is none
  rw[G];rcases hg:gN w 0 with ⟨n,m,ok⟩;cases ok with
  |false=>dsimp only;simp only[BM,Bd,BT,AV]|true=>
   have ⟨n',l,h1,h2,h3,h4,h5,h6⟩:=ub hg;have hn5:=Ko h6;have hwlen:w.length=(Fi n').length+l.length:=by have:=congrArg List.length h3;simpa using this
   dsimp only;rw[BM,BT,A7 (n:=(w.length:Int)-m) (by omega) (by omega),BW];by_cases Y:n>(w.length:Int)-m
   .rw[AW Y];simp only[BT,AV]
   rw[AT Y,AV,BW];by_cases Z:n<5
   .rw[AW Z]
   rw[AT Z,A7 (n:=m+4) (by omega) (by omega),PZ (by omega) _ (by omega),AB];rcases H:gN w (m+4) with ⟨q,k,ok⟩;cases ok with
   |false=>dsimp only;simp only[BM,Bd,BT,AV]|true=>
    have ⟨q',l',S,X,g3,g4,g5,g6⟩:=ub H;dsimp only;rw[BM,BT,A7 (n:=m+n) (by omega) (by omega),AV,BW];by_cases h9:k>m+n
    .rw[AW h9]
    rw[AT h9,CE (by omega),CE (by omega),SA,AB,tK,Co,FU];generalize hbb:List.take ((m+n).toNat-k.toNat) (List.drop k.toNat w)=bb;by_cases e:frB q bb=List.take (m+n).toNat w
    .rw[AW e];exfalso;have g:frB q bb≠[]:=by
      rw[e];intro h;have:=congrArg List.length h;rw[Ai]at this;simp only[AM]at this;omega
     exact I q bb (AOz g) (by rw[e];exact(H7 _ _).trans L)
    .rw[AT e];simp only[BT,AV]
theorem wW(hs:s.length<2 ^ 62)(i:Int)(hi':i<2 ^ 62):ABB s i=some (Pl s i):=by
 unfold ABB Pl NL;rw[Q9,AB,AB,A7 (n:=(s.length:Int)-1) (by omega) (by omega),BM,BW];by_cases hi:0<=i/\i<=(s.length:Int)
 rotate_left
 .rw[AT (by omega),AT hi]
 rw[AW hi];by_cases hi2:i=(s.length:Int)
 .rw[AT (by omega)];congr 1;rw[UZ];intro q b E Z;have J:=PJ E;have:=Z.length_le;rw[BH]at this;omega
 rw[AW (by omega)];simp only[BI,if_false];rw[A7 (n:=i+5) (by omega) (by omega)];generalize hx:(if i+5<(s.length:Int) then i+5 else (s.length:Int))=x;have S:i<=x/\x<=(s.length:Int):=by split at hx<;>omega
 rw[CE ⟨hi.1,S⟩];unfold W5 gx;have hW:(s.drop i.toNat).take (x.toNat-i.toNat)=(s.drop i.toNat).take 5:=by
  split at hx
  .congr 1;omega
  .rw[BC (by rw[BH];omega),BC (by rw[BH];omega)]
 rw[hW];generalize hd:s.drop i.toNat=d at *;have hdl:d.length=s.length-i.toNat:=by rw[<-hd,BH]
 generalize hw:d.take 5=w;have hwl:w.length<=5/\w.length<=d.length:=by rw[<-hw,Ai];omega
 rw[PO (by omega),AB];have h:∀m:Int,0<=m->i+m<=s.length->s.drop (i+m).toNat=d.drop m.toNat:=by
  intro m h0 E;rw[<-hd,C1];congr 1;omega
 rcases RX d i with ⟨q,b,c,hp,H⟩|⟨O,H⟩
 ·-- there is a frame
  have J:=PJ c;have ⟨r,y⟩:=hp;have ⟨B,e⟩:=uZ c;have hT:=PL c;have hq:=c.1;have hm:=Ko (n:=(frT q b).length) (by omega);have X:gN w 0=(((frT q b).length:Int),(((Fi (frT q b).length).length:Nat):Int),true):=by
   rw[TT (w:=w) (i:=0) (pre:=[]) (n:=(frT q b).length) (l:=(frT q b++r).take (5-(Fi (frT q b).length).length)) (by
    rw[<-hw,<-y,B,<-e,BP,List.take_append,BC hm];rfl) (by simp) (by omega)];simp
  have hfl:(frB q b).length=(Fi (frT q b).length).length+(frT q b).length:=by rw[B,<-e,AJ]
  have hdl2:d.length=(frB q b).length+r.length:=by rw[<-y,AJ]
  generalize hM:(Fi (frT q b).length).length=M at *;generalize hN:(frT q b).length=N at *;have hN2:N=4+(Fi q.toNat).length+b.length:=by rw[<-hN,e];simp[HP];omega
  rw[X];dsimp only;rw[BM,BT,BW,AT (by omega),A7 (n:=(s.length:Int)-i) (by omega) (by omega),A7 (n:=(s.length:Int)-i-M) (by omega) (by omega),decide_eq_false (by omega),AV,Bd];rw[A7 (n:=i+M) (by omega) (by omega),A7 (n:=i+M+N) (by omega) (by omega),CE (by omega),h _ (by omega) (by omega),Af];have hT2:(d.drop M).take ((i+M+N).toNat-(i+M).toNat)=frT q b:=by
   rw[<-y,B,<-e,BP,Cr hM,Ca (by omega)]
  rw[hT2];have Y:gN (frT q b) 4=(q,((4+(Fi q.toNat).length:Nat):Int),true):=by
   rw[TT (pre:=four ((Kk (pN q++b):Nat):Int)) (n:=q.toNat) (l:=b) e (by simp[HP]) (by omega)];simp[HP];omega
  rw[PO (by omega),AB,Y];dsimp only;rw[BM,BT,CE (by omega)];have hb:((frT q b).drop ((4+(Fi q.toNat).length:Nat):Int).toNat).take ((frT q b).length-((4+(Fi q.toNat).length:Nat):Int).toNat)=b:=by
   rw[Af,hN,e,<-BP,Cr (by simp[HP]),BC (by omega)]
  have hf:((d).take ((i+M+N).toNat-i.toNat))=frB q b:=by
   rw[<-y,Ca (by omega)]
  rw[hb,Xs,AB];have L:(frB q b==[])=false:=by rw[cW];cases hh:frB q b with|nil=>rw[hh]at J;simp at J|cons=>rfl
  rw[L,Bd,CE (by omega),hf,AV];have j:(frB q b != frB q b)=false:=by simp
  rw[j,Bd,H];simp only[AD,A5,and_true,B3.mk.injEq,true_and];omega
 ·-- there is none
  rw[H];rcases hg:gN w 0 with ⟨n,m,ok⟩;cases ok with
  |false=>dsimp only;simp only[BM,Bd,BT,AV]|true=>
   have ⟨n',l,E,Z,h3,h4,h5,h6⟩:=ub hg;have hn5:=Ko h6;have hwlen:w.length=(Fi n').length+l.length:=by have:=congrArg List.length h3;simpa using this
   dsimp only;rw[BM,BT,BW];by_cases h7:n<6
   .rw[AW h7];simp only[BT,AV]
   rw[AT h7,A7 (n:=(s.length:Int)-i) (by omega) (by omega),A7 (n:=(s.length:Int)-i-m) (by omega) (by omega),AV,BW];by_cases h8:n>(s.length:Int)-i-m
   .rw[AW h8]
   rw[AT h8,A7 (n:=i+m) (by omega) (by omega),A7 (n:=i+m+n) (by omega) (by omega),CE (by omega),h _ (by omega) (by omega)];generalize ht:(d.drop m.toNat).take ((i+m+n).toNat-(i+m).toNat)=t;have htl:t.length<=s.length:=by rw[<-ht,Ai,BH];omega
   rw[PO (by omega),AB];rcases I:gN t 4 with ⟨q,k,ok⟩;cases ok with
   |false=>dsimp only;simp only[BM,Bd,BT,AV]|true=>
    have ⟨q',l',X,Y,g3,g4,g5,g6⟩:=ub I;have hkl:k<=t.length:=by
     have:=congrArg List.length g3;rw[BH,AJ]at this;omega
    dsimp only;rw[BM,BT,CE (by omega),Xs,AB];generalize hbb:List.take (t.length-k.toNat) (List.drop k.toNat t)=bb;rw[cW,BW];by_cases G:frB q bb=[]
    .rw[AW G];simp only[BT,AV]
    rw[AT G,CE (by omega),AV,tK];by_cases g:frB q bb=List.take ((i+m+n).toNat-i.toNat) d
    .exfalso;exact O q bb (AOz G) (by rw[g];exact H7 _ _)
    .rw[AT g]
theorem rH{i:Int}(h:(Pl s i).2=true):0<=i/\i+7<=(Pl s i).1.Next/\(Pl s i).1.Next<=s.length:=by
 unfold Pl at h ⊢;split at h
 .rename_i hi;rw[AW hi];rcases RX (s.drop i.toNat) i with ⟨q,b,c,j,a⟩|⟨g,a⟩
  .rw[a];have:=PJ c;have e:=j.length_le;rw[BH]at e;dsimp only;omega
  .rw[a]at h;simp at h
 .simp at h
def frs:Nat->List UInt8->Int->List B3|0,_,_=>[]|f+1,s,i=>if (Pl s i).2=true then (Pl s i).1::frs f s (Pl s i).1.Next else []
def EF(s:List UInt8):List B3:=frs (s.length+1) s 0
theorem ua{s:List UInt8}(q:s.length<=1048576){G:Int->AA (B3×Bool)}(hG:∀i:Int,0<=i->i<=s.length->G i=some (Pl s i)){F:(List B3×Int->AA (List B3))->List B3×Int->AA (List B3)}
 (hF:∀L acc i,F L (acc,i)=bd (G i) λx=>br (!x.2) (some acc) (gd (acc.length+[x.1].length<=lim) (L (acc++[x.1],x.1.Next)))) :
 ∀(f n:Nat) (acc:List B3) (i:Int),0<=i->i<=s.length->s.length<f+i->f<=n->(acc.length:Int)<=i->BE F n (acc,i)=some (acc++frs f s i)
 |0,n,acc,i,a,c,e,g,h=>by omega|f+1,0,acc,i,a,c,e,g,h=>by omega|f+1,n+1,acc,i,a,c,e,g,h=>by
  rw[Di,hF,hG i a c,AB,BM];unfold frs;cases y:(Pl s i).2 with
  |false=>simp|true=>
   have j:=rH y;rw[BT,CE (by simp only[AI,AM];unfold lim;omega),AW rfl];rw[ua q hG hF f n _ _ (by omega) j.2.2 (by omega) (by omega) (by rw[AJ,AI,AM];omega)];simp
theorem T4(a:s.length<=1048576):pw s=some (EF s):=by
 unfold pw EF;have:=ua a (G:=AA8 s) (F:=gv s) (λi _ _=>yR (by omega) i) (λL acc i=>by unfold gv;rfl) (s.length+1) big [] 0 (by omega) (by omega) (by omega) (by have:=Mz;omega) (by simp);rw[this];simp
theorem Tb(a:s.length<=1048576):px s=some (EF s):=by
 unfold px EF;have:=ua a (G:=ABB s) (F:=gy s) (λi _ _=>wW (by omega) i (by omega)) (λL acc i=>by unfold gy;rfl) (s.length+1) big [] 0 (by omega) (by omega) (by omega) (by have:=Mz;omega) (by simp);rw[this];simp
theorem AJn:∀(f:Nat) (s:List UInt8) (i:Int),0<=i->i<=s.length->((frs f s i).length:Int)<=s.length-i
 |0,s,i,a,h=>by simp[frs];omega|f+1,s,i,a,h=>by
  unfold frs;split
  .rename_i e;have c:=rH e;have:=AJn f s (Pl s i).1.Next (by omega) c.2.2;rw[AI];omega
  .simp;omega
theorem Lt(s:List UInt8):(EF s).length<=s.length:=by
 have:=AJn (s.length+1) s 0 (by omega) (by omega);unfold EF;omega
def WG(p:Int):Int->List B3->Int|r,[]=>r|r,f::l=>if f.Seq<=p then WG p f.Next l else r
theorem No(c:x.Log.Data.length<=1048576)(p:Int):AIE x p=some (WG p 0 (EF x.Log.Data)):=by
 unfold AIE;rw[T4 c,AB];have g:=Lt x.Log.Data;generalize EF x.Log.Data=l at *;refine DI (n:=l.length) (λi (v:Int)=>(v,(i:Int))) (λ_ _=>True) (λi v=>some (WG p v (l.drop i))) (by omega) ?_ trivial;intro L i v _ hi e;unfold ABA gw AA9;dsimp only;simp only[dec_lt,AV];rcases Aa i l.length with h|h
 .rw[decide_eq_true h,BT,BQ h,AB,AB,AB,AB,BW,B1 h (by omega),Dl h];unfold WG;by_cases a:l[i].Seq<=p
  .rw[AW a,AW a,e _ trivial h]
  .rw[AT a,AT a]
 .rw[decide_eq_false (by omega),Bd,Bd,A1 h];rfl
theorem wu(c:x.Log.Data.length<=1048576)(p:Int):AIF x p=some (WG p 0 (EF x.Log.Data)):=by
 unfold AIF;rw[Tb c,AB];have g:=Lt x.Log.Data;generalize EF x.Log.Data=l at *;refine DI (n:=l.length) (λi (v:Int)=>(v,(i:Int))) (λ_ _=>True) (λi v=>some (WG p v (l.drop i))) (by omega) ?_ trivial;intro L i v _ hi e;unfold ABC gz;dsimp only;simp only[dec_lt,AV];rcases Aa i l.length with h|h
 .rw[decide_eq_true h,BT,BQ h,AB,AB,BW,B1 h (by omega),Dl h];unfold WG;by_cases a:l[i].Seq<=p
  .rw[AT (by omega),AW a,e _ trivial h]
  .rw[AW (by omega),AT a]
 .rw[decide_eq_false (by omega),Bd,A1 h];rfl
theorem AVx(q:Int):frB q []=[]:=by unfold frB;rw[AT (λh=>by have:=h.2.1;simp at this)]
theorem AD4(n:Int)(q:Bp):AAu n q=some (frB n (FR q)):=by
 unfold AAu;rw[VL,AB,cW,BW];split
 .rename_i h;rw[h,AVx]
 .rw[SA,AB]
theorem AXz(q:Int)(b:List UInt8):(frB q b).length<=74:=by
 by_cases h:Pm q b
 .exact(PJ h).2
 .unfold frB;rw[AT h];simp
theorem AYu{l:List A0}(a:l.length<=1048576):uD l=some l:=T7 (by unfold lim;omega)
theorem ze{F:(Int×A2->AA A2)->Int×A2->AA A2}(c:DY w)
 (step:∀L i (h:i<w.Au.length) (v:A2),v.Au.length=i->F L ((i:Int),v)=L (w64 ((i:Int)+1),⟨v.Au++[w.Au[i]]⟩)) (stop:∀L v,F L ((w.Au.length:Int),v)=some v):BE F big (0,⟨[]⟩)=some w:=by
 have e:=c.1;refine DI (n:=w.Au.length) (λi (v:A2)=>((i:Int),v)) (λi v=>v=⟨w.Au.take i⟩) (λ_ _=>some w) (by omega) ?_ (v:=⟨[]⟩) (by simp);intro L i v a hi g;rcases Aa i w.Au.length with h|h
 .rw[step L i h v (by rw[a];simp;omega),B1 h (by omega)]
  grind[List.take_add_one]
 .obtain rfl:i=w.Au.length:=by omega
  rw[stop,a,CO]
theorem UJ(a:DY w):gK w=some w:=by
 have hlim:lim=268435456:=rfl;have c:=a.1;have e:=a.2
 grind[gK,ze,MO,AAp,BT,BQ,AB,CE,AAo,Bd,AV]
theorem UI(a:DY w):gV w=some w:=by
 have hlim:lim=268435456:=rfl;have c:=a.1;have e:=a.2
 grind[gV,ze,MO,AAw,BT,BQ,AB,CE,AAv,Bd,AV]
theorem AK2(a:FP c):AH5 c=some c:=by
 unfold AH5;rw[AYu a.1,AB,UJ a.2,AB]
theorem AK1(a:FP c):AH7 c=some c:=by
 unfold AH7 W0;have:=a.1;rw[CE (by unfold lim;omega),AB,UI a.2,AB]
theorem WX{l:List Int}(a:l.length<=1048576):K0 l=some l:=by
 unfold K0;rw[CE (by unfold lim;omega)]
theorem zd{F:(Int×AE->AA AE)->Int×AE->AA AE}(e:Br h)
 (step:∀L i (hi:i<h.AH.length) (v:AE),v.AH.length=i->F L ((i:Int),v)=L (w64 ((i:Int)+1),⟨v.AQ,v.Now,v.A4,v.AG,v.AH++[h.AH[i]],v.BD,v.BB⟩)) (stop:∀L v,F L ((h.AH.length:Int),v)=some v):BE F big (0,⟨h.AQ,h.Now,h.A4,h.AG,[],h.BD,h.BB⟩)=some h:=by
 have g:=e.Dt;refine DI (n:=h.AH.length) (λi (v:AE)=>((i:Int),v)) (λi v=>v=⟨h.AQ,h.Now,h.A4,h.AG,h.AH.take i,h.BD,h.BB⟩) (λ_ _=>some h) (by omega) ?_ (v:=⟨h.AQ,h.Now,h.A4,h.AG,[],h.BD,h.BB⟩) (by simp);intro L i v c hi j;rcases Aa i h.AH.length with a|a
 .rw[step L i a v (by rw[c];simp;omega),B1 a (by omega)]
  grind[List.take_add_one]
 .obtain rfl:i=h.AH.length:=by omega
  rw[stop,c,CO]
theorem H9(a:Br h):OL h=some h:=by
 have hlim:lim=268435456:=rfl;have c:=a.EA;have p1:=a.CP;have p2:=a.todo;have p3:=a.F8;have p4:=a.Dt;have e:0+h.AG.length<=lim:=by omega
 have g:0+h.BD.length<=lim:=by omega
 have j:0+h.BB.length<=lim:=by omega
 unfold OL;simp only[rb c,AB,CE e,CE g,CE j,AHD,Bb,Ns,K5,DR,Cb,AAq,Mg,AAr,gM,DF,pM,QQ,ZA,Nu,Nv,pP,pO,gO,pR,ZB,ZD,ZC,ZE,pU,pS,pQ,Iq,pX,ZF,ZH,ZG,ZI,pZ,pY,pW,US,ZJ,ZK,pe,pd,pc,pj,ZL,ph,pg,pq,pn,pk,pf,pb,pV];refine zd a ?_ ?_
 .intro L i hi v q;unfold ZM;dsimp only;rw[CF hi,BT,BQ hi,AB,AK2 (a.EN _ (Ao hi)),AB,CE (by rw[Nf];omega)]
 grind[ZM,pt,Bd,AV]
theorem HM(a:Br h):OM h=some h:=by
 have hlim:lim=268435456:=rfl;have c:=a.EA;have p1:=a.CP;have p2:=a.todo;have p3:=a.F8;have p4:=a.Dt;have e:0+h.AG.length<=lim:=by omega
 unfold OM;simp only[ra c,AB,CE e,WX p2,WX p3,Cp,Lk,Ll,Lm,Lo,K5,Lp,Lq,Ns,Jo,MV,Pb,SJ,WH];refine zd a ?_ ?_
 .intro L i hi v g;unfold gW;dsimp only;rw[CF hi,BT,BQ hi,AB,AK1 (a.EN _ (Ao hi)),AB,CE (by rw[Nf];omega)]
 grind[gW,AAx,Bd,AV]
theorem G5(a:Ch e):U3 e=some e:=by
 have hlim:lim=268435456:=rfl;have:=a.laid;have g:0+e.Laid.length<=lim:=by omega
 unfold U3;simp only[H9 a.D9,AB,CE g,Cp,Lk,Ll,Lm,Lo,K5,Lp,Lq,Ns,Jo,MV,Pb,SJ,WH,Bb]
theorem eJ(a:Ch e):AAV e=some e:=by
 have hlim:lim=268435456:=rfl;have:=a.laid;unfold AAV;rw[HM a.D9,AB,CE (by omega)]
def Ez(a:B4)(s:List UInt8):B4×Bool:=if Ec a=true/\(a.Data.length:Int)+s.length<=20000 then (⟨a.Data++s,a.Safe⟩,true) else (a,false)
theorem Db{a:B4}:Ec a=true↔(a.Data.length:Int)<=20000/\0<=a.Safe/\a.Safe<=a.Data.length:=by
 grind[Ec,B8]
theorem Mv{a:B4}(c:s.length<=4000):gQ a s=some (Ez a s):=by
 grind[P1,gQ,gT,Ez,IJ,AB,BM,AV,Ec,A7,CE,BW]
theorem ACp{a:B4}(c:a.Data.length<=1048576)(e:s.length<=4000):AHu a s=some (Ez a s):=by
 grind[P1,AHu,fy,Ez,CE,FZ,AB,AV,BT,Db,Bd]
def K8(e:A6)(q:Bp):A6×Int:=
 if C8 e=false then (e,21) else if KF q=false then (e,22) else if e.Seq=1000000 then (e,23) else if e.Laid.length=8\/(Ez e.An.Log (frB (w64 (e.Seq+1)) (FR q))).2=false then (e,24)
 else (⟨e.Av,⟨(Ez e.An.Log (frB (w64 (e.Seq+1)) (FR q))).1,e.An.Eo,e.An.Odd⟩,w64 (e.Seq+1),e.Laid++[q]⟩,0)
theorem AUc{e:A6}(a:Ch e)(q:Bp):AH6 e q=some (K8 e q):=by
 have hlim:lim=268435456:=rfl;have g:=a.laid;have c:=AXz (w64 (e.Seq+1)) (FR q);unfold AH6 K8;simp only[G5 a,FN a,nG,AD4,Mv (Aw c (by omega):(frB (w64 (e.Seq+1)) (FR q)).length<=4000),AB,Cp,Lk,Ll,Lm,Lo,K5,Lp,Lq,Ns,Jo,MV,Pb,SJ,WH,BM,AV];unfold gU;rw[BM,BT,CE (by rw[Nf];omega)];cases C8 e with
 |false=>rfl|true=>
  cases KF q with
  |false=>rfl|true=>
   simp only[BT,Bw,beq_iff_eq]
   grind
theorem EV(h:C8 e=true):C9 e.Av=true/\Fq e.An=true/\e.Laid.length<=8/\((e.Laid.length:Int)<=e.Seq/\e.Seq<=1000000)/\e.Laid.all KF=true:=by
 grind[C8,B8]
theorem ag{a:B4}(c:a.Data.length<=1048576):(Ez a s).1.Data.length<=1048576:=by
 grind[Ez]
theorem AC0(a:Ch e)(q:Bp):Ch (K8 e q).1:=by
 unfold K8;split
 .exact a
 .rename_i c;rw[Er]at c;have g:=EV c;split
  .exact a
  .split
   .exact a
   .split
    .exact a
    .exact⟨a.D9,ag a.log,a.even,a.odd,by dsimp only;rw[AJ,Bk];omega⟩
end Lv.P
