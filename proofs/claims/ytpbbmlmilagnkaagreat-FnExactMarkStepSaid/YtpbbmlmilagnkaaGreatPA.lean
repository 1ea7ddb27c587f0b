/- Plain laws about what the program computes. -/
import Derived.Test.YtpbbmlmilagnkaaGreatKC
set_option linter.unusedVariables false
set_option linter.unusedSimpArgs false
set_option linter.unusedSectionVars false
open Bool renaming and_eq_true->AD,and_false->CW,and_true->B9,false_and->BJ,false_eq_true->A7,not_not->Cq,not_true->Bm,true_and->FG
open Int renaming toNat_natCast->AU
open List renaming append_nil->Hr,cons_append->Dh,drop_length->Di,foldl_cons->BV,foldr_cons->Hs,getElem?_eq_getElem->Ad,mem_cons->Af,mem_cons_self->BZ,nil_append->B1,pairwise_cons->BI,take_add_one->By,take_of_length_le->As
open List.cons renaming injEq->B0
open Nat renaming add_sub_cancel->CF,lt_or_ge->AY,sub_self->DD
namespace Lv.P
open Go (IntKind BinOp UnOp)
theorem R4{n:Int}(h1:-9223372036854775808<=n)(h2:n<9223372036854775808):IntKind.i64.wrap n=n:=by
 simp only[IntKind.wrap,IntKind.bits,IntKind.signed];simp;omega
theorem Ao{n:Int}(h1:-9223372036854775808<=n)(h2:n<9223372036854775808):w64 n=n:=R4 h1 h2
theorem AHj{n:Int}(h1:0<=n)(h2:n<256):IntKind.u8.wrap n=n:=by
 simp only[IntKind.wrap,IntKind.bits,IntKind.signed];simp;omega
theorem AAQ{n:Nat}(h:n<256):toB (n:Int)=UInt8.ofNat n:=by
 unfold toB;rw[AHj (by omega) (by omega)];rfl
@[simp] theorem Fg{α:Type}(l:List α)(i:Nat):at? l (i:Int)=l[i]?:=by simp[at?]
@[simp] theorem ALZ{α:Type}(l:List α):at? l 0=l[0]?:=by simp[at?]
theorem HQ(k:Nat)(h:k<2 ^ 64):k<big:=by have:=MK;omega
theorem NL(k:Nat)(h:k<2 ^ 64):∃n,big=n+1+k:=⟨big-1-k,by have:=MK;omega⟩
section
variable{σ γ:Type}
theorem n0{F:(σ->AA γ)->σ->AA γ}(R:σ->AA γ)(I:σ->Prop)(μ:σ->Nat)
 (step:∀(L:σ->AA γ) x,I x->(∀y,I y->μ y<μ x->L y=R y)->F L x=R x):∀n x,I x->μ x<n->Aw F n x=R x
 |0,x,_,h=>by omega|n+1,x,hI,hn=>by
  rw[DF];exact step _ x hI fun y hy hm=>n0 R I μ step n y hy (by omega)
theorem ABB{F:(σ->AA γ)->σ->AA γ}(R:σ->AA γ)(I:σ->Prop)(μ:σ->Nat)
 (step:∀(L:σ->AA γ) x,I x->(∀y,I y->μ y<μ x->L y=R y)->F L x=R x) {x:σ} (hI:I x) (hm:μ x<2 ^ 64):Aw F big x=R x:=
 n0 R I μ step big x hI (HQ _ hm)
end
section
variable{α γ:Type}
@[simp] theorem BL(x y:AA γ):br true x y=x:=rfl
@[simp] theorem BN(x y:AA γ):br false x y=y:=rfl
@[simp] theorem BD(p:Prop) [Decidable p] (x y:AA γ):br (decide p) x y=if p then x else y:=by unfold br;by_cases h:p<;>simp[h]
@[simp] theorem BB(b:Bool)(x y:AA γ):br (!b) x y=br b y x:=by cases b<;>rfl
@[simp] theorem AE(a:α)(f:α->AA γ):bd (some a) f=f a:=by rw[pz];rfl
@[simp] theorem AH0(f:α->AA γ):bd none f=none:=by rw[pz];rfl
@[simp] theorem AS(F:α->AA γ)(x:α):jn F x=F x:=AE7 F x
theorem CG{p:Prop} [Decidable p] (h:p) (x:AA γ):gd p x=x:=by rw[AEF,if_pos h]
theorem GM(b:Bool)(x y:AA γ):br b x y=if b=true then x else y:=rfl
end
theorem Da{τ σ γ:Type}{F:(τ->AA γ)->τ->AA γ}(st:Nat->σ->τ)(I:Nat->σ->Prop)(R:Nat->σ->AA γ){n:Nat}(hn:n<2 ^ 63)
 (step:∀L i v,I i v->i<=n->(∀v',I (i+1) v'->i<n->L (st (i+1) v')=R (i+1) v')->F L (st i v)=R i v) {v:σ} (h0:I 0 v):Aw F big (st 0 v)=R 0 v:=by
 have key:∀(m i k:Nat) (v:σ),i+m=n->m<k->I i v->Aw F k (st i v)=R i v:=by
  intro m
  induction m with
  |zero=>
   intro i k v hi hk h;obtain⟨k,rfl⟩:∃j,k=j+1:=⟨k-1,by omega⟩;rw[DF];exact step _ i v h (by omega) fun v' _ h3=>by omega
  |succ m ih=>
   intro i k v hi hk h;obtain⟨k,rfl⟩:∃j,k=j+1:=⟨k-1,by omega⟩;rw[DF];exact step _ i v h (by omega) fun v' h2 h3=>ih (i+1) k v' (by omega) (by omega) h2
 exact key n 0 big v (by omega) (HQ _ (by omega)) h0
theorem BK{α:Type}{l:List α}{i:Nat}(h:i<l.length):at? l (i:Int)=some l[i]:=by rw[Fg,Ad h]
theorem dec_lt{l:Nat}{i:Nat}:decide ((i:Int)<(l:Int))=decide (i<l):=by rw[decide_eq_decide];omega
theorem Bc{i n:Nat}(h:i<n)(hn:n<2 ^ 63):w64 ((i:Int)+1)=((i+1:Nat):Int):=by rw[Ao (by omega) (by omega)];rfl
theorem J6{α:Type}{l:List α}{z:α}{F:(List α×Int->AA (List α))->List α×Int->AA (List α)}(hl:l.length<2 ^ 63)
 (step:∀L v (i:Nat),v.length=l.length->(hi:i<l.length)->F L (v,(i:Int))=L (v.set i l[i],((i+1:Nat):Int))) (stop:∀L v,F L (v,(l.length:Int))=some v) :
 Aw F big (List.replicate l.length z,0)=some l:=by
 have:=Da (F:=F) (n:=l.length) (fun i v=>(v,(i:Int))) (fun i v=>v.length=l.length/\v.take i=l.take i) (fun _ _=>some l) hl ?_ (v:=List.replicate l.length z) ⟨by simp,by simp⟩
 .exact this
 .rintro L i v ⟨h1,h2⟩ hi ih;rcases AY i l.length with h|h
  .rw[step L v i h1 h];refine ih _ ⟨by simpa using h1,?_⟩ h;rw[By,By,List.take_set_of_le (by omega),h2];simp[h,h1]
  .obtain rfl:i=l.length:=by omega
   rw[stop];rw[As (by omega),As (by omega)]at h2;rw[h2]
theorem AHr{n:Nat}{F:(Int->AA Bool)->Int->AA Bool}(hl:n<2 ^ 63)
 (step:∀L (i:Nat),i<n->F L (i:Int)=L ((i+1:Nat):Int)) (stop:∀L,F L (n:Int)=some true):Aw F big 0=some true:=by
 have:=Da (F:=F) (n:=n) (fun i (_:Unit)=>(i:Int)) (fun _ _=>True) (fun _ _=>some true) hl ?_ (v:=()) trivial
 .exact this
 .intro L i v _ hi ih;rcases AY i n with h|h
  .rw[step L i h];exact ih () trivial h
  .obtain rfl:i=n:=by omega
   exact stop L
theorem Dt{α:Type}{l:List α}{i:Nat}(h:i<l.length):l.drop i=l[i]::l.drop (i+1):=List.drop_eq_getElem_cons h
theorem IX{σ γ:Type}{F:(σ->AA γ)->σ->AA γ}(I:σ->Prop)(μ:σ->Nat)(Q:γ->Prop)
 (step:∀(L:σ->AA γ) x,I x->(∀y,I y->μ y<μ x->∃r,L y=some r/\Q r)->∃r,F L x=some r/\Q r):∀n x,I x->μ x<n->∃r,Aw F n x=some r/\Q r
 |0,x,_,h=>by omega|n+1,x,hI,hn=>by
  rw[DF];exact step _ x hI fun y hy hm=>IX I μ Q step n y hy (by omega)
theorem Ts{τ σ γ:Type}{F:(τ->AA γ)->τ->AA γ}(st:Nat->σ->τ)(I:Nat->σ->Prop)(Q:γ->Prop){n:Nat}(hn:n<2 ^ 63)
 (step:∀L i v,I i v->i<=n->(∀v',I (i+1) v'->i<n->∃r,L (st (i+1) v')=some r/\Q r)->∃r,F L (st i v)=some r/\Q r) {v:σ} (h0:I 0 v):∃r,Aw F big (st 0 v)=some r/\Q r:=by
 have key:∀(m i k:Nat) (v:σ),i+m=n->m<k->I i v->∃r,Aw F k (st i v)=some r/\Q r:=by
  intro m
  induction m with
  |zero=>
   intro i k v hi hk h;obtain⟨k,rfl⟩:∃j,k=j+1:=⟨k-1,by omega⟩;rw[DF];exact step _ i v h (by omega) fun v' _ h3=>by omega
  |succ m ih=>
   intro i k v hi hk h;obtain⟨k,rfl⟩:∃j,k=j+1:=⟨k-1,by omega⟩;rw[DF];exact step _ i v h (by omega) fun v' h2 h3=>ih (i+1) k v' (by omega) (by omega) h2
 exact key n 0 big v (by omega) (HQ _ (by omega)) h0
def inB(a b c:Int):Bool:=decide (b<=a/\a<=c)
theorem Du{a b c:Int}:inB a b c=true↔b<=a/\a<=c:=by grind[inB]
theorem Gt(a b c:Int):D9 a b c=some (inB a b c):=by
 grind[D9,UP,inB,BD,AS]
theorem Gj(a b c:Int):Cy a b c=some (inB a b c):=by
 grind[Cy,QJ,inB,BD,AS]
theorem bf(a b:Int):Mz a b=some (inB a 0 (w64 (b-1))):=by unfold Mz;rw[Gj,AE]
theorem CS(a b:Bool):br a (some b) (some false)=some (a&&b):=by cases a<;>rfl
theorem wa(a b:Bool):br a (some true) (some b)=some (a||b):=by cases a<;>rfl
theorem Fh(a b:Bool):br a (some false) (some b)=some (!a&&b):=by cases a<;>rfl
theorem wg{γ:Type}(a:Bool)(x:AA γ):br a x x=x:=by cases a<;>rfl
def Gl(p:Nat->Bool):Nat->Nat->Bool|_,0=>true|i,m+1=>p i&&Gl p (i+1) m
theorem oV{p:Nat->Bool}:∀{m i:Nat},Gl p i m=true↔∀k,i<=k->k<i+m->p k=true
 |0,i=>by simp[Gl];omega|m+1,i=>by
  unfold Gl;rw[AD,oV]
  grind
theorem KL{p:Nat->Bool}{n:Nat}:Gl p 0 n=true↔∀k,k<n->p k=true:=by
 grind[oV]
theorem HS{n:Nat}{F:(Int->AA Bool)->Int->AA Bool}{E:AA Bool}(p:Nat->Bool)(hn:n<2 ^ 63)
 (step:∀L (i:Nat),i<n->F L (i:Int)=br (p i) (L ((i+1:Nat):Int)) (some false)) (stop:∀L,F L (n:Int)=E):Aw F big 0=br (Gl p 0 n) E (some false):=by
 have:=Da (F:=F) (n:=n) (fun i (_:Unit)=>(i:Int)) (fun _ _=>True) (fun i _=>br (Gl p i (n-i)) E (some false)) hn ?_ (v:=()) trivial
 .exact this
 .intro L i v _ hi ih;rcases AY i n with h|h
  .rw[step L i h,ih () trivial h,show n-i=(n-(i+1))+1 by omega,show Gl p i (n-(i+1)+1)=(p i&&Gl p (i+1) (n-(i+1))) from rfl];cases p i<;>rfl
  .obtain rfl:i=n:=by omega
   rw[stop,DD];rfl
theorem ADO{α:Type}(l:List α)(p:α->Bool)(q:Nat->Bool)(h:∀k (hk:k<l.length),q k=p l[k]):Gl q 0 l.length=l.all p:=by
 grind[KL,List.getElem_of_mem]
theorem Bq{i n:Nat}(h:i<n):decide ((i:Int)<(n:Int))=true:=by rw[decide_eq_true_iff];omega
theorem Cr(n:Nat):decide ((n:Int)<(n:Int))=false:=by rw[decide_eq_false_iff_not];omega
theorem Zz{α:Type}{l:List α}{F:(Int->AA Bool)->Int->AA Bool}{E:AA Bool}(p:α->Bool)(hn:l.length<2 ^ 63)
 (step:∀L (i:Nat) (h:i<l.length),F L (i:Int)=br (p l[i]) (L (w64 ((i:Int)+1))) (some false)) (stop:∀L,F L (l.length:Int)=E):Aw F big 0=br (l.all p) E (some false):=by
 have:=HS (F:=F) (n:=l.length) (E:=E) (fun i=>match l[i]? with|some x=>p x|none=>true) hn ?_ stop
 .grind[ADO]
 .intro L i h;rw[step L i h,Bc h hn];simp[h]
def EF(r:AW):Bool:=inB r.Ae.length 1 4&&(inB r.CJ 1 5&&(inB r.Room 1 10&&(inB r.BW 1 6&&(inB r.Bn 1 12&&(r.Ae.all (fun x=>inB x 1 60)&&(inB r.Bi 1 8&&(inB r.Rest 0 8&&(inB r.CI 1 4&&inB r.Ch 1 3))))))))
theorem H7{r:AW}(hr:r.Ae.length<2 ^ 62):qG r=some (EF r):=by
 have hj:∀b,MN r b=some (!b&&(r.Ae.all (fun x=>inB x 1 60)&&(inB r.Bi 1 8&&(inB r.Rest 0 8&&(inB r.CI 1 4&&inB r.Ch 1 3))))):=by
  intro b;unfold MN;rw[Zz (l:=r.Ae) (fun x=>inB x 1 60) (E:=some (inB r.Bi 1 8&&(inB r.Rest 0 8&&(inB r.CI 1 4&&inB r.Ch 1 3)))) (by omega) ?_ ?_,CS,Fh]
  .intro L i h;unfold dH;rw[Bq h,BL,BK h,AE,Gt,AE,BB]
  .intro L;unfold dH xI QG;rw[Cr,BN];simp only[AS,Gt,AE,CS]
 unfold qG;simp only[Gt,AE,BB,AS,hj,Bm,BJ,CS,Cq];rfl
theorem GG{r:AW}(hr:r.Ae.length<2 ^ 62):Tj r=some (EF r):=by
 unfold Tj;rw[Gj,AE,BB];rw[Zz (l:=r.Ae) (fun x=>inB x 1 60) (E:=some (inB r.CJ 1 5&&(inB r.Room 1 10&&(inB r.BW 1 6&&(inB r.Bn 1 12&&(inB r.Bi 1 8&&(inB r.CI 1 4&&(inB r.Ch 1 3&&inB r.Rest 0 8)))))))) (by omega) ?_ ?_,CS,CS]
 .unfold EF;congr 1;ac_rfl
 .intro L i h;unfold U6;rw[Bq h,BL,BK h,AE,Gj,AE,BB]
 .intro L;unfold U6 jc Hw;rw[Cr,BN];simp only[AS,Gj,AE,CS]
theorem Ce{r:AW}(h:EF r=true):(1<=r.Ae.length/\r.Ae.length<=4)/\(1<=r.CJ/\r.CJ<=5)/\(1<=r.Room/\r.Room<=10)/\(1<=r.BW/\r.BW<=6)/\(1<=r.Bn/\r.Bn<=12)/\(∀x∈r.Ae,1<=x/\x<=60)/\(1<=r.Bi/\r.Bi<=8)/\(0<=r.Rest/\r.Rest<=8)/\(1<=r.CI/\r.CI<=4)/\(1<=r.Ch/\r.Ch<=3):=by
 grind[EF,Du]
def FO(r:AW)(p:AP)(now:Int):Bool:=
 EF r&&(inB now 0 1000000&&(inB p.Id 1 999&&(inB p.Bf 0 (w64 ((r.Ae.length:Int)-1))&&(inB p.Ci (-1) (w64 ((r.Ae.length:Int)-1))&&(!(p.Ci==p.Bf)&&(inB p.BW 1 r.BW&&(inB p.DG 0 (w64 (r.CJ-1))&&(inB p.Since 0 now&&(inB p.A4 1 1000000&&(inB p.EP 0 (w64 (r.CI-1))&&(((p.State==1)&&inB p.C4 0 (w64 (now+r.Rest)))||((p.State==2)&&inB p.C4 1 (w64 (now+r.Bi))))))))))))))
theorem Mr{r:AW}(hr:r.Ae.length<2 ^ 62)(p:AP)(now:Int):AAo r p now=some (FO r p now):=by
 have h2:∀b,MO r p now b=some (!b&&(((p.State==1)&&inB p.C4 0 (w64 (now+r.Rest)))||((p.State==2)&&inB p.C4 1 (w64 (now+r.Bi))))):=by
  intro b;unfold MO OP;simp only[Gt,AE,AS,CS,wa];cases p.State==1<;>cases b<;>rfl
 have h1:∀b,Ke r p now b=some (!b&&(inB p.BW 1 r.BW&&(inB p.DG 0 (w64 (r.CJ-1))&&(inB p.Since 0 now&&(inB p.A4 1 1000000&&(inB p.EP 0 (w64 (r.CI-1))&&(((p.State==1)&&inB p.C4 0 (w64 (now+r.Rest)))||((p.State==2)&&inB p.C4 1 (w64 (now+r.Bi)))))))))):=by
  intro b;unfold Ke;simp only[Gt,AE,AS,BB,h2,Bm,BJ,CS,Fh,Cq]
 unfold AAo;simp only[H7 hr,Gt,AE,AS,BB,h1,Bm,BJ,CS];rfl
theorem MX{r:AW}(hr:r.Ae.length<2 ^ 62)(p:AP)(now:Int):aG r p now=some (FO r p now):=by
 have h2:∀b,J8 r p now b=some (!b&&(((p.State==1)&&inB p.C4 0 (w64 (now+r.Rest)))||((p.State==2)&&inB p.C4 1 (w64 (now+r.Bi))))):=by
  intro b;unfold J8 LS;simp only[Gj,AE,AS,CS,wa];cases p.State==1<;>cases b<;>rfl
 have h1:∀b,I1 r p now b=some (!b&&(inB p.BW 1 r.BW&&(inB p.DG 0 (w64 (r.CJ-1))&&(inB p.Since 0 now&&(inB p.A4 1 1000000&&(inB p.EP 0 (w64 (r.CI-1))&&(((p.State==1)&&inB p.C4 0 (w64 (now+r.Rest)))||((p.State==2)&&inB p.C4 1 (w64 (now+r.Bi)))))))))):=by
  intro b;unfold I1;simp only[Gj,bf,AE,AS,BB,h2,Bm,BJ,CS,Fh,Cq]
 unfold aG;simp only[GG hr,Gj,bf,AE,AS,BB,h1,Bm,BJ,CS];rfl
def YP(r:AW)(tier waited:Int):Int:=if 0>w64 (tier-w64 (waited.tdiv r.Bn)) then 0 else w64 (tier-w64 (waited.tdiv r.Bn))
theorem YH(a b:Int):aD a b=some (if a>b then a else b):=by
 unfold aD;rw[BD];split<;>rfl
theorem iQ{r:AW}(hr:r.Bn≠0)(t w:Int):xT r t w=some (YP r t w):=by
 unfold xT;rw[CG hr,YH,AE];rfl
theorem ABA(r:AW)(t w:Int):0<=YP r t w:=by unfold YP;split<;>omega
theorem Jv{r:AW}{p:AP}{now:Int}(h:FO r p now=true):EF r=true/\(0<=now/\now<=1000000)/\(1<=p.Id/\p.Id<=999)/\(0<=p.Bf/\p.Bf<=r.Ae.length-1)/\(-1<=p.Ci/\p.Ci<=r.Ae.length-1)/\p.Ci≠p.Bf/\(1<=p.BW/\p.BW<=r.BW)/\(0<=p.DG/\p.DG<=r.CJ-1)/\(0<=p.Since/\p.Since<=now)/\(1<=p.A4/\p.A4<=1000000)/\(0<=p.EP/\p.EP<=r.CI-1)/\(p.State=1/\0<=p.C4/\p.C4<=now+r.Rest\/p.State=2/\1<=p.C4/\p.C4<=now+r.Bi):=by
 grind[FO,Du,Ce,Ao]
def Jh(r:AW)(p:AP)(now:Int):Int:=if FO r p now=true then YP r p.DG (w64 (now-p.Since)) else -1
theorem iF{r:AW}(hr:r.Ae.length<2 ^ 62)(p:AP)(now:Int):xU r p now=some (Jh r p now):=by
 unfold xU Jh;rw[Mr hr,AE,BB,GM];split
 .rename_i h;have:=(Ce (Jv h).1).2.2.2.2.1;rw[iQ (by omega),AE]
 .rfl
theorem fM{r:AW}(hr:r.Ae.length<2 ^ 62)(p:AP)(now:Int):xk r p now=some (Jh r p now):=by
 unfold xk Jh;rw[MX hr,AE,BB,GM];split
 .rename_i h;have hp:=Jv h;have hq:=Ce hp.1;unfold ADl QY;rw[GG hr,hp.1,AE,BB,BL,bf,AE,BB];have e1:inB p.DG 0 (w64 (r.CJ-1))=true:=by rw[Du,Ao (by omega) (by omega)];omega
  have e2:decide (w64 (now-p.Since)<0)=false:=by rw[Ao (by omega) (by omega)];simp;omega
  rw[e1,BL,AS,e2,BN,CG (by omega),AE,if_pos rfl]
  grind[YP]
 .rfl
def Fk(r:AW)(p:AP)(now:Int):Ac×Bool:=if FO r p now=true/\p.State=1 then (⟨Jh r p now,p.A4,p.Id,p.BW⟩,true) else (⟨0,0,0,0⟩,false)
theorem iC{r:AW}(hr:r.Ae.length<2 ^ 62)(p:AP)(now:Int):jv r p now=some (Fk r p now):=by
 unfold jv VI Fk;rw[iF hr,AE,BD,AS,AS,BL];by_cases h:FO r p now=true
 .have:=ABA r p.DG (w64 (now-p.Since))
  grind[Jh,GM]
 grind[Jh]
theorem RL{r:AW}(hr:r.Ae.length<2 ^ 62)(p:AP)(now:Int):xl r p now=some (Fk r p now):=by
 grind[xl,Vm,Fk,MX,AE,GM,AS,fM]
def Iq(l:Cm):Bool:=inB l.Total 1 60&&(inB l.EV 0 l.Total&&(inB l.Gk 0 l.Total&&(inB l.KV 0 l.Total&&((w64 (w64 (l.EV+l.Gk)+l.KV)==l.Total)&&inB l.K1 0 l.KV))))
theorem Zn(l:Cm):xQ l=some (Iq l):=by
 unfold xQ J7 Iq;simp only[Gt,AE,AS,CS]
theorem Ze(l:Cm):xe l=some (Iq l):=by
 unfold xe J9 Iq;simp only[Gj,AE,AS,CS]
def Ix(a:B2):Bool:=decide ((a.Data.length:Int)<=20000)&&inB a.Safe 0 a.Data.length
theorem JC(a:B2):Ox a=some (Ix a):=by
 unfold Ox U4 Ix;simp only[Gt,AE,AS,CS]
theorem I6(a:B2):Nb a=some (Ix a):=by
 unfold Nb V8 Ix;simp only[Gj,AE,AS,CS]
def ZH(s:B5):Bool:=Ix s.Log&&(Ix s.Fw&&Ix s.Odd)
theorem iL(s:B5):xK s=some (ZH s):=by
 unfold xK QI ZH;simp only[JC,AE,AS,CS]
theorem fS(s:B5):yA s=some (ZH s):=by
 unfold yA Qh ZH;simp only[I6,AE,AS,CS]
section
variable{α:Type}(lt:α->α->Bool)
def put(x:α):List α->List α| []=>[x]|z::l=>if lt z x=true then z::put x l else x::z::l
def ins(x:α):List α->List α| []=>[x]|z::l=>if lt x z=true then x::z::l else z::ins x l
structure Swo:Prop where
 jB:∀a b,lt a b=true->lt b a=false
 neg:∀a b c,lt a c=true->lt a b=true\/lt b c=true
def Cj(l:List α):List α:=l.foldr (put lt) []
variable {lt}
theorem Swo.trans(h:Swo lt){a b c:α}(h1:lt a b=true)(h2:lt b c=true):lt a c=true:=by
 rcases h.neg a c b h1 with h3|h3
 .exact h3
 .rw[h.jB _ _ h2]at h3;cases h3
theorem zi(h:Swo lt)(x y:α):∀l,ins lt x (put lt y l)=put lt y (ins lt x l)
 | []=>by simp only[put,ins]|z::l=>by
  cases h1:lt z y with
  |true=>
   cases h2:lt x z with
   |true=>simp only[put,ins,h1,h2,h.trans h2 h1,if_true]|false=>simp[put,ins,h1,h2,zi h x y l]
  |false=>
   cases h2:lt x y with
   |true=>
    have h3:lt x z=true:=(h.neg x z y h2).resolve_right (by simp[h1]);simp[put,ins,h1,h2,h3]
   |false=>
    grind[put,ins]
theorem gh(h:Swo lt)(ht:∀a b,lt a b=false->lt b a=false->a=b)(x y:α):∀l,put lt x (put lt y l)=put lt y (put lt x l)
 | []=>by
  simp only[put];cases h1:lt y x with
  |true=>simp[h.jB _ _ h1]|false=>
   cases h2:lt x y with
   |true=>simp|false=>simp[ht _ _ h1 h2]
 |z::l=>by
  cases h1:lt z y with
  |true=>
   cases h2:lt z x with
   |true=>simp only[put,h1,h2,if_true];rw[gh h ht x y l]|false=>
    have h3:lt x y=true:=(h.neg z x y h1).resolve_left (by simp[h2]);simp[put,h1,h2,h3]
  |false=>
   cases h2:lt z x with
   |true=>
    have h3:lt y x=true:=(h.neg z y x h2).resolve_left (by simp[h1]);simp[put,h1,h2,h3]
   |false=>
    cases h3:lt y x with
    |true=>simp[put,h1,h2,h3,h.jB _ _ h3]|false=>
     cases h4:lt x y with
     |true=>simp[put,h1,h2,h3,h4]|false=>simp[ht _ _ h3 h4]
theorem bN(h:Swo lt):∀(l acc:List α) (a:α),l.foldl (fun s x=>ins lt x s) (put lt a acc)=put lt a (l.foldl (fun s x=>ins lt x s) acc)| [],_,_=>rfl|x::l,acc,a=>by rw[BV,zi h,bN h l,BV]
theorem bc(h:Swo lt):∀l:List α,l.foldl (fun s x=>ins lt x s) []=Cj lt l
 | []=>rfl|a::l=>by
  rw[BV,show ins lt a []=put lt a [] from rfl,bN h,bc h l];rfl
theorem bO(h:Swo lt)(ht:∀a b,lt a b=false->lt b a=false->a=b):∀(l acc:List α) (a:α),l.foldl (fun s x=>put lt x s) (put lt a acc)=put lt a (l.foldl (fun s x=>put lt x s) acc)| [],_,_=>rfl|x::l,acc,a=>by rw[BV,gh h ht,bO h ht l,BV]
theorem Sw(h:Swo lt)(ht:∀a b,lt a b=false->lt b a=false->a=b):∀l:List α,l.foldl (fun s x=>put lt x s) []=Cj lt l| []=>rfl|a::l=>by rw[BV,bO h ht,Sw h ht l];rfl
theorem E4(x:α):∀l,(put lt x l).length=l.length+1| []=>rfl|z::l=>by unfold put;split<;>simp[E4 x l]
theorem zf(x:α):∀l,(ins lt x l).length=l.length+1| []=>rfl|z::l=>by unfold ins;split<;>simp[zf x l]
theorem Hn:∀l:List α,(Cj lt l).length=l.length
 | []=>rfl|a::l=>by
  have:=Hn l;unfold Cj at this ⊢;rw[Hs,E4,this];rfl
theorem Uc{x a:α}:∀{l},a∈put lt x l↔a=x\/a∈l
 | []=>by simp[put]|z::l=>by
  unfold put;split
  .rw[Af,Uc,Af]
   grind
  .simp
theorem zg{x a:α}:∀{l},a∈ins lt x l↔a=x\/a∈l
 | []=>by simp[ins]|z::l=>by
  unfold ins;split
  .simp
  .rw[Af,zg,Af]
   grind
theorem OW{a:α}:∀{l:List α},a∈Cj lt l↔a∈l
 | []=>by simp[Cj]|z::l=>by
  have:=OW (a:=a) (l:=l);unfold Cj at this ⊢;rw[Hs,Uc,this,Af]
def Srt(lt:α->α->Bool)(l:List α):Prop:=l.Pairwise fun a b=>lt b a=false
theorem zj(h:Swo lt)(x:α):∀l,Srt lt l->Srt lt (ins lt x l)
 | [],_=>by simp[ins,Srt]|z::l,hs=>by
  unfold Srt at hs;rw[BI]at hs;unfold ins Srt;split
  .rename_i hx;rw[BI,BI];refine⟨?_,hs⟩;intro b hb;rcases Af.1 hb with rfl|hb
   .exact h.jB _ _ hx
   .cases e:lt b x with|false=>rfl|true=>exact absurd (h.trans e hx) (by simp[hs.1 b hb])
  .rename_i hx;rw[BI];refine⟨?_,zj h x l hs.2⟩
   grind[zg]
theorem Ss{x:α}{s2:List α}(h2:∀b∈s2,lt x b=true):∀{s1:List α},(∀a∈s1,lt x a=false)->ins lt x (s1++s2)=s1++x::s2
 | [],_=>by
  cases s2 with
  |nil=>rfl|cons b s=>unfold ins;rw[B1];simp[h2 b BZ]
 |a::s1,h1=>by
  rw[Dh];unfold ins;rw[h1 a BZ,if_neg (by simp),Ss h2 fun c hc=>h1 c (List.mem_cons_of_mem _ hc)];rfl
theorem Sr{γ:Type}(h:Swo lt){G:(List α×Int->AA γ)->List α×Int->AA γ}{E:List α->AA γ}{x:α}{r:List α}{M:Nat}
 (g1:∀L t z w,t.length<M->lt x z=true->G L (t++z::x::w,((t.length+1:Nat):Int))=L (t++x::z::w,(t.length:Int)))
 (g2:∀L t z w,t.length<M->lt x z=false->G L (t++z::x::w,((t.length+1:Nat):Int))=E (t++z::x::w)) (g3:∀L w,G L (x::w,0)=E (x::w)) :
 ∀(k N:Nat) (s1 s2:List α),s1.length=k->k<=M->k<N->(∀b∈s2,lt x b=true)->Srt lt s1->Aw G N (s1++x::(s2++r),(k:Int))=E (ins lt x (s1++s2)++r)
 |k,0,s1,s2,hk,hM,hN,h2,hs=>by omega|0,N+1,s1,s2,hk,hM,hN,h2,hs=>by
  obtain rfl:=List.eq_nil_of_length_eq_zero hk;rw[DF,B1,Ss (s1:=[]) h2 (by simp)];exact g3 _ _
 |k+1,N+1,s1,s2,hk,hM,hN,h2,hs=>by
  rcases List.eq_nil_or_concat s1 with rfl|⟨t,z,rfl⟩
  .simp at hk
  simp only[List.concat_eq_append]at hk hs ⊢;have ht:t.length=k:=by simpa using hk
  have hp:Srt lt t/\∀a∈t,lt z a=false:=by
   unfold Srt at hs ⊢;rw[List.pairwise_append]at hs;exact⟨hs.1,fun a ha=>hs.2.2 a ha z (by simp)⟩
  rw[DF];subst ht;cases hx:lt x z with
  |true=>
   have e:t++[z]++x::(s2++r)=t++z::x::(s2++r):=by simp
   rw[e,g1 _ _ _ _ (by omega) hx];have:=Sr (r:=r) h g1 g2 g3 t.length N t (z::s2) rfl (by omega) (by omega) (by simpa[hx] using h2) hp.1;rw[Dh]at this;rw[this];simp
  |false=>
   have e:t++[z]++x::(s2++r)=t++z::x::(s2++r):=by simp
   rw[e,g2 _ _ _ _ (by omega) hx,Ss h2 ?_]
   .simp
   .intro a ha;rw[List.mem_append]at ha;rcases ha with ha|ha
    .cases e:lt x a with
     |false=>rfl|true=>
      rcases h.neg x z a e with h3|h3
      .rw[hx]at h3;cases h3
      .rw[hp.2 a ha]at h3;cases h3
    .rw[List.mem_singleton]at ha;subst ha;exact hx
theorem ba(h:Swo lt){F:(List α×Int->AA (List α))->List α×Int->AA (List α)}{v0:List α}(hn:v0.length<2 ^ 62)
 (step:∀L s x r,s.length+1+r.length=v0.length->0<s.length->Srt lt s->F L (s++x::r,(s.length:Int))=L (ins lt x s++r,((s.length+1:Nat):Int)))
 (stop:∀L v (i:Nat),v0.length<=i->F L (v,(i:Int))=some v):Aw F big (v0,1)=some (Cj lt v0):=by
 cases v0 with
 |nil=>
  have:=NL 0 (by omega);obtain⟨n,hb⟩:=this;rw[hb,Nat.add_zero,DF];exact stop _ _ 1 (by simp)
 |cons a l=>
  have:=Da (F:=F) (n:=l.length) (fun i (v:List α×List α)=>(v.1++v.2,((i+1:Nat):Int))) (fun i v=>v.1.length=i+1/\v.2.length+i=l.length/\Srt lt v.1) (fun i v=>some (v.2.foldl (fun s x=>ins lt x s) v.1)) (by simp at hn;omega) ?_ (v:=([a],l)) ⟨rfl,rfl,by simp[Srt]⟩
  .rw[<-bc h];exact this
  .rintro L i ⟨s,r⟩ ⟨h1,h2,h3⟩ hi ih;dsimp only at h1 h2 h3 ih ⊢;cases r with
   |nil=>
    rw[stop _ _ _ (by simp at h2 ⊢;omega)];simp
   |cons x r=>
    have hl:s.length+1+r.length=(a::l).length:=by simp at h2 ⊢;omega
    rw[<-h1,step L s x r hl (by omega) h3,BV];have:=ih (ins lt x s,r) ⟨by dsimp only;rw[zf,h1],by dsimp only;simp at h2 ⊢;omega,zj h x s h3⟩ (by simp at h2;omega);rw[<-this,h1]
theorem Yo{γ:Type}{F:(Int->AA γ)->Int->AA γ}{l:List α}{x:α}(J:List α->AA γ)(hl:l.length<2 ^ 62)
 (step:∀L (i:Nat) (h:i<l.length),F L (i:Int)=br (lt l[i] x) (L (w64 ((i:Int)+1))) (J (l.take i++x::l.drop i)))
 (stop:∀L,F L (l.length:Int)=J (l++[x])):Aw F big 0=J (put lt x l):=by
 refine(Da (n:=l.length) (fun i (_:Unit)=>(i:Int)) (fun _ _=>True) (fun i _=>J (l.take i++put lt x (l.drop i))) (by omega) ?_ (v:=()) trivial).trans (by simp);intro L i _ _ hi ih;rcases AY i l.length with h|h
 .rw[step L i h,Bc h (by omega),Dt h,put];cases e:lt l[i] x with
  |true=>
   have e2:l.take (i+1)=l.take i++[l[i]]:=by rw[By,Ad h];rfl
   rw[BL,ih () trivial h,e2,List.append_assoc];rfl
  |false=>rfl
 grind[put]
end
theorem P9{α:Type}(t w:List α)(z:α):at? (t++z::w) (t.length:Int)=some z:=by rw[Fg];simp
theorem QA{α:Type}(t w:List α)(z x:α):at? (t++z::x::w) ((t.length+1:Nat):Int)=some x:=by rw[Fg];simp
theorem pF{α:Type}(t w:List α)(z a:α):(t++z::w).set t.length a=t++a::w:=by simp
theorem pG{α:Type}(t w:List α)(z x a:α):(t++z::x::w).set (t.length+1) a=t++z::a::w:=by
 rw[List.set_append_right _ _ (by omega),show t.length+1-t.length=1 by omega];rfl
theorem HO(n:Nat)(h:0<n)(hn:n<2 ^ 63):w64 ((n:Int)-1)=((n-1:Nat):Int):=by grind[Ao]
theorem dE(a b:Int):Vg a b=some (if a<b then -1 else if a>b then 1 else 0):=by
 grind[Vg,xg,AE,BD]
def ltE(a b:Ac):Bool:=decide (a.Level<b.Level)||((a.Level==b.Level)&&decide (a.A4<b.A4))
theorem OY{a b:Ac}:ltE a b=true↔a.Level<b.Level\/a.Level=b.Level/\a.A4<b.A4:=by simp[ltE]
theorem AFG{a b:Ac}:ltE a b=false↔¬(a.Level<b.Level\/a.Level=b.Level/\a.A4<b.A4):=by rw[<-OY];simp
def ltP(a b:Ax):Bool:=decide (a.At<b.At)||((a.At==b.At)&&decide (a.Id<b.Id))
theorem Me{a b:Ax}:ltP a b=true↔a.At<b.At\/a.At=b.At/\a.Id<b.Id:=by simp[ltP]
theorem YQ{a b:Ax}:ltP a b=false↔¬(a.At<b.At\/a.At=b.At/\a.Id<b.Id):=by rw[<-Me];simp
theorem fe:Swo ltE:=⟨fun a b h=>by rw[OY]at h;rw[AFG];omega,fun a b c h=>by rw[OY]at *;rw[OY];omega⟩
theorem Ei:Swo ltP:=⟨fun a b h=>by rw[Me]at h;rw[YQ];omega,fun a b c h=>by rw[Me]at *;rw[Me];omega⟩
theorem fh(a b:Ax)(h1:ltP a b=false)(h2:ltP b a=false):a=b:=by
 rw[YQ]at h1 h2;obtain⟨x,y⟩:=a;obtain⟨z,w⟩:=b
 grind
theorem OH(a b:Ac):ji a b=some (ltE a b):=by
 unfold ji QL ltE;simp only[AS,CS,wa]
theorem UB(a b:Ax):jt a b=some (ltP a b):=by
 unfold jt QM ltP;simp only[AS,CS,wa]
theorem Lh(a b:Ac):∃c,Oy a b=some c/\decide (c<0)=ltE a b:=by
 unfold Oy;rw[dE,AE,GM,dE,AE];refine⟨if a.Level<b.Level then -1 else if a.Level>b.Level then 1 else if a.A4<b.A4 then -1 else if a.A4>b.A4 then 1 else 0,?_,?_⟩
 .split<;>split<;>simp_all
 grind[OY]
theorem YB(a b:Ac):xh a b=some (ltE a b):=by
 unfold xh;obtain⟨c,h1,h2⟩:=Lh a b;rw[h1,AE,h2]
theorem Jt(a b:Ax):∃c,NT a b=some c/\decide (c<0)=ltP a b/\decide (c>0)=ltP b a:=by
 unfold NT;rw[dE,AE,GM,dE,AE];refine⟨if a.At<b.At then -1 else if a.At>b.At then 1 else if a.Id<b.Id then -1 else if a.Id>b.Id then 1 else 0,?_,?_,?_⟩
 .split<;>split<;>simp_all
 .grind[Me]
 grind[Me]
theorem AL2{l:List Ac}(hl:l.length<2 ^ 62):xm l 0 l.length=some (Cj ltE l):=by
 unfold xm CY;refine ba fe hl ?_ ?_
 .intro L s x r hn hs hsrt;unfold Cv;dsimp only;rw[Bq (by omega),BL];have:=Sr (G:=Cw Oy 0 L s.length) (E:=fun v=>L (v,((s.length+1:Nat):Int))) (x:=x) (r:=r) (M:=s.length) fe ?_ ?_ ?_ s.length big s [] rfl (by omega) (HQ _ (by omega)) (by simp) hsrt
  .rw[B1,Hr]at this;exact this
  all_goals unfold Cw Cu DH
  .intro L' t z w ht hx;obtain⟨c,h1,h2⟩:=Lh x z;have e:=HO (t.length+1) (by omega) (by omega);have e0:((t.length+1:Nat):Int)>0:=by omega
   dsimp only;have h3:c<0:=by rw[hx,decide_eq_true_iff]at h2;exact h2
   simp only[BD,AS,e,CF,P9,QA,AE,h1,pF,pG,AU,e0,h3,if_true]
  .intro L' t z w ht hx;obtain⟨c,h1,h2⟩:=Lh x z;have e:=HO (t.length+1) (by omega) (by omega);have e0:((t.length+1:Nat):Int)>0:=by omega
   have e1:=Bc (i:=s.length) (n:=s.length+1) (by omega) (by omega);dsimp only;have h3:¬c<0:=by rw[hx,decide_eq_false_iff_not]at h2;exact h2
   simp only[BD,AS,e,CF,P9,QA,AE,h1,e0,h3,if_true,if_false,e1]
  .intro L' w;have e1:=Bc (i:=s.length) (n:=s.length+1) (by omega) (by omega);dsimp only;rw[BD,if_neg (by omega),AS,BN,AS,e1]
 grind[Cv,BD]
theorem AJl{l:List Ax}(hl:l.length<2 ^ 62):kE l 0 l.length=some (Cj ltP l):=by
 unfold kE CY;refine ba Ei hl ?_ ?_
 .intro L s x r hn hs hsrt;unfold Cv;dsimp only;rw[Bq (by omega),BL];have:=Sr (G:=Cw NT 0 L s.length) (E:=fun v=>L (v,((s.length+1:Nat):Int))) (x:=x) (r:=r) (M:=s.length) Ei ?_ ?_ ?_ s.length big s [] rfl (by omega) (HQ _ (by omega)) (by simp) hsrt
  .rw[B1,Hr]at this;exact this
  all_goals unfold Cw Cu DH
  .intro L' t z w ht hx;obtain⟨c,h1,h2,_⟩:=Jt x z;have e:=HO (t.length+1) (by omega) (by omega);have e0:((t.length+1:Nat):Int)>0:=by omega
   dsimp only;have h3:c<0:=by rw[hx,decide_eq_true_iff]at h2;exact h2
   simp only[BD,AS,e,CF,P9,QA,AE,h1,pF,pG,AU,e0,h3,if_true]
  .intro L' t z w ht hx;obtain⟨c,h1,h2,_⟩:=Jt x z;have e:=HO (t.length+1) (by omega) (by omega);have e0:((t.length+1:Nat):Int)>0:=by omega
   have e1:=Bc (i:=s.length) (n:=s.length+1) (by omega) (by omega);dsimp only;have h3:¬c<0:=by rw[hx,decide_eq_false_iff_not]at h2;exact h2
   simp only[BD,AS,e,CF,P9,QA,AE,h1,e0,h3,if_true,if_false,e1]
  .intro L' w;have e1:=Bc (i:=s.length) (n:=s.length+1) (by omega) (by omega);dsimp only;rw[BD,if_neg (by omega),AS,BN,AS,e1]
 grind[Cv,BD]
theorem AJN{l:List Ac}(hl:l.length<=19):aH l=some (Cj ltE l):=by
 unfold aH xn Ek;obtain⟨n,hb⟩:=NL 0 (by omega);have hs:=AL2 (l:=l) (by omega);unfold xm at hs
 grind[EX,DF,BD,AS,Fi,AE,EY]
theorem AJO{l:List Ax}(hl:l.length<=19):aK l=some (Cj ltP l):=by
 unfold aK xc Ek;obtain⟨n,hb⟩:=NL 0 (by omega);have hs:=AJl (l:=l) (by omega);unfold kE at hs
 grind[EX,DF,BD,AS,Fi,AE,EY]
set_option maxRecDepth 100000
theorem AH3{n:Nat}(hn:n<256):∃c,xZ (IntKind.u64.wrap (n:Int))=some c:=by
 have e:IntKind.u64.wrap (n:Int)=n:=by
  simp only[IntKind.wrap,IntKind.bits,IntKind.signed];simp;omega
 unfold xZ ADg;rw[e,BD,if_neg (by omega),AS];unfold Vb;dsimp only;rw[BD,if_neg (by omega),AS];unfold Vc;dsimp only;rw[BD,if_neg (by omega),AS];unfold Vd;dsimp only;rw[BK (UInt8.toNat_lt (toB (n:Int))),AE,AE];exact⟨_,rfl⟩
theorem ALH{l:List Ax}(hl:l.length<=12):xa l=some (Cj ltP l):=by
 unfold xa ADh;obtain⟨c,hc⟩:=AH3 (n:=l.length) (by omega);rw[hc,AE];obtain⟨n,hb⟩:=NL 0 (by omega)
 grind[DF,kF,BD,Ao,AJl,AE]
section
variable{α σ γ:Type}
theorem Np{l:List α}{F:(σ×Int->AA γ)->σ×Int->AA γ}(f:σ->α->σ)(I:Nat->σ->Prop)(J:σ->AA γ)(hl:l.length<2 ^ 63)
 (step:∀L i (h:i<l.length) v,I i v->F L (v,(i:Int))=L (f v l[i],w64 ((i:Int)+1))) (EM:∀i (h:i<l.length) v,I i v->I (i+1) (f v l[i]))
 (stop:∀L v,I l.length v->F L (v,(l.length:Int))=J v) {v0:σ} (h0:I 0 v0):Aw F big (v0,0)=J (l.foldl f v0):=by
 refine(Da (n:=l.length) (fun i (v:σ)=>(v,(i:Int))) I (fun i v=>J ((l.drop i).foldl f v)) hl ?_ h0);intro L i v hv hi ih;rcases AY i l.length with h|h
 .rw[step L i h v hv,Bc h hl,Dt h,BV];exact ih _ (EM i h v hv) h
 grind
def Gx(eq:α->α->Bool):List α->List α->Bool| [],[]=>true|x::a,y::b=>eq x y&&Gx eq a b|_,_=>false
theorem Oh{eq:α->α->Bool}(he:∀x y,eq x y=true↔x=y):∀{a b:List α},Gx eq a b=true↔a=b| [],[]=>by simp[Gx]| [],y::b=>by simp[Gx]|x::a,[]=>by simp[Gx]|x::a,y::b=>by rw[Gx,AD,he,Oh he,B0]
theorem pC{eq:α->α->Bool}:∀{a b:List α},a.length≠b.length->Gx eq a b=false| [],[],h=>by simp at h| [],y::b,h=>rfl|x::a,[],h=>rfl|x::a,y::b,h=>by rw[Gx,pC (a:=a) (b:=b) (by simpa using h),CW]
theorem AHB{eq:α->α->Bool}{a b:List α}{F:(Int->AA Bool)->Int->AA Bool}(hl:a.length<2 ^ 63)(hab:a.length=b.length)
 (step:∀L i (h:i<a.length) (h':i<b.length),F L (i:Int)=br (!(eq a[i] b[i])) (some false) (L (w64 ((i:Int)+1)))) (stop:∀L,F L (a.length:Int)=some true):Aw F big 0=some (Gx eq a b):=by
 refine(Da (n:=a.length) (fun i (_:Unit)=>(i:Int)) (fun _ _=>True) (fun i _=>some (Gx eq (a.drop i) (b.drop i))) hl ?_ (v:=()) trivial);intro L i _ _ hi ih;rcases AY i a.length with h|h
 .rw[step L i h (by omega),Bc h hl,Dt h,Dt (l:=b) (i:=i) (by omega),Gx,BB];cases eq a[i] b[i] with|true=>rw[BL,ih () trivial h];rfl|false=>rfl
 .obtain rfl:i=a.length:=by omega
  rw[stop,Di,List.drop_eq_nil_of_le (by omega)];rfl
theorem TV{eq:α->α->Bool}{a b:List α}{F:(Int->AA Bool)->Int->AA Bool}(hl:a.length<2 ^ 63)
 (step:∀L i (h:i<a.length) (h':i<b.length),F L (i:Int)=br (!(eq a[i] b[i])) (some false) (L (w64 ((i:Int)+1)))) (stop:∀L,F L (a.length:Int)=some true) :
 br ((a.length:Int) != (b.length:Int)) (some false) (Aw F big 0)=some (Gx eq a b):=by
 by_cases h:a.length=b.length
 .have e:((a.length:Int) != (b.length:Int))=false:=by simp[h]
  rw[e,BN,AHB hl h step stop]
 .have e:((a.length:Int) != (b.length:Int))=true:=by simp;omega
  rw[e,BL,pC h]
def atF(p:α->Bool):List α->Nat->Int| [],_=>-1|x::l,i=>if p x=true then (i:Int) else atF p l (i+1)
theorem px{p:α->Bool}{l:List α}{F:(Int->AA Int)->Int->AA Int}(hl:l.length<2 ^ 63)
 (step:∀L i (h:i<l.length),F L (i:Int)=br (p l[i]) (some (i:Int)) (L (w64 ((i:Int)+1)))) (stop:∀L,F L (l.length:Int)=some (-1)):Aw F big 0=some (atF p l 0):=by
 refine(Da (n:=l.length) (fun i (_:Unit)=>(i:Int)) (fun _ _=>True) (fun i _=>some (atF p (l.drop i) i)) hl ?_ (v:=()) trivial);intro L i _ _ hi ih;rcases AY i l.length with h|h
 .rw[step L i h,Bc h hl,Dt h,atF];cases p l[i] with|true=>rfl|false=>rw[BN,ih () trivial h];simp
 .obtain rfl:i=l.length:=by omega
  rw[stop,Di];rfl
theorem jE{p:α->Bool}:∀{l:List α} {s:Nat},atF p l s<0↔∀x∈l,p x=false
 | [],s=>by simp[atF]|x::l,s=>by
  unfold atF;split
  .rename_i h;simp[h]
  .rename_i h;rw[jE];simp[h]
theorem jF{p:α->Bool}:∀{l:List α} {i:Nat} (s:Nat) (h:i<l.length),p l[i]=true->((atF p l s != ((s+i:Nat):Int))=decide (atF p (l.take i) s>=0))
 | [],i,s,h,hp=>by simp at h|x::l,0,s,h,hp=>by
  simp only[List.getElem_cons_zero]at hp;simp[atF,hp]
 |x::l,i+1,s,h,hp=>by
  simp only[List.getElem_cons_succ]at hp;rw[List.take_succ_cons,atF,atF];by_cases hx:p x=true
  .grind
  .rw[if_neg hx,if_neg hx];have:=jF (l:=l) (i:=i) (s+1) (by simpa using h) hp;rw[<-this,show s+1+i=s+(i+1) by omega]
end
def JG(cabin:Int)(n:Int)(p:AP):Int:=if (p.Bf==cabin)=true then n+1 else n
def D2(l:List AP)(cabin:Int):Int:=l.foldl (JG cabin) 0
def Oz(cabin:Int)(n:Int)(p:AP):Int:=if ((p.State==2)&&((p.Bf==cabin)&&inB p.BW 1 6))=true then n+p.BW else n
def I5(l:List AP)(cabin:Int):Int:=l.foldl (Oz cabin) 0
def O7(cabin:Int)(n:Int)(p:AP):Int:=if ((p.Ci==cabin)&&inB p.BW 1 6)=true then n+p.BW else n
def Kx(l:List AP)(cabin:Int):Int:=l.foldl (O7 cabin) 0
theorem Z8(cabin:Int)(p:AP){i:Nat}{n:Int}(h:0<=n/\n<=i):0<=JG cabin n p/\JG cabin n p<=((i+1:Nat):Int):=by unfold JG;split<;>omega
theorem RI(cabin:Int)(p:AP){i:Nat}{n:Int}(h:0<=n/\n<=6*i):0<=Oz cabin n p/\Oz cabin n p<=6*((i+1:Nat):Int):=by
 grind[Oz,Du]
theorem Ry(cabin:Int)(p:AP){i:Nat}{n:Int}(h:0<=n/\n<=6*i):0<=O7 cabin n p/\O7 cabin n p<=6*((i+1:Nat):Int):=by
 grind[O7,Du]
theorem iB{l:List AP}(hl:l.length<2 ^ 58)(c:Int):xJ l c=some (D2 l c):=by
 unfold xJ;refine Np (l:=l) (JG c) (fun i n=>0<=n/\n<=i) some (by omega) ?_ (fun i h v hv=>Z8 c _ hv) ?_ (by simp)
 .grind[U1,U0,JG,BK,AE,AS,Ao,GM]
 grind[U1,jY,BN,AS]
theorem fJ{l:List AP}(hl:l.length<2 ^ 58)(c:Int):xd l c=some (D2 l c):=by
 unfold xd;refine Np (l:=l) (JG c) (fun i n=>0<=n/\n<=i) some (by omega) ?_ (fun i h v hv=>Z8 c _ hv) ?_ (by simp)
 .grind[Vf,Ve,JG,BK,AE,AS,Ao,GM]
 grind[Vf,kI,BN,AS]
theorem T6{l:List AP}(hl:l.length<2 ^ 58)(c:Int):j9 l c=some (I5 l c):=by
 unfold j9;refine Np (l:=l) (Oz c) (fun i n=>0<=n/\n<=6*i) some (by omega) ?_ (fun i h v hv=>RI c _ hv) ?_ (by simp)
 .intro L i h v hv;have hk:=RI c l[i] hv;unfold Oz at hk ⊢;unfold VX QU VW;dsimp only;rw[Bq h,BL];simp only[BK h,AE,AS,Gt,BN];cases h1:l[i].State==2<;>cases h2:l[i].Bf==c<;>cases h3:inB l[i].BW 1 6<;>simp only[BL,BN,FG,BJ,if_true,A7,if_false]
  grind[Ao]
 grind[VX,kC,BN,AS]
theorem Tw{l:List AP}(hl:l.length<2 ^ 58)(c:Int):Vx l c=some (I5 l c):=by
 unfold Vx;refine Np (l:=l) (Oz c) (fun i n=>0<=n/\n<=6*i) some (by omega) ?_ (fun i h v hv=>RI c _ hv) ?_ (by simp)
 .intro L i h v hv;have hk:=RI c l[i] hv;unfold Oz at hk ⊢;unfold Vz Qf Vy;dsimp only;rw[Bq h,BL];simp only[BK h,AE,AS,Gj,BN];cases h1:l[i].State==2<;>cases h2:l[i].Bf==c<;>cases h3:inB l[i].BW 1 6<;>simp only[BL,BN,FG,BJ,if_true,A7,if_false]
  grind[Ao]
 grind[Vz,kZ,BN,AS]
theorem T9{l:List AP}(hl:l.length<2 ^ 58)(c:Int):aF l c=some (Kx l c):=by
 unfold aF;refine Np (l:=l) (O7 c) (fun i n=>0<=n/\n<=6*i) some (by omega) ?_ (fun i h v hv=>Ry c _ hv) ?_ (by simp)
 .intro L i h v hv;have hk:=Ry c l[i] hv;unfold O7 at hk ⊢;unfold Va VY VZ;dsimp only;rw[Bq h,BL];simp only[BK h,AE,AS,Gt,BN];cases h2:l[i].Ci==c<;>cases h3:inB l[i].BW 1 6<;>simp only[BL,BN,FG,BJ,if_true,A7,if_false]
  grind[Ao]
 grind[Va,kD,BN,AS]
theorem Tz{l:List AP}(hl:l.length<2 ^ 58)(c:Int):Tl l c=some (Kx l c):=by
 unfold Tl;refine Np (l:=l) (O7 c) (fun i n=>0<=n/\n<=6*i) some (by omega) ?_ (fun i h v hv=>Ry c _ hv) ?_ (by simp)
 .intro L i h v hv;have hk:=Ry c l[i] hv;unfold O7 at hk ⊢;unfold V3 V1 V2;dsimp only;rw[Bq h,BL];simp only[BK h,AE,AS,Gj,BN];cases h2:l[i].Ci==c<;>cases h3:inB l[i].BW 1 6<;>simp only[BL,BN,FG,BJ,if_true,A7,if_false]
  grind[Ao]
 grind[V3,ka,BN,AS]
def eqE(x y:Ac):Bool:=x.Level==y.Level&&(x.A4==y.A4&&(x.Id==y.Id&&(x.BW==y.BW&&true)))
theorem AIY(x y:Ac):eqE x y=true↔x=y:=by
 obtain⟨a,b,c,d⟩:=x;obtain⟨e,f,g,h⟩:=y;simp[eqE]
def eqP(x y:Ax):Bool:=x.At==y.At&&(x.Id==y.Id&&true)
theorem AIZ(x y:Ax):eqP x y=true↔x=y:=by
 obtain⟨a,b⟩:=x;obtain⟨c,d⟩:=y;simp[eqP]
theorem iK{a b:List Ac}(hl:a.length<2 ^ 62):xV a b=some (Gx eqE a b):=by
 unfold xV;refine TV (by omega) ?_ ?_
 .intro L i h h';unfold VO;rw[Bq h,BL,BK h,AE,BK h',AE];rfl
 grind[VO,j0,BN,AS]
theorem nd{a b:List Ac}(hl:a.length<2 ^ 62):xp a b=some (Gx eqE a b):=by
 unfold xp;refine TV (by omega) ?_ ?_
 .intro L i h h';unfold Vo;rw[Bq h,BL,BK h,AE,BK h',AE];rfl
 grind[Vo,kP,BN,AS]
theorem Zo{a b:List Ax}(hl:a.length<2 ^ 62):xX a b=some (Gx eqP a b):=by
 unfold xX;refine TV (by omega) ?_ ?_
 .intro L i h h';unfold VV;rw[Bq h,BL,BK h,AE,BK h',AE];rfl
 grind[VV,j8,BN,AS]
theorem nh{a b:List Ax}(hl:a.length<2 ^ 62):xx a b=some (Gx eqP a b):=by
 unfold xx;refine TV (by omega) ?_ ?_
 .intro L i h h';unfold Vw;rw[Bq h,BL,BK h,AE,BK h',AE];rfl
 grind[Vw,kY,BN,AS]
def HJ{α:Type}(l:List α)(k:Nat)(p:α->Bool):Bool:=match l[k]? with|some x=>p x|none=>true
theorem B3{α:Type}{l:List α}{k:Nat}(h:k<l.length)(p:α->Bool):HJ l k p=p l[k]:=by unfold HJ;rw[Ad h]
theorem UQ(i:Nat):decide ((i:Int)>0)=decide (0<i):=by rw[decide_eq_decide];omega
theorem K6{α:Type}(l:List α)(x:α):l.length+[x].length=l.length+1:=rfl
theorem Rs{l:List Ac}(hl:l.length<2 ^ 62)(id:Int):jj l id=some (atF (fun x=>x.Id==id) l 0):=by
 grind[jj,px,jl,BL,BK,AE,jk,BN,AS]
theorem fP{l:List Ac}(hl:l.length<2 ^ 62)(id:Int):kL l id=some (atF (fun x=>x.Id==id) l 0):=by
 unfold kL ADk
 grind[px,AE,kK,ADj,BL,BK,kJ,BN,AS]
def AIX(e:Ac):Bool:=inB e.Level 0 4&&(inB e.A4 1 1000000&&(inB e.Id 1 999&&inB e.BW 1 6))
def qAt(l:List Ac)(i:Nat):Bool:=
 HJ l i fun e=>AIX e&&((if 0<i then HJ l (i-1) (fun d=>ltE d e) else true)&&!(decide (atF (fun x=>x.Id==e.Id) (l.take i) 0>=0)))
def Yr(l:List Ac):Bool:=!(decide ((l.length:Int)>10))&&Gl (qAt l) 0 l.length
theorem iI(l:List Ac)(hl:l.length<2 ^ 62):xR l=some (Yr l):=by
 unfold xR Yr;rw[HS (n:=l.length) (E:=some true) (qAt l) (by omega) ?_ ?_,CS,B9,Fh]
 .intro L i h;have hw:=Bc h (show l.length<2 ^ 63 by omega);unfold qAt;rw[B3 h];unfold VC;rw[Bq h,BL,BK h,AE];have hj3:∀b,NR L i b=br (!b) (L ((i+1:Nat):Int)) (some false):=by intro b;unfold NR;rw[hw];cases b<;>rfl
  have hq:(atF (fun x=>x.Id==l[i].Id) l 0 != (i:Int))=decide (atF (fun x=>x.Id==l[i].Id) (l.take i) 0>=0):=by
   grind[jF]
  have hj2:∀b,LQ l L i l[i] b=br (!b&&((if 0<i then HJ l (i-1) (fun d=>ltE d l[i]) else true)&&!(decide (atF (fun x=>x.Id==l[i].Id) (l.take i) 0>=0)))) (L ((i+1:Nat):Int)) (some false):=by
   intro b;unfold LQ;rw[UQ];by_cases h0:0<i
   .rw[decide_eq_true h0,BL,if_pos h0,HO i h0 (by omega),BK (show i-1<l.length by omega),AE,OH,AE,BB,Rs hl,AE,AS,AS,hj3,hj3,hq,B3 (by omega)];cases b<;>cases ltE l[i-1] l[i]<;>rfl
   .rw[decide_eq_false h0,BN,if_neg h0,Rs hl,AE,AS,hj3,hq];cases b<;>rfl
  unfold AIX;simp only[Gt,AE,AS,BB,hj2];generalize ((if 0<i then HJ l (i-1) (fun d=>ltE d l[i]) else true)&&!(decide (atF (fun x=>x.Id==l[i].Id) (l.take i) 0>=0)))=X;cases inB l[i].Level 0 4<;>cases inB l[i].A4 1 1000000<;>cases inB l[i].Id 1 999<;>cases inB l[i].BW 1 6<;>rfl
 grind[VC,jm,BN,AS]
theorem fQ(l:List Ac)(hl:l.length<2 ^ 62):xi l=some (Yr l):=by
 unfold xi Yr;rw[HS (n:=l.length) (E:=some true) (qAt l) (by omega) ?_ ?_,CS,B9,Fh]
 .intro L i h;have hw:=Bc h (show l.length<2 ^ 63 by omega);unfold qAt;rw[B3 h];unfold Vh;rw[Bq h,BL,BK h,AE];have hj3:∀b,LU L i b=br (!b) (L ((i+1:Nat):Int)) (some false):=by intro b;unfold LU;rw[hw];cases b<;>rfl
  have hj2:∀b,NS L i l[i] b=br (!b&&AIX l[i]) (L ((i+1:Nat):Int)) (some false):=by
   intro b;unfold NS AIX;have e4:w64 (5-1)=4:=by rw[Ao]<;>omega
   simp only[Gj,bf,AE,AS,BB,hj3,e4];cases b<;>cases inB l[i].Level 0 4<;>cases inB l[i].A4 1 1000000<;>cases inB l[i].Id 1 999<;>cases inB l[i].BW 1 6<;>rfl
  have hg:(0:Int)<=(i:Int)/\(i:Int)<=(l.length:Int):=by omega
  grind[BL,HO,BK,AE,YB,CG,fP,AS,B3,ltE,BN]
 grind[Vh,kM,BN,AS]
theorem UA{l:List Ac}(hl:l.length<=lim):VJ l=some l:=by
 unfold VJ;rw[CG (by omega),B1]
theorem vg{l:List Ac}(hl:l.length+1<=lim)(e:Ac):jw l e=some (put ltE e l):=by
 have h3:∀i:Nat,i<=l.length->VK l e i=some (l.take i++e::l.drop i):=by
  grind[VK,CG,UA,AE,C7]
 have hlim:lim=268435456:=rfl;unfold jw;refine Yo some (by omega) ?_ ?_
 .grind[VL,QS,BL,BK,AE,OH,AS]
 grind[VL,QS,BN,AS]
theorem Pz{l:List Ax}(hl:l.length+1<=lim)(e:Ax):aE l e=some (put ltP e l):=by
 have h3:∀i:Nat,i<=l.length->VP l e i=some (l.take i++e::l.drop i):=by
  grind[VP,CG]
 have hlim:lim=268435456:=rfl;unfold aE;refine Yo some (by omega) ?_ ?_
 .grind[VQ,QT,BL,BK,AE,UB,AS]
 grind[VQ,QT,BN,AS]
def ND(r:AW)(cabin now:Int)(p:AP):AA Ac:=if ((Fk r p now).2&&(p.Bf==cabin))=true then some (Fk r p now).1 else none
def Gw(r:AW)(l:List AP)(cabin now:Int):List Ac:=Cj ltE (l.filterMap (ND r cabin now))
theorem Rt{r:AW}(hr:r.Ae.length<2 ^ 62){l:List AP}(hl:l.length<=1048576)(c now:Int):jx r l c now=some (Gw r l c now):=by
 have hlim:lim=268435456:=rfl;have e0:w64 ((l.length:Int)-1)=(l.length:Int)-1-((0:Nat):Int):=by rw[Ao (by omega) (by omega)];omega
 unfold jx Gw;rw[e0];refine(Da (n:=l.length) (fun i (v:List Ac)=>(v,(l.length:Int)-1-(i:Int))) (fun i v=>v.length<=i) (fun i v=>some ((((l.take (l.length-i)).filterMap (ND r c now)).foldr (put ltE) v))) (by omega) ?_ (v:=[]) (by simp)).trans (by rw[Nat.sub_zero,List.take_length];rfl);intro L i v hv hi ih;unfold jz VM VN;dsimp only;rcases AY i l.length with h|h
 .obtain⟨k,hk⟩:∃k,l.length=i+(k+1):=⟨l.length-i-1,by omega⟩;have e1:(l.length:Int)-1-(i:Int)=(k:Int):=by omega
  have hkl:k<l.length:=by omega
  have e2:w64 ((k:Int)-1)=(l.length:Int)-1-((i+1:Nat):Int):=by rw[Ao (by omega) (by omega)];omega
  have e3:l.take (l.length-i)=l.take (l.length-(i+1))++[l[k]]:=by
   rw[show l.length-i=k+1 by omega,show l.length-(i+1)=k by omega,By,Ad hkl];rfl
  rw[e1,BD,if_pos (by omega)];simp only[BK hkl,AE,iC hr,C7,iX,AS,BN];have key:(br (Fk r l[k] now).2 (br (l[k].Bf==c) (bd (jw v (Fk r l[k] now).1) fun x9=>L (x9,w64 ((k:Int)-1))) (L (v,w64 ((k:Int)-1)))) (L (v,w64 ((k:Int)-1))))=some ((((l.take (l.length-i)).filterMap (ND r c now)).foldr (put ltE) v)):=by
   grind[vg,AE,ND,Fk,BL,BN,E4]
  exact key
 .obtain rfl:i=l.length:=by omega
  unfold jy;rw[BD,if_neg (by omega),AS,DD];rfl
theorem Za{α β:Type}(f:α->AA β){l:List α}{i:Nat}(h:i<l.length):(l.take (i+1)).filterMap f=(l.take i).filterMap f++(f l[i]).toList:=by
 rw[By,Ad h,List.filterMap_append];congr 1
theorem Zb{α β:Type}(f:α->AA β)(l:List α)(i:Nat):((l.take i).filterMap f).length<=i:=Nat.le_trans (List.length_filterMap_le _ _) (by rw[List.length_take];omega)
theorem collect{α β γ:Type}{l:List α}(f:α->AA β){F:(List β×Int->AA γ)->List β×Int->AA γ}(J:List β->AA γ)(hl:l.length<=1048576)
 (step:∀L i (h:i<l.length) v,v.length<=i->F L (v,(i:Int))=L (v++(f l[i]).toList,w64 ((i:Int)+1))) (stop:∀L v,F L (v,(l.length:Int))=J v):Aw F big ([],0)=J (l.filterMap f):=by
 refine(Da (n:=l.length) (fun i (v:List β)=>(v,(i:Int))) (fun i v=>v=(l.take i).filterMap f) (fun i v=>J (l.filterMap f)) (by omega) ?_ (by simp));intro L i v hv hi ih;rcases AY i l.length with h|h
 .rw[step L i h v (by rw[hv];exact Zb _ _ _),Bc h (by omega)];exact ih _ (by rw[hv,Za f h]) h
 grind
theorem Z9(c:Int):∀(l:List AP) (n:Int),l.foldl (JG c) n=n+(l.countP fun p=>p.Bf==c)
 | [],n=>by simp|p::l,n=>by
  rw[BV,Z9 c l,List.countP_cons]
  grind[JG]
theorem UR{β:Type}(f:AP->AA β)(c:Int)(hf:∀p,(p.Bf==c)=false->f p=none):∀l:List AP,((l.filterMap f).length:Int)<=D2 l c:=by
 intro l;unfold D2;rw[Z9,Int.zero_add]
 induction l with
 |nil=>simp|cons p l ih=>
  grind
theorem RN{r:AW}(hr:r.Ae.length<2 ^ 62){l:List AP}(hl:l.length<=1048576){c:Int}(hc:D2 l c<=19)(now:Int):Vn r l c now=some (Gw r l c now):=by
 have hlim:lim=268435456:=rfl;have hn:=UR (ND r c now) c (by intro p h;unfold ND;rw[h,CW];rfl) l;unfold Vn Gw;rw[collect (l:=l) (ND r c now) NV hl ?_ ?_]
 .unfold NV;rw[AJN (by omega),AE]
 .intro L i h v hv;unfold NW QZ Qa ND;dsimp only;rw[Bq h,BL,BK h,AE,RL hr,AE,AS,AS,CG (by rw[K6];omega),AS,AS];cases h1:(Fk r l[i] now).2<;>cases h2:l[i].Bf==c<;>simp
 grind[NW,BN,AS]
def Mn(cabin:Int)(p:AP):AA Ax:=if ((p.State==2)&&(p.Bf==cabin))=true then some ⟨p.C4,p.Id⟩ else none
def HL(l:List AP)(cabin:Int):List Ax:=Cj ltP (l.filterMap (Mn cabin))
theorem T7{l:List AP}(hl:l.length<=1048576)(c:Int):j6 l c=some (HL l c):=by
 have hlim:lim=268435456:=rfl;unfold j6 HL;rw[Np (l:=l) (fun v p=>match Mn c p with|some x=>put ltP x v|none=>v) (fun i v=>v.length<=i) some (by omega) ?_ ?_ ?_ (by simp),<-Sw Ei fh]
 .congr 1;generalize ([]:List Ax)=a;clear hl
  induction l generalizing a with
  |nil=>rfl|cons p l ih=>
   rw[BV,ih,List.filterMap_cons];cases Mn c p<;>rfl
 .intro L i h v hv;unfold VU VS VT Mn;dsimp only;rw[Bq h,BL];simp only[BK h,AE,AS,BN,Pz (show v.length+1<=lim by omega)];cases h1:l[i].State==2<;>cases h2:l[i].Bf==c<;>rfl
 .grind[E4]
 grind[VU,j7,BN,AS]
theorem Tx{l:List AP}(hl:l.length<=1048576){c:Int}(hc:D2 l c<=19):Vv l c=some (HL l c):=by
 have hlim:lim=268435456:=rfl;have hn:=UR (Mn c) c (by intro p h;unfold Mn;rw[h,CW];rfl) l;unfold Vv HL;rw[collect (l:=l) (Mn c) NY hl ?_ ?_]
 .unfold NY;rw[AJO (by omega),AE]
 .intro L i h v hv;unfold NZ Qd Qe Mn;dsimp only;rw[Bq h,BL,BK h,AE,AS,AS,CG (by rw[K6];omega),AS,AS];cases h1:l[i].State==2<;>cases h2:l[i].Bf==c<;>simp
 grind[NZ,BN,AS]
end Lv.P
