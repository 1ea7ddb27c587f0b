/-
  Plain laws: events and loops.
-/
import Derived.Test.YthnbolemafdhfaaGreatTB
import Derived.Test.YthnbolemafdhfaaGreatKC
set_option linter.unusedVariables false
set_option linter.unusedSimpArgs false
set_option linter.unusedSectionVars false
namespace Lv.P
open Go (IntKind BinOp UnOp)
theorem mY{n:Int}(h1:-9223372036854775808<=n)(h2:n<9223372036854775808):IntKind.i64.wrap n=n:=by
 simp only [IntKind.wrap,IntKind.bits,IntKind.signed];simp;omega
theorem Ai{n:Int}(h1:-9223372036854775808<=n)(h2:n<9223372036854775808):w64 n=n:=mY h1 h2
theorem vQ{n:Int}(h1:0<=n)(h2:n<256):IntKind.u8.wrap n=n:=by
 simp only [IntKind.wrap,IntKind.bits,IntKind.signed];simp;omega
theorem mR{n:Nat}(h:n<256):toB (n:Int)=UInt8.ofNat n:=by
 unfold toB;rw [vQ (by omega) (by omega)];rfl
@[simp] theorem vi{α:Type}(l:List α)(i:Nat):at? l (i:Int)=l[i]?:=by simp [at?]
@[simp] theorem qO{α:Type}(l:List α):at? l 0=l[0]?:=by simp [at?]
theorem NS(k:Nat)(h:k<2 ^ 64):k<big:=by have:=qR;omega
theorem qS(k:Nat)(h:k<2 ^ 64):∃n,big=n+1+k:=⟨big-1-k,by have:=qR;omega⟩
section
variable{σ γ:Type}
theorem cm{F:(σ->Option γ)->σ->Option γ}(R:σ->Option γ)(I:σ->Prop)(μ:σ->Nat)
 (step:∀(L:σ->Option γ) x,I x->(∀y,I y->μ y<μ x->L y=R y)->F L x=R x):∀n x,I x->μ x<n->Ap F n x=R x
 |0,x,_,h=>by omega
 |n+1,x,hI,hn=>by
  rw [GX];exact step _ x hI fun y hy hm=>cm R I μ step n y hy (by omega)
theorem Wq{F:(σ->Option γ)->σ->Option γ}(R:σ->Option γ)(I:σ->Prop)(μ:σ->Nat)
 (step:∀(L:σ->Option γ) x,I x->(∀y,I y->μ y<μ x->L y=R y)->F L x=R x) {x:σ} (hI:I x) (hm:μ x<2 ^ 64):Ap F big x=R x:=
 cm R I μ step big x hI (NS _ hm)
end
section
variable{α γ:Type}
@[simp] theorem BE(x y:Option γ):br true x y=x:=rfl
@[simp] theorem A9(x y:Option γ):br false x y=y:=rfl
@[simp] theorem BT(p:Prop) [Decidable p] (x y:Option γ):br (decide p) x y=if p then x else y:=by unfold br;by_cases h:p <;> simp [h]
@[simp] theorem Bg(b:Bool)(x y:Option γ):br (!b) x y=br b y x:=by cases b <;> rfl
@[simp] theorem AD(a:α)(f:α->Option γ):bd (some a) f=f a:=by rw [fS];rfl
@[simp] theorem ABm(f:α->Option γ):bd none f=none:=by rw [fS];rfl
@[simp] theorem AO(F:α->Option γ)(x:α):jn F x=F x:=rf F x
theorem BP{p:Prop} [Decidable p] (h:p) (x:Option γ):gd p x=x:=by rw [rW,if_pos h]
theorem A7(b:Bool)(x y:Option γ):br b x y=if b=true then x else y:=rfl
end
theorem B8{τ σ γ:Type}{F:(τ->Option γ)->τ->Option γ}(st:Nat->σ->τ)(I:Nat->σ->Prop)(R:Nat->σ->Option γ){n:Nat}(hn:n<2 ^ 63)
 (step:∀L i v,I i v->i<=n->(∀v',I (i+1) v'->i<n->L (st (i+1) v')=R (i+1) v')->F L (st i v)=R i v) {v:σ} (h0:I 0 v):Ap F big (st 0 v)=R 0 v:=by
 have key:∀(m i k:Nat) (v:σ),i+m=n->m<k->I i v->Ap F k (st i v)=R i v:=by
  intro m
  induction m with
  |zero=>
   intro i k v hi hk h;obtain⟨k,rfl⟩:∃j,k=j+1:=⟨k-1,by omega⟩;rw [GX];exact step _ i v h (by omega) fun v' _ h3=>by omega
  |succ m ih=>
   intro i k v hi hk h;obtain⟨k,rfl⟩:∃j,k=j+1:=⟨k-1,by omega⟩;rw [GX];exact step _ i v h (by omega) fun v' h2 h3=>ih (i+1) k v' (by omega) (by omega) h2
 exact key n 0 big v (by omega) (NS _ (by omega)) h0
theorem Af{α:Type}{l:List α}{i:Nat}(h:i<l.length):at? l (i:Int)=some l[i]:=by rw [vi,List.getElem?_eq_getElem h]
theorem dec_lt{l:Nat}{i:Nat}:decide ((i:Int)<(l:Int))=decide (i<l):=by rw [decide_eq_decide];omega
theorem Av{i n:Nat}(h:i<n)(hn:n<2 ^ 63):w64 ((i:Int)+1)=((i+1:Nat):Int):=by rw [Ai (by omega) (by omega)];rfl
theorem Ch{α:Type}{l:List α}{i:Nat}(h:i<l.length):l.drop i=l[i]::l.drop (i+1):=List.drop_eq_getElem_cons h
theorem fz{σ γ:Type}{F:(σ->Option γ)->σ->Option γ}(I:σ->Prop)(μ:σ->Nat)(Q:γ->Prop)
 (step:∀(L:σ->Option γ) x,I x->(∀y,I y->μ y<μ x->∃r,L y=some r/\Q r)->∃r,F L x=some r/\Q r):∀n x,I x->μ x<n->∃r,Ap F n x=some r/\Q r
 |0,x,_,h=>by omega
 |n+1,x,hI,hn=>by
  rw [GX];exact step _ x hI fun y hy hm=>fz I μ Q step n y hy (by omega)
theorem Hb{τ σ γ:Type}{F:(τ->Option γ)->τ->Option γ}(st:Nat->σ->τ)(I:Nat->σ->Prop)(Q:γ->Prop){n:Nat}(hn:n<2 ^ 63)
 (step:∀L i v,I i v->i<=n->(∀v',I (i+1) v'->i<n->∃r,L (st (i+1) v')=some r/\Q r)->∃r,F L (st i v)=some r/\Q r) {v:σ} (h0:I 0 v):∃r,Ap F big (st 0 v)=some r/\Q r:=by
 have key:∀(m i k:Nat) (v:σ),i+m=n->m<k->I i v->∃r,Ap F k (st i v)=some r/\Q r:=by
  intro m
  induction m with
  |zero=>
   intro i k v hi hk h;obtain⟨k,rfl⟩:∃j,k=j+1:=⟨k-1,by omega⟩;rw [GX];exact step _ i v h (by omega) fun v' _ h3=>by omega
  |succ m ih=>
   intro i k v hi hk h;obtain⟨k,rfl⟩:∃j,k=j+1:=⟨k-1,by omega⟩;rw [GX];exact step _ i v h (by omega) fun v' h2 h3=>ih (i+1) k v' (by omega) (by omega) h2
 exact key n 0 big v (by omega) (NS _ (by omega)) h0
end Lv.P
namespace Lv.P
open Go (IntKind BinOp UnOp)
def inB(a b c:Int):Bool:=decide (b<=a/\a<=c)
theorem BH{a b c:Int}:inB a b c=true↔b<=a/\a<=c:=by unfold inB;exact decide_eq_true_iff
theorem EG(a b c:Int):CN a b c=some (inB a b c):=by
 unfold CN Qq inB;simp only [BT,AO];by_cases h:a>=b <;> simp [h,show b<=a↔a>=b from Iff.rfl]
theorem Cd(a b:Bool):br a (some b) (some false)=some (a&&b):=by cases a <;> rfl
theorem qX(a b:Bool):br a (some true) (some b)=some (a||b):=by cases a <;> rfl
theorem I0(a b:Bool):br a (some false) (some b)=some (!a&&b):=by cases a <;> rfl
theorem vt{γ:Type}(a:Bool)(x:Option γ):br a x x=x:=by cases a <;> rfl
def F5(p:Nat->Bool):Nat->Nat->Bool
 |_,0=>true
 |i,m+1=>p i&&F5 p (i+1) m
theorem dZ{p:Nat->Bool}:∀{m i:Nat},F5 p i m=true↔∀k,i<=k->k<i+m->p k=true
 |0,i=>by simp [F5];omega
 |m+1,i=>by
  unfold F5;rw [Bool.and_eq_true,dZ];constructor
  .rintro⟨h1,h2⟩ k h3 h4;rcases Nat.eq_or_lt_of_le h3 with rfl|h5
   .exact h1
   .exact h2 k h5 (by omega)
  .intro h;exact⟨h i (by omega) (by omega),fun k h1 h2=>h k (by omega) (by omega)⟩
theorem GN{p:Nat->Bool}{n:Nat}:F5 p 0 n=true↔∀k,k<n->p k=true:=by
 rw [dZ];exact⟨fun h k hk=>h k (by omega) (by omega),fun h k _ hk=>h k (by omega)⟩
theorem Hp{n:Nat}{F:(Int->Option Bool)->Int->Option Bool}{E:Option Bool}(p:Nat->Bool)(hn:n<2 ^ 63)
 (step:∀L (i:Nat),i<n->F L (i:Int)=br (p i) (L ((i+1:Nat):Int)) (some false)) (stop:∀L,F L (n:Int)=E):Ap F big 0=br (F5 p 0 n) E (some false):=by
 have:=B8 (F:=F) (n:=n) (fun i (_:Unit)=>(i:Int)) (fun _ _=>True) (fun i _=>br (F5 p i (n-i)) E (some false)) hn ?_ (v:=()) trivial
 .exact this
 .intro L i v _ hi ih;rcases Nat.lt_or_ge i n with h|h
  .rw [step L i h,ih () trivial h,show n-i=(n-(i+1))+1 by omega,show F5 p i (n-(i+1)+1)=(p i&&F5 p (i+1) (n-(i+1))) from rfl];cases p i <;> rfl
  .obtain rfl:i=n:=by omega
   rw [stop,Nat.sub_self];rfl
theorem qG{α:Type}(l:List α)(p:α->Bool)(q:Nat->Bool)(h:∀k (hk:k<l.length),q k=p l[k]):F5 q 0 l.length=l.all p:=by
 rw [Bool.eq_iff_iff,GN,List.all_eq_true];constructor
 .intro g x hx;obtain⟨k,hk,rfl⟩:=List.getElem_of_mem hx;rw [<-h k hk];exact g k hk
 .intro g k hk;rw [h k hk];exact g _ (List.getElem_mem _)
theorem A4{i n:Nat}(h:i<n):decide ((i:Int)<(n:Int))=true:=by rw [decide_eq_true_iff];omega
theorem A3(n:Nat):decide ((n:Int)<(n:Int))=false:=by rw [decide_eq_false_iff_not];omega
theorem yH{α:Type}{l:List α}{F:(Int->Option Bool)->Int->Option Bool}{E:Option Bool}(p:α->Bool)(hn:l.length<2 ^ 63)
 (step:∀L (i:Nat) (h:i<l.length),F L (i:Int)=br (p l[i]) (L (w64 ((i:Int)+1))) (some false)) (stop:∀L,F L (l.length:Int)=E):Ap F big 0=br (l.all p) E (some false):=by
 have:=Hp (F:=F) (n:=l.length) (E:=E) (fun i=>match l[i]? with|some x=>p x|none=>true) hn ?_ stop
 .rw [this,qG l p _ ?_];intro k hk;simp [hk]
 .intro L i h;rw [step L i h,Av h hn];simp [h]
def DY(r:AN):Bool:=inB r.AM.length 1 4&&(inB r.Bq 1 5&&(inB r.Room 1 10&&(inB r.AY 1 6&&(inB r.CI 1 12&&(r.AM.all (fun x=>inB x 1 60)&&(inB r.BI 1 8&&(inB r.Rest 0 8&&(inB r.BF 1 4&&inB r.Cc 1 3))))))))
theorem FE{r:AN}(hr:r.AM.length<2 ^ 62):fc r=some (DY r):=by
 have hj:∀b,I3 r b=some (!b&&(r.AM.all (fun x=>inB x 1 60)&&(inB r.BI 1 8&&(inB r.Rest 0 8&&(inB r.BF 1 4&&inB r.Cc 1 3))))):=by
  intro b;unfold I3;rw [yH (l:=r.AM) (fun x=>inB x 1 60) (E:=some (inB r.BI 1 8&&(inB r.Rest 0 8&&(inB r.BF 1 4&&inB r.Cc 1 3)))) (by omega) ?_ ?_,Cd,I0]
  .intro L i h;unfold Xu;rw [A4 h,BE,Af h,AD,EG,AD,Bg]
  .intro L;unfold Xu j7 Nb;rw [A3,A9];simp only [AO,EG,AD,Cd]
 unfold fc;simp only [EG,AD,Bg,AO,hj,Bool.not_true,Bool.false_and,Cd,Bool.not_not];rfl
theorem BN{r:AN}(h:DY r=true):(1<=r.AM.length/\r.AM.length<=4)/\(1<=r.Bq/\r.Bq<=5)/\(1<=r.Room/\r.Room<=10)/\(1<=r.AY/\r.AY<=6)/\(1<=r.CI/\r.CI<=12)/\(∀x∈r.AM,1<=x/\x<=60)/\(1<=r.BI/\r.BI<=8)/\(0<=r.Rest/\r.Rest<=8)/\(1<=r.BF/\r.BF<=4)/\(1<=r.Cc/\r.Cc<=3):=by
 unfold DY at h;simp only [Bool.and_eq_true,BH,List.all_eq_true] at h;obtain⟨h1,h2,h3,h4,h5,h6,h7,h8,h9,h10⟩:=h;exact⟨by omega,h2,h3,h4,h5,h6,h7,h8,h9,h10⟩
def Bc(r:AN)(p:AH)(now:Int):Bool:=
 DY r&&(inB now 0 1000000&&(inB p.Id 1 999&&(inB p.AK 0 (w64 ((r.AM.length:Int)-1))&&(inB p.Ay (-1) (w64 ((r.AM.length:Int)-1))&&(!(p.Ay==p.AK)&&(inB p.AY 1 r.AY&&(inB p.Bb 0 (w64 (r.Bq-1))&&(inB p.Since 0 now&&(inB p.AQ 1 1000000&&(inB p.Ba 0 (w64 (r.BF-1))&&(((p.State==1)&&inB p.Bh 0 (w64 (now+r.Rest)))||((p.State==2)&&inB p.Bh 1 (w64 (now+r.BI))))))))))))))
theorem Jc{r:AN}(hr:r.AM.length<2 ^ 62)(p:AH)(now:Int):m0 r p now=some (Bc r p now):=by
 have h2:∀b,I4 r p now b=some (!b&&(((p.State==1)&&inB p.Bh 0 (w64 (now+r.Rest)))||((p.State==2)&&inB p.Bh 1 (w64 (now+r.BI))))):=by
  intro b;unfold I4 Lb;simp only [EG,AD,AO,Cd,qX];cases p.State==1 <;> cases b <;> rfl
 have h1:∀b,HV r p now b=some (!b&&(inB p.AY 1 r.AY&&(inB p.Bb 0 (w64 (r.Bq-1))&&(inB p.Since 0 now&&(inB p.AQ 1 1000000&&(inB p.Ba 0 (w64 (r.BF-1))&&(((p.State==1)&&inB p.Bh 0 (w64 (now+r.Rest)))||((p.State==2)&&inB p.Bh 1 (w64 (now+r.BI)))))))))):=by
  intro b;unfold HV;simp only [EG,AD,AO,Bg,h2,Bool.not_true,Bool.false_and,Cd,I0,Bool.not_not]
 unfold m0;simp only [FE hr,EG,AD,AO,Bg,h1,Bool.not_true,Bool.false_and,Cd];rfl
def Tp(r:AN)(tier waited:Int):Int:=if 0>w64 (tier-w64 (waited.tdiv r.CI)) then 0 else w64 (tier-w64 (waited.tdiv r.CI))
theorem IW(a b:Int):Jw a b=some (if a>b then a else b):=by
 unfold Jw;rw [BT];split <;> rfl
theorem Zf{r:AN}(hr:r.CI≠0)(t w:Int):wT r t w=some (Tp r t w):=by
 unfold wT;rw [BP hr,IW,AD];rfl
theorem Wp(r:AN)(t w:Int):0<=Tp r t w:=by unfold Tp;split <;> omega
theorem Cb{r:AN}{p:AH}{now:Int}(h:Bc r p now=true):DY r=true/\(0<=now/\now<=1000000)/\(1<=p.Id/\p.Id<=999)/\(0<=p.AK/\p.AK<=r.AM.length-1)/\(-1<=p.Ay/\p.Ay<=r.AM.length-1)/\p.Ay≠p.AK/\(1<=p.AY/\p.AY<=r.AY)/\(0<=p.Bb/\p.Bb<=r.Bq-1)/\(0<=p.Since/\p.Since<=now)/\(1<=p.AQ/\p.AQ<=1000000)/\(0<=p.Ba/\p.Ba<=r.BF-1)/\(p.State=1/\0<=p.Bh/\p.Bh<=now+r.Rest\/p.State=2/\1<=p.Bh/\p.Bh<=now+r.BI):=by
 unfold Bc at h;simp only [Bool.and_eq_true,BH,Bool.or_eq_true,beq_iff_eq,Bool.not_eq_true',beq_eq_false_iff_ne] at h;obtain⟨h1,h2,h3,h4,h5,h6,h7,h8,h9,h10,h11,h12⟩:=h;have hr:=BN h1;rw [Ai (by omega) (by omega)] at h4 h5 h8 h11;rw [Ai (by omega) (by omega),Ai (by omega) (by omega)] at h12;exact⟨h1,h2,h3,h4,h5,h6,h7,h8,h9,h10,h11,h12⟩
def D4(r:AN)(p:AH)(now:Int):Int:=if Bc r p now=true then Tp r p.Bb (w64 (now-p.Since)) else -1
theorem ZX{r:AN}(hr:r.AM.length<2 ^ 62)(p:AH)(now:Int):wV r p now=some (D4 r p now):=by
 unfold wV D4;rw [Jc hr,AD,Bg,A7];split
 .rename_i h;have:=(BN (Cb h).1).2.2.2.2.1;rw [Zf (by omega),AD]
 .rfl
def C1(r:AN)(p:AH)(now:Int):AT×Bool:=if Bc r p now=true/\p.State=1 then (⟨D4 r p now,p.AQ,p.Id,p.AY⟩,true) else (⟨0,0,0,0⟩,false)
theorem Ob{r:AN}(hr:r.AM.length<2 ^ 62)(p:AH)(now:Int):m6 r p now=some (C1 r p now):=by
 unfold m6 YE C1;rw [ZX hr,AD,BT,AO,AO,BE];by_cases h:Bc r p now=true
 .have:=Wp r p.Bb (w64 (now-p.Since));have e:¬D4 r p now<0:=by unfold D4;rw [if_pos h];omega
  rw [if_neg e,A7];by_cases h2:p.State=1 <;> simp [h,h2]
 .have e:D4 r p now<0:=by unfold D4;rw [if_neg h];omega
  rw [if_pos e,if_neg (fun g=>h g.1)]
def CO(l:Am):Bool:=inB l.Total 1 60&&(inB l.Co 0 l.Total&&(inB l.Cp 0 l.Total&&(inB l.Dz 0 l.Total&&((w64 (w64 (l.Co+l.Cp)+l.Dz)==l.Total)&&inB l.EB 0 l.Dz))))
theorem Hw(l:Am):fe l=some (CO l):=by
 unfold fe I5 CO;simp only [EG,AD,AO,Cd]
end Lv.P
namespace Lv.P
open Go (IntKind BinOp UnOp)
section
variable{α:Type}(lt:α->α->Bool)
def put(x:α):List α->List α
 | []=>[x]
 |z::l=>if lt z x=true then z::put x l else x::z::l
structure Swo:Prop where
 fO:∀a b,lt a b=true->lt b a=false
 neg:∀a b c,lt a c=true->lt a b=true\/lt b c=true
def BY(l:List α):List α:=l.foldr (put lt) []
variable {lt}
theorem Swo.trans(h:Swo lt){a b c:α}(h1:lt a b=true)(h2:lt b c=true):lt a c=true:=by
 rcases h.neg a c b h1 with h3|h3
 .exact h3
 .rw [h.fO _ _ h2] at h3;cases h3
theorem ZH(h:Swo lt)(ht:∀a b,lt a b=false->lt b a=false->a=b)(x y:α):∀l,put lt x (put lt y l)=put lt y (put lt x l)
 | []=>by
  simp only [put];cases h1:lt y x with
  |true=>simp [h.fO _ _ h1]
  |false=>
   cases h2:lt x y with
   |true=>simp
   |false=>simp [ht _ _ h1 h2]
 |z::l=>by
  cases h1:lt z y with
  |true=>
   cases h2:lt z x with
   |true=>simp only [put,h1,h2,if_true];rw [ZH h ht x y l]
   |false=>
    have h3:lt x y=true:=(h.neg z x y h1).resolve_left (by simp [h2]);simp [put,h1,h2,h3]
  |false=>
   cases h2:lt z x with
   |true=>
    have h3:lt y x=true:=(h.neg z y x h2).resolve_left (by simp [h1]);simp [put,h1,h2,h3]
   |false=>
    cases h3:lt y x with
    |true=>simp [put,h1,h2,h3,h.fO _ _ h3]
    |false=>
     cases h4:lt x y with
     |true=>simp [put,h1,h2,h3,h4]
     |false=>simp [ht _ _ h3 h4]
theorem Wb(h:Swo lt)(ht:∀a b,lt a b=false->lt b a=false->a=b):∀(l acc:List α) (a:α),l.foldl (fun s x=>put lt x s) (put lt a acc)=put lt a (l.foldl (fun s x=>put lt x s) acc)
 | [],_,_=>rfl
 |x::l,acc,a=>by rw [List.foldl_cons,ZH h ht,Wb h ht l,List.foldl_cons]
theorem PZ(h:Swo lt)(ht:∀a b,lt a b=false->lt b a=false->a=b):∀l:List α,l.foldl (fun s x=>put lt x s) []=BY lt l
 | []=>rfl
 |a::l=>by rw [List.foldl_cons,Wb h ht,PZ h ht l];rfl
theorem GZ(x:α):∀l,(put lt x l).length=l.length+1
 | []=>rfl
 |z::l=>by unfold put;split <;> simp [GZ x l]
theorem FZ:∀l:List α,(BY lt l).length=l.length
 | []=>rfl
 |a::l=>by
  have:=FZ l;unfold BY at this ⊢;rw [List.foldr_cons,GZ,this];rfl
theorem Lw{x a:α}:∀{l},a∈put lt x l↔a=x\/a∈l
 | []=>by simp [put]
 |z::l=>by
  unfold put;split
  .rw [List.mem_cons,Lw,List.mem_cons];constructor
   .rintro(h|h|h) <;> simp [h]
   .rintro(h|h|h) <;> simp [h]
  .simp
theorem IV{a:α}:∀{l:List α},a∈BY lt l↔a∈l
 | []=>by simp [BY]
 |z::l=>by
  have:=IV (a:=a) (l:=l);unfold BY at this ⊢;rw [List.foldr_cons,Lw,this,List.mem_cons]
def Srt(lt:α->α->Bool)(l:List α):Prop:=l.Pairwise fun a b=>lt b a=false
theorem Ug{γ:Type}{F:(Int->Option γ)->Int->Option γ}{l:List α}{x:α}(J:List α->Option γ)(hl:l.length<2 ^ 62)
 (step:∀L (i:Nat) (h:i<l.length),F L (i:Int)=br (lt l[i] x) (L (w64 ((i:Int)+1))) (J (l.take i++x::l.drop i)))
 (stop:∀L,F L (l.length:Int)=J (l++[x])):Ap F big 0=J (put lt x l):=by
 refine(B8 (n:=l.length) (fun i (_:Unit)=>(i:Int)) (fun _ _=>True) (fun i _=>J (l.take i++put lt x (l.drop i))) (by omega) ?_ (v:=()) trivial).trans (by simp);intro L i _ _ hi ih;rcases Nat.lt_or_ge i l.length with h|h
 .rw [step L i h,Av h (by omega),Ch h,put];cases e:lt l[i] x with
  |true=>
   have e2:l.take (i+1)=l.take i++[l[i]]:=by rw [List.take_add_one,List.getElem?_eq_getElem h];rfl
   rw [BE,ih () trivial h,e2,List.append_assoc];rfl
  |false=>rfl
 .obtain rfl:i=l.length:=by omega
  rw [stop];simp [put]
end
theorem VQ(n:Nat)(h:0<n)(hn:n<2 ^ 63):w64 ((n:Int)-1)=((n-1:Nat):Int):=by rw [Ai (by omega) (by omega)];omega
def ltE(a b:AT):Bool:=decide (a.Level<b.Level)||((a.Level==b.Level)&&decide (a.AQ<b.AQ))
theorem Ll{a b:AT}:ltE a b=true↔a.Level<b.Level\/a.Level=b.Level/\a.AQ<b.AQ:=by simp [ltE]
theorem sA{a b:AT}:ltE a b=false↔¬(a.Level<b.Level\/a.Level=b.Level/\a.AQ<b.AQ):=by rw [<-Ll];simp
def ltP(a b:Ag):Bool:=decide (a.At<b.At)||((a.At==b.At)&&decide (a.Id<b.Id))
theorem Q8{a b:Ag}:ltP a b=true↔a.At<b.At\/a.At=b.At/\a.Id<b.Id:=by simp [ltP]
theorem cu{a b:Ag}:ltP a b=false↔¬(a.At<b.At\/a.At=b.At/\a.Id<b.Id):=by rw [<-Q8];simp
theorem lh:Swo ltE:=⟨fun a b h=>by rw [Ll] at h;rw [sA];omega,fun a b c h=>by rw [Ll] at *;rw [Ll];omega⟩
theorem CP:Swo ltP:=⟨fun a b h=>by rw [Q8] at h;rw [cu];omega,fun a b c h=>by rw [Q8] at *;rw [Q8];omega⟩
theorem OE(a b:Ag)(h1:ltP a b=false)(h2:ltP b a=false):a=b:=by
 rw [cu] at h1 h2;obtain⟨x,y⟩:=a;obtain⟨z,w⟩:=b;dsimp only at h1 h2;have:x=z:=by omega
 have:y=w:=by omega
 subst x y;rfl
theorem LK(a b:AT):rG a b=some (ltE a b):=by
 unfold rG Qs ltE;simp only [AO,Cd,qX]
theorem Qb(a b:Ag):rI a b=some (ltP a b):=by
 unfold rI Qt ltP;simp only [AO,Cd,qX]
set_option maxRecDepth 100000
end Lv.P
namespace Lv.P
open Go (IntKind BinOp UnOp)
section
variable{α σ γ:Type}
theorem Se{l:List α}{F:(σ×Int->Option γ)->σ×Int->Option γ}(f:σ->α->σ)(I:Nat->σ->Prop)(J:σ->Option γ)(hl:l.length<2 ^ 63)
 (step:∀L i (h:i<l.length) v,I i v->F L (v,(i:Int))=L (f v l[i],w64 ((i:Int)+1))) (CU:∀i (h:i<l.length) v,I i v->I (i+1) (f v l[i]))
 (stop:∀L v,I l.length v->F L (v,(l.length:Int))=J v) {v0:σ} (h0:I 0 v0):Ap F big (v0,0)=J (l.foldl f v0):=by
 refine(B8 (n:=l.length) (fun i (v:σ)=>(v,(i:Int))) I (fun i v=>J ((l.drop i).foldl f v)) hl ?_ h0);intro L i v hv hi ih;rcases Nat.lt_or_ge i l.length with h|h
 .rw [step L i h v hv,Av h hl,Ch h,List.foldl_cons];exact ih _ (CU i h v hv) h
 .obtain rfl:i=l.length:=by omega
  rw [stop L v hv,List.drop_length];rfl
def GO(eq:α->α->Bool):List α->List α->Bool
 | [],[]=>true
 |x::a,y::b=>eq x y&&GO eq a b
 |_,_=>false
theorem Fk{eq:α->α->Bool}(he:∀x y,eq x y=true↔x=y):∀{a b:List α},GO eq a b=true↔a=b
 | [],[]=>by simp [GO]
 | [],y::b=>by simp [GO]
 |x::a,[]=>by simp [GO]
 |x::a,y::b=>by rw [GO,Bool.and_eq_true,he,Fk he,List.cons.injEq]
theorem dv{eq:α->α->Bool}:∀{a b:List α},a.length≠b.length->GO eq a b=false
 | [],[],h=>by simp at h
 | [],y::b,h=>rfl
 |x::a,[],h=>rfl
 |x::a,y::b,h=>by rw [GO,dv (a:=a) (b:=b) (by simpa using h),Bool.and_false]
theorem ud{eq:α->α->Bool}{a b:List α}{F:(Int->Option Bool)->Int->Option Bool}(hl:a.length<2 ^ 63)(hab:a.length=b.length)
 (step:∀L i (h:i<a.length) (h':i<b.length),F L (i:Int)=br (!(eq a[i] b[i])) (some false) (L (w64 ((i:Int)+1)))) (stop:∀L,F L (a.length:Int)=some true):Ap F big 0=some (GO eq a b):=by
 refine(B8 (n:=a.length) (fun i (_:Unit)=>(i:Int)) (fun _ _=>True) (fun i _=>some (GO eq (a.drop i) (b.drop i))) hl ?_ (v:=()) trivial);intro L i _ _ hi ih;rcases Nat.lt_or_ge i a.length with h|h
 .rw [step L i h (by omega),Av h hl,Ch h,Ch (l:=b) (i:=i) (by omega),GO,Bg];cases eq a[i] b[i] with
  |true=>rw [BE,ih () trivial h];rfl
  |false=>rfl
 .obtain rfl:i=a.length:=by omega
  rw [stop,List.drop_length,List.drop_eq_nil_of_le (by omega)];rfl
theorem uc{eq:α->α->Bool}{a b:List α}{F:(Int->Option Bool)->Int->Option Bool}(hl:a.length<2 ^ 63)
 (step:∀L i (h:i<a.length) (h':i<b.length),F L (i:Int)=br (!(eq a[i] b[i])) (some false) (L (w64 ((i:Int)+1)))) (stop:∀L,F L (a.length:Int)=some true) :
 br ((a.length:Int) != (b.length:Int)) (some false) (Ap F big 0)=some (GO eq a b):=by
 by_cases h:a.length=b.length
 .have e:((a.length:Int) != (b.length:Int))=false:=by simp [h]
  rw [e,A9,ud hl h step stop]
 .have e:((a.length:Int) != (b.length:Int))=true:=by simp;omega
  rw [e,BE,dv h]
def atF(p:α->Bool):List α->Nat->Int
 | [],_=>-1
 |x::l,i=>if p x=true then (i:Int) else atF p l (i+1)
theorem fP{p:α->Bool}{l:List α}{F:(Int->Option Int)->Int->Option Int}(hl:l.length<2 ^ 63)
 (step:∀L i (h:i<l.length),F L (i:Int)=br (p l[i]) (some (i:Int)) (L (w64 ((i:Int)+1)))) (stop:∀L,F L (l.length:Int)=some (-1)):Ap F big 0=some (atF p l 0):=by
 refine(B8 (n:=l.length) (fun i (_:Unit)=>(i:Int)) (fun _ _=>True) (fun i _=>some (atF p (l.drop i) i)) hl ?_ (v:=()) trivial);intro L i _ _ hi ih;rcases Nat.lt_or_ge i l.length with h|h
 .rw [step L i h,Av h hl,Ch h,atF];cases p l[i] with
  |true=>rfl
  |false=>rw [A9,ih () trivial h];simp
 .obtain rfl:i=l.length:=by omega
  rw [stop,List.drop_length];rfl
theorem Z7{p:α->Bool}:∀{l:List α} {s:Nat},atF p l s<0↔∀x∈l,p x=false
 | [],s=>by simp [atF]
 |x::l,s=>by
  unfold atF;split
  .rename_i h;simp [h]
  .rename_i h;rw [Z7];simp [h]
theorem Z8{p:α->Bool}:∀{l:List α} {i:Nat} (s:Nat) (h:i<l.length),p l[i]=true->((atF p l s != ((s+i:Nat):Int))=decide (atF p (l.take i) s>=0))
 | [],i,s,h,hp=>by simp at h
 |x::l,0,s,h,hp=>by
  simp only [List.getElem_cons_zero] at hp;simp [atF,hp]
 |x::l,i+1,s,h,hp=>by
  simp only [List.getElem_cons_succ] at hp;rw [List.take_succ_cons,atF,atF];by_cases hx:p x=true
  .rw [if_pos hx,if_pos hx];rw [Bool.eq_iff_iff];simp;omega
  .rw [if_neg hx,if_neg hx];have:=Z8 (l:=l) (i:=i) (s+1) (by simpa using h) hp;rw [<-this,show s+1+i=s+(i+1) by omega]
end
def Hr(cabin:Int)(n:Int)(p:AH):Int:=if (p.AK==cabin)=true then n+1 else n
def Bk(l:List AH)(cabin:Int):Int:=l.foldl (Hr cabin) 0
def QO(cabin:Int)(n:Int)(p:AH):Int:=if ((p.State==2)&&((p.AK==cabin)&&inB p.AY 1 6))=true then n+p.AY else n
def FM(l:List AH)(cabin:Int):Int:=l.foldl (QO cabin) 0
def Qe(cabin:Int)(n:Int)(p:AH):Int:=if ((p.Ay==cabin)&&inB p.AY 1 6)=true then n+p.AY else n
def FH(l:List AH)(cabin:Int):Int:=l.foldl (Qe cabin) 0
theorem mq(cabin:Int)(p:AH){i:Nat}{n:Int}(h:0<=n/\n<=i):0<=Hr cabin n p/\Hr cabin n p<=((i+1:Nat):Int):=by unfold Hr;split <;> omega
theorem cR(cabin:Int)(p:AH){i:Nat}{n:Int}(h:0<=n/\n<=6*i):0<=QO cabin n p/\QO cabin n p<=6*((i+1:Nat):Int):=by
 unfold QO;split
 .rename_i g;simp only [Bool.and_eq_true,BH] at g;omega
 .omega
theorem eS(cabin:Int)(p:AH){i:Nat}{n:Int}(h:0<=n/\n<=6*i):0<=Qe cabin n p/\Qe cabin n p<=6*((i+1:Nat):Int):=by
 unfold Qe;split
 .rename_i g;simp only [Bool.and_eq_true,BH] at g;omega
 .omega
theorem Gb{l:List AH}(hl:l.length<2 ^ 58)(c:Int):fb l c=some (Bk l c):=by
 unfold fb;refine Se (l:=l) (Hr c) (fun i n=>0<=n/\n<=i) some (by omega) ?_ (fun i h v hv=>mq c _ hv) ?_ (by simp)
 .intro L i h v hv;unfold Xs Xr Hr;dsimp only;rw [A4 h,BE,Af h,AD,AO,AO,Ai (n:=v+1) (by omega) (by omega),A7];split <;> rfl
 .intro L v hv;unfold Xs js;dsimp only;rw [A3,A9,AO]
theorem LL{l:List AH}(hl:l.length<2 ^ 58)(c:Int):mu l c=some (FM l c):=by
 unfold mu;refine Se (l:=l) (QO c) (fun i n=>0<=n/\n<=6*i) some (by omega) ?_ (fun i h v hv=>cR c _ hv) ?_ (by simp)
 .intro L i h v hv;have hk:=cR c l[i] hv;unfold QO at hk ⊢;unfold Xn Qo Xm;dsimp only;rw [A4 h,BE];simp only [Af h,AD,AO,EG,A9];cases h1:l[i].State==2 <;> cases h2:l[i].AK==c <;> cases h3:inB l[i].AY 1 6 <;> simp only [BE,A9,Bool.true_and,Bool.false_and,if_true,Bool.false_eq_true,if_false];rw [h1,h2,h3] at hk;simp only [Bool.true_and,if_true] at hk;rw [Ai (n:=v+l[i].AY) (by omega) (by omega)]
 .intro L v hv;unfold Xn jq;dsimp only;rw [A3,A9,AO]
theorem LM{l:List AH}(hl:l.length<2 ^ 58)(c:Int):mw l c=some (FH l c):=by
 unfold mw;refine Se (l:=l) (Qe c) (fun i n=>0<=n/\n<=6*i) some (by omega) ?_ (fun i h v hv=>eS c _ hv) ?_ (by simp)
 .intro L i h v hv;have hk:=eS c l[i] hv;unfold Qe at hk ⊢;unfold Xq Xo Xp;dsimp only;rw [A4 h,BE];simp only [Af h,AD,AO,EG,A9];cases h2:l[i].Ay==c <;> cases h3:inB l[i].AY 1 6 <;> simp only [BE,A9,Bool.true_and,Bool.false_and,if_true,Bool.false_eq_true,if_false];rw [h2,h3] at hk;simp only [Bool.true_and,if_true] at hk;rw [Ai (n:=v+l[i].AY) (by omega) (by omega)]
 .intro L v hv;unfold Xq jr;dsimp only;rw [A3,A9,AO]
def eqE(x y:AT):Bool:=x.Level==y.Level&&(x.AQ==y.AQ&&(x.Id==y.Id&&(x.AY==y.AY&&true)))
theorem YV(x y:AT):eqE x y=true↔x=y:=by
 obtain⟨a,b,c,d⟩:=x;obtain⟨e,f,g,h⟩:=y;simp [eqE]
def eqP(x y:Ag):Bool:=x.At==y.At&&(x.Id==y.Id&&true)
theorem YX(x y:Ag):eqP x y=true↔x=y:=by
 obtain⟨a,b⟩:=x;obtain⟨c,d⟩:=y;simp [eqP]
theorem Za{a b:List AT}(hl:a.length<2 ^ 62):wW a b=some (GO eqE a b):=by
 unfold wW;refine uc (by omega) ?_ ?_
 .intro L i h h';unfold YK;rw [A4 h,BE,Af h,AD,Af h',AD];rfl
 .intro L;unfold YK lG;rw [A3,A9,AO]
theorem Vh{a b:List Ag}(hl:a.length<2 ^ 62):wa a b=some (GO eqP a b):=by
 unfold wa;refine uc (by omega) ?_ ?_
 .intro L i h h';unfold YS;rw [A4 h,BE,Af h,AD,Af h',AD];rfl
 .intro L;unfold YS lJ;rw [A3,A9,AO]
end Lv.P
namespace Lv.P
open Go (IntKind BinOp UnOp)
def FX{α:Type}(l:List α)(k:Nat)(p:α->Bool):Bool:=match l[k]? with|some x=>p x|none=>true
theorem BB{α:Type}{l:List α}{k:Nat}(h:k<l.length)(p:α->Bool):FX l k p=p l[k]:=by unfold FX;rw [List.getElem?_eq_getElem h]
theorem YT(i:Nat):decide ((i:Int)>0)=decide (0<i):=by rw [decide_eq_decide];omega
theorem Ht{α:Type}(l:List α)(x:α):l.length+[x].length=l.length+1:=rfl
theorem Jd{l:List AT}(hl:l.length<2 ^ 62)(id:Int):m4 l id=some (atF (fun x=>x.Id==id) l 0):=by
 unfold m4;refine fP (by omega) ?_ ?_
 .intro L i h;unfold X0;rw [A4 h,BE,Af h,AD]
 .intro L;unfold X0 kz;rw [A3,A9,AO]
def y1(e:AT):Bool:=inB e.Level 0 4&&(inB e.AQ 1 1000000&&(inB e.Id 1 999&&inB e.AY 1 6))
def qAt(l:List AT)(i:Nat):Bool:=
 FX l i fun e=>y1 e&&((if 0<i then FX l (i-1) (fun d=>ltE d e) else true)&&!(decide (atF (fun x=>x.Id==e.Id) (l.take i) 0>=0)))
def Uj(l:List AT):Bool:=!(decide ((l.length:Int)>10))&&F5 (qAt l) 0 l.length
theorem Jf(l:List AT)(hl:l.length<2 ^ 62):m5 l=some (Uj l):=by
 unfold m5 Uj;rw [Hp (n:=l.length) (E:=some true) (qAt l) (by omega) ?_ ?_,Cd,Bool.and_true,I0]
 .intro L i h;have hw:=Av h (show l.length<2 ^ 63 by omega);unfold qAt;rw [BB h];unfold X1;rw [A4 h,BE,Af h,AD];have hj3:∀b,N3 L i b=br (!b) (L ((i+1:Nat):Int)) (some false):=by intro b;unfold N3;rw [hw];cases b <;> rfl
  have hq:(atF (fun x=>x.Id==l[i].Id) l 0 != (i:Int))=decide (atF (fun x=>x.Id==l[i].Id) (l.take i) 0>=0):=by
   have:=Z8 (p:=fun x=>x.Id==l[i].Id) 0 h (by simp);rw [Nat.zero_add] at this;exact this
  have hj2:∀b,Ld l L i l[i] b=br (!b&&((if 0<i then FX l (i-1) (fun d=>ltE d l[i]) else true)&&!(decide (atF (fun x=>x.Id==l[i].Id) (l.take i) 0>=0)))) (L ((i+1:Nat):Int)) (some false):=by
   intro b;unfold Ld;rw [YT];by_cases h0:0<i
   .rw [decide_eq_true h0,BE,if_pos h0,VQ i h0 (by omega),Af (show i-1<l.length by omega),AD,LK,AD,Bg,Jd hl,AD,AO,AO,hj3,hj3,hq,BB (by omega)];cases b <;> cases ltE l[i-1] l[i] <;> rfl
   .rw [decide_eq_false h0,A9,if_neg h0,Jd hl,AD,AO,hj3,hq];cases b <;> rfl
  unfold y1;simp only [EG,AD,AO,Bg,hj2];generalize ((if 0<i then FX l (i-1) (fun d=>ltE d l[i]) else true)&&!(decide (atF (fun x=>x.Id==l[i].Id) (l.take i) 0>=0)))=X;cases inB l[i].Level 0 4 <;> cases inB l[i].AQ 1 1000000 <;> cases inB l[i].Id 1 999 <;> cases inB l[i].AY 1 6 <;> rfl
 .intro L;unfold X1 lA;rw [A3,A9,AO]
theorem F9{l:List AT}(hl:l.length<=lim):VX l=some l:=by
 unfold VX;rw [BP (by omega),List.nil_append]
theorem NF{l:List AT}(hl:l.length+1<=lim)(e:AT):bk l e=some (put ltE e l):=by
 have h3:∀i:Nat,i<=l.length->YG l e i=some (l.take i++e::l.drop i):=by
  intro i hi;have h2:(l.take i).length<=l.length:=by rw [List.length_take];omega
  have h5:(l.take i).length+[e].length<=lim:=by rw [Ht];omega
  unfold YG;rw [BP (by omega),Int.toNat_natCast,F9 (by omega),AD,BP h5,AD,BP h5,Bl,BP (by omega),BP (by simp;omega)];simp
 have hlim:lim=268435456:=rfl;unfold bk;refine Ug some (by omega) ?_ ?_
 .intro L i h;unfold YH Qz;rw [A4 h,BE,Af h,AD,LK,AD,AO,AO,h3 i (by omega)]
 .intro L;unfold YH Qz;rw [A3,A9,AO,A9,AO,h3 _ (Nat.le_refl _)];simp
theorem NG{l:List Ag}(hl:l.length+1<=lim)(e:Ag):m8 l e=some (put ltP e l):=by
 have h3:∀i:Nat,i<=l.length->YL l e i=some (l.take i++e::l.drop i):=by
  intro i hi;have h2:(l.take i).length<=l.length:=by rw [List.length_take];omega
  unfold YL;rw [BP (by omega),Int.toNat_natCast,BP (by omega),List.nil_append,BP (by rw [Ht];omega),BP (by omega),BP (by simp;omega)];simp
 have hlim:lim=268435456:=rfl;unfold m8;refine Ug some (by omega) ?_ ?_
 .intro L i h;unfold YM Q0;rw [A4 h,BE,Af h,AD,Qb,AD,AO,AO,h3 i (by omega)]
 .intro L;unfold YM Q0;rw [A3,A9,AO,A9,AO,h3 _ (Nat.le_refl _)];simp
def JZ(r:AN)(cabin now:Int)(p:AH):Option AT:=if ((C1 r p now).2&&(p.AK==cabin))=true then some (C1 r p now).1 else none
def Bn(r:AN)(l:List AH)(cabin now:Int):List AT:=BY ltE (l.filterMap (JZ r cabin now))
theorem Je{r:AN}(hr:r.AM.length<2 ^ 62){l:List AH}(hl:l.length<=1048576)(c now:Int):m7 r l c now=some (Bn r l c now):=by
 have hlim:lim=268435456:=rfl;have e0:w64 ((l.length:Int)-1)=(l.length:Int)-1-((0:Nat):Int):=by rw [Ai (by omega) (by omega)];omega
 unfold m7 Bn;rw [e0];refine(B8 (n:=l.length) (fun i (v:List AT)=>(v,(l.length:Int)-1-(i:Int))) (fun i v=>v.length<=i) (fun i v=>some ((((l.take (l.length-i)).filterMap (JZ r c now)).foldr (put ltE) v))) (by omega) ?_ (v:=[]) (by simp)).trans (by rw [Nat.sub_zero,List.take_length];rfl);intro L i v hv hi ih;unfold lF YI YJ;dsimp only;rcases Nat.lt_or_ge i l.length with h|h
 .obtain⟨k,hk⟩:∃k,l.length=i+(k+1):=⟨l.length-i-1,by omega⟩;have e1:(l.length:Int)-1-(i:Int)=(k:Int):=by omega
  have hkl:k<l.length:=by omega
  have e2:w64 ((k:Int)-1)=(l.length:Int)-1-((i+1:Nat):Int):=by rw [Ai (by omega) (by omega)];omega
  have e3:l.take (l.length-i)=l.take (l.length-(i+1))++[l[k]]:=by
   rw [show l.length-i=k+1 by omega,show l.length-(i+1)=k by omega,List.take_add_one,List.getElem?_eq_getElem hkl];rfl
  rw [e1,BT,if_pos (by omega)];simp only [Af hkl,AD,Ob hr,Bl,Zl,AO,A9];have key:(br (C1 r l[k] now).2 (br (l[k].AK==c) (bd (bk v (C1 r l[k] now).1) fun x9=>L (x9,w64 ((k:Int)-1))) (L (v,w64 ((k:Int)-1)))) (L (v,w64 ((k:Int)-1))))=some ((((l.take (l.length-i)).filterMap (JZ r c now)).foldr (put ltE) v)):=by
   rw [e2,NF (by omega),AD,e3,List.filterMap_append,List.foldr_append];have eq1:([l[k]].filterMap (JZ r c now)).foldr (put ltE) v=if ((C1 r l[k] now).2&&(l[k].AK==c))=true then put ltE (C1 r l[k] now).1 v else v:=by
    rw [List.filterMap_cons];unfold JZ;by_cases hc:((C1 r l[k] now).2&&(l[k].AK==c))=true
    .rw [if_pos hc,if_pos hc];rfl
    .rw [if_neg hc,if_neg hc];rfl
   rw [eq1];cases h1:(C1 r l[k] now).2 <;> cases h2:l[k].AK==c <;> simp only [BE,A9,Bool.and_true,Bool.and_false,if_true,Bool.false_eq_true,if_false]
   .exact ih v (by omega) h
   .exact ih v (by omega) h
   .exact ih v (by omega) h
   .exact ih _ (by rw [GZ];omega) h
  exact key
 .obtain rfl:i=l.length:=by omega
  unfold lE;rw [BT,if_neg (by omega),AO,Nat.sub_self];rfl
theorem VZ{α β:Type}(f:α->Option β){l:List α}{i:Nat}(h:i<l.length):(l.take (i+1)).filterMap f=(l.take i).filterMap f++(f l[i]).toList:=by
 rw [List.take_add_one,List.getElem?_eq_getElem h,List.filterMap_append];congr 1
theorem Va{α β:Type}(f:α->Option β)(l:List α)(i:Nat):((l.take i).filterMap f).length<=i:=Nat.le_trans (List.length_filterMap_le _ _) (by rw [List.length_take];omega)
theorem collect{α β γ:Type}{l:List α}(f:α->Option β){F:(List β×Int->Option γ)->List β×Int->Option γ}(J:List β->Option γ)(hl:l.length<=1048576)
 (step:∀L i (h:i<l.length) v,v.length<=i->F L (v,(i:Int))=L (v++(f l[i]).toList,w64 ((i:Int)+1))) (stop:∀L v,F L (v,(l.length:Int))=J v):Ap F big ([],0)=J (l.filterMap f):=by
 refine(B8 (n:=l.length) (fun i (v:List β)=>(v,(i:Int))) (fun i v=>v=(l.take i).filterMap f) (fun i v=>J (l.filterMap f)) (by omega) ?_ (by simp));intro L i v hv hi ih;rcases Nat.lt_or_ge i l.length with h|h
 .rw [step L i h v (by rw [hv];exact Va _ _ _),Av h (by omega)];exact ih _ (by rw [hv,VZ f h]) h
 .obtain rfl:i=l.length:=by omega
  rw [stop,hv,List.take_length]
theorem Vw(c:Int):∀(l:List AH) (n:Int),l.foldl (Hr c) n=n+(l.countP fun p=>p.AK==c)
 | [],n=>by simp
 |p::l,n=>by
  rw [List.foldl_cons,Vw c l,List.countP_cons];unfold Hr;split <;> simp <;> omega
theorem lU{β:Type}(f:AH->Option β)(c:Int)(hf:∀p,(p.AK==c)=false->f p=none):∀l:List AH,((l.filterMap f).length:Int)<=Bk l c:=by
 intro l;unfold Bk;rw [Vw,Int.zero_add]
 induction l with
 |nil=>simp
 |cons p l ih=>
  rw [List.countP_cons,List.filterMap_cons];cases e:p.AK==c with
  |false=>rw [hf p e];simpa using ih
  |true=>cases f p <;> simp <;> omega
def MK(cabin:Int)(p:AH):Option Ag:=if ((p.State==2)&&(p.AK==cabin))=true then some ⟨p.Bh,p.Id⟩ else none
def Dc(l:List AH)(cabin:Int):List Ag:=BY ltP (l.filterMap (MK cabin))
theorem QY{l:List AH}(hl:l.length<=1048576)(c:Int):m9 l c=some (Dc l c):=by
 have hlim:lim=268435456:=rfl;unfold m9 Dc;rw [Se (l:=l) (fun v p=>match MK c p with|some x=>put ltP x v|none=>v) (fun i v=>v.length<=i) some (by omega) ?_ ?_ ?_ (by simp),<-PZ CP OE]
 .congr 1;generalize ([]:List Ag)=a;clear hl
  induction l generalizing a with
  |nil=>rfl
  |cons p l ih=>
   rw [List.foldl_cons,ih,List.filterMap_cons];cases MK c p <;> rfl
 .intro L i h v hv;unfold YR YP YQ MK;dsimp only;rw [A4 h,BE];simp only [Af h,AD,AO,A9,NG (show v.length+1<=lim by omega)];cases h1:l[i].State==2 <;> cases h2:l[i].AK==c <;> rfl
 .intro i h v hv;split
  .rw [GZ];omega
  .omega
 .intro L v hv;unfold YR lI;dsimp only;rw [A3,A9,AO]
end Lv.P
