/-
  Plain laws: events and loops.
-/
import Derived.Test.YtffakkimlookoaaGreatTB
import Derived.Test.YtffakkimlookoaaGreatKC
set_option linter.unusedVariables false
set_option linter.unusedSimpArgs false
namespace Lv.P
open Go (IntKind BinOp UnOp)
theorem M1{n:Int}(h1:-9223372036854775808<=n)(h2:n<9223372036854775808):IntKind.i64.wrap n=n:=by
 simp only [IntKind.wrap,IntKind.bits,IntKind.signed];simp;omega
theorem AP{n:Int}(h1:-9223372036854775808<=n)(h2:n<9223372036854775808):w64 n=n:=M1 h1 h2
theorem tn{n:Int}(h1:0<=n)(h2:n<256):IntKind.u8.wrap n=n:=by
 simp only [IntKind.wrap,IntKind.bits,IntKind.signed];simp;omega
theorem oD{n:Nat}(h:n<256):toB (n:Int)=UInt8.ofNat n:=by
 unfold toB;rw [tn (by omega) (by omega)];rfl
@[simp] theorem Hn{α:Type}(l:List α)(i:Nat):at? l (i:Int)=l[i]?:=by simp [at?]
@[simp] theorem yR{α:Type}(l:List α):at? l 0=l[0]?:=by simp [at?]
theorem EA(k:Nat)(h:k<2 ^ 64):k<big:=by have:=QY;omega
theorem KZ(k:Nat)(h:k<2 ^ 64):∃n,big=n+1+k:=⟨big-1-k,by have:=QY;omega⟩
section
variable{σ γ:Type}
theorem gB{F:(σ->Option γ)->σ->Option γ}(R:σ->Option γ)(I:σ->Prop)(μ:σ->Nat)
 (step:∀(L:σ->Option γ) x,I x->(∀y,I y->μ y<μ x->L y=R y)->F L x=R x):∀n x,I x->μ x<n->AT F n x=R x
 |0,x,_,h=>by omega
 |n+1,x,hI,hn=>by
  rw [Bo];exact step _ x hI fun y hy hm=>gB R I μ step n y hy (by omega)
theorem pA{F:(σ->Option γ)->σ->Option γ}(R:σ->Option γ)(I:σ->Prop)(μ:σ->Nat)
 (step:∀(L:σ->Option γ) x,I x->(∀y,I y->μ y<μ x->L y=R y)->F L x=R x) {x:σ} (hI:I x) (hm:μ x<2 ^ 64):AT F big x=R x:=
 gB R I μ step big x hI (EA _ hm)
end
section
variable{α γ:Type}
@[simp] theorem Ab(x y:Option γ):br true x y=x:=rfl
@[simp] theorem Ad(x y:Option γ):br false x y=y:=rfl
@[simp] theorem AV(p:Prop) [Decidable p] (x y:Option γ):br (decide p) x y=if p then x else y:=by unfold br;by_cases h:p <;> simp [h]
@[simp] theorem Ai(b:Bool)(x y:Option γ):br (!b) x y=br b y x:=by cases b <;> rfl
@[simp] theorem AA(a:α)(f:α->Option γ):bd (some a) f=f a:=by rw [ir];rfl
@[simp] theorem uM(f:α->Option γ):bd none f=none:=by rw [ir];rfl
@[simp] theorem AG(F:α->Option γ)(x:α):jn F x=F x:=rq F x
theorem A1{p:Prop} [Decidable p] (h:p) (x:Option γ):gd p x=x:=by rw [ra,if_pos h]
theorem Bu(b:Bool)(x y:Option γ):br b x y=if b=true then x else y:=rfl
end
theorem Bz{τ σ γ:Type}{F:(τ->Option γ)->τ->Option γ}(st:Nat->σ->τ)(I:Nat->σ->Prop)(R:Nat->σ->Option γ){n:Nat}(hn:n<2 ^ 63)
 (step:∀L i v,I i v->i<=n->(∀v',I (i+1) v'->i<n->L (st (i+1) v')=R (i+1) v')->F L (st i v)=R i v) {v:σ} (h0:I 0 v):AT F big (st 0 v)=R 0 v:=by
 have key:∀(m i k:Nat) (v:σ),i+m=n->m<k->I i v->AT F k (st i v)=R i v:=by
  intro m
  induction m with
  |zero=>
   intro i k v hi hk h;obtain⟨k,rfl⟩:∃j,k=j+1:=⟨k-1,by omega⟩;rw [Bo];exact step _ i v h (by omega) fun v' _ h3=>by omega
  |succ m ih=>
   intro i k v hi hk h;obtain⟨k,rfl⟩:∃j,k=j+1:=⟨k-1,by omega⟩;rw [Bo];exact step _ i v h (by omega) fun v' h2 h3=>ih (i+1) k v' (by omega) (by omega) h2
 exact key n 0 big v (by omega) (EA _ (by omega)) h0
theorem AX{α:Type}{l:List α}{i:Nat}(h:i<l.length):at? l (i:Int)=some l[i]:=by rw [Hn,List.getElem?_eq_getElem h]
theorem dec_lt{l:Nat}{i:Nat}:decide ((i:Int)<(l:Int))=decide (i<l):=by rw [decide_eq_decide];omega
theorem Ag{i n:Nat}(h:i<n)(hn:n<2 ^ 63):w64 ((i:Int)+1)=((i+1:Nat):Int):=by rw [AP (by omega) (by omega)];rfl
theorem uC{n:Nat}{F:(Int->Option Bool)->Int->Option Bool}(hl:n<2 ^ 63)
 (step:∀L (i:Nat),i<n->F L (i:Int)=L ((i+1:Nat):Int)) (stop:∀L,F L (n:Int)=some true):AT F big 0=some true:=by
 have:=Bz (F:=F) (n:=n) (fun i (_:Unit)=>(i:Int)) (fun _ _=>True) (fun _ _=>some true) hl ?_ (v:=()) trivial
 .exact this
 .intro L i v _ hi ih;rcases Nat.lt_or_ge i n with h|h
  .rw [step L i h];exact ih () trivial h
  .obtain rfl:i=n:=by omega
   exact stop L
theorem Cr{α:Type}{l:List α}{i:Nat}(h:i<l.length):l.drop i=l[i]::l.drop (i+1):=List.drop_eq_getElem_cons h
theorem CS{σ γ:Type}{F:(σ->Option γ)->σ->Option γ}(I:σ->Prop)(μ:σ->Nat)(Q:γ->Prop)
 (step:∀(L:σ->Option γ) x,I x->(∀y,I y->μ y<μ x->∃r,L y=some r/\Q r)->∃r,F L x=some r/\Q r):∀n x,I x->μ x<n->∃r,AT F n x=some r/\Q r
 |0,x,_,h=>by omega
 |n+1,x,hI,hn=>by
  rw [Bo];exact step _ x hI fun y hy hm=>CS I μ Q step n y hy (by omega)
theorem E9{τ σ γ:Type}{F:(τ->Option γ)->τ->Option γ}(st:Nat->σ->τ)(I:Nat->σ->Prop)(Q:γ->Prop){n:Nat}(hn:n<2 ^ 63)
 (step:∀L i v,I i v->i<=n->(∀v',I (i+1) v'->i<n->∃r,L (st (i+1) v')=some r/\Q r)->∃r,F L (st i v)=some r/\Q r) {v:σ} (h0:I 0 v):∃r,AT F big (st 0 v)=some r/\Q r:=by
 have key:∀(m i k:Nat) (v:σ),i+m=n->m<k->I i v->∃r,AT F k (st i v)=some r/\Q r:=by
  intro m
  induction m with
  |zero=>
   intro i k v hi hk h;obtain⟨k,rfl⟩:∃j,k=j+1:=⟨k-1,by omega⟩;rw [Bo];exact step _ i v h (by omega) fun v' _ h3=>by omega
  |succ m ih=>
   intro i k v hi hk h;obtain⟨k,rfl⟩:∃j,k=j+1:=⟨k-1,by omega⟩;rw [Bo];exact step _ i v h (by omega) fun v' h2 h3=>ih (i+1) k v' (by omega) (by omega) h2
 exact key n 0 big v (by omega) (EA _ (by omega)) h0
end Lv.P
namespace Lv.P
open Go (IntKind BinOp UnOp)
def inB(a b c:Int):Bool:=decide (b<=a/\a<=c)
theorem Bp{a b c:Int}:inB a b c=true↔b<=a/\a<=c:=by unfold inB;exact decide_eq_true_iff
theorem FB(a b c:Int):CY a b c=some (inB a b c):=by
 unfold CY SR inB;simp only [AV,AG];by_cases h:a>=b <;> simp [h,show b<=a↔a>=b from Iff.rfl]
theorem E5(a b c:Int):Ce a b c=some (inB a b c):=by
 unfold Ce SQ inB;simp only [AV,AG];by_cases h:a>=b <;> simp [h,show b<=a↔a>=b from Iff.rfl]
theorem fw(a b:Int):ZL a b=some (inB a 0 (w64 (b-1))):=by unfold ZL;rw [E5,AA]
theorem Bb(a b:Bool):br a (some b) (some false)=some (a&&b):=by cases a <;> rfl
theorem lG(a b:Bool):br a (some true) (some b)=some (a||b):=by cases a <;> rfl
theorem EB(a b:Bool):br a (some false) (some b)=some (!a&&b):=by cases a <;> rfl
theorem lH{γ:Type}(a:Bool)(x:Option γ):br a x x=x:=by cases a <;> rfl
def DU(p:Nat->Bool):Nat->Nat->Bool
 |_,0=>true
 |i,m+1=>p i&&DU p (i+1) m
theorem gl{p:Nat->Bool}:∀{m i:Nat},DU p i m=true↔∀k,i<=k->k<i+m->p k=true
 |0,i=>by simp [DU];omega
 |m+1,i=>by
  unfold DU;rw [Bool.and_eq_true,gl];constructor
  .rintro⟨h1,h2⟩ k h3 h4;rcases Nat.eq_or_lt_of_le h3 with rfl|h5
   .exact h1
   .exact h2 k h5 (by omega)
  .intro h;exact⟨h i (by omega) (by omega),fun k h1 h2=>h k (by omega) (by omega)⟩
theorem GC{p:Nat->Bool}{n:Nat}:DU p 0 n=true↔∀k,k<n->p k=true:=by
 rw [gl];exact⟨fun h k hk=>h k (by omega) (by omega),fun h k _ hk=>h k (by omega)⟩
theorem EC{n:Nat}{F:(Int->Option Bool)->Int->Option Bool}{E:Option Bool}(p:Nat->Bool)(hn:n<2 ^ 63)
 (step:∀L (i:Nat),i<n->F L (i:Int)=br (p i) (L ((i+1:Nat):Int)) (some false)) (stop:∀L,F L (n:Int)=E):AT F big 0=br (DU p 0 n) E (some false):=by
 have:=Bz (F:=F) (n:=n) (fun i (_:Unit)=>(i:Int)) (fun _ _=>True) (fun i _=>br (DU p i (n-i)) E (some false)) hn ?_ (v:=()) trivial
 .exact this
 .intro L i v _ hi ih;rcases Nat.lt_or_ge i n with h|h
  .rw [step L i h,ih () trivial h,show n-i=(n-(i+1))+1 by omega,show DU p i (n-(i+1)+1)=(p i&&DU p (i+1) (n-(i+1))) from rfl];cases p i <;> rfl
  .obtain rfl:i=n:=by omega
   rw [stop,Nat.sub_self];rfl
theorem pz{α:Type}(l:List α)(p:α->Bool)(q:Nat->Bool)(h:∀k (hk:k<l.length),q k=p l[k]):DU q 0 l.length=l.all p:=by
 rw [Bool.eq_iff_iff,GC,List.all_eq_true];constructor
 .intro g x hx;obtain⟨k,hk,rfl⟩:=List.getElem_of_mem hx;rw [<-h k hk];exact g k hk
 .intro g k hk;rw [h k hk];exact g _ (List.getElem_mem _)
theorem Ac{i n:Nat}(h:i<n):decide ((i:Int)<(n:Int))=true:=by rw [decide_eq_true_iff];omega
theorem Ae(n:Nat):decide ((n:Int)<(n:Int))=false:=by rw [decide_eq_false_iff_not];omega
theorem lC{α:Type}{l:List α}{F:(Int->Option Bool)->Int->Option Bool}{E:Option Bool}(p:α->Bool)(hn:l.length<2 ^ 63)
 (step:∀L (i:Nat) (h:i<l.length),F L (i:Int)=br (p l[i]) (L (w64 ((i:Int)+1))) (some false)) (stop:∀L,F L (l.length:Int)=E):AT F big 0=br (l.all p) E (some false):=by
 have:=EC (F:=F) (n:=l.length) (E:=E) (fun i=>match l[i]? with|some x=>p x|none=>true) hn ?_ stop
 .rw [this,pz l p _ ?_];intro k hk;simp [hk]
 .intro L i h;rw [step L i h,Ag h hn];simp [h]
def Bt(r:AO):Bool:=inB r.AM.length 1 4&&(inB r.BG 1 5&&(inB r.Room 1 10&&(inB r.As 1 6&&(inB r.A2 1 12&&(r.AM.all (fun x=>inB x 1 60)&&(inB r.Ax 1 8&&(inB r.Rest 0 8&&(inB r.BA 1 4&&inB r.Bd 1 3))))))))
theorem DP{r:AO}(hr:r.AM.length<2 ^ 62):ZO r=some (Bt r):=by
 have hj:∀b,Jd r b=some (!b&&(r.AM.all (fun x=>inB x 1 60)&&(inB r.Ax 1 8&&(inB r.Rest 0 8&&(inB r.BA 1 4&&inB r.Bd 1 3))))):=by
  intro b;unfold Jd;rw [lC (l:=r.AM) (fun x=>inB x 1 60) (E:=some (inB r.Ax 1 8&&(inB r.Rest 0 8&&(inB r.BA 1 4&&inB r.Bd 1 3)))) (by omega) ?_ ?_,Bb,EB]
  .intro L i h;unfold ZP;rw [Ac h,Ab,AX h,AA,FB,AA,Ai]
  .intro L;unfold ZP lq Ox;rw [Ae,Ad];simp only [AG,FB,AA,Bb]
 unfold ZO;simp only [FB,AA,Ai,AG,hj,Bool.not_true,Bool.false_and,Bb,Bool.not_not];rfl
theorem DL{r:AO}(hr:r.AM.length<2 ^ 62):cV r=some (Bt r):=by
 unfold cV;rw [E5,AA,Ai];rw [lC (l:=r.AM) (fun x=>inB x 1 60) (E:=some (inB r.BG 1 5&&(inB r.Room 1 10&&(inB r.As 1 6&&(inB r.A2 1 12&&(inB r.Ax 1 8&&(inB r.BA 1 4&&(inB r.Bd 1 3&&inB r.Rest 0 8)))))))) (by omega) ?_ ?_,Bb,Bb]
 .unfold Bt;congr 1;ac_rfl
 .intro L i h;unfold ZK;rw [Ac h,Ab,AX h,AA,E5,AA,Ai]
 .intro L;unfold ZK lg GK;rw [Ae,Ad];simp only [AG,E5,AA,Bb]
theorem BT{r:AO}(h:Bt r=true):(1<=r.AM.length/\r.AM.length<=4)/\(1<=r.BG/\r.BG<=5)/\(1<=r.Room/\r.Room<=10)/\(1<=r.As/\r.As<=6)/\(1<=r.A2/\r.A2<=12)/\(∀x∈r.AM,1<=x/\x<=60)/\(1<=r.Ax/\r.Ax<=8)/\(0<=r.Rest/\r.Rest<=8)/\(1<=r.BA/\r.BA<=4)/\(1<=r.Bd/\r.Bd<=3):=by
 unfold Bt at h;simp only [Bool.and_eq_true,Bp,List.all_eq_true] at h;obtain⟨h1,h2,h3,h4,h5,h6,h7,h8,h9,h10⟩:=h;exact⟨by omega,h2,h3,h4,h5,h6,h7,h8,h9,h10⟩
def EP(r:AO)(p:AI)(now:Int):Bool:=
 Bt r&&(inB now 0 1000000&&(inB p.Id 1 999&&(inB p.A4 0 (w64 ((r.AM.length:Int)-1))&&(inB p.CB (-1) (w64 ((r.AM.length:Int)-1))&&(!(p.CB==p.A4)&&(inB p.As 1 r.As&&(inB p.CX 0 (w64 (r.BG-1))&&(inB p.Since 0 now&&(inB p.Ah 1 1000000&&(inB p.CA 0 (w64 (r.BA-1))&&(((p.State==1)&&inB p.BW 0 (w64 (now+r.Rest)))||((p.State==2)&&inB p.BW 1 (w64 (now+r.Ax))))))))))))))
theorem KA{r:AO}(hr:r.AM.length<2 ^ 62)(p:AI)(now:Int):oU r p now=some (EP r p now):=by
 have h2:∀b,Je r p now b=some (!b&&(((p.State==1)&&inB p.BW 0 (w64 (now+r.Rest)))||((p.State==2)&&inB p.BW 1 (w64 (now+r.Ax))))):=by
  intro b;unfold Je Mf;simp only [FB,AA,AG,Bb,lG];cases p.State==1 <;> cases b <;> rfl
 have h1:∀b,Ht r p now b=some (!b&&(inB p.As 1 r.As&&(inB p.CX 0 (w64 (r.BG-1))&&(inB p.Since 0 now&&(inB p.Ah 1 1000000&&(inB p.CA 0 (w64 (r.BA-1))&&(((p.State==1)&&inB p.BW 0 (w64 (now+r.Rest)))||((p.State==2)&&inB p.BW 1 (w64 (now+r.Ax)))))))))):=by
  intro b;unfold Ht;simp only [FB,AA,AG,Ai,h2,Bool.not_true,Bool.false_and,Bb,EB,Bool.not_not]
 unfold oU;simp only [DP hr,FB,AA,AG,Ai,h1,Bool.not_true,Bool.false_and,Bb];rfl
theorem Js{r:AO}(hr:r.AM.length<2 ^ 62)(p:AI)(now:Int):oT r p now=some (EP r p now):=by
 have h2:∀b,Jc r p now b=some (!b&&(((p.State==1)&&inB p.BW 0 (w64 (now+r.Rest)))||((p.State==2)&&inB p.BW 1 (w64 (now+r.Ax))))):=by
  intro b;unfold Jc MV;simp only [E5,AA,AG,Bb,lG];cases p.State==1 <;> cases b <;> rfl
 have h1:∀b,Hs r p now b=some (!b&&(inB p.As 1 r.As&&(inB p.CX 0 (w64 (r.BG-1))&&(inB p.Since 0 now&&(inB p.Ah 1 1000000&&(inB p.CA 0 (w64 (r.BA-1))&&(((p.State==1)&&inB p.BW 0 (w64 (now+r.Rest)))||((p.State==2)&&inB p.BW 1 (w64 (now+r.Ax)))))))))):=by
  intro b;unfold Hs;simp only [E5,fw,AA,AG,Ai,h2,Bool.not_true,Bool.false_and,Bb,EB,Bool.not_not]
 unfold oT;simp only [DL hr,E5,fw,AA,AG,Ai,h1,Bool.not_true,Bool.false_and,Bb];rfl
def VR(r:AO)(tier waited:Int):Int:=if 0>w64 (tier-w64 (waited.tdiv r.A2)) then 0 else w64 (tier-w64 (waited.tdiv r.A2))
theorem Pt(a b:Int):jE a b=some (if a>b then a else b):=by
 unfold jE;rw [AV];split <;> rfl
theorem bU{r:AO}(hr:r.A2≠0)(t w:Int):uZ r t w=some (VR r t w):=by
 unfold uZ;rw [A1 hr,Pt,AA];rfl
theorem o9(r:AO)(t w:Int):0<=VR r t w:=by unfold VR;split <;> omega
theorem JH{r:AO}{p:AI}{now:Int}(h:EP r p now=true):Bt r=true/\(0<=now/\now<=1000000)/\(1<=p.Id/\p.Id<=999)/\(0<=p.A4/\p.A4<=r.AM.length-1)/\(-1<=p.CB/\p.CB<=r.AM.length-1)/\p.CB≠p.A4/\(1<=p.As/\p.As<=r.As)/\(0<=p.CX/\p.CX<=r.BG-1)/\(0<=p.Since/\p.Since<=now)/\(1<=p.Ah/\p.Ah<=1000000)/\(0<=p.CA/\p.CA<=r.BA-1)/\(p.State=1/\0<=p.BW/\p.BW<=now+r.Rest\/p.State=2/\1<=p.BW/\p.BW<=now+r.Ax):=by
 unfold EP at h;simp only [Bool.and_eq_true,Bp,Bool.or_eq_true,beq_iff_eq,Bool.not_eq_true',beq_eq_false_iff_ne] at h;obtain⟨h1,h2,h3,h4,h5,h6,h7,h8,h9,h10,h11,h12⟩:=h;have hr:=BT h1;rw [AP (by omega) (by omega)] at h4 h5 h8 h11;rw [AP (by omega) (by omega),AP (by omega) (by omega)] at h12;exact⟨h1,h2,h3,h4,h5,h6,h7,h8,h9,h10,h11,h12⟩
def GO(r:AO)(p:AI)(now:Int):Int:=if EP r p now=true then VR r p.CX (w64 (now-p.Since)) else -1
theorem bO{r:AO}(hr:r.AM.length<2 ^ 62)(p:AI)(now:Int):ua r p now=some (GO r p now):=by
 unfold ua GO;rw [KA hr,AA,Ai,Bu];split
 .rename_i h;have:=(BT (JH h).1).2.2.2.2.1;rw [bU (by omega),AA]
 .rfl
theorem Zy{r:AO}(hr:r.AM.length<2 ^ 62)(p:AI)(now:Int):l9 r p now=some (GO r p now):=by
 unfold l9 GO;rw [Js hr,AA,Ai,Bu];split
 .rename_i h;have hp:=JH h;have hq:=BT hp.1;unfold qW O2;rw [DL hr,hp.1,AA,Ai,Ab,fw,AA,Ai];have e1:inB p.CX 0 (w64 (r.BG-1))=true:=by rw [Bp,AP (by omega) (by omega)];omega
  have e2:decide (w64 (now-p.Since)<0)=false:=by rw [AP (by omega) (by omega)];simp;omega
  rw [e1,Ab,AG,e2,Ad,A1 (by omega),AA,if_pos rfl];unfold VR;congr 1;split <;> split <;> omega
 .rfl
def Da(r:AO)(p:AI)(now:Int):AD×Bool:=if EP r p now=true/\p.State=1 then (⟨GO r p now,p.Ah,p.Id,p.As⟩,true) else (⟨0,0,0,0⟩,false)
theorem bM{r:AO}(hr:r.AM.length<2 ^ 62)(p:AI)(now:Int):rN r p now=some (Da r p now):=by
 unfold rN Zc Da;rw [bO hr,AA,AV,AG,AG,Ab];by_cases h:EP r p now=true
 .have:=o9 r p.CX (w64 (now-p.Since));have e:¬GO r p now<0:=by unfold GO;rw [if_pos h];omega
  rw [if_neg e,Bu];by_cases h2:p.State=1 <;> simp [h,h2]
 .have e:GO r p now<0:=by unfold GO;rw [if_neg h];omega
  rw [if_pos e,if_neg (fun g=>h g.1)]
theorem Pm{r:AO}(hr:r.AM.length<2 ^ 62)(p:AI)(now:Int):mA r p now=some (Da r p now):=by
 unfold mA TN Da;rw [Js hr,AA,Ai,Bu,AG,AG,Ab,Zy hr,AA,Bu];by_cases h:EP r p now=true
 .rw [if_pos h];by_cases h2:p.State=1 <;> simp [h,h2]
 .rw [if_neg h,if_neg (fun g=>h g.1)]
def Jx(l:BH):Bool:=inB l.Total 1 60&&(inB l.Co 0 l.Total&&(inB l.Eb 0 l.Total&&(inB l.JR 0 l.Total&&((w64 (w64 (l.Co+l.Eb)+l.JR)==l.Total)&&inB l.M3 0 l.JR))))
theorem NO(l:BH):rI l=some (Jx l):=by
 unfold rI Jf Jx;simp only [FB,AA,AG,Bb]
theorem XT(l:BH):lr l=some (Jx l):=by
 unfold lr Gt Jx;simp only [E5,AA,AG,Bb]
end Lv.P
namespace Lv.P
open Go (IntKind BinOp UnOp)
section
variable{α:Type}(lt:α->α->Bool)
def put(x:α):List α->List α
 | []=>[x]
 |z::l=>if lt z x=true then z::put x l else x::z::l
def ins(x:α):List α->List α
 | []=>[x]
 |z::l=>if lt x z=true then x::z::l else z::ins x l
structure Swo:Prop where
 il:∀a b,lt a b=true->lt b a=false
 neg:∀a b c,lt a c=true->lt a b=true\/lt b c=true
def BS(l:List α):List α:=l.foldr (put lt) []
variable {lt}
theorem Swo.trans(h:Swo lt){a b c:α}(h1:lt a b=true)(h2:lt b c=true):lt a c=true:=by
 rcases h.neg a c b h1 with h3|h3
 .exact h3
 .rw [h.il _ _ h2] at h3;cases h3
theorem nY(h:Swo lt)(x y:α):∀l,ins lt x (put lt y l)=put lt y (ins lt x l)
 | []=>by simp only [put,ins]
 |z::l=>by
  cases h1:lt z y with
  |true=>
   cases h2:lt x z with
   |true=>simp only [put,ins,h1,h2,h.trans h2 h1,if_true]
   |false=>simp [put,ins,h1,h2,nY h x y l]
  |false=>
   cases h2:lt x y with
   |true=>
    have h3:lt x z=true:=(h.neg x z y h2).resolve_right (by simp [h1]);simp [put,ins,h1,h2,h3]
   |false=>
    cases h3:lt x z <;> simp [put,ins,h1,h2,h3]
theorem nw(h:Swo lt)(ht:∀a b,lt a b=false->lt b a=false->a=b)(x y:α):∀l,put lt x (put lt y l)=put lt y (put lt x l)
 | []=>by
  simp only [put];cases h1:lt y x with
  |true=>simp [h.il _ _ h1]
  |false=>
   cases h2:lt x y with
   |true=>simp
   |false=>simp [ht _ _ h1 h2]
 |z::l=>by
  cases h1:lt z y with
  |true=>
   cases h2:lt z x with
   |true=>simp only [put,h1,h2,if_true];rw [nw h ht x y l]
   |false=>
    have h3:lt x y=true:=(h.neg z x y h1).resolve_left (by simp [h2]);simp [put,h1,h2,h3]
  |false=>
   cases h2:lt z x with
   |true=>
    have h3:lt y x=true:=(h.neg z y x h2).resolve_left (by simp [h1]);simp [put,h1,h2,h3]
   |false=>
    cases h3:lt y x with
    |true=>simp [put,h1,h2,h3,h.il _ _ h3]
    |false=>
     cases h4:lt x y with
     |true=>simp [put,h1,h2,h3,h4]
     |false=>simp [ht _ _ h3 h4]
theorem YB(h:Swo lt):∀(l acc:List α) (a:α),l.foldl (fun s x=>ins lt x s) (put lt a acc)=put lt a (l.foldl (fun s x=>ins lt x s) acc)
 | [],_,_=>rfl
 |x::l,acc,a=>by rw [List.foldl_cons,nY h,YB h l,List.foldl_cons]
theorem YN(h:Swo lt):∀l:List α,l.foldl (fun s x=>ins lt x s) []=BS lt l
 | []=>rfl
 |a::l=>by
  rw [List.foldl_cons,show ins lt a []=put lt a [] from rfl,YB h,YN h l];rfl
theorem YC(h:Swo lt)(ht:∀a b,lt a b=false->lt b a=false->a=b):∀(l acc:List α) (a:α),l.foldl (fun s x=>put lt x s) (put lt a acc)=put lt a (l.foldl (fun s x=>put lt x s) acc)
 | [],_,_=>rfl
 |x::l,acc,a=>by rw [List.foldl_cons,nw h ht,YC h ht l,List.foldl_cons]
theorem Q4(h:Swo lt)(ht:∀a b,lt a b=false->lt b a=false->a=b):∀l:List α,l.foldl (fun s x=>put lt x s) []=BS lt l
 | []=>rfl
 |a::l=>by rw [List.foldl_cons,YC h ht,Q4 h ht l];rfl
theorem C6(x:α):∀l,(put lt x l).length=l.length+1
 | []=>rfl
 |z::l=>by unfold put;split <;> simp [C6 x l]
theorem nW(x:α):∀l,(ins lt x l).length=l.length+1
 | []=>rfl
 |z::l=>by unfold ins;split <;> simp [nW x l]
theorem EX:∀l:List α,(BS lt l).length=l.length
 | []=>rfl
 |a::l=>by
  have:=EX l;unfold BS at this ⊢;rw [List.foldr_cons,C6,this];rfl
theorem Sp{x a:α}:∀{l},a∈put lt x l↔a=x\/a∈l
 | []=>by simp [put]
 |z::l=>by
  unfold put;split
  .rw [List.mem_cons,Sp,List.mem_cons];constructor
   .rintro(h|h|h) <;> simp [h]
   .rintro(h|h|h) <;> simp [h]
  .simp
theorem nX{x a:α}:∀{l},a∈ins lt x l↔a=x\/a∈l
 | []=>by simp [ins]
 |z::l=>by
  unfold ins;split
  .simp
  .rw [List.mem_cons,nX,List.mem_cons];constructor
   .rintro(h|h|h) <;> simp [h]
   .rintro(h|h|h) <;> simp [h]
theorem Q3{a:α}:∀{l:List α},a∈BS lt l↔a∈l
 | []=>by simp [BS]
 |z::l=>by
  have:=Q3 (a:=a) (l:=l);unfold BS at this ⊢;rw [List.foldr_cons,Sp,this,List.mem_cons]
def Srt(lt:α->α->Bool)(l:List α):Prop:=l.Pairwise fun a b=>lt b a=false
theorem nZ(h:Swo lt)(x:α):∀l,Srt lt l->Srt lt (ins lt x l)
 | [],_=>by simp [ins,Srt]
 |z::l,hs=>by
  unfold Srt at hs;rw [List.pairwise_cons] at hs;unfold ins Srt;split
  .rename_i hx;rw [List.pairwise_cons,List.pairwise_cons];refine⟨?_,hs⟩;intro b hb;rcases List.mem_cons.1 hb with rfl|hb
   .exact h.il _ _ hx
   .cases e:lt b x with
    |false=>rfl
    |true=>exact absurd (h.trans e hx) (by simp [hs.1 b hb])
  .rename_i hx;rw [List.pairwise_cons];refine⟨?_,nZ h x l hs.2⟩;intro b hb;rcases nX.1 hb with rfl|hb
   .simpa using hx
   .exact hs.1 b hb
theorem Q1{x:α}{s2:List α}(h2:∀b∈s2,lt x b=true):∀{s1:List α},(∀a∈s1,lt x a=false)->ins lt x (s1++s2)=s1++x::s2
 | [],_=>by
  cases s2 with
  |nil=>rfl
  |cons b s=>unfold ins;rw [List.nil_append];simp [h2 b List.mem_cons_self]
 |a::s1,h1=>by
  rw [List.cons_append];unfold ins;rw [h1 a List.mem_cons_self,if_neg (by simp),Q1 h2 fun c hc=>h1 c (List.mem_cons_of_mem _ hc)];rfl
theorem Q0{γ:Type}(h:Swo lt){G:(List α×Int->Option γ)->List α×Int->Option γ}{E:List α->Option γ}{x:α}{r:List α}{M:Nat}
 (g1:∀L t z w,t.length<M->lt x z=true->G L (t++z::x::w,((t.length+1:Nat):Int))=L (t++x::z::w,(t.length:Int)))
 (g2:∀L t z w,t.length<M->lt x z=false->G L (t++z::x::w,((t.length+1:Nat):Int))=E (t++z::x::w)) (g3:∀L w,G L (x::w,0)=E (x::w)) :
 ∀(k N:Nat) (s1 s2:List α),s1.length=k->k<=M->k<N->(∀b∈s2,lt x b=true)->Srt lt s1->AT G N (s1++x::(s2++r),(k:Int))=E (ins lt x (s1++s2)++r)
 |k,0,s1,s2,hk,hM,hN,h2,hs=>by omega
 |0,N+1,s1,s2,hk,hM,hN,h2,hs=>by
  obtain rfl:=List.eq_nil_of_length_eq_zero hk;rw [Bo,List.nil_append,Q1 (s1:=[]) h2 (by simp)];exact g3 _ _
 |k+1,N+1,s1,s2,hk,hM,hN,h2,hs=>by
  rcases List.eq_nil_or_concat s1 with rfl|⟨t,z,rfl⟩
  .simp at hk
  simp only [List.concat_eq_append] at hk hs ⊢;have ht:t.length=k:=by simpa using hk
  have hp:Srt lt t/\∀a∈t,lt z a=false:=by
   unfold Srt at hs ⊢;rw [List.pairwise_append] at hs;exact⟨hs.1,fun a ha=>hs.2.2 a ha z (by simp)⟩
  rw [Bo];subst ht;cases hx:lt x z with
  |true=>
   have e:t++[z]++x::(s2++r)=t++z::x::(s2++r):=by simp
   rw [e,g1 _ _ _ _ (by omega) hx];have:=Q0 (r:=r) h g1 g2 g3 t.length N t (z::s2) rfl (by omega) (by omega) (by simpa [hx] using h2) hp.1;rw [List.cons_append] at this;rw [this];simp
  |false=>
   have e:t++[z]++x::(s2++r)=t++z::x::(s2++r):=by simp
   rw [e,g2 _ _ _ _ (by omega) hx,Q1 h2 ?_]
   .simp
   .intro a ha;rw [List.mem_append] at ha;rcases ha with ha|ha
    .cases e:lt x a with
     |false=>rfl
     |true=>
      rcases h.neg x z a e with h3|h3
      .rw [hx] at h3;cases h3
      .rw [hp.2 a ha] at h3;cases h3
    .rw [List.mem_singleton] at ha;subst ha;exact hx
theorem YM(h:Swo lt){F:(List α×Int->Option (List α))->List α×Int->Option (List α)}{v0:List α}(hn:v0.length<2 ^ 62)
 (step:∀L s x r,s.length+1+r.length=v0.length->0<s.length->Srt lt s->F L (s++x::r,(s.length:Int))=L (ins lt x s++r,((s.length+1:Nat):Int)))
 (stop:∀L v (i:Nat),v0.length<=i->F L (v,(i:Int))=some v):AT F big (v0,1)=some (BS lt v0):=by
 cases v0 with
 |nil=>
  have:=KZ 0 (by omega);obtain⟨n,hb⟩:=this;rw [hb,Nat.add_zero,Bo];exact stop _ _ 1 (by simp)
 |cons a l=>
  have:=Bz (F:=F) (n:=l.length) (fun i (v:List α×List α)=>(v.1++v.2,((i+1:Nat):Int))) (fun i v=>v.1.length=i+1/\v.2.length+i=l.length/\Srt lt v.1) (fun i v=>some (v.2.foldl (fun s x=>ins lt x s) v.1)) (by simp at hn;omega) ?_ (v:=([a],l)) ⟨rfl,rfl,by simp [Srt]⟩
  .rw [<-YN h];exact this
  .rintro L i ⟨s,r⟩ ⟨h1,h2,h3⟩ hi ih;dsimp only at h1 h2 h3 ih ⊢;cases r with
   |nil=>
    rw [stop _ _ _ (by simp at h2 ⊢;omega)];simp
   |cons x r=>
    have hl:s.length+1+r.length=(a::l).length:=by simp at h2 ⊢;omega
    rw [<-h1,step L s x r hl (by omega) h3,List.foldl_cons];have:=ih (ins lt x s,r) ⟨by dsimp only;rw [nW,h1],by dsimp only;simp at h2 ⊢;omega,nZ h x s h3⟩ (by simp at h2;omega);rw [<-this,h1]
theorem Wp{γ:Type}{F:(Int->Option γ)->Int->Option γ}{l:List α}{x:α}(J:List α->Option γ)(hl:l.length<2 ^ 62)
 (step:∀L (i:Nat) (h:i<l.length),F L (i:Int)=br (lt l[i] x) (L (w64 ((i:Int)+1))) (J (l.take i++x::l.drop i)))
 (stop:∀L,F L (l.length:Int)=J (l++[x])):AT F big 0=J (put lt x l):=by
 refine(Bz (n:=l.length) (fun i (_:Unit)=>(i:Int)) (fun _ _=>True) (fun i _=>J (l.take i++put lt x (l.drop i))) (by omega) ?_ (v:=()) trivial).trans (by simp);intro L i _ _ hi ih;rcases Nat.lt_or_ge i l.length with h|h
 .rw [step L i h,Ag h (by omega),Cr h,put];cases e:lt l[i] x with
  |true=>
   have e2:l.take (i+1)=l.take i++[l[i]]:=by rw [List.take_add_one,List.getElem?_eq_getElem h];rfl
   rw [Ab,ih () trivial h,e2,List.append_assoc];rfl
  |false=>rfl
 .obtain rfl:i=l.length:=by omega
  rw [stop];simp [put]
end
theorem Of{α:Type}(t w:List α)(z:α):at? (t++z::w) (t.length:Int)=some z:=by rw [Hn];simp
theorem Og{α:Type}(t w:List α)(z x:α):at? (t++z::x::w) ((t.length+1:Nat):Int)=some x:=by rw [Hn];simp
theorem iA{α:Type}(t w:List α)(z a:α):(t++z::w).set t.length a=t++a::w:=by simp
theorem iB{α:Type}(t w:List α)(z x a:α):(t++z::x::w).set (t.length+1) a=t++z::a::w:=by
 rw [List.set_append_right _ _ (by omega),show t.length+1-t.length=1 by omega];rfl
theorem D9(n:Nat)(h:0<n)(hn:n<2 ^ 63):w64 ((n:Int)-1)=((n-1:Nat):Int):=by rw [AP (by omega) (by omega)];omega
theorem ZB(a b:Int):TG a b=some (if a<b then -1 else if a>b then 1 else 0):=by
 unfold TG lu;have hne:∀(b:Int),(b != b)=false:=by simp
 simp only [AA,hne,Ad,AV];split
 .rfl
 .split <;> rfl
def ltE(a b:AD):Bool:=decide (a.Level<b.Level)||((a.Level==b.Level)&&decide (a.Ah<b.Ah))
theorem Pv{a b:AD}:ltE a b=true↔a.Level<b.Level\/a.Level=b.Level/\a.Ah<b.Ah:=by simp [ltE]
theorem sI{a b:AD}:ltE a b=false↔¬(a.Level<b.Level\/a.Level=b.Level/\a.Ah<b.Ah):=by rw [<-Pv];simp
def ltP(a b:AN):Bool:=decide (a.At<b.At)||((a.At==b.At)&&decide (a.Id<b.Id))
theorem Jy{a b:AN}:ltP a b=true↔a.At<b.At\/a.At=b.At/\a.Id<b.Id:=by simp [ltP]
theorem VS{a b:AN}:ltP a b=false↔¬(a.At<b.At\/a.At=b.At/\a.Id<b.Id):=by rw [<-Jy];simp
theorem nd:Swo ltE:=⟨fun a b h=>by rw [Pv] at h;rw [sI];omega,fun a b c h=>by rw [Pv] at *;rw [Pv];omega⟩
theorem Cs:Swo ltP:=⟨fun a b h=>by rw [Jy] at h;rw [VS];omega,fun a b c h=>by rw [Jy] at *;rw [Jy];omega⟩
theorem ng(a b:AN)(h1:ltP a b=false)(h2:ltP b a=false):a=b:=by
 rw [VS] at h1 h2;obtain⟨x,y⟩:=a;obtain⟨z,w⟩:=b;dsimp only at h1 h2;have:x=z:=by omega
 have:y=w:=by omega
 subst x y;rfl
theorem MK(a b:AD):rJ a b=some (ltE a b):=by
 unfold rJ SU ltE;simp only [AG,Bb,lG]
theorem SB(a b:AN):rM a b=some (ltP a b):=by
 unfold rM SV ltP;simp only [AG,Bb,lG]
theorem FN(a b:AD):∃c,Rc a b=some c/\decide (c<0)=ltE a b:=by
 unfold Rc;rw [ZB,AA,Bu,ZB,AA];refine⟨if a.Level<b.Level then -1 else if a.Level>b.Level then 1 else if a.Ah<b.Ah then -1 else if a.Ah>b.Ah then 1 else 0,?_,?_⟩
 .split <;> split <;> simp_all
 .rw [Bool.eq_iff_iff,decide_eq_true_iff,Pv]
  repeat' split
  all_goals omega
theorem VF(a b:AD):lz a b=some (ltE a b):=by
 unfold lz;obtain⟨c,h1,h2⟩:=FN a b;rw [h1,AA,h2]
theorem EV(a b:AN):∃c,Oy a b=some c/\decide (c<0)=ltP a b/\decide (c>0)=ltP b a:=by
 unfold Oy;rw [ZB,AA,Bu,ZB,AA];refine⟨if a.At<b.At then -1 else if a.At>b.At then 1 else if a.Id<b.Id then -1 else if a.Id>b.Id then 1 else 0,?_,?_,?_⟩
 .split <;> split <;> simp_all
 .rw [Bool.eq_iff_iff,decide_eq_true_iff,Jy]
  repeat' split
  all_goals omega
 .rw [Bool.eq_iff_iff,decide_eq_true_iff,Jy]
  repeat' split
  all_goals omega
theorem yl{l:List AD}(hl:l.length<2 ^ 62):TO l 0 l.length=some (BS ltE l):=by
 unfold TO;refine YM nd hl ?_ ?_
 .intro L s x r hn hs hsrt;unfold O4;dsimp only;rw [Ac (by omega),Ab];have:=Q0 (G:=O5 0 L s.length) (E:=fun v=>L (v,((s.length+1:Nat):Int))) (x:=x) (r:=r) (M:=s.length) nd ?_ ?_ ?_ s.length big s [] rfl (by omega) (EA _ (by omega)) (by simp) hsrt
  .rw [List.nil_append,List.append_nil] at this;exact this
  all_goals unfold O5 Km O3
  .intro L' t z w ht hx;obtain⟨c,h1,h2⟩:=FN x z;have e:=D9 (t.length+1) (by omega) (by omega);have e0:((t.length+1:Nat):Int)>0:=by omega
   dsimp only;have h3:c<0:=by rw [hx,decide_eq_true_iff] at h2;exact h2
   simp only [AV,AG,e,Nat.add_sub_cancel,Of,Og,AA,h1,iA,iB,Int.toNat_natCast,e0,h3,if_true]
  .intro L' t z w ht hx;obtain⟨c,h1,h2⟩:=FN x z;have e:=D9 (t.length+1) (by omega) (by omega);have e0:((t.length+1:Nat):Int)>0:=by omega
   have e1:=Ag (i:=s.length) (n:=s.length+1) (by omega) (by omega);dsimp only;have h3:¬c<0:=by rw [hx,decide_eq_false_iff_not] at h2;exact h2
   simp only [AV,AG,e,Nat.add_sub_cancel,Of,Og,AA,h1,e0,h3,if_true,if_false,e1]
  .intro L' w;have e1:=Ag (i:=s.length) (n:=s.length+1) (by omega) (by omega);dsimp only;rw [AV,if_neg (by omega),AG,Ad,AG,e1]
 .intro L v i hi;unfold O4;dsimp only;rw [AV,if_neg (by omega)]
theorem wN{l:List AN}(hl:l.length<2 ^ 62):Rb l 0 l.length=some (BS ltP l):=by
 unfold Rb;refine YM Cs hl ?_ ?_
 .intro L s x r hn hs hsrt;unfold On;dsimp only;rw [Ac (by omega),Ab];have:=Q0 (G:=Oo 0 L s.length) (E:=fun v=>L (v,((s.length+1:Nat):Int))) (x:=x) (r:=r) (M:=s.length) Cs ?_ ?_ ?_ s.length big s [] rfl (by omega) (EA _ (by omega)) (by simp) hsrt
  .rw [List.nil_append,List.append_nil] at this;exact this
  all_goals unfold Oo Kg Om
  .intro L' t z w ht hx;obtain⟨c,h1,h2,_⟩:=EV x z;have e:=D9 (t.length+1) (by omega) (by omega);have e0:((t.length+1:Nat):Int)>0:=by omega
   dsimp only;have h3:c<0:=by rw [hx,decide_eq_true_iff] at h2;exact h2
   simp only [AV,AG,e,Nat.add_sub_cancel,Of,Og,AA,h1,iA,iB,Int.toNat_natCast,e0,h3,if_true]
  .intro L' t z w ht hx;obtain⟨c,h1,h2,_⟩:=EV x z;have e:=D9 (t.length+1) (by omega) (by omega);have e0:((t.length+1:Nat):Int)>0:=by omega
   have e1:=Ag (i:=s.length) (n:=s.length+1) (by omega) (by omega);dsimp only;have h3:¬c<0:=by rw [hx,decide_eq_false_iff_not] at h2;exact h2
   simp only [AV,AG,e,Nat.add_sub_cancel,Of,Og,AA,h1,e0,h3,if_true,if_false,e1]
  .intro L' w;have e1:=Ag (i:=s.length) (n:=s.length+1) (by omega) (by omega);dsimp only;rw [AV,if_neg (by omega),AG,Ad,AG,e1]
 .intro L v i hi;unfold On;dsimp only;rw [AV,if_neg (by omega)]
theorem va{l:List AD}(hl:l.length<=19):Xz l=some (BS ltE l):=by
 unfold Xz mC;obtain⟨n,hb⟩:=KZ 0 (by omega);rw [Nat.add_zero] at hb;have e:AT (Kn (l.length:Int)) big (l,0,20)=some (BS ltE l):=by
  rw [hb,Bo];unfold Kn;dsimp only;rw [AV,if_neg (by omega),AG];unfold TP;dsimp only;rw [yl (by omega),AA,hb,Bo];unfold O8;dsimp only;rw [AV,if_neg (by omega)]
 rw [e,AA]
theorem vd{l:List AN}(hl:l.length<=19):Xw l=some (BS ltP l):=by
 unfold Xw ln;obtain⟨n,hb⟩:=KZ 0 (by omega);rw [Nat.add_zero] at hb;have e:AT (Kh (l.length:Int)) big (l,0,20)=some (BS ltP l):=by
  rw [hb,Bo];unfold Kh;dsimp only;rw [AV,if_neg (by omega),AG];unfold TE;dsimp only;rw [wN (by omega),AA,hb,Bo];unfold Ou;dsimp only;rw [AV,if_neg (by omega)]
 rw [e,AA]
set_option maxRecDepth 100000
theorem uP{n:Nat}(hn:n<256):∃c,mE (IntKind.u64.wrap (n:Int))=some c:=by
 have e:IntKind.u64.wrap (n:Int)=n:=by
  simp only [IntKind.wrap,IntKind.bits,IntKind.signed];simp;omega
 unfold mE qY;rw [e,AV,if_neg (by omega),AG];unfold TS;dsimp only;rw [AV,if_neg (by omega),AG];unfold TT;dsimp only;rw [AV,if_neg (by omega),AG];unfold TU;dsimp only;rw [AX (UInt8.toNat_lt (toB (n:Int))),AA,AA];exact⟨_,rfl⟩
theorem xz{l:List AN}(hl:l.length<=12):lj l=some (BS ltP l):=by
 unfold lj qS;obtain⟨c,hc⟩:=uP (n:=l.length) (by omega);rw [hc,AA];obtain⟨n,hb⟩:=KZ 0 (by omega);rw [Nat.add_zero] at hb;rw [hb,Bo];unfold cW;rw [AV,if_pos (by rw [AP (by omega) (by omega)];omega),wN (by omega),AA,AA]
end Lv.P
namespace Lv.P
open Go (IntKind BinOp UnOp)
section
variable{α σ γ:Type}
theorem K9{l:List α}{F:(σ×Int->Option γ)->σ×Int->Option γ}(f:σ->α->σ)(I:Nat->σ->Prop)(J:σ->Option γ)(hl:l.length<2 ^ 63)
 (step:∀L i (h:i<l.length) v,I i v->F L (v,(i:Int))=L (f v l[i],w64 ((i:Int)+1))) (CK:∀i (h:i<l.length) v,I i v->I (i+1) (f v l[i]))
 (stop:∀L v,I l.length v->F L (v,(l.length:Int))=J v) {v0:σ} (h0:I 0 v0):AT F big (v0,0)=J (l.foldl f v0):=by
 refine(Bz (n:=l.length) (fun i (v:σ)=>(v,(i:Int))) I (fun i v=>J ((l.drop i).foldl f v)) hl ?_ h0);intro L i v hv hi ih;rcases Nat.lt_or_ge i l.length with h|h
 .rw [step L i h v hv,Ag h hl,Cr h,List.foldl_cons];exact ih _ (CK i h v hv) h
 .obtain rfl:i=l.length:=by omega
  rw [stop L v hv,List.drop_length];rfl
def DE(eq:α->α->Bool):List α->List α->Bool
 | [],[]=>true
 |x::a,y::b=>eq x y&&DE eq a b
 |_,_=>false
theorem GZ{eq:α->α->Bool}(he:∀x y,eq x y=true↔x=y):∀{a b:List α},DE eq a b=true↔a=b
 | [],[]=>by simp [DE]
 | [],y::b=>by simp [DE]
 |x::a,[]=>by simp [DE]
 |x::a,y::b=>by rw [DE,Bool.and_eq_true,he,GZ he,List.cons.injEq]
theorem g0{eq:α->α->Bool}:∀{a b:List α},a.length≠b.length->DE eq a b=false
 | [],[],h=>by simp at h
 | [],y::b,h=>rfl
 |x::a,[],h=>rfl
 |x::a,y::b,h=>by rw [DE,g0 (a:=a) (b:=b) (by simpa using h),Bool.and_false]
theorem tF{eq:α->α->Bool}{a b:List α}{F:(Int->Option Bool)->Int->Option Bool}(hl:a.length<2 ^ 63)(hab:a.length=b.length)
 (step:∀L i (h:i<a.length) (h':i<b.length),F L (i:Int)=br (!(eq a[i] b[i])) (some false) (L (w64 ((i:Int)+1)))) (stop:∀L,F L (a.length:Int)=some true):AT F big 0=some (DE eq a b):=by
 refine(Bz (n:=a.length) (fun i (_:Unit)=>(i:Int)) (fun _ _=>True) (fun i _=>some (DE eq (a.drop i) (b.drop i))) hl ?_ (v:=()) trivial);intro L i _ _ hi ih;rcases Nat.lt_or_ge i a.length with h|h
 .rw [step L i h (by omega),Ag h hl,Cr h,Cr (l:=b) (i:=i) (by omega),DE,Ai];cases eq a[i] b[i] with
  |true=>rw [Ab,ih () trivial h];rfl
  |false=>rfl
 .obtain rfl:i=a.length:=by omega
  rw [stop,List.drop_length,List.drop_eq_nil_of_le (by omega)];rfl
theorem OV{eq:α->α->Bool}{a b:List α}{F:(Int->Option Bool)->Int->Option Bool}(hl:a.length<2 ^ 63)
 (step:∀L i (h:i<a.length) (h':i<b.length),F L (i:Int)=br (!(eq a[i] b[i])) (some false) (L (w64 ((i:Int)+1)))) (stop:∀L,F L (a.length:Int)=some true) :
 br ((a.length:Int) != (b.length:Int)) (some false) (AT F big 0)=some (DE eq a b):=by
 by_cases h:a.length=b.length
 .have e:((a.length:Int) != (b.length:Int))=false:=by simp [h]
  rw [e,Ad,tF hl h step stop]
 .have e:((a.length:Int) != (b.length:Int))=true:=by simp;omega
  rw [e,Ab,g0 h]
def atF(p:α->Bool):List α->Nat->Int
 | [],_=>-1
 |x::l,i=>if p x=true then (i:Int) else atF p l (i+1)
theorem im{p:α->Bool}{l:List α}{F:(Int->Option Int)->Int->Option Int}(hl:l.length<2 ^ 63)
 (step:∀L i (h:i<l.length),F L (i:Int)=br (p l[i]) (some (i:Int)) (L (w64 ((i:Int)+1)))) (stop:∀L,F L (l.length:Int)=some (-1)):AT F big 0=some (atF p l 0):=by
 refine(Bz (n:=l.length) (fun i (_:Unit)=>(i:Int)) (fun _ _=>True) (fun i _=>some (atF p (l.drop i) i)) hl ?_ (v:=()) trivial);intro L i _ _ hi ih;rcases Nat.lt_or_ge i l.length with h|h
 .rw [step L i h,Ag h hl,Cr h,atF];cases p l[i] with
  |true=>rfl
  |false=>rw [Ad,ih () trivial h];simp
 .obtain rfl:i=l.length:=by omega
  rw [stop,List.drop_length];rfl
theorem cB{p:α->Bool}:∀{l:List α} {s:Nat},atF p l s<0↔∀x∈l,p x=false
 | [],s=>by simp [atF]
 |x::l,s=>by
  unfold atF;split
  .rename_i h;simp [h]
  .rename_i h;rw [cB];simp [h]
theorem cC{p:α->Bool}:∀{l:List α} {i:Nat} (s:Nat) (h:i<l.length),p l[i]=true->((atF p l s != ((s+i:Nat):Int))=decide (atF p (l.take i) s>=0))
 | [],i,s,h,hp=>by simp at h
 |x::l,0,s,h,hp=>by
  simp only [List.getElem_cons_zero] at hp;simp [atF,hp]
 |x::l,i+1,s,h,hp=>by
  simp only [List.getElem_cons_succ] at hp;rw [List.take_succ_cons,atF,atF];by_cases hx:p x=true
  .rw [if_pos hx,if_pos hx];rw [Bool.eq_iff_iff];simp;omega
  .rw [if_neg hx,if_neg hx];have:=cC (l:=l) (i:=i) (s+1) (by simpa using h) hp;rw [<-this,show s+1+i=s+(i+1) by omega]
end
def IF(cabin:Int)(n:Int)(p:AI):Int:=if (p.A4==cabin)=true then n+1 else n
def EG(l:List AI)(cabin:Int):Int:=l.foldl (IF cabin) 0
def Ro(cabin:Int)(n:Int)(p:AI):Int:=if ((p.State==2)&&((p.A4==cabin)&&inB p.As 1 6))=true then n+p.As else n
def Pk(l:List AI)(cabin:Int):Int:=l.foldl (Ro cabin) 0
def SD(cabin:Int)(n:Int)(p:AI):Int:=if ((p.CB==cabin)&&inB p.As 1 6)=true then n+p.As else n
def Yp(l:List AI)(cabin:Int):Int:=l.foldl (SD cabin) 0
theorem Xq(cabin:Int)(p:AI){i:Nat}{n:Int}(h:0<=n/\n<=i):0<=IF cabin n p/\IF cabin n p<=((i+1:Nat):Int):=by unfold IF;split <;> omega
theorem Pj(cabin:Int)(p:AI){i:Nat}{n:Int}(h:0<=n/\n<=6*i):0<=Ro cabin n p/\Ro cabin n p<=6*((i+1:Nat):Int):=by
 unfold Ro;split
 .rename_i g;simp only [Bool.and_eq_true,Bp] at g;omega
 .omega
theorem QN(cabin:Int)(p:AI){i:Nat}{n:Int}(h:0<=n/\n<=6*i):0<=SD cabin n p/\SD cabin n p<=6*((i+1:Nat):Int):=by
 unfold SD;split
 .rename_i g;simp only [Bool.and_eq_true,Bp] at g;omega
 .omega
theorem QG{l:List AI}(hl:l.length<2 ^ 58)(c:Int):qR l c=some (EG l c):=by
 unfold qR;refine K9 (l:=l) (IF c) (fun i n=>0<=n/\n<=i) some (by omega) ?_ (fun i h v hv=>Xq c _ hv) ?_ (by simp)
 .intro L i h v hv;unfold ZI ZH IF;dsimp only;rw [Ac h,Ab,AX h,AA,AG,AG,AP (n:=v+1) (by omega) (by omega),Bu];split <;> rfl
 .intro L v hv;unfold ZI lZ;dsimp only;rw [Ae,Ad,AG]
theorem Zw{l:List AI}(hl:l.length<2 ^ 58)(c:Int):uW l c=some (EG l c):=by
 unfold uW;refine K9 (l:=l) (IF c) (fun i n=>0<=n/\n<=i) some (by omega) ?_ (fun i h v hv=>Xq c _ hv) ?_ (by simp)
 .intro L i h v hv;unfold ZN ZM IF;dsimp only;rw [Ac h,Ab,AX h,AA,AG,AG,AP (n:=v+1) (by omega) (by omega),Bu];split <;> rfl
 .intro L v hv;unfold ZN lh;dsimp only;rw [Ae,Ad,AG]
theorem H7{l:List AI}(hl:l.length<2 ^ 58)(c:Int):jD l c=some (Pk l c):=by
 unfold jD;refine K9 (l:=l) (Ro c) (fun i n=>0<=n/\n<=6*i) some (by omega) ?_ (fun i h v hv=>Pj c _ hv) ?_ (by simp)
 .intro L i h v hv;have hk:=Pj c l[i] hv;unfold Ro at hk ⊢;unfold ZD SO ZC;dsimp only;rw [Ac h,Ab];simp only [AX h,AA,AG,FB,Ad];cases h1:l[i].State==2 <;> cases h2:l[i].A4==c <;> cases h3:inB l[i].As 1 6 <;> simp only [Ab,Ad,Bool.true_and,Bool.false_and,if_true,Bool.false_eq_true,if_false];rw [h1,h2,h3] at hk;simp only [Bool.true_and,if_true] at hk;rw [AP (n:=v+l[i].As) (by omega) (by omega)]
 .intro L v hv;unfold ZD lX;dsimp only;rw [Ae,Ad,AG]
theorem Rp{l:List AI}(hl:l.length<2 ^ 58)(c:Int):Tc l c=some (Pk l c):=by
 unfold Tc;refine K9 (l:=l) (Ro c) (fun i n=>0<=n/\n<=6*i) some (by omega) ?_ (fun i h v hv=>Pj c _ hv) ?_ (by simp)
 .intro L i h v hv;have hk:=Pj c l[i] hv;unfold Ro at hk ⊢;unfold Te PD Td;dsimp only;rw [Ac h,Ab];simp only [AX h,AA,AG,E5,Ad];cases h1:l[i].State==2 <;> cases h2:l[i].A4==c <;> cases h3:inB l[i].As 1 6 <;> simp only [Ab,Ad,Bool.true_and,Bool.false_and,if_true,Bool.false_eq_true,if_false];rw [h1,h2,h3] at hk;simp only [Bool.true_and,if_true] at hk;rw [AP (n:=v+l[i].As) (by omega) (by omega)]
 .intro L v hv;unfold Te dm;dsimp only;rw [Ae,Ad,AG]
theorem H8{l:List AI}(hl:l.length<2 ^ 58)(c:Int):cU l c=some (Yp l c):=by
 unfold cU;refine K9 (l:=l) (SD c) (fun i n=>0<=n/\n<=6*i) some (by omega) ?_ (fun i h v hv=>QN c _ hv) ?_ (by simp)
 .intro L i h v hv;have hk:=QN c l[i] hv;unfold SD at hk ⊢;unfold ZG ZE ZF;dsimp only;rw [Ac h,Ab];simp only [AX h,AA,AG,FB,Ad];cases h2:l[i].CB==c <;> cases h3:inB l[i].As 1 6 <;> simp only [Ab,Ad,Bool.true_and,Bool.false_and,if_true,Bool.false_eq_true,if_false];rw [h2,h3] at hk;simp only [Bool.true_and,if_true] at hk;rw [AP (n:=v+l[i].As) (by omega) (by omega)]
 .intro L v hv;unfold ZG lY;dsimp only;rw [Ae,Ad,AG]
theorem Rr{l:List AI}(hl:l.length<2 ^ 58)(c:Int):Rf l c=some (Yp l c):=by
 unfold Rf;refine K9 (l:=l) (SD c) (fun i n=>0<=n/\n<=6*i) some (by omega) ?_ (fun i h v hv=>QN c _ hv) ?_ (by simp)
 .intro L i h v hv;have hk:=QN c l[i] hv;unfold SD at hk ⊢;unfold Th Tf Tg;dsimp only;rw [Ac h,Ab];simp only [AX h,AA,AG,E5,Ad];cases h2:l[i].CB==c <;> cases h3:inB l[i].As 1 6 <;> simp only [Ab,Ad,Bool.true_and,Bool.false_and,if_true,Bool.false_eq_true,if_false];rw [h2,h3] at hk;simp only [Bool.true_and,if_true] at hk;rw [AP (n:=v+l[i].As) (by omega) (by omega)]
 .intro L v hv;unfold Th dn;dsimp only;rw [Ae,Ad,AG]
def eqE(x y:AD):Bool:=x.Level==y.Level&&(x.Ah==y.Ah&&(x.Id==y.Id&&(x.As==y.As&&true)))
theorem nI(x y:AD):eqE x y=true↔x=y:=by
 obtain⟨a,b,c,d⟩:=x;obtain⟨e,f,g,h⟩:=y;simp [eqE]
def eqP(x y:AN):Bool:=x.At==y.At&&(x.Id==y.Id&&true)
theorem nJ(x y:AN):eqP x y=true↔x=y:=by
 obtain⟨a,b⟩:=x;obtain⟨c,d⟩:=y;simp [eqP]
theorem QI{a b:List AD}(hl:a.length<2 ^ 62):rO a b=some (DE eqE a b):=by
 unfold rO;refine OV (by omega) ?_ ?_
 .intro L i h h';unfold Zh;rw [Ac h,Ab,AX h,AA,AX h',AA];rfl
 .intro L;unfold Zh nB;rw [Ae,Ad,AG]
theorem fh{a b:List AD}(hl:a.length<2 ^ 62):mD a b=some (DE eqE a b):=by
 unfold mD;refine OV (by omega) ?_ ?_
 .intro L i h h';unfold TR;rw [Ac h,Ab,AX h,AA,AX h',AA];rfl
 .intro L;unfold TR dU;rw [Ae,Ad,AG]
theorem NP{a b:List AN}(hl:a.length<2 ^ 62):rP a b=some (DE eqP a b):=by
 unfold rP;refine OV (by omega) ?_ ?_
 .intro L i h h';unfold Zo;rw [Ac h,Ab,AX h,AA,AX h',AA];rfl
 .intro L;unfold Zo nE;rw [Ae,Ad,AG]
theorem fk{a b:List AN}(hl:a.length<2 ^ 62):mI a b=some (DE eqP a b):=by
 unfold mI;refine OV (by omega) ?_ ?_
 .intro L i h h';unfold Tb;rw [Ac h,Ab,AX h,AA,AX h',AA];rfl
 .intro L;unfold Tb dk;rw [Ae,Ad,AG]
end Lv.P
namespace Lv.P
open Go (IntKind BinOp UnOp)
def D4{α:Type}(l:List α)(k:Nat)(p:α->Bool):Bool:=match l[k]? with|some x=>p x|none=>true
theorem Ay{α:Type}{l:List α}{k:Nat}(h:k<l.length)(p:α->Bool):D4 l k p=p l[k]:=by unfold D4;rw [List.getElem?_eq_getElem h]
theorem Mk(i:Nat):decide ((i:Int)>0)=decide (0<i):=by rw [decide_eq_decide];omega
theorem DC{α:Type}(l:List α)(x:α):l.length+[x].length=l.length+1:=rfl
theorem QH{l:List AD}(hl:l.length<2 ^ 62)(id:Int):rK l id=some (atF (fun x=>x.Id==id) l 0):=by
 unfold rK;refine im (by omega) ?_ ?_
 .intro L i h;unfold ZV;rw [Ac h,Ab,AX h,AA]
 .intro L;unfold ZV m4;rw [Ae,Ad,AG]
theorem Pn{l:List AD}(hl:l.length<2 ^ 62)(id:Int):dD l id=some (atF (fun x=>x.Id==id) l 0):=by
 unfold dD qV;rw [im (l:=l) (p:=fun x=>x.Id==id) (by omega) ?_ ?_,AA]
 .intro L i h;unfold TH qU;rw [Ac h,Ab,AX h,AA,AA]
 .intro L;unfold TH dC;rw [Ae,Ad,AG]
def og(e:AD):Bool:=inB e.Level 0 4&&(inB e.Ah 1 1000000&&(inB e.Id 1 999&&inB e.As 1 6))
def qAt(l:List AD)(i:Nat):Bool:=
 D4 l i fun e=>og e&&((if 0<i then D4 l (i-1) (fun d=>ltE d e) else true)&&!(decide (atF (fun x=>x.Id==e.Id) (l.take i) 0>=0)))
def Ws(l:List AD):Bool:=!(decide ((l.length:Int)>10))&&DU (qAt l) 0 l.length
theorem KC(l:List AD)(hl:l.length<2 ^ 62):oV l=some (Ws l):=by
 unfold oV Ws;rw [EC (n:=l.length) (E:=some true) (qAt l) (by omega) ?_ ?_,Bb,Bool.and_true,EB]
 .intro L i h;have hw:=Ag h (show l.length<2 ^ 63 by omega);unfold qAt;rw [Ay h];unfold ZW;rw [Ac h,Ab,AX h,AA];have hj3:∀b,Pb L i b=br (!b) (L ((i+1:Nat):Int)) (some false):=by intro b;unfold Pb;rw [hw];cases b <;> rfl
  have hq:(atF (fun x=>x.Id==l[i].Id) l 0 != (i:Int))=decide (atF (fun x=>x.Id==l[i].Id) (l.take i) 0>=0):=by
   have:=cC (p:=fun x=>x.Id==l[i].Id) 0 h (by simp);rw [Nat.zero_add] at this;exact this
  have hj2:∀b,Mj l L i l[i] b=br (!b&&((if 0<i then D4 l (i-1) (fun d=>ltE d l[i]) else true)&&!(decide (atF (fun x=>x.Id==l[i].Id) (l.take i) 0>=0)))) (L ((i+1:Nat):Int)) (some false):=by
   intro b;unfold Mj;rw [Mk];by_cases h0:0<i
   .rw [decide_eq_true h0,Ab,if_pos h0,D9 i h0 (by omega),AX (show i-1<l.length by omega),AA,MK,AA,Ai,QH hl,AA,AG,AG,hj3,hj3,hq,Ay (by omega)];cases b <;> cases ltE l[i-1] l[i] <;> rfl
   .rw [decide_eq_false h0,Ad,if_neg h0,QH hl,AA,AG,hj3,hq];cases b <;> rfl
  unfold og;simp only [FB,AA,AG,Ai,hj2];generalize ((if 0<i then D4 l (i-1) (fun d=>ltE d l[i]) else true)&&!(decide (atF (fun x=>x.Id==l[i].Id) (l.take i) 0>=0)))=X;cases inB l[i].Level 0 4 <;> cases inB l[i].Ah 1 1000000 <;> cases inB l[i].Id 1 999 <;> cases inB l[i].As 1 6 <;> rfl
 .intro L;unfold ZW m5;rw [Ae,Ad,AG]
theorem Zz(l:List AD)(hl:l.length<2 ^ 62):l7 l=some (Ws l):=by
 unfold l7 Ws;rw [EC (n:=l.length) (E:=some true) (qAt l) (by omega) ?_ ?_,Bb,Bool.and_true,EB]
 .intro L i h;have hw:=Ag h (show l.length<2 ^ 63 by omega);unfold qAt;rw [Ay h];unfold TI;rw [Ac h,Ab,AX h,AA];have hj3:∀b,Il L i b=br (!b) (L ((i+1:Nat):Int)) (some false):=by intro b;unfold Il;rw [hw];cases b <;> rfl
  have hj2:∀b,Kk L i l[i] b=br (!b&&og l[i]) (L ((i+1:Nat):Int)) (some false):=by
   intro b;unfold Kk og;have e4:w64 (5-1)=4:=by rw [AP] <;> omega
   simp only [E5,fw,AA,AG,Ai,hj3,e4];cases b <;> cases inB l[i].Level 0 4 <;> cases inB l[i].Ah 1 1000000 <;> cases inB l[i].Id 1 999 <;> cases inB l[i].As 1 6 <;> rfl
  have hg:(0:Int)<=(i:Int)/\(i:Int)<=(l.length:Int):=by omega
  rw [Mk];by_cases h0:0<i
  .rw [decide_eq_true h0,Ab,if_pos h0,D9 i h0 (by omega),AX (show i-1<l.length by omega),AA,VF,AA,Ai,A1 hg,Int.toNat_natCast,Pn (by rw [List.length_take];omega),AA,AG,AG,hj2,hj2,Ay (by omega)];cases og l[i] <;> cases ltE l[i-1] l[i] <;> cases decide (atF (fun x=>x.Id==l[i].Id) (l.take i) 0>=0) <;> rfl
  .rw [decide_eq_false h0,Ad,if_neg h0,A1 hg,Int.toNat_natCast,Pn (by rw [List.length_take];omega),AA,AG,hj2];cases og l[i] <;> cases decide (atF (fun x=>x.Id==l[i].Id) (l.take i) 0>=0) <;> rfl
 .intro L;unfold TI dE;rw [Ae,Ad,AG]
theorem SA{l:List AD}(hl:l.length<=lim):oX l=some l:=by
 unfold oX;rw [A1 (by omega),List.nil_append]
theorem XE{l:List AD}(hl:l.length+1<=lim)(e:AD):oY l e=some (put ltE e l):=by
 have h3:∀i:Nat,i<=l.length->Zd l e i=some (l.take i++e::l.drop i):=by
  intro i hi;have h2:(l.take i).length<=l.length:=by rw [List.length_take];omega
  have h5:(l.take i).length+[e].length<=lim:=by rw [DC];omega
  unfold Zd;rw [A1 (by omega),Int.toNat_natCast,SA (by omega),AA,A1 h5,AA,A1 h5,Bj,A1 (by omega),A1 (by simp;omega)];simp
 have hlim:lim=268435456:=rfl;unfold oY;refine Wp some (by omega) ?_ ?_
 .intro L i h;unfold Ze Sb;rw [Ac h,Ab,AX h,AA,MK,AA,AG,AG,h3 i (by omega)]
 .intro L;unfold Ze Sb;rw [Ae,Ad,AG,Ad,AG,h3 _ (Nat.le_refl _)];simp
theorem OW{l:List AN}(hl:l.length+1<=lim)(e:AN):od l e=some (put ltP e l):=by
 have h3:∀i:Nat,i<=l.length->Zi l e i=some (l.take i++e::l.drop i):=by
  intro i hi;have h2:(l.take i).length<=l.length:=by rw [List.length_take];omega
  unfold Zi;rw [A1 (by omega),Int.toNat_natCast,A1 (by omega),List.nil_append,A1 (by rw [DC];omega),A1 (by omega),A1 (by simp;omega)];simp
 have hlim:lim=268435456:=rfl;unfold od;refine Wp some (by omega) ?_ ?_
 .intro L i h;unfold Zj Sd;rw [Ac h,Ab,AX h,AA,SB,AA,AG,AG,h3 i (by omega)]
 .intro L;unfold Zj Sd;rw [Ae,Ad,AG,Ad,AG,h3 _ (Nat.le_refl _)];simp
def M7(r:AO)(cabin now:Int)(p:AI):Option AD:=if ((Da r p now).2&&(p.A4==cabin))=true then some (Da r p now).1 else none
def HR(r:AO)(l:List AI)(cabin now:Int):List AD:=BS ltE (l.filterMap (M7 r cabin now))
theorem KB{r:AO}(hr:r.AM.length<2 ^ 62){l:List AI}(hl:l.length<=1048576)(c now:Int):oZ r l c now=some (HR r l c now):=by
 have hlim:lim=268435456:=rfl;have e0:w64 ((l.length:Int)-1)=(l.length:Int)-1-((0:Nat):Int):=by rw [AP (by omega) (by omega)];omega
 unfold oZ HR;rw [e0];refine(Bz (n:=l.length) (fun i (v:List AD)=>(v,(l.length:Int)-1-(i:Int))) (fun i v=>v.length<=i) (fun i v=>some ((((l.take (l.length-i)).filterMap (M7 r c now)).foldr (put ltE) v))) (by omega) ?_ (v:=[]) (by simp)).trans (by rw [Nat.sub_zero,List.take_length];rfl);intro L i v hv hi ih;unfold nA Zf Zg;dsimp only;rcases Nat.lt_or_ge i l.length with h|h
 .obtain⟨k,hk⟩:∃k,l.length=i+(k+1):=⟨l.length-i-1,by omega⟩;have e1:(l.length:Int)-1-(i:Int)=(k:Int):=by omega
  have hkl:k<l.length:=by omega
  have e2:w64 ((k:Int)-1)=(l.length:Int)-1-((i+1:Nat):Int):=by rw [AP (by omega) (by omega)];omega
  have e3:l.take (l.length-i)=l.take (l.length-(i+1))++[l[k]]:=by
   rw [show l.length-i=k+1 by omega,show l.length-(i+1)=k by omega,List.take_add_one,List.getElem?_eq_getElem hkl];rfl
  rw [e1,AV,if_pos (by omega)];simp only [AX hkl,AA,bM hr,Bj,bf,AG,Ad];have key:(br (Da r l[k] now).2 (br (l[k].A4==c) (bd (oY v (Da r l[k] now).1) fun x9=>L (x9,w64 ((k:Int)-1))) (L (v,w64 ((k:Int)-1)))) (L (v,w64 ((k:Int)-1))))=some ((((l.take (l.length-i)).filterMap (M7 r c now)).foldr (put ltE) v)):=by
   rw [e2,XE (by omega),AA,e3,List.filterMap_append,List.foldr_append];have eq1:([l[k]].filterMap (M7 r c now)).foldr (put ltE) v=if ((Da r l[k] now).2&&(l[k].A4==c))=true then put ltE (Da r l[k] now).1 v else v:=by
    rw [List.filterMap_cons];unfold M7;by_cases hc:((Da r l[k] now).2&&(l[k].A4==c))=true
    .rw [if_pos hc,if_pos hc];rfl
    .rw [if_neg hc,if_neg hc];rfl
   rw [eq1];cases h1:(Da r l[k] now).2 <;> cases h2:l[k].A4==c <;> simp only [Ab,Ad,Bool.and_true,Bool.and_false,if_true,Bool.false_eq_true,if_false]
   .exact ih v (by omega) h
   .exact ih v (by omega) h
   .exact ih v (by omega) h
   .exact ih _ (by rw [C6];omega) h
  exact key
 .obtain rfl:i=l.length:=by omega
  unfold m9;rw [AV,if_neg (by omega),AG,Nat.sub_self];rfl
theorem XQ{α β:Type}(f:α->Option β){l:List α}{i:Nat}(h:i<l.length):(l.take (i+1)).filterMap f=(l.take i).filterMap f++(f l[i]).toList:=by
 rw [List.take_add_one,List.getElem?_eq_getElem h,List.filterMap_append];congr 1
theorem XR{α β:Type}(f:α->Option β)(l:List α)(i:Nat):((l.take i).filterMap f).length<=i:=Nat.le_trans (List.length_filterMap_le _ _) (by rw [List.length_take];omega)
theorem collect{α β γ:Type}{l:List α}(f:α->Option β){F:(List β×Int->Option γ)->List β×Int->Option γ}(J:List β->Option γ)(hl:l.length<=1048576)
 (step:∀L i (h:i<l.length) v,v.length<=i->F L (v,(i:Int))=L (v++(f l[i]).toList,w64 ((i:Int)+1))) (stop:∀L v,F L (v,(l.length:Int))=J v):AT F big ([],0)=J (l.filterMap f):=by
 refine(Bz (n:=l.length) (fun i (v:List β)=>(v,(i:Int))) (fun i v=>v=(l.take i).filterMap f) (fun i v=>J (l.filterMap f)) (by omega) ?_ (by simp));intro L i v hv hi ih;rcases Nat.lt_or_ge i l.length with h|h
 .rw [step L i h v (by rw [hv];exact XR _ _ _),Ag h (by omega)];exact ih _ (by rw [hv,XQ f h]) h
 .obtain rfl:i=l.length:=by omega
  rw [stop,hv,List.take_length]
theorem Xr(c:Int):∀(l:List AI) (n:Int),l.foldl (IF c) n=n+(l.countP fun p=>p.A4==c)
 | [],n=>by simp
 |p::l,n=>by
  rw [List.foldl_cons,Xr c l,List.countP_cons];unfold IF;split <;> simp <;> omega
theorem nR{β:Type}(f:AI->Option β)(c:Int)(hf:∀p,(p.A4==c)=false->f p=none):∀l:List AI,((l.filterMap f).length:Int)<=EG l c:=by
 intro l;unfold EG;rw [Xr,Int.zero_add]
 induction l with
 |nil=>simp
 |cons p l ih=>
  rw [List.countP_cons,List.filterMap_cons];cases e:p.A4==c with
  |false=>rw [hf p e];simpa using ih
  |true=>cases f p <;> simp <;> omega
theorem Po{r:AO}(hr:r.AM.length<2 ^ 62){l:List AI}(hl:l.length<=1048576){c:Int}(hc:EG l c<=19)(now:Int):TQ r l c now=some (HR r l c now):=by
 have hlim:lim=268435456:=rfl;have hn:=nR (M7 r c now) c (by intro p h;unfold M7;rw [h,Bool.and_false];rfl) l;unfold TQ HR;rw [collect (l:=l) (M7 r c now) Ko hl ?_ ?_]
 .unfold Ko;rw [va (by omega),AA]
 .intro L i h v hv;unfold Kq O9 PB M7;dsimp only;rw [Ac h,Ab,AX h,AA,Pm hr,AA,AG,AG,A1 (by rw [DC];omega),AG,AG];cases h1:(Da r l[i] now).2 <;> cases h2:l[i].A4==c <;> simp
 .intro L v;unfold Kq;dsimp only;rw [Ae,Ad,AG]
def OT(cabin:Int)(p:AI):Option AN:=if ((p.State==2)&&(p.A4==cabin))=true then some ⟨p.BW,p.Id⟩ else none
def KR(l:List AI)(cabin:Int):List AN:=BS ltP (l.filterMap (OT cabin))
theorem ML{l:List AI}(hl:l.length<=1048576)(c:Int):jF l c=some (KR l c):=by
 have hlim:lim=268435456:=rfl;unfold jF KR;rw [K9 (l:=l) (fun v p=>match OT c p with|some x=>put ltP x v|none=>v) (fun i v=>v.length<=i) some (by omega) ?_ ?_ ?_ (by simp),<-Q4 Cs ng]
 .congr 1;generalize ([]:List AN)=a;clear hl
  induction l generalizing a with
  |nil=>rfl
  |cons p l ih=>
   rw [List.foldl_cons,ih,List.filterMap_cons];cases OT c p <;> rfl
 .intro L i h v hv;unfold Zn Zl Zm OT;dsimp only;rw [Ac h,Ab];simp only [AX h,AA,AG,Ad,OW (show v.length+1<=lim by omega)];cases h1:l[i].State==2 <;> cases h2:l[i].A4==c <;> rfl
 .intro i h v hv;split
  .rw [C6];omega
  .omega
 .intro L v hv;unfold Zn nD;dsimp only;rw [Ae,Ad,AG]
theorem Rq{l:List AI}(hl:l.length<=1048576){c:Int}(hc:EG l c<=19):TF l c=some (KR l c):=by
 have hlim:lim=268435456:=rfl;have hn:=nR (OT c) c (by intro p h;unfold OT;rw [h,Bool.and_false];rfl) l;unfold TF KR;rw [collect (l:=l) (OT c) Ki hl ?_ ?_]
 .unfold Ki;rw [vd (by omega),AA]
 .intro L i h v hv;unfold Kj Ov Ow OT;dsimp only;rw [Ac h,Ab,AX h,AA,AG,AG,A1 (by rw [DC];omega),AG,AG];cases h1:l[i].State==2 <;> cases h2:l[i].A4==c <;> simp
 .intro L v;unfold Kj;dsimp only;rw [Ae,Ad,AG]
end Lv.P
