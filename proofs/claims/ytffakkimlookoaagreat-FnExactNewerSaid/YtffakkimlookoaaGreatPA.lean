/-
  Plain laws: events and loops.
-/
import Derived.Test.YtffakkimlookoaaGreatTB
import Derived.Test.YtffakkimlookoaaGreatKC
set_option linter.unusedVariables false
set_option linter.unusedSimpArgs false
namespace Lv.P
open Go (IntKind BinOp UnOp)
theorem Qn{n:Int}(h1:-9223372036854775808<=n)(h2:n<9223372036854775808):IntKind.i64.wrap n=n:=by
 simp only [IntKind.wrap,IntKind.bits,IntKind.signed];simp;omega
theorem AM{n:Int}(h1:-9223372036854775808<=n)(h2:n<9223372036854775808):w64 n=n:=Qn h1 h2
theorem tP{n:Int}(h1:0<=n)(h2:n<256):IntKind.u8.wrap n=n:=by
 simp only [IntKind.wrap,IntKind.bits,IntKind.signed];simp;omega
theorem n6{n:Nat}(h:n<256):toB (n:Int)=UInt8.ofNat n:=by
 unfold toB;rw [tP (by omega) (by omega)];rfl
@[simp] theorem DN{α:Type}(l:List α)(i:Nat):at? l (i:Int)=l[i]?:=by simp [at?]
@[simp] theorem yD{α:Type}(l:List α):at? l 0=l[0]?:=by simp [at?]
theorem EN(k:Nat)(h:k<2 ^ 64):k<big:=by have:=Qv;omega
theorem Kk(k:Nat)(h:k<2 ^ 64):∃n,big=n+1+k:=⟨big-1-k,by have:=Qv;omega⟩
section
variable{σ γ:Type}
theorem gM{F:(σ->Option γ)->σ->Option γ}(R:σ->Option γ)(I:σ->Prop)(μ:σ->Nat)
 (step:∀(L:σ->Option γ) x,I x->(∀y,I y->μ y<μ x->L y=R y)->F L x=R x):∀n x,I x->μ x<n->AR F n x=R x
 |0,x,_,h=>by omega
 |n+1,x,hI,hn=>by
  rw [Bd];exact step _ x hI fun y hy hm=>gM R I μ step n y hy (by omega)
theorem oz{F:(σ->Option γ)->σ->Option γ}(R:σ->Option γ)(I:σ->Prop)(μ:σ->Nat)
 (step:∀(L:σ->Option γ) x,I x->(∀y,I y->μ y<μ x->L y=R y)->F L x=R x) {x:σ} (hI:I x) (hm:μ x<2 ^ 64):AR F big x=R x:=
 gM R I μ step big x hI (EN _ hm)
end
section
variable{α γ:Type}
@[simp] theorem Af(x y:Option γ):br true x y=x:=rfl
@[simp] theorem Ag(x y:Option γ):br false x y=y:=rfl
@[simp] theorem AT(p:Prop) [Decidable p] (x y:Option γ):br (decide p) x y=if p then x else y:=by unfold br;by_cases h:p <;> simp [h]
@[simp] theorem Ae(b:Bool)(x y:Option γ):br (!b) x y=br b y x:=by cases b <;> rfl
@[simp] theorem AA(a:α)(f:α->Option γ):bd (some a) f=f a:=by rw [im];rfl
@[simp] theorem tt(f:α->Option γ):bd none f=none:=by rw [im];rfl
@[simp] theorem AE(F:α->Option γ)(x:α):jn F x=F x:=rp F x
theorem BE{p:Prop} [Decidable p] (h:p) (x:Option γ):gd p x=x:=by rw [rZ,if_pos h]
theorem Fz(b:Bool)(x y:Option γ):br b x y=if b=true then x else y:=rfl
end
theorem Bz{τ σ γ:Type}{F:(τ->Option γ)->τ->Option γ}(st:Nat->σ->τ)(I:Nat->σ->Prop)(R:Nat->σ->Option γ){n:Nat}(hn:n<2 ^ 63)
 (step:∀L i v,I i v->i<=n->(∀v',I (i+1) v'->i<n->L (st (i+1) v')=R (i+1) v')->F L (st i v)=R i v) {v:σ} (h0:I 0 v):AR F big (st 0 v)=R 0 v:=by
 have key:∀(m i k:Nat) (v:σ),i+m=n->m<k->I i v->AR F k (st i v)=R i v:=by
  intro m
  induction m with
  |zero=>
   intro i k v hi hk h;obtain⟨k,rfl⟩:∃j,k=j+1:=⟨k-1,by omega⟩;rw [Bd];exact step _ i v h (by omega) fun v' _ h3=>by omega
  |succ m ih=>
   intro i k v hi hk h;obtain⟨k,rfl⟩:∃j,k=j+1:=⟨k-1,by omega⟩;rw [Bd];exact step _ i v h (by omega) fun v' h2 h3=>ih (i+1) k v' (by omega) (by omega) h2
 exact key n 0 big v (by omega) (EN _ (by omega)) h0
theorem Ac{α:Type}{l:List α}{i:Nat}(h:i<l.length):at? l (i:Int)=some l[i]:=by rw [DN,List.getElem?_eq_getElem h]
theorem Av{i n:Nat}(h:i<n)(hn:n<2 ^ 63):w64 ((i:Int)+1)=((i+1:Nat):Int):=by rw [AM (by omega) (by omega)];rfl
theorem qH{α:Type}{l:List α}{z:α}{F:(List α×Int->Option (List α))->List α×Int->Option (List α)}(hl:l.length<2 ^ 63)
 (step:∀L v (i:Nat),v.length=l.length->(hi:i<l.length)->F L (v,(i:Int))=L (v.set i l[i],((i+1:Nat):Int))) (stop:∀L v,F L (v,(l.length:Int))=some v) :
 AR F big (List.replicate l.length z,0)=some l:=by
 have:=Bz (F:=F) (n:=l.length) (fun i v=>(v,(i:Int))) (fun i v=>v.length=l.length/\v.take i=l.take i) (fun _ _=>some l) hl ?_ (v:=List.replicate l.length z) ⟨by simp,by simp⟩
 .exact this
 .rintro L i v ⟨h1,h2⟩ hi ih;rcases Nat.lt_or_ge i l.length with h|h
  .rw [step L v i h1 h];refine ih _ ⟨by simpa using h1,?_⟩ h;rw [List.take_add_one,List.take_add_one,List.take_set_of_le (by omega),h2];simp [h,h1]
  .obtain rfl:i=l.length:=by omega
   rw [stop];rw [List.take_of_length_le (by omega),List.take_of_length_le (by omega)] at h2;rw [h2]
theorem tZ{n:Nat}{F:(Int->Option Bool)->Int->Option Bool}(hl:n<2 ^ 63)
 (step:∀L (i:Nat),i<n->F L (i:Int)=L ((i+1:Nat):Int)) (stop:∀L,F L (n:Int)=some true):AR F big 0=some true:=by
 have:=Bz (F:=F) (n:=n) (fun i (_:Unit)=>(i:Int)) (fun _ _=>True) (fun _ _=>some true) hl ?_ (v:=()) trivial
 .exact this
 .intro L i v _ hi ih;rcases Nat.lt_or_ge i n with h|h
  .rw [step L i h];exact ih () trivial h
  .obtain rfl:i=n:=by omega
   exact stop L
theorem CH{α:Type}{l:List α}{i:Nat}(h:i<l.length):l.drop i=l[i]::l.drop (i+1):=List.drop_eq_getElem_cons h
theorem CO{σ γ:Type}{F:(σ->Option γ)->σ->Option γ}(I:σ->Prop)(μ:σ->Nat)(Q:γ->Prop)
 (step:∀(L:σ->Option γ) x,I x->(∀y,I y->μ y<μ x->∃r,L y=some r/\Q r)->∃r,F L x=some r/\Q r):∀n x,I x->μ x<n->∃r,AR F n x=some r/\Q r
 |0,x,_,h=>by omega
 |n+1,x,hI,hn=>by
  rw [Bd];exact step _ x hI fun y hy hm=>CO I μ Q step n y hy (by omega)
theorem YP{τ σ γ:Type}{F:(τ->Option γ)->τ->Option γ}(st:Nat->σ->τ)(I:Nat->σ->Prop)(Q:γ->Prop){n:Nat}(hn:n<2 ^ 63)
 (step:∀L i v,I i v->i<=n->(∀v',I (i+1) v'->i<n->∃r,L (st (i+1) v')=some r/\Q r)->∃r,F L (st i v)=some r/\Q r) {v:σ} (h0:I 0 v):∃r,AR F big (st 0 v)=some r/\Q r:=by
 have key:∀(m i k:Nat) (v:σ),i+m=n->m<k->I i v->∃r,AR F k (st i v)=some r/\Q r:=by
  intro m
  induction m with
  |zero=>
   intro i k v hi hk h;obtain⟨k,rfl⟩:∃j,k=j+1:=⟨k-1,by omega⟩;rw [Bd];exact step _ i v h (by omega) fun v' _ h3=>by omega
  |succ m ih=>
   intro i k v hi hk h;obtain⟨k,rfl⟩:∃j,k=j+1:=⟨k-1,by omega⟩;rw [Bd];exact step _ i v h (by omega) fun v' h2 h3=>ih (i+1) k v' (by omega) (by omega) h2
 exact key n 0 big v (by omega) (EN _ (by omega)) h0
end Lv.P
namespace Lv.P
open Go (IntKind BinOp UnOp)
def inB(a b c:Int):Bool:=decide (b<=a/\a<=c)
theorem CL{a b c:Int}:inB a b c=true↔b<=a/\a<=c:=by unfold inB;exact decide_eq_true_iff
theorem FV(a b c:Int):CU a b c=some (inB a b c):=by
 unfold CU Sf inB;simp only [AT,AE];by_cases h:a>=b <;> simp [h,show b<=a↔a>=b from Iff.rfl]
theorem Em(a b c:Int):BT a b c=some (inB a b c):=by
 unfold BT O6 inB;simp only [AT,AE];by_cases h:a>=b <;> simp [h,show b<=a↔a>=b from Iff.rfl]
theorem gF(a b:Int):O7 a b=some (inB a 0 (w64 (b-1))):=by unfold O7;rw [Em,AA]
theorem BK(a b:Bool):br a (some b) (some false)=some (a&&b):=by cases a <;> rfl
theorem ka(a b:Bool):br a (some true) (some b)=some (a||b):=by cases a <;> rfl
theorem EO(a b:Bool):br a (some false) (some b)=some (!a&&b):=by cases a <;> rfl
theorem kd{γ:Type}(a:Bool)(x:Option γ):br a x x=x:=by cases a <;> rfl
def Dm(p:Nat->Bool):Nat->Nat->Bool
 |_,0=>true
 |i,m+1=>p i&&Dm p (i+1) m
theorem gl{p:Nat->Bool}:∀{m i:Nat},Dm p i m=true↔∀k,i<=k->k<i+m->p k=true
 |0,i=>by simp [Dm];omega
 |m+1,i=>by
  unfold Dm;rw [Bool.and_eq_true,gl];constructor
  .rintro⟨h1,h2⟩ k h3 h4;rcases Nat.eq_or_lt_of_le h3 with rfl|h5
   .exact h1
   .exact h2 k h5 (by omega)
  .intro h;exact⟨h i (by omega) (by omega),fun k h1 h2=>h k (by omega) (by omega)⟩
theorem H5{p:Nat->Bool}{n:Nat}:Dm p 0 n=true↔∀k,k<n->p k=true:=by
 rw [gl];exact⟨fun h k hk=>h k (by omega) (by omega),fun h k _ hk=>h k (by omega)⟩
theorem EP{n:Nat}{F:(Int->Option Bool)->Int->Option Bool}{E:Option Bool}(p:Nat->Bool)(hn:n<2 ^ 63)
 (step:∀L (i:Nat),i<n->F L (i:Int)=br (p i) (L ((i+1:Nat):Int)) (some false)) (stop:∀L,F L (n:Int)=E):AR F big 0=br (Dm p 0 n) E (some false):=by
 have:=Bz (F:=F) (n:=n) (fun i (_:Unit)=>(i:Int)) (fun _ _=>True) (fun i _=>br (Dm p i (n-i)) E (some false)) hn ?_ (v:=()) trivial
 .exact this
 .intro L i v _ hi ih;rcases Nat.lt_or_ge i n with h|h
  .rw [step L i h,ih () trivial h,show n-i=(n-(i+1))+1 by omega,show Dm p i (n-(i+1)+1)=(p i&&Dm p (i+1) (n-(i+1))) from rfl];cases p i <;> rfl
  .obtain rfl:i=n:=by omega
   rw [stop,Nat.sub_self];rfl
theorem pn{α:Type}(l:List α)(p:α->Bool)(q:Nat->Bool)(h:∀k (hk:k<l.length),q k=p l[k]):Dm q 0 l.length=l.all p:=by
 rw [Bool.eq_iff_iff,H5,List.all_eq_true];constructor
 .intro g x hx;obtain⟨k,hk,rfl⟩:=List.getElem_of_mem hx;rw [<-h k hk];exact g k hk
 .intro g k hk;rw [h k hk];exact g _ (List.getElem_mem _)
theorem AX{i n:Nat}(h:i<n):decide ((i:Int)<(n:Int))=true:=by rw [decide_eq_true_iff];omega
theorem AY(n:Nat):decide ((n:Int)<(n:Int))=false:=by rw [decide_eq_false_iff_not];omega
theorem kW{α:Type}{l:List α}{F:(Int->Option Bool)->Int->Option Bool}{E:Option Bool}(p:α->Bool)(hn:l.length<2 ^ 63)
 (step:∀L (i:Nat) (h:i<l.length),F L (i:Int)=br (p l[i]) (L (w64 ((i:Int)+1))) (some false)) (stop:∀L,F L (l.length:Int)=E):AR F big 0=br (l.all p) E (some false):=by
 have:=EP (F:=F) (n:=l.length) (E:=E) (fun i=>match l[i]? with|some x=>p x|none=>true) hn ?_ stop
 .rw [this,pn l p _ ?_];intro k hk;simp [hk]
 .intro L i h;rw [step L i h,Av h hn];simp [h]
def CP(r:AQ):Bool:=inB r.AN.length 1 4&&(inB r.A2 1 5&&(inB r.Room 1 10&&(inB r.Aq 1 6&&(inB r.Au 1 12&&(r.AN.all (fun x=>inB x 1 60)&&(inB r.As 1 8&&(inB r.Rest 0 8&&(inB r.A3 1 4&&inB r.BL 1 3))))))))
theorem FN{r:AQ}(hr:r.AN.length<2 ^ 62):jB r=some (CP r):=by
 have hj:∀b,JJ r b=some (!b&&(r.AN.all (fun x=>inB x 1 60)&&(inB r.As 1 8&&(inB r.Rest 0 8&&(inB r.A3 1 4&&inB r.BL 1 3))))):=by
  intro b;unfold JJ;rw [kW (l:=r.AN) (fun x=>inB x 1 60) (E:=some (inB r.As 1 8&&(inB r.Rest 0 8&&(inB r.A3 1 4&&inB r.BL 1 3)))) (by omega) ?_ ?_,BK,EO]
  .intro L i h;unfold Zf;rw [AX h,Af,Ac h,AA,FV,AA,Ae]
  .intro L;unfold Zf mn Po;rw [AY,Ag];simp only [AE,FV,AA,BK]
 unfold jB;simp only [FV,AA,Ae,AE,hj,Bool.not_true,Bool.false_and,BK,Bool.not_not];rfl
theorem DV{r:AQ}(hr:r.AN.length<2 ^ 62):R0 r=some (CP r):=by
 unfold R0;rw [Em,AA,Ae];rw [kW (l:=r.AN) (fun x=>inB x 1 60) (E:=some (inB r.A2 1 5&&(inB r.Room 1 10&&(inB r.Aq 1 6&&(inB r.Au 1 12&&(inB r.As 1 8&&(inB r.A3 1 4&&(inB r.BL 1 3&&inB r.Rest 0 8)))))))) (by omega) ?_ ?_,BK,BK]
 .unfold CP;congr 1;ac_rfl
 .intro L i h;unfold TU;rw [AX h,Af,Ac h,AA,Em,AA,Ae]
 .intro L;unfold TU cj Eu;rw [AY,Ag];simp only [AE,Em,AA,BK]
theorem BZ{r:AQ}(h:CP r=true):(1<=r.AN.length/\r.AN.length<=4)/\(1<=r.A2/\r.A2<=5)/\(1<=r.Room/\r.Room<=10)/\(1<=r.Aq/\r.Aq<=6)/\(1<=r.Au/\r.Au<=12)/\(∀x∈r.AN,1<=x/\x<=60)/\(1<=r.As/\r.As<=8)/\(0<=r.Rest/\r.Rest<=8)/\(1<=r.A3/\r.A3<=4)/\(1<=r.BL/\r.BL<=3):=by
 unfold CP at h;simp only [Bool.and_eq_true,CL,List.all_eq_true] at h;obtain⟨h1,h2,h3,h4,h5,h6,h7,h8,h9,h10⟩:=h;exact⟨by omega,h2,h3,h4,h5,h6,h7,h8,h9,h10⟩
def Ed(r:AQ)(p:AG)(now:Int):Bool:=
 CP r&&(inB now 0 1000000&&(inB p.Id 1 999&&(inB p.A4 0 (w64 ((r.AN.length:Int)-1))&&(inB p.CR (-1) (w64 ((r.AN.length:Int)-1))&&(!(p.CR==p.A4)&&(inB p.Aq 1 r.Aq&&(inB p.C9 0 (w64 (r.A2-1))&&(inB p.Since 0 now&&(inB p.Ai 1 1000000&&(inB p.Cs 0 (w64 (r.A3-1))&&(((p.State==1)&&inB p.BV 0 (w64 (now+r.Rest)))||((p.State==2)&&inB p.BV 1 (w64 (now+r.As))))))))))))))
theorem KM{r:AQ}(hr:r.AN.length<2 ^ 62)(p:AG)(now:Int):oO r p now=some (Ed r p now):=by
 have h2:∀b,JK r p now b=some (!b&&(((p.State==1)&&inB p.BV 0 (w64 (now+r.Rest)))||((p.State==2)&&inB p.BV 1 (w64 (now+r.As))))):=by
  intro b;unfold JK MK;simp only [FV,AA,AE,BK,ka];cases p.State==1 <;> cases b <;> rfl
 have h1:∀b,Hl r p now b=some (!b&&(inB p.Aq 1 r.Aq&&(inB p.C9 0 (w64 (r.A2-1))&&(inB p.Since 0 now&&(inB p.Ai 1 1000000&&(inB p.Cs 0 (w64 (r.A3-1))&&(((p.State==1)&&inB p.BV 0 (w64 (now+r.Rest)))||((p.State==2)&&inB p.BV 1 (w64 (now+r.As)))))))))):=by
  intro b;unfold Hl;simp only [FV,AA,AE,Ae,h2,Bool.not_true,Bool.false_and,BK,EO,Bool.not_not]
 unfold oO;simp only [FN hr,FV,AA,AE,Ae,h1,Bool.not_true,Bool.false_and,BK];rfl
theorem J6{r:AQ}(hr:r.AN.length<2 ^ 62)(p:AG)(now:Int):X2 r p now=some (Ed r p now):=by
 have h2:∀b,Gw r p now b=some (!b&&(((p.State==1)&&inB p.BV 0 (w64 (now+r.Rest)))||((p.State==2)&&inB p.BV 1 (w64 (now+r.As))))):=by
  intro b;unfold Gw Ic;simp only [Em,AA,AE,BK,ka];cases p.State==1 <;> cases b <;> rfl
 have h1:∀b,F3 r p now b=some (!b&&(inB p.Aq 1 r.Aq&&(inB p.C9 0 (w64 (r.A2-1))&&(inB p.Since 0 now&&(inB p.Ai 1 1000000&&(inB p.Cs 0 (w64 (r.A3-1))&&(((p.State==1)&&inB p.BV 0 (w64 (now+r.Rest)))||((p.State==2)&&inB p.BV 1 (w64 (now+r.As)))))))))):=by
  intro b;unfold F3;simp only [Em,gF,AA,AE,Ae,h2,Bool.not_true,Bool.false_and,BK,EO,Bool.not_not]
 unfold X2;simp only [DV hr,Em,gF,AA,AE,Ae,h1,Bool.not_true,Bool.false_and,BK];rfl
def Va(r:AQ)(tier waited:Int):Int:=if 0>w64 (tier-w64 (waited.tdiv r.Au)) then 0 else w64 (tier-w64 (waited.tdiv r.Au))
theorem VU(a b:Int):oP a b=some (if a>b then a else b):=by
 unfold oP;rw [AT];split <;> rfl
theorem bj{r:AQ}(hr:r.Au≠0)(t w:Int):uQ r t w=some (Va r t w):=by
 unfold uQ;rw [BE hr,VU,AA];rfl
theorem ou(r:AQ)(t w:Int):0<=Va r t w:=by unfold Va;split <;> omega
theorem MX{r:AQ}{p:AG}{now:Int}(h:Ed r p now=true):CP r=true/\(0<=now/\now<=1000000)/\(1<=p.Id/\p.Id<=999)/\(0<=p.A4/\p.A4<=r.AN.length-1)/\(-1<=p.CR/\p.CR<=r.AN.length-1)/\p.CR≠p.A4/\(1<=p.Aq/\p.Aq<=r.Aq)/\(0<=p.C9/\p.C9<=r.A2-1)/\(0<=p.Since/\p.Since<=now)/\(1<=p.Ai/\p.Ai<=1000000)/\(0<=p.Cs/\p.Cs<=r.A3-1)/\(p.State=1/\0<=p.BV/\p.BV<=now+r.Rest\/p.State=2/\1<=p.BV/\p.BV<=now+r.As):=by
 unfold Ed at h;simp only [Bool.and_eq_true,CL,Bool.or_eq_true,beq_iff_eq,Bool.not_eq_true',beq_eq_false_iff_ne] at h;obtain⟨h1,h2,h3,h4,h5,h6,h7,h8,h9,h10,h11,h12⟩:=h;have hr:=BZ h1;rw [AM (by omega) (by omega)] at h4 h5 h8 h11;rw [AM (by omega) (by omega),AM (by omega) (by omega)] at h12;exact⟨h1,h2,h3,h4,h5,h6,h7,h8,h9,h10,h11,h12⟩
def GW(r:AQ)(p:AG)(now:Int):Int:=if Ed r p now=true then Va r p.C9 (w64 (now-p.Since)) else -1
theorem bX{r:AQ}(hr:r.AN.length<2 ^ 62)(p:AG)(now:Int):uR r p now=some (GW r p now):=by
 unfold uR GW;rw [KM hr,AA,Ae,Fz];split
 .rename_i h;have:=(BZ (MX h).1).2.2.2.2.1;rw [bj (by omega),AA]
 .rfl
theorem aA{r:AQ}(hr:r.AN.length<2 ^ 62)(p:AG)(now:Int):lU r p now=some (GW r p now):=by
 unfold lU GW;rw [J6 hr,AA,Ae,Fz];split
 .rename_i h;have hp:=MX h;have hq:=BZ hp.1;unfold qS PD;rw [DV hr,hp.1,AA,Ae,Af,gF,AA,Ae];have e1:inB p.C9 0 (w64 (r.A2-1))=true:=by rw [CL,AM (by omega) (by omega)];omega
  have e2:decide (w64 (now-p.Since)<0)=false:=by rw [AM (by omega) (by omega)];simp;omega
  rw [e1,Af,AE,e2,Ag,BE (by omega),AA,if_pos rfl];unfold Va;congr 1;split <;> split <;> omega
 .rfl
def Dr(r:AQ)(p:AG)(now:Int):AD×Bool:=if Ed r p now=true/\p.State=1 then (⟨GW r p now,p.Ai,p.Id,p.Aq⟩,true) else (⟨0,0,0,0⟩,false)
theorem bV{r:AQ}(hr:r.AN.length<2 ^ 62)(p:AG)(now:Int):rJ r p now=some (Dr r p now):=by
 unfold rJ Zr Dr;rw [bX hr,AA,AT,AE,AE,Af];by_cases h:Ed r p now=true
 .have:=ou r p.C9 (w64 (now-p.Since));have e:¬GW r p now<0:=by unfold GW;rw [if_pos h];omega
  rw [if_neg e,Fz];by_cases h2:p.State=1 <;> simp [h,h2]
 .have e:GW r p now<0:=by unfold GW;rw [if_neg h];omega
  rw [if_pos e,if_neg (fun g=>h g.1)]
theorem QF{r:AQ}(hr:r.AN.length<2 ^ 62)(p:AG)(now:Int):lV r p now=some (Dr r p now):=by
 unfold lV Te Dr;rw [J6 hr,AA,Ae,Fz,AE,AE,Af,aA hr,AA,Fz];by_cases h:Ed r p now=true
 .rw [if_pos h];by_cases h2:p.State=1 <;> simp [h,h2]
 .rw [if_neg h,if_neg (fun g=>h g.1)]
def MR(l:BX):Bool:=inB l.Total 1 60&&(inB l.Cd 0 l.Total&&(inB l.Ep 0 l.Total&&(inB l.IQ 0 l.Total&&((w64 (w64 (l.Cd+l.Ep)+l.IQ)==l.Total)&&inB l.Ki 0 l.IQ))))
theorem Xb(l:BX):uN l=some (MR l):=by
 unfold uN JL MR;simp only [FV,AA,AE,BK]
theorem XT(l:BX):lP l=some (MR l):=by
 unfold lP Gx MR;simp only [Em,AA,AE,BK]
def Xn(a:Dw):Bool:=decide ((a.Data.length:Int)<=20000)&&inB a.Safe 0 a.Data.length
theorem iG(a:Dw):lN a=some (Xn a):=by
 unfold lN TT Xn;simp only [FV,AA,AE,BK]
theorem fu(a:Dw):lr a=some (Xn a):=by
 unfold lr T4 Xn;simp only [Em,AA,AE,BK]
end Lv.P
namespace Lv.P
open Go (IntKind BinOp UnOp)
section
variable{α:Type}(lt:α->α->Bool)
def put(x:α):List α->List α
 | []=>[x]
 |z::l=>if lt z x=true then z::put x l else x::z::l
def ins(x:α):List α->List α
 | []=>[x]
 |z::l=>if lt x z=true then x::z::l else z::ins x l
structure Swo:Prop where
 ij:∀a b,lt a b=true->lt b a=false
 neg:∀a b c,lt a c=true->lt a b=true\/lt b c=true
def BH(l:List α):List α:=l.foldr (put lt) []
variable {lt}
theorem Swo.trans(h:Swo lt){a b c:α}(h1:lt a b=true)(h2:lt b c=true):lt a c=true:=by
 rcases h.neg a c b h1 with h3|h3
 .exact h3
 .rw [h.ij _ _ h2] at h3;cases h3
theorem nO(h:Swo lt)(x y:α):∀l,ins lt x (put lt y l)=put lt y (ins lt x l)
 | []=>by simp only [put,ins]
 |z::l=>by
  cases h1:lt z y with
  |true=>
   cases h2:lt x z with
   |true=>simp only [put,ins,h1,h2,h.trans h2 h1,if_true]
   |false=>simp [put,ins,h1,h2,nO h x y l]
  |false=>
   cases h2:lt x y with
   |true=>
    have h3:lt x z=true:=(h.neg x z y h2).resolve_right (by simp [h1]);simp [put,ins,h1,h2,h3]
   |false=>
    cases h3:lt x z <;> simp [put,ins,h1,h2,h3]
theorem ng(h:Swo lt)(ht:∀a b,lt a b=false->lt b a=false->a=b)(x y:α):∀l,put lt x (put lt y l)=put lt y (put lt x l)
 | []=>by
  simp only [put];cases h1:lt y x with
  |true=>simp [h.ij _ _ h1]
  |false=>
   cases h2:lt x y with
   |true=>simp
   |false=>simp [ht _ _ h1 h2]
 |z::l=>by
  cases h1:lt z y with
  |true=>
   cases h2:lt z x with
   |true=>simp only [put,h1,h2,if_true];rw [ng h ht x y l]
   |false=>
    have h3:lt x y=true:=(h.neg z x y h1).resolve_left (by simp [h2]);simp [put,h1,h2,h3]
  |false=>
   cases h2:lt z x with
   |true=>
    have h3:lt y x=true:=(h.neg z y x h2).resolve_left (by simp [h1]);simp [put,h1,h2,h3]
   |false=>
    cases h3:lt y x with
    |true=>simp [put,h1,h2,h3,h.ij _ _ h3]
    |false=>
     cases h4:lt x y with
     |true=>simp [put,h1,h2,h3,h4]
     |false=>simp [ht _ _ h3 h4]
theorem YM(h:Swo lt):∀(l acc:List α) (a:α),l.foldl (fun s x=>ins lt x s) (put lt a acc)=put lt a (l.foldl (fun s x=>ins lt x s) acc)
 | [],_,_=>rfl
 |x::l,acc,a=>by rw [List.foldl_cons,nO h,YM h l,List.foldl_cons]
theorem Ya(h:Swo lt):∀l:List α,l.foldl (fun s x=>ins lt x s) []=BH lt l
 | []=>rfl
 |a::l=>by
  rw [List.foldl_cons,show ins lt a []=put lt a [] from rfl,YM h,Ya h l];rfl
theorem YN(h:Swo lt)(ht:∀a b,lt a b=false->lt b a=false->a=b):∀(l acc:List α) (a:α),l.foldl (fun s x=>put lt x s) (put lt a acc)=put lt a (l.foldl (fun s x=>put lt x s) acc)
 | [],_,_=>rfl
 |x::l,acc,a=>by rw [List.foldl_cons,ng h ht,YN h ht l,List.foldl_cons]
theorem RT(h:Swo lt)(ht:∀a b,lt a b=false->lt b a=false->a=b):∀l:List α,l.foldl (fun s x=>put lt x s) []=BH lt l
 | []=>rfl
 |a::l=>by rw [List.foldl_cons,YN h ht,RT h ht l];rfl
theorem Dg(x:α):∀l,(put lt x l).length=l.length+1
 | []=>rfl
 |z::l=>by unfold put;split <;> simp [Dg x l]
theorem nM(x:α):∀l,(ins lt x l).length=l.length+1
 | []=>rfl
 |z::l=>by unfold ins;split <;> simp [nM x l]
theorem Gi:∀l:List α,(BH lt l).length=l.length
 | []=>rfl
 |a::l=>by
  have:=Gi l;unfold BH at this ⊢;rw [List.foldr_cons,Dg,this];rfl
theorem S5{x a:α}:∀{l},a∈put lt x l↔a=x\/a∈l
 | []=>by simp [put]
 |z::l=>by
  unfold put;split
  .rw [List.mem_cons,S5,List.mem_cons];constructor
   .rintro(h|h|h) <;> simp [h]
   .rintro(h|h|h) <;> simp [h]
  .simp
theorem nN{x a:α}:∀{l},a∈ins lt x l↔a=x\/a∈l
 | []=>by simp [ins]
 |z::l=>by
  unfold ins;split
  .simp
  .rw [List.mem_cons,nN,List.mem_cons];constructor
   .rintro(h|h|h) <;> simp [h]
   .rintro(h|h|h) <;> simp [h]
theorem RS{a:α}:∀{l:List α},a∈BH lt l↔a∈l
 | []=>by simp [BH]
 |z::l=>by
  have:=RS (a:=a) (l:=l);unfold BH at this ⊢;rw [List.foldr_cons,S5,this,List.mem_cons]
def Srt(lt:α->α->Bool)(l:List α):Prop:=l.Pairwise fun a b=>lt b a=false
theorem nP(h:Swo lt)(x:α):∀l,Srt lt l->Srt lt (ins lt x l)
 | [],_=>by simp [ins,Srt]
 |z::l,hs=>by
  unfold Srt at hs;rw [List.pairwise_cons] at hs;unfold ins Srt;split
  .rename_i hx;rw [List.pairwise_cons,List.pairwise_cons];refine⟨?_,hs⟩;intro b hb;rcases List.mem_cons.1 hb with rfl|hb
   .exact h.ij _ _ hx
   .cases e:lt b x with
    |false=>rfl
    |true=>exact absurd (h.trans e hx) (by simp [hs.1 b hb])
  .rename_i hx;rw [List.pairwise_cons];refine⟨?_,nP h x l hs.2⟩;intro b hb;rcases nN.1 hb with rfl|hb
   .simpa using hx
   .exact hs.1 b hb
theorem RQ{x:α}{s2:List α}(h2:∀b∈s2,lt x b=true):∀{s1:List α},(∀a∈s1,lt x a=false)->ins lt x (s1++s2)=s1++x::s2
 | [],_=>by
  cases s2 with
  |nil=>rfl
  |cons b s=>unfold ins;rw [List.nil_append];simp [h2 b List.mem_cons_self]
 |a::s1,h1=>by
  rw [List.cons_append];unfold ins;rw [h1 a List.mem_cons_self,if_neg (by simp),RQ h2 fun c hc=>h1 c (List.mem_cons_of_mem _ hc)];rfl
theorem RP{γ:Type}(h:Swo lt){G:(List α×Int->Option γ)->List α×Int->Option γ}{E:List α->Option γ}{x:α}{r:List α}{M:Nat}
 (g1:∀L t z w,t.length<M->lt x z=true->G L (t++z::x::w,((t.length+1:Nat):Int))=L (t++x::z::w,(t.length:Int)))
 (g2:∀L t z w,t.length<M->lt x z=false->G L (t++z::x::w,((t.length+1:Nat):Int))=E (t++z::x::w)) (g3:∀L w,G L (x::w,0)=E (x::w)) :
 ∀(k N:Nat) (s1 s2:List α),s1.length=k->k<=M->k<N->(∀b∈s2,lt x b=true)->Srt lt s1->AR G N (s1++x::(s2++r),(k:Int))=E (ins lt x (s1++s2)++r)
 |k,0,s1,s2,hk,hM,hN,h2,hs=>by omega
 |0,N+1,s1,s2,hk,hM,hN,h2,hs=>by
  obtain rfl:=List.eq_nil_of_length_eq_zero hk;rw [Bd,List.nil_append,RQ (s1:=[]) h2 (by simp)];exact g3 _ _
 |k+1,N+1,s1,s2,hk,hM,hN,h2,hs=>by
  rcases List.eq_nil_or_concat s1 with rfl|⟨t,z,rfl⟩
  .simp at hk
  simp only [List.concat_eq_append] at hk hs ⊢;have ht:t.length=k:=by simpa using hk
  have hp:Srt lt t/\∀a∈t,lt z a=false:=by
   unfold Srt at hs ⊢;rw [List.pairwise_append] at hs;exact⟨hs.1,fun a ha=>hs.2.2 a ha z (by simp)⟩
  rw [Bd];subst ht;cases hx:lt x z with
  |true=>
   have e:t++[z]++x::(s2++r)=t++z::x::(s2++r):=by simp
   rw [e,g1 _ _ _ _ (by omega) hx];have:=RP (r:=r) h g1 g2 g3 t.length N t (z::s2) rfl (by omega) (by omega) (by simpa [hx] using h2) hp.1;rw [List.cons_append] at this;rw [this];simp
  |false=>
   have e:t++[z]++x::(s2++r)=t++z::x::(s2++r):=by simp
   rw [e,g2 _ _ _ _ (by omega) hx,RQ h2 ?_]
   .simp
   .intro a ha;rw [List.mem_append] at ha;rcases ha with ha|ha
    .cases e:lt x a with
     |false=>rfl
     |true=>
      rcases h.neg x z a e with h3|h3
      .rw [hx] at h3;cases h3
      .rw [hp.2 a ha] at h3;cases h3
    .rw [List.mem_singleton] at ha;subst ha;exact hx
theorem YZ(h:Swo lt){F:(List α×Int->Option (List α))->List α×Int->Option (List α)}{v0:List α}(hn:v0.length<2 ^ 62)
 (step:∀L s x r,s.length+1+r.length=v0.length->0<s.length->Srt lt s->F L (s++x::r,(s.length:Int))=L (ins lt x s++r,((s.length+1:Nat):Int)))
 (stop:∀L v (i:Nat),v0.length<=i->F L (v,(i:Int))=some v):AR F big (v0,1)=some (BH lt v0):=by
 cases v0 with
 |nil=>
  have:=Kk 0 (by omega);obtain⟨n,hb⟩:=this;rw [hb,Nat.add_zero,Bd];exact stop _ _ 1 (by simp)
 |cons a l=>
  have:=Bz (F:=F) (n:=l.length) (fun i (v:List α×List α)=>(v.1++v.2,((i+1:Nat):Int))) (fun i v=>v.1.length=i+1/\v.2.length+i=l.length/\Srt lt v.1) (fun i v=>some (v.2.foldl (fun s x=>ins lt x s) v.1)) (by simp at hn;omega) ?_ (v:=([a],l)) ⟨rfl,rfl,by simp [Srt]⟩
  .rw [<-Ya h];exact this
  .rintro L i ⟨s,r⟩ ⟨h1,h2,h3⟩ hi ih;dsimp only at h1 h2 h3 ih ⊢;cases r with
   |nil=>
    rw [stop _ _ _ (by simp at h2 ⊢;omega)];simp
   |cons x r=>
    have hl:s.length+1+r.length=(a::l).length:=by simp at h2 ⊢;omega
    rw [<-h1,step L s x r hl (by omega) h3,List.foldl_cons];have:=ih (ins lt x s,r) ⟨by dsimp only;rw [nM,h1],by dsimp only;simp at h2 ⊢;omega,nP h x s h3⟩ (by simp at h2;omega);rw [<-this,h1]
theorem Wt{γ:Type}{F:(Int->Option γ)->Int->Option γ}{l:List α}{x:α}(J:List α->Option γ)(hl:l.length<2 ^ 62)
 (step:∀L (i:Nat) (h:i<l.length),F L (i:Int)=br (lt l[i] x) (L (w64 ((i:Int)+1))) (J (l.take i++x::l.drop i)))
 (stop:∀L,F L (l.length:Int)=J (l++[x])):AR F big 0=J (put lt x l):=by
 refine(Bz (n:=l.length) (fun i (_:Unit)=>(i:Int)) (fun _ _=>True) (fun i _=>J (l.take i++put lt x (l.drop i))) (by omega) ?_ (v:=()) trivial).trans (by simp);intro L i _ _ hi ih;rcases Nat.lt_or_ge i l.length with h|h
 .rw [step L i h,Av h (by omega),CH h,put];cases e:lt l[i] x with
  |true=>
   have e2:l.take (i+1)=l.take i++[l[i]]:=by rw [List.take_add_one,List.getElem?_eq_getElem h];rfl
   rw [Af,ih () trivial h,e2,List.append_assoc];rfl
  |false=>rfl
 .obtain rfl:i=l.length:=by omega
  rw [stop];simp [put]
end
theorem Om{α:Type}(t w:List α)(z:α):at? (t++z::w) (t.length:Int)=some z:=by rw [DN];simp
theorem On{α:Type}(t w:List α)(z x:α):at? (t++z::x::w) ((t.length+1:Nat):Int)=some x:=by rw [DN];simp
theorem iA{α:Type}(t w:List α)(z a:α):(t++z::w).set t.length a=t++a::w:=by simp
theorem iB{α:Type}(t w:List α)(z x a:α):(t++z::x::w).set (t.length+1) a=t++z::a::w:=by
 rw [List.set_append_right _ _ (by omega),show t.length+1-t.length=1 by omega];rfl
theorem EM(n:Nat)(h:0<n)(hn:n<2 ^ 63):w64 ((n:Int)-1)=((n-1:Nat):Int):=by rw [AM (by omega) (by omega)];omega
theorem ZN(a b:Int):TX a b=some (if a<b then -1 else if a>b then 1 else 0):=by
 unfold TX lQ;have hne:∀(b:Int),(b != b)=false:=by simp
 simp only [AA,hne,Ag,AT];split
 .rfl
 .split <;> rfl
def ltE(a b:AD):Bool:=decide (a.Level<b.Level)||((a.Level==b.Level)&&decide (a.Ai<b.Ai))
theorem QO{a b:AD}:ltE a b=true↔a.Level<b.Level\/a.Level=b.Level/\a.Ai<b.Ai:=by simp [ltE]
theorem sB{a b:AD}:ltE a b=false↔¬(a.Level<b.Level\/a.Level=b.Level/\a.Ai<b.Ai):=by rw [<-QO];simp
def ltP(a b:AK):Bool:=decide (a.At<b.At)||((a.At==b.At)&&decide (a.Id<b.Id))
theorem KB{a b:AK}:ltP a b=true↔a.At<b.At\/a.At=b.At/\a.Id<b.Id:=by simp [ltP]
theorem Vb{a b:AK}:ltP a b=false↔¬(a.At<b.At\/a.At=b.At/\a.Id<b.Id):=by rw [<-KB];simp
theorem nS:Swo ltE:=⟨fun a b h=>by rw [QO] at h;rw [sB];omega,fun a b c h=>by rw [QO] at *;rw [QO];omega⟩
theorem Cx:Swo ltP:=⟨fun a b h=>by rw [KB] at h;rw [Vb];omega,fun a b c h=>by rw [KB] at *;rw [KB];omega⟩
theorem nT(a b:AK)(h1:ltP a b=false)(h2:ltP b a=false):a=b:=by
 rw [Vb] at h1 h2;obtain⟨x,y⟩:=a;obtain⟨z,w⟩:=b;dsimp only at h1 h2;have:x=z:=by omega
 have:y=w:=by omega
 subst x y;rfl
theorem Lo(a b:AD):rF a b=some (ltE a b):=by
 unfold rF Si ltE;simp only [AE,BK,ka]
theorem SO(a b:AK):rI a b=some (ltP a b):=by
 unfold rI Sj ltP;simp only [AE,BK,ka]
theorem Ff(a b:AD):∃c,R3 a b=some c/\decide (c<0)=ltE a b:=by
 unfold R3;rw [ZN,AA,Fz,ZN,AA];refine⟨if a.Level<b.Level then -1 else if a.Level>b.Level then 1 else if a.Ai<b.Ai then -1 else if a.Ai>b.Ai then 1 else 0,?_,?_⟩
 .split <;> split <;> simp_all
 .rw [Bool.eq_iff_iff,decide_eq_true_iff,QO]
  repeat' split
  all_goals omega
theorem VQ(a b:AD):lR a b=some (ltE a b):=by
 unfold lR;obtain⟨c,h1,h2⟩:=Ff a b;rw [h1,AA,h2]
theorem Eh(a b:AK):∃c,O8 a b=some c/\decide (c<0)=ltP a b/\decide (c>0)=ltP b a:=by
 unfold O8;rw [ZN,AA,Fz,ZN,AA];refine⟨if a.At<b.At then -1 else if a.At>b.At then 1 else if a.Id<b.Id then -1 else if a.Id>b.Id then 1 else 0,?_,?_,?_⟩
 .split <;> split <;> simp_all
 .rw [Bool.eq_iff_iff,decide_eq_true_iff,KB]
  repeat' split
  all_goals omega
 .rw [Bool.eq_iff_iff,decide_eq_true_iff,KB]
  repeat' split
  all_goals omega
theorem yX{l:List AD}(hl:l.length<2 ^ 62):Tf l 0 l.length=some (BH ltE l):=by
 unfold Tf;refine YZ nS hl ?_ ?_
 .intro L s x r hn hs hsrt;unfold PF;dsimp only;rw [AX (by omega),Af];have:=RP (G:=PG 0 L s.length) (E:=fun v=>L (v,((s.length+1:Nat):Int))) (x:=x) (r:=r) (M:=s.length) nS ?_ ?_ ?_ s.length big s [] rfl (by omega) (EN _ (by omega)) (by simp) hsrt
  .rw [List.nil_append,List.append_nil] at this;exact this
  all_goals unfold PG Kw PE
  .intro L' t z w ht hx;obtain⟨c,h1,h2⟩:=Ff x z;have e:=EM (t.length+1) (by omega) (by omega);have e0:((t.length+1:Nat):Int)>0:=by omega
   dsimp only;have h3:c<0:=by rw [hx,decide_eq_true_iff] at h2;exact h2
   simp only [AT,AE,e,Nat.add_sub_cancel,Om,On,AA,h1,iA,iB,Int.toNat_natCast,e0,h3,if_true]
  .intro L' t z w ht hx;obtain⟨c,h1,h2⟩:=Ff x z;have e:=EM (t.length+1) (by omega) (by omega);have e0:((t.length+1:Nat):Int)>0:=by omega
   have e1:=Av (i:=s.length) (n:=s.length+1) (by omega) (by omega);dsimp only;have h3:¬c<0:=by rw [hx,decide_eq_false_iff_not] at h2;exact h2
   simp only [AT,AE,e,Nat.add_sub_cancel,Om,On,AA,h1,e0,h3,if_true,if_false,e1]
  .intro L' w;have e1:=Av (i:=s.length) (n:=s.length+1) (by omega) (by omega);dsimp only;rw [AT,if_neg (by omega),AE,Ag,AE,e1]
 .intro L v i hi;unfold PF;dsimp only;rw [AT,if_neg (by omega)]
theorem vt{l:List AK}(hl:l.length<2 ^ 62):Rz l 0 l.length=some (BH ltP l):=by
 unfold Rz;refine YZ Cx hl ?_ ?_
 .intro L s x r hn hs hsrt;unfold O4;dsimp only;rw [AX (by omega),Af];have:=RP (G:=O5 0 L s.length) (E:=fun v=>L (v,((s.length+1:Nat):Int))) (x:=x) (r:=r) (M:=s.length) Cx ?_ ?_ ?_ s.length big s [] rfl (by omega) (EN _ (by omega)) (by simp) hsrt
  .rw [List.nil_append,List.append_nil] at this;exact this
  all_goals unfold O5 Kt O3
  .intro L' t z w ht hx;obtain⟨c,h1,h2,_⟩:=Eh x z;have e:=EM (t.length+1) (by omega) (by omega);have e0:((t.length+1:Nat):Int)>0:=by omega
   dsimp only;have h3:c<0:=by rw [hx,decide_eq_true_iff] at h2;exact h2
   simp only [AT,AE,e,Nat.add_sub_cancel,Om,On,AA,h1,iA,iB,Int.toNat_natCast,e0,h3,if_true]
  .intro L' t z w ht hx;obtain⟨c,h1,h2,_⟩:=Eh x z;have e:=EM (t.length+1) (by omega) (by omega);have e0:((t.length+1:Nat):Int)>0:=by omega
   have e1:=Av (i:=s.length) (n:=s.length+1) (by omega) (by omega);dsimp only;have h3:¬c<0:=by rw [hx,decide_eq_false_iff_not] at h2;exact h2
   simp only [AT,AE,e,Nat.add_sub_cancel,Om,On,AA,h1,e0,h3,if_true,if_false,e1]
  .intro L' w;have e1:=Av (i:=s.length) (n:=s.length+1) (by omega) (by omega);dsimp only;rw [AT,if_neg (by omega),AE,Ag,AE,e1]
 .intro L v i hi;unfold O4;dsimp only;rw [AT,if_neg (by omega)]
theorem vU{l:List AD}(hl:l.length<=19):Xz l=some (BH ltE l):=by
 unfold Xz lI;obtain⟨n,hb⟩:=Kk 0 (by omega);rw [Nat.add_zero] at hb;have e:AR (Kq (l.length:Int)) big (l,0,20)=some (BH ltE l):=by
  rw [hb,Bd];unfold Kq;dsimp only;rw [AT,if_neg (by omega),AE];unfold TN;dsimp only;rw [yX (by omega),AA,hb,Bd];unfold O0;dsimp only;rw [AT,if_neg (by omega)]
 rw [e,AA]
theorem vV{l:List AK}(hl:l.length<=19):X8 l=some (BH ltP l):=by
 unfold X8 lk;obtain⟨n,hb⟩:=Kk 0 (by omega);rw [Nat.add_zero] at hb;have e:AR (Kx (l.length:Int)) big (l,0,20)=some (BH ltP l):=by
  rw [hb,Bd];unfold Kx;dsimp only;rw [AT,if_neg (by omega),AE];unfold Tp;dsimp only;rw [vt (by omega),AA,hb,Bd];unfold PN;dsimp only;rw [AT,if_neg (by omega)]
 rw [e,AA]
set_option maxRecDepth 100000
theorem tx{n:Nat}(hn:n<256):∃c,lK (IntKind.u64.wrap (n:Int))=some c:=by
 have e:IntKind.u64.wrap (n:Int)=n:=by
  simp only [IntKind.wrap,IntKind.bits,IntKind.signed];simp;omega
 unfold lK qO;rw [e,AT,if_neg (by omega),AE];unfold TQ;dsimp only;rw [AT,if_neg (by omega),AE];unfold TR;dsimp only;rw [AT,if_neg (by omega),AE];unfold TS;dsimp only;rw [Ac (UInt8.toNat_lt (toB (n:Int))),AA,AA];exact⟨_,rfl⟩
theorem xg{l:List AK}(hl:l.length<=12):lL l=some (BH ltP l):=by
 unfold lL qP;obtain⟨c,hc⟩:=tx (n:=l.length) (by omega);rw [hc,AA];obtain⟨n,hb⟩:=Kk 0 (by omega);rw [Nat.add_zero] at hb;rw [hb,Bd];unfold cd;rw [AT,if_pos (by rw [AM (by omega) (by omega)];omega),vt (by omega),AA,AA]
end Lv.P
namespace Lv.P
open Go (IntKind BinOp UnOp)
section
variable{α σ γ:Type}
theorem K6{l:List α}{F:(σ×Int->Option γ)->σ×Int->Option γ}(f:σ->α->σ)(I:Nat->σ->Prop)(J:σ->Option γ)(hl:l.length<2 ^ 63)
 (step:∀L i (h:i<l.length) v,I i v->F L (v,(i:Int))=L (f v l[i],w64 ((i:Int)+1))) (CC:∀i (h:i<l.length) v,I i v->I (i+1) (f v l[i]))
 (stop:∀L v,I l.length v->F L (v,(l.length:Int))=J v) {v0:σ} (h0:I 0 v0):AR F big (v0,0)=J (l.foldl f v0):=by
 refine(Bz (n:=l.length) (fun i (v:σ)=>(v,(i:Int))) I (fun i v=>J ((l.drop i).foldl f v)) hl ?_ h0);intro L i v hv hi ih;rcases Nat.lt_or_ge i l.length with h|h
 .rw [step L i h v hv,Av h hl,CH h,List.foldl_cons];exact ih _ (CC i h v hv) h
 .obtain rfl:i=l.length:=by omega
  rw [stop L v hv,List.drop_length];rfl
def D6(eq:α->α->Bool):List α->List α->Bool
 | [],[]=>true
 |x::a,y::b=>eq x y&&D6 eq a b
 |_,_=>false
theorem Ma{eq:α->α->Bool}(he:∀x y,eq x y=true↔x=y):∀{a b:List α},D6 eq a b=true↔a=b
 | [],[]=>by simp [D6]
 | [],y::b=>by simp [D6]
 |x::a,[]=>by simp [D6]
 |x::a,y::b=>by rw [D6,Bool.and_eq_true,he,Ma he,List.cons.injEq]
theorem g0{eq:α->α->Bool}:∀{a b:List α},a.length≠b.length->D6 eq a b=false
 | [],[],h=>by simp at h
 | [],y::b,h=>rfl
 |x::a,[],h=>rfl
 |x::a,y::b,h=>by rw [D6,g0 (a:=a) (b:=b) (by simpa using h),Bool.and_false]
theorem sy{eq:α->α->Bool}{a b:List α}{F:(Int->Option Bool)->Int->Option Bool}(hl:a.length<2 ^ 63)(hab:a.length=b.length)
 (step:∀L i (h:i<a.length) (h':i<b.length),F L (i:Int)=br (!(eq a[i] b[i])) (some false) (L (w64 ((i:Int)+1)))) (stop:∀L,F L (a.length:Int)=some true):AR F big 0=some (D6 eq a b):=by
 refine(Bz (n:=a.length) (fun i (_:Unit)=>(i:Int)) (fun _ _=>True) (fun i _=>some (D6 eq (a.drop i) (b.drop i))) hl ?_ (v:=()) trivial);intro L i _ _ hi ih;rcases Nat.lt_or_ge i a.length with h|h
 .rw [step L i h (by omega),Av h hl,CH h,CH (l:=b) (i:=i) (by omega),D6,Ae];cases eq a[i] b[i] with
  |true=>rw [Af,ih () trivial h];rfl
  |false=>rfl
 .obtain rfl:i=a.length:=by omega
  rw [stop,List.drop_length,List.drop_eq_nil_of_le (by omega)];rfl
theorem Rp{eq:α->α->Bool}{a b:List α}{F:(Int->Option Bool)->Int->Option Bool}(hl:a.length<2 ^ 63)
 (step:∀L i (h:i<a.length) (h':i<b.length),F L (i:Int)=br (!(eq a[i] b[i])) (some false) (L (w64 ((i:Int)+1)))) (stop:∀L,F L (a.length:Int)=some true) :
 br ((a.length:Int) != (b.length:Int)) (some false) (AR F big 0)=some (D6 eq a b):=by
 by_cases h:a.length=b.length
 .have e:((a.length:Int) != (b.length:Int))=false:=by simp [h]
  rw [e,Ag,sy hl h step stop]
 .have e:((a.length:Int) != (b.length:Int))=true:=by simp;omega
  rw [e,Af,g0 h]
def atF(p:α->Bool):List α->Nat->Int
 | [],_=>-1
 |x::l,i=>if p x=true then (i:Int) else atF p l (i+1)
theorem ik{p:α->Bool}{l:List α}{F:(Int->Option Int)->Int->Option Int}(hl:l.length<2 ^ 63)
 (step:∀L i (h:i<l.length),F L (i:Int)=br (p l[i]) (some (i:Int)) (L (w64 ((i:Int)+1)))) (stop:∀L,F L (l.length:Int)=some (-1)):AR F big 0=some (atF p l 0):=by
 refine(Bz (n:=l.length) (fun i (_:Unit)=>(i:Int)) (fun _ _=>True) (fun i _=>some (atF p (l.drop i) i)) hl ?_ (v:=()) trivial);intro L i _ _ hi ih;rcases Nat.lt_or_ge i l.length with h|h
 .rw [step L i h,Av h hl,CH h,atF];cases p l[i] with
  |true=>rfl
  |false=>rw [Ag,ih () trivial h];simp
 .obtain rfl:i=l.length:=by omega
  rw [stop,List.drop_length];rfl
theorem cF{p:α->Bool}:∀{l:List α} {s:Nat},atF p l s<0↔∀x∈l,p x=false
 | [],s=>by simp [atF]
 |x::l,s=>by
  unfold atF;split
  .rename_i h;simp [h]
  .rename_i h;rw [cF];simp [h]
theorem cG{p:α->Bool}:∀{l:List α} {i:Nat} (s:Nat) (h:i<l.length),p l[i]=true->((atF p l s != ((s+i:Nat):Int))=decide (atF p (l.take i) s>=0))
 | [],i,s,h,hp=>by simp at h
 |x::l,0,s,h,hp=>by
  simp only [List.getElem_cons_zero] at hp;simp [atF,hp]
 |x::l,i+1,s,h,hp=>by
  simp only [List.getElem_cons_succ] at hp;rw [List.take_succ_cons,atF,atF];by_cases hx:p x=true
  .rw [if_pos hx,if_pos hx];rw [Bool.eq_iff_iff];simp;omega
  .rw [if_neg hx,if_neg hx];have:=cG (l:=l) (i:=i) (s+1) (by simpa using h) hp;rw [<-this,show s+1+i=s+(i+1) by omega]
end
def IC(cabin:Int)(n:Int)(p:AG):Int:=if (p.A4==cabin)=true then n+1 else n
def EU(l:List AG)(cabin:Int):Int:=l.foldl (IC cabin) 0
def SA(cabin:Int)(n:Int)(p:AG):Int:=if ((p.State==2)&&((p.A4==cabin)&&inB p.Aq 1 6))=true then n+p.Aq else n
def QD(l:List AG)(cabin:Int):Int:=l.foldl (SA cabin) 0
def SQ(cabin:Int)(n:Int)(p:AG):Int:=if ((p.CR==cabin)&&inB p.Aq 1 6)=true then n+p.Aq else n
def Y1(l:List AG)(cabin:Int):Int:=l.foldl (SQ cabin) 0
theorem Xu(cabin:Int)(p:AG){i:Nat}{n:Int}(h:0<=n/\n<=i):0<=IC cabin n p/\IC cabin n p<=((i+1:Nat):Int):=by unfold IC;split <;> omega
theorem QC(cabin:Int)(p:AG){i:Nat}{n:Int}(h:0<=n/\n<=6*i):0<=SA cabin n p/\SA cabin n p<=6*((i+1:Nat):Int):=by
 unfold SA;split
 .rename_i g;simp only [Bool.and_eq_true,CL] at g;omega
 .omega
theorem Qm(cabin:Int)(p:AG){i:Nat}{n:Int}(h:0<=n/\n<=6*i):0<=SQ cabin n p/\SQ cabin n p<=6*((i+1:Nat):Int):=by
 unfold SQ;split
 .rename_i g;simp only [Bool.and_eq_true,CL] at g;omega
 .omega
theorem bU{l:List AG}(hl:l.length<2 ^ 58)(c:Int):uJ l c=some (EU l c):=by
 unfold uJ;refine K6 (l:=l) (IC c) (fun i n=>0<=n/\n<=i) some (by omega) ?_ (fun i h v hv=>Xu c _ hv) ?_ (by simp)
 .intro L i h v hv;unfold Zc Zb IC;dsimp only;rw [AX h,Af,Ac h,AA,AE,AE,AM (n:=v+1) (by omega) (by omega),Fz];split <;> rfl
 .intro L v hv;unfold Zc lG;dsimp only;rw [AY,Ag,AE]
theorem Z8{l:List AG}(hl:l.length<2 ^ 58)(c:Int):lO l c=some (EU l c):=by
 unfold lO;refine K6 (l:=l) (IC c) (fun i n=>0<=n/\n<=i) some (by omega) ?_ (fun i h v hv=>Xu c _ hv) ?_ (by simp)
 .intro L i h v hv;unfold TW TV IC;dsimp only;rw [AX h,Af,Ac h,AA,AE,AE,AM (n:=v+1) (by omega) (by omega),Fz];split <;> rfl
 .intro L v hv;unfold TW ck;dsimp only;rw [AY,Ag,AE]
theorem SL{l:List AG}(hl:l.length<2 ^ 58)(c:Int):qJ l c=some (QD l c):=by
 unfold qJ;refine K6 (l:=l) (SA c) (fun i n=>0<=n/\n<=6*i) some (by omega) ?_ (fun i h v hv=>QC c _ hv) ?_ (by simp)
 .intro L i h v hv;have hk:=QC c l[i] hv;unfold SA at hk ⊢;unfold ZX Sd ZW;dsimp only;rw [AX h,Af];simp only [Ac h,AA,AE,FV,Ag];cases h1:l[i].State==2 <;> cases h2:l[i].A4==c <;> cases h3:inB l[i].Aq 1 6 <;> simp only [Af,Ag,Bool.true_and,Bool.false_and,if_true,Bool.false_eq_true,if_false];rw [h1,h2,h3] at hk;simp only [Bool.true_and,if_true] at hk;rw [AM (n:=v+l[i].Aq) (by omega) (by omega)]
 .intro L v hv;unfold ZX lE;dsimp only;rw [AY,Ag,AE]
theorem SB{l:List AG}(hl:l.length<2 ^ 58)(c:Int):Ts l c=some (QD l c):=by
 unfold Ts;refine K6 (l:=l) (SA c) (fun i n=>0<=n/\n<=6*i) some (by omega) ?_ (fun i h v hv=>QC c _ hv) ?_ (by simp)
 .intro L i h v hv;have hk:=QC c l[i] hv;unfold SA at hk ⊢;unfold Tv PR Tt;dsimp only;rw [AX h,Af];simp only [Ac h,AA,AE,Em,Ag];cases h1:l[i].State==2 <;> cases h2:l[i].A4==c <;> cases h3:inB l[i].Aq 1 6 <;> simp only [Af,Ag,Bool.true_and,Bool.false_and,if_true,Bool.false_eq_true,if_false];rw [h1,h2,h3] at hk;simp only [Bool.true_and,if_true] at hk;rw [AM (n:=v+l[i].Aq) (by omega) (by omega)]
 .intro L v hv;unfold Tv da;dsimp only;rw [AY,Ag,AE]
theorem SN{l:List AG}(hl:l.length<2 ^ 58)(c:Int):oM l c=some (Y1 l c):=by
 unfold oM;refine K6 (l:=l) (SQ c) (fun i n=>0<=n/\n<=6*i) some (by omega) ?_ (fun i h v hv=>Qm c _ hv) ?_ (by simp)
 .intro L i h v hv;have hk:=Qm c l[i] hv;unfold SQ at hk ⊢;unfold Za ZY ZZ;dsimp only;rw [AX h,Af];simp only [Ac h,AA,AE,FV,Ag];cases h2:l[i].CR==c <;> cases h3:inB l[i].Aq 1 6 <;> simp only [Af,Ag,Bool.true_and,Bool.false_and,if_true,Bool.false_eq_true,if_false];rw [h2,h3] at hk;simp only [Bool.true_and,if_true] at hk;rw [AM (n:=v+l[i].Aq) (by omega) (by omega)]
 .intro L v hv;unfold Za lF;dsimp only;rw [AY,Ag,AE]
theorem SD{l:List AG}(hl:l.length<2 ^ 58)(c:Int):R4 l c=some (Y1 l c):=by
 unfold R4;refine K6 (l:=l) (SQ c) (fun i n=>0<=n/\n<=6*i) some (by omega) ?_ (fun i h v hv=>Qm c _ hv) ?_ (by simp)
 .intro L i h v hv;have hk:=Qm c l[i] hv;unfold SQ at hk ⊢;unfold Ty Tw Tx;dsimp only;rw [AX h,Af];simp only [Ac h,AA,AE,Em,Ag];cases h2:l[i].CR==c <;> cases h3:inB l[i].Aq 1 6 <;> simp only [Af,Ag,Bool.true_and,Bool.false_and,if_true,Bool.false_eq_true,if_false];rw [h2,h3] at hk;simp only [Bool.true_and,if_true] at hk;rw [AM (n:=v+l[i].Aq) (by omega) (by omega)]
 .intro L v hv;unfold Ty db;dsimp only;rw [AY,Ag,AE]
def eqE(x y:AD):Bool:=x.Level==y.Level&&(x.Ai==y.Ai&&(x.Id==y.Id&&(x.Aq==y.Aq&&true)))
theorem uZ(x y:AD):eqE x y=true↔x=y:=by
 obtain⟨a,b,c,d⟩:=x;obtain⟨e,f,g,h⟩:=y;simp [eqE]
def eqP(x y:AK):Bool:=x.At==y.At&&(x.Id==y.Id&&true)
theorem ua(x y:AK):eqP x y=true↔x=y:=by
 obtain⟨a,b⟩:=x;obtain⟨c,d⟩:=y;simp [eqP]
theorem ba{a b:List AD}(hl:a.length<2 ^ 62):uF a b=some (D6 eqE a b):=by
 unfold uF;refine Rp (by omega) ?_ ?_
 .intro L i h h';unfold ZO;rw [AX h,Af,Ac h,AA,Ac h',AA];rfl
 .intro L;unfold ZO lA;rw [AY,Ag,AE]
theorem fv{a b:List AD}(hl:a.length<2 ^ 62):lJ a b=some (D6 eqE a b):=by
 unfold lJ;refine Rp (by omega) ?_ ?_
 .intro L i h h';unfold TP;rw [AX h,Af,Ac h,AA,Ac h',AA];rfl
 .intro L;unfold TP cZ;rw [AY,Ag,AE]
theorem Xc{a b:List AK}(hl:a.length<2 ^ 62):uH a b=some (D6 eqP a b):=by
 unfold uH;refine Rp (by omega) ?_ ?_
 .intro L i h h';unfold ZV;rw [AX h,Af,Ac h,AA,Ac h',AA];rfl
 .intro L;unfold ZV lD;rw [AY,Ag,AE]
theorem fx{a b:List AK}(hl:a.length<2 ^ 62):ll a b=some (D6 eqP a b):=by
 unfold ll;refine Rp (by omega) ?_ ?_
 .intro L i h h';unfold Tr;rw [AX h,Af,Ac h,AA,Ac h',AA];rfl
 .intro L;unfold Tr dZ;rw [AY,Ag,AE]
end Lv.P
namespace Lv.P
open Go (IntKind BinOp UnOp)
def EH{α:Type}(l:List α)(k:Nat)(p:α->Bool):Bool:=match l[k]? with|some x=>p x|none=>true
theorem Ay{α:Type}{l:List α}{k:Nat}(h:k<l.length)(p:α->Bool):EH l k p=p l[k]:=by unfold EH;rw [List.getElem?_eq_getElem h]
theorem MN(i:Nat):decide ((i:Int)>0)=decide (0<i):=by rw [decide_eq_decide];omega
theorem Er{α:Type}(l:List α)(x:α):l.length+[x].length=l.length+1:=rfl
theorem Qh{l:List AD}(hl:l.length<2 ^ 62)(id:Int):rG l id=some (atF (fun x=>x.Id==id) l 0):=by
 unfold rG;refine ik (by omega) ?_ ?_
 .intro L i h;unfold Zl;rw [AX h,Af,Ac h,AA]
 .intro L;unfold Zl my;rw [AY,Ag,AE]
theorem QG{l:List AD}(hl:l.length<2 ^ 62)(id:Int):cm l id=some (atF (fun x=>x.Id==id) l 0):=by
 unfold cm qR;rw [ik (l:=l) (p:=fun x=>x.Id==id) (by omega) ?_ ?_,AA]
 .intro L i h;unfold TY qQ;rw [AX h,Af,Ac h,AA,AA]
 .intro L;unfold TY cl;rw [AY,Ag,AE]
def oQ(e:AD):Bool:=inB e.Level 0 4&&(inB e.Ai 1 1000000&&(inB e.Id 1 999&&inB e.Aq 1 6))
def qAt(l:List AD)(i:Nat):Bool:=
 EH l i fun e=>oQ e&&((if 0<i then EH l (i-1) (fun d=>ltE d e) else true)&&!(decide (atF (fun x=>x.Id==e.Id) (l.take i) 0>=0)))
def Ww(l:List AD):Bool:=!(decide ((l.length:Int)>10))&&Dm (qAt l) 0 l.length
theorem bY(l:List AD)(hl:l.length<2 ^ 62):uO l=some (Ww l):=by
 unfold uO Ww;rw [EP (n:=l.length) (E:=some true) (qAt l) (by omega) ?_ ?_,BK,Bool.and_true,EO]
 .intro L i h;have hw:=Av h (show l.length<2 ^ 63 by omega);unfold qAt;rw [Ay h];unfold Zm;rw [AX h,Af,Ac h,AA];have hj3:∀b,Pp L i b=br (!b) (L ((i+1:Nat):Int)) (some false):=by intro b;unfold Pp;rw [hw];cases b <;> rfl
  have hq:(atF (fun x=>x.Id==l[i].Id) l 0 != (i:Int))=decide (atF (fun x=>x.Id==l[i].Id) (l.take i) 0>=0):=by
   have:=cG (p:=fun x=>x.Id==l[i].Id) 0 h (by simp);rw [Nat.zero_add] at this;exact this
  have hj2:∀b,MM l L i l[i] b=br (!b&&((if 0<i then EH l (i-1) (fun d=>ltE d l[i]) else true)&&!(decide (atF (fun x=>x.Id==l[i].Id) (l.take i) 0>=0)))) (L ((i+1:Nat):Int)) (some false):=by
   intro b;unfold MM;rw [MN];by_cases h0:0<i
   .rw [decide_eq_true h0,Af,if_pos h0,EM i h0 (by omega),Ac (show i-1<l.length by omega),AA,Lo,AA,Ae,Qh hl,AA,AE,AE,hj3,hj3,hq,Ay (by omega)];cases b <;> cases ltE l[i-1] l[i] <;> rfl
   .rw [decide_eq_false h0,Ag,if_neg h0,Qh hl,AA,AE,hj3,hq];cases b <;> rfl
  unfold oQ;simp only [FV,AA,AE,Ae,hj2];generalize ((if 0<i then EH l (i-1) (fun d=>ltE d l[i]) else true)&&!(decide (atF (fun x=>x.Id==l[i].Id) (l.take i) 0>=0)))=X;cases inB l[i].Level 0 4 <;> cases inB l[i].Ai 1 1000000 <;> cases inB l[i].Id 1 999 <;> cases inB l[i].Aq 1 6 <;> rfl
 .intro L;unfold Zm mz;rw [AY,Ag,AE]
theorem aB(l:List AD)(hl:l.length<2 ^ 62):lS l=some (Ww l):=by
 unfold lS Ww;rw [EP (n:=l.length) (E:=some true) (qAt l) (by omega) ?_ ?_,BK,Bool.and_true,EO]
 .intro L i h;have hw:=Av h (show l.length<2 ^ 63 by omega);unfold qAt;rw [Ay h];unfold TZ;rw [AX h,Af,Ac h,AA];have hj3:∀b,Ie L i b=br (!b) (L ((i+1:Nat):Int)) (some false):=by intro b;unfold Ie;rw [hw];cases b <;> rfl
  have hj2:∀b,Ku L i l[i] b=br (!b&&oQ l[i]) (L ((i+1:Nat):Int)) (some false):=by
   intro b;unfold Ku oQ;have e4:w64 (5-1)=4:=by rw [AM] <;> omega
   simp only [Em,gF,AA,AE,Ae,hj3,e4];cases b <;> cases inB l[i].Level 0 4 <;> cases inB l[i].Ai 1 1000000 <;> cases inB l[i].Id 1 999 <;> cases inB l[i].Aq 1 6 <;> rfl
  have hg:(0:Int)<=(i:Int)/\(i:Int)<=(l.length:Int):=by omega
  rw [MN];by_cases h0:0<i
  .rw [decide_eq_true h0,Af,if_pos h0,EM i h0 (by omega),Ac (show i-1<l.length by omega),AA,VQ,AA,Ae,BE hg,Int.toNat_natCast,QG (by rw [List.length_take];omega),AA,AE,AE,hj2,hj2,Ay (by omega)];cases oQ l[i] <;> cases ltE l[i-1] l[i] <;> cases decide (atF (fun x=>x.Id==l[i].Id) (l.take i) 0>=0) <;> rfl
  .rw [decide_eq_false h0,Ag,if_neg h0,BE hg,Int.toNat_natCast,QG (by rw [List.length_take];omega),AA,AE,hj2];cases oQ l[i] <;> cases decide (atF (fun x=>x.Id==l[i].Id) (l.take i) 0>=0) <;> rfl
 .intro L;unfold TZ cq;rw [AY,Ag,AE]
theorem iM{l:List AD}(hl:l.length<=lim):rK l=some l:=by
 unfold rK;rw [BE (by omega),List.nil_append]
theorem kO{l:List AD}(hl:l.length+1<=lim)(e:AD):rL l e=some (put ltE e l):=by
 have h3:∀i:Nat,i<=l.length->Zs l e i=some (l.take i++e::l.drop i):=by
  intro i hi;have h2:(l.take i).length<=l.length:=by rw [List.length_take];omega
  have h5:(l.take i).length+[e].length<=lim:=by rw [Er];omega
  unfold Zs;rw [BE (by omega),Int.toNat_natCast,iM (by omega),AA,BE h5,AA,BE h5,B0,BE (by omega),BE (by simp;omega)];simp
 have hlim:lim=268435456:=rfl;unfold rL;refine Wt some (by omega) ?_ ?_
 .intro L i h;unfold Zt Sp;rw [AX h,Af,Ac h,AA,Lo,AA,AE,AE,h3 i (by omega)]
 .intro L;unfold Zt Sp;rw [AY,Ag,AE,Ag,AE,h3 _ (Nat.le_refl _)];simp
theorem Oa{l:List AK}(hl:l.length+1<=lim)(e:AK):oL l e=some (put ltP e l):=by
 have h3:∀i:Nat,i<=l.length->ZP l e i=some (l.take i++e::l.drop i):=by
  intro i hi;have h2:(l.take i).length<=l.length:=by rw [List.length_take];omega
  unfold ZP;rw [BE (by omega),Int.toNat_natCast,BE (by omega),List.nil_append,BE (by rw [Er];omega),BE (by omega),BE (by simp;omega)];simp
 have hlim:lim=268435456:=rfl;unfold oL;refine Wt some (by omega) ?_ ?_
 .intro L i h;unfold ZQ Sb;rw [AX h,Af,Ac h,AA,SO,AA,AE,AE,h3 i (by omega)]
 .intro L;unfold ZQ Sb;rw [AY,Ag,AE,Ag,AE,h3 _ (Nat.le_refl _)];simp
def OX(r:AQ)(cabin now:Int)(p:AG):Option AD:=if ((Dr r p now).2&&(p.A4==cabin))=true then some (Dr r p now).1 else none
def IK(r:AQ)(l:List AG)(cabin now:Int):List AD:=BH ltE (l.filterMap (OX r cabin now))
theorem Qi{r:AQ}(hr:r.AN.length<2 ^ 62){l:List AG}(hl:l.length<=1048576)(c now:Int):rM r l c now=some (IK r l c now):=by
 have hlim:lim=268435456:=rfl;have e0:w64 ((l.length:Int)-1)=(l.length:Int)-1-((0:Nat):Int):=by rw [AM (by omega) (by omega)];omega
 unfold rM IK;rw [e0];refine(Bz (n:=l.length) (fun i (v:List AD)=>(v,(l.length:Int)-1-(i:Int))) (fun i v=>v.length<=i) (fun i v=>some ((((l.take (l.length-i)).filterMap (OX r c now)).foldr (put ltE) v))) (by omega) ?_ (v:=[]) (by simp)).trans (by rw [Nat.sub_zero,List.take_length];rfl);intro L i v hv hi ih;unfold m6 Zu Zv;dsimp only;rcases Nat.lt_or_ge i l.length with h|h
 .obtain⟨k,hk⟩:∃k,l.length=i+(k+1):=⟨l.length-i-1,by omega⟩;have e1:(l.length:Int)-1-(i:Int)=(k:Int):=by omega
  have hkl:k<l.length:=by omega
  have e2:w64 ((k:Int)-1)=(l.length:Int)-1-((i+1:Nat):Int):=by rw [AM (by omega) (by omega)];omega
  have e3:l.take (l.length-i)=l.take (l.length-(i+1))++[l[k]]:=by
   rw [show l.length-i=k+1 by omega,show l.length-(i+1)=k by omega,List.take_add_one,List.getElem?_eq_getElem hkl];rfl
  rw [e1,AT,if_pos (by omega)];simp only [Ac hkl,AA,bV hr,B0,bu,AE,Ag];have key:(br (Dr r l[k] now).2 (br (l[k].A4==c) (bd (rL v (Dr r l[k] now).1) fun x9=>L (x9,w64 ((k:Int)-1))) (L (v,w64 ((k:Int)-1)))) (L (v,w64 ((k:Int)-1))))=some ((((l.take (l.length-i)).filterMap (OX r c now)).foldr (put ltE) v)):=by
   rw [e2,kO (by omega),AA,e3,List.filterMap_append,List.foldr_append];have eq1:([l[k]].filterMap (OX r c now)).foldr (put ltE) v=if ((Dr r l[k] now).2&&(l[k].A4==c))=true then put ltE (Dr r l[k] now).1 v else v:=by
    rw [List.filterMap_cons];unfold OX;by_cases hc:((Dr r l[k] now).2&&(l[k].A4==c))=true
    .rw [if_pos hc,if_pos hc];rfl
    .rw [if_neg hc,if_neg hc];rfl
   rw [eq1];cases h1:(Dr r l[k] now).2 <;> cases h2:l[k].A4==c <;> simp only [Af,Ag,Bool.and_true,Bool.and_false,if_true,Bool.false_eq_true,if_false]
   .exact ih v (by omega) h
   .exact ih v (by omega) h
   .exact ih v (by omega) h
   .exact ih _ (by rw [Dg];omega) h
  exact key
 .obtain rfl:i=l.length:=by omega
  unfold m5;rw [AT,if_neg (by omega),AE,Nat.sub_self];rfl
theorem XQ{α β:Type}(f:α->Option β){l:List α}{i:Nat}(h:i<l.length):(l.take (i+1)).filterMap f=(l.take i).filterMap f++(f l[i]).toList:=by
 rw [List.take_add_one,List.getElem?_eq_getElem h,List.filterMap_append];congr 1
theorem XR{α β:Type}(f:α->Option β)(l:List α)(i:Nat):((l.take i).filterMap f).length<=i:=Nat.le_trans (List.length_filterMap_le _ _) (by rw [List.length_take];omega)
theorem collect{α β γ:Type}{l:List α}(f:α->Option β){F:(List β×Int->Option γ)->List β×Int->Option γ}(J:List β->Option γ)(hl:l.length<=1048576)
 (step:∀L i (h:i<l.length) v,v.length<=i->F L (v,(i:Int))=L (v++(f l[i]).toList,w64 ((i:Int)+1))) (stop:∀L v,F L (v,(l.length:Int))=J v):AR F big ([],0)=J (l.filterMap f):=by
 refine(Bz (n:=l.length) (fun i (v:List β)=>(v,(i:Int))) (fun i v=>v=(l.take i).filterMap f) (fun i v=>J (l.filterMap f)) (by omega) ?_ (by simp));intro L i v hv hi ih;rcases Nat.lt_or_ge i l.length with h|h
 .rw [step L i h v (by rw [hv];exact XR _ _ _),Av h (by omega)];exact ih _ (by rw [hv,XQ f h]) h
 .obtain rfl:i=l.length:=by omega
  rw [stop,hv,List.take_length]
theorem Xv(c:Int):∀(l:List AG) (n:Int),l.foldl (IC c) n=n+(l.countP fun p=>p.A4==c)
 | [],n=>by simp
 |p::l,n=>by
  rw [List.foldl_cons,Xv c l,List.countP_cons];unfold IC;split <;> simp <;> omega
theorem nH{β:Type}(f:AG->Option β)(c:Int)(hf:∀p,(p.A4==c)=false->f p=none):∀l:List AG,((l.filterMap f).length:Int)<=EU l c:=by
 intro l;unfold EU;rw [Xv,Int.zero_add]
 induction l with
 |nil=>simp
 |cons p l ih=>
  rw [List.countP_cons,List.filterMap_cons];cases e:p.A4==c with
  |false=>rw [hf p e];simpa using ih
  |true=>cases f p <;> simp <;> omega
theorem QH{r:AQ}(hr:r.AN.length<2 ^ 62){l:List AG}(hl:l.length<=1048576){c:Int}(hc:EU l c<=19)(now:Int):TO r l c now=some (IK r l c now):=by
 have hlim:lim=268435456:=rfl;have hn:=nH (OX r c now) c (by intro p h;unfold OX;rw [h,Bool.and_false];rfl) l;unfold TO IK;rw [collect (l:=l) (OX r c now) Kr hl ?_ ?_]
 .unfold Kr;rw [vU (by omega),AA]
 .intro L i h v hv;unfold Ks O1 O2 OX;dsimp only;rw [AX h,Af,Ac h,AA,QF hr,AA,AE,AE,BE (by rw [Er];omega),AE,AE];cases h1:(Dr r l[i] now).2 <;> cases h2:l[i].A4==c <;> simp
 .intro L v;unfold Ks;dsimp only;rw [AY,Ag,AE]
def QX(cabin:Int)(p:AG):Option AK:=if ((p.State==2)&&(p.A4==cabin))=true then some ⟨p.BV,p.Id⟩ else none
def Lh(l:List AG)(cabin:Int):List AK:=BH ltP (l.filterMap (QX cabin))
theorem SM{l:List AG}(hl:l.length<=1048576)(c:Int):qI l c=some (Lh l c):=by
 have hlim:lim=268435456:=rfl;unfold qI Lh;rw [K6 (l:=l) (fun v p=>match QX c p with|some x=>put ltP x v|none=>v) (fun i v=>v.length<=i) some (by omega) ?_ ?_ ?_ (by simp),<-RT Cx nT]
 .congr 1;generalize ([]:List AK)=a;clear hl
  induction l generalizing a with
  |nil=>rfl
  |cons p l ih=>
   rw [List.foldl_cons,ih,List.filterMap_cons];cases QX c p <;> rfl
 .intro L i h v hv;unfold ZU ZS ZT QX;dsimp only;rw [AX h,Af];simp only [Ac h,AA,AE,Ag,Oa (show v.length+1<=lim by omega)];cases h1:l[i].State==2 <;> cases h2:l[i].A4==c <;> rfl
 .intro i h v hv;split
  .rw [Dg];omega
  .omega
 .intro L v hv;unfold ZU lC;dsimp only;rw [AY,Ag,AE]
theorem SC{l:List AG}(hl:l.length<=1048576){c:Int}(hc:EU l c<=19):Tq l c=some (Lh l c):=by
 have hlim:lim=268435456:=rfl;have hn:=nH (QX c) c (by intro p h;unfold QX;rw [h,Bool.and_false];rfl) l;unfold Tq Lh;rw [collect (l:=l) (QX c) Ky hl ?_ ?_]
 .unfold Ky;rw [vV (by omega),AA]
 .intro L i h v hv;unfold Kz PO PQ QX;dsimp only;rw [AX h,Af,Ac h,AA,AE,AE,BE (by rw [Er];omega),AE,AE];cases h1:l[i].State==2 <;> cases h2:l[i].A4==c <;> simp
 .intro L v;unfold Kz;dsimp only;rw [AY,Ag,AE]
end Lv.P
