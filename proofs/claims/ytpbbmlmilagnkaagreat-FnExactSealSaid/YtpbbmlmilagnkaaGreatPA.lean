/-
  Plain laws: events and loops.
-/
import Derived.Test.YtpbbmlmilagnkaaGreatTB
import Derived.Test.YtpbbmlmilagnkaaGreatKC
set_option linter.unusedVariables false
set_option linter.unusedSimpArgs false
set_option linter.unusedSectionVars false
open Bool renaming and_eq_true->AD,and_false->Ci,and_true->CD,false_and->BN,false_eq_true->A4,not_not->Cs,not_true->Bi,true_and->CE
open Int renaming toNat_natCast->AX
open List renaming append_nil->IZ,cons_append->IJ,drop_length->Dy,foldl_cons->BU,foldr_cons->Ia,getElem?_eq_getElem->AU,mem_cons->Ac,mem_cons_self->BG,nil_append->B6,pairwise_cons->BA,take_add_one->CP,take_of_length_le->B4
open List.cons renaming injEq->C1
open Nat renaming add_sub_cancel->CH,lt_or_ge->Aj,sub_self->DI
namespace Lv.P
open Go (IntKind BinOp UnOp)
theorem ARZ{n:Int}(h1:-9223372036854775808<=n)(h2:n<9223372036854775808):IntKind.i64.wrap n=n:=by
 simp only[IntKind.wrap,IntKind.bits,IntKind.signed];simp;omega
theorem BP{n:Int}(h1:-9223372036854775808<=n)(h2:n<9223372036854775808):w64 n=n:=ARZ h1 h2
theorem APs{n:Int}(h1:0<=n)(h2:n<256):IntKind.u8.wrap n=n:=by
 simp only[IntKind.wrap,IntKind.bits,IntKind.signed];simp;omega
theorem AGq{n:Nat}(h:n<256):toB (n:Int)=UInt8.ofNat n:=by
 unfold toB;rw[APs (by omega) (by omega)];rfl
@[simp] theorem H0{α:Type}(l:List α)(i:Nat):at? l (i:Int)=l[i]?:=by simp[at?]
@[simp] theorem rP{α:Type}(l:List α):at? l 0=l[0]?:=by simp[at?]
theorem SY(k:Nat)(h:k<2 ^ 64):k<big:=by have:=AJ7;omega
theorem SZ(k:Nat)(h:k<2 ^ 64):∃n,big=n+1+k:=⟨big-1-k,by have:=AJ7;omega⟩
section
variable{σ γ:Type}
theorem xd{F:(σ->AA γ)->σ->AA γ}(R:σ->AA γ)(I:σ->Prop)(μ:σ->Nat)
 (step:∀(L:σ->AA γ) x,I x->(∀y,I y->μ y<μ x->L y=R y)->F L x=R x):∀n x,I x->μ x<n->Aw F n x=R x
 |0,x,_,h=>by omega|n+1,x,hI,hn=>by
  rw[HN];exact step _ x hI fun y hy hm=>xd R I μ step n y hy (by omega)
theorem WS{F:(σ->AA γ)->σ->AA γ}(R:σ->AA γ)(I:σ->Prop)(μ:σ->Nat)
 (step:∀(L:σ->AA γ) x,I x->(∀y,I y->μ y<μ x->L y=R y)->F L x=R x) {x:σ} (hI:I x) (hm:μ x<2 ^ 64):Aw F big x=R x:=
 xd R I μ step big x hI (SY _ hm)
end
section
variable{α γ:Type}
@[simp] theorem BW(x y:AA γ):br true x y=x:=rfl
@[simp] theorem BV(x y:AA γ):br false x y=y:=rfl
@[simp] theorem Bl(p:Prop) [Decidable p] (x y:AA γ):br (decide p) x y=if p then x else y:=by unfold br;by_cases h:p<;>simp[h]
@[simp] theorem BI(b:Bool)(x y:AA γ):br (!b) x y=br b y x:=by cases b<;>rfl
@[simp] theorem AF(a:α)(f:α->AA γ):bd (some a) f=f a:=by rw[zC];rfl
@[simp] theorem AUc(f:α->AA γ):bd none f=none:=by rw[zC];rfl
@[simp] theorem AW(F:α->AA γ)(x:α):jn F x=F x:=ANR F x
theorem DB{p:Prop} [Decidable p] (h:p) (x:AA γ):gd p x=x:=by rw[ALW,if_pos h]
theorem B5(b:Bool)(x y:AA γ):br b x y=if b=true then x else y:=rfl
end
theorem C5{τ σ γ:Type}{F:(τ->AA γ)->τ->AA γ}(st:Nat->σ->τ)(I:Nat->σ->Prop)(R:Nat->σ->AA γ){n:Nat}(hn:n<2 ^ 63)
 (step:∀L i v,I i v->i<=n->(∀v',I (i+1) v'->i<n->L (st (i+1) v')=R (i+1) v')->F L (st i v)=R i v) {v:σ} (h0:I 0 v):Aw F big (st 0 v)=R 0 v:=by
 have key:∀(m i k:Nat) (v:σ),i+m=n->m<k->I i v->Aw F k (st i v)=R i v:=by
  intro m
  induction m with
  |zero=>
   intro i k v hi hk h;obtain⟨k,rfl⟩:∃j,k=j+1:=⟨k-1,by omega⟩;rw[HN];exact step _ i v h (by omega) fun v' _ h3=>by omega
  |succ m ih=>
   intro i k v hi hk h;obtain⟨k,rfl⟩:∃j,k=j+1:=⟨k-1,by omega⟩;rw[HN];exact step _ i v h (by omega) fun v' h2 h3=>ih (i+1) k v' (by omega) (by omega) h2
 exact key n 0 big v (by omega) (SY _ (by omega)) h0
theorem A5{α:Type}{l:List α}{i:Nat}(h:i<l.length):at? l (i:Int)=some l[i]:=by rw[H0,AU h]
theorem dec_lt{l:Nat}{i:Nat}:decide ((i:Int)<(l:Int))=decide (i<l):=by rw[decide_eq_decide];omega
theorem Bd{i n:Nat}(h:i<n)(hn:n<2 ^ 63):w64 ((i:Int)+1)=((i+1:Nat):Int):=by rw[BP (by omega) (by omega)];rfl
theorem JT{α:Type}{l:List α}{z:α}{F:(List α×Int->AA (List α))->List α×Int->AA (List α)}(hl:l.length<2 ^ 63)
 (step:∀L v (i:Nat),v.length=l.length->(hi:i<l.length)->F L (v,(i:Int))=L (v.set i l[i],((i+1:Nat):Int))) (stop:∀L v,F L (v,(l.length:Int))=some v) :
 Aw F big (List.replicate l.length z,0)=some l:=by
 have:=C5 (F:=F) (n:=l.length) (fun i v=>(v,(i:Int))) (fun i v=>v.length=l.length/\v.take i=l.take i) (fun _ _=>some l) hl ?_ (v:=List.replicate l.length z) ⟨by simp,by simp⟩
 .exact this
 .rintro L i v ⟨h1,h2⟩ hi ih;rcases Aj i l.length with h|h
  .rw[step L v i h1 h];refine ih _ ⟨by simpa using h1,?_⟩ h;rw[CP,CP,List.take_set_of_le (by omega),h2];simp[h,h1]
  .obtain rfl:i=l.length:=by omega
   rw[stop];rw[B4 (by omega),B4 (by omega)]at h2;rw[h2]
theorem AP0{n:Nat}{F:(Int->AA Bool)->Int->AA Bool}(hl:n<2 ^ 63)
 (step:∀L (i:Nat),i<n->F L (i:Int)=L ((i+1:Nat):Int)) (stop:∀L,F L (n:Int)=some true):Aw F big 0=some true:=by
 have:=C5 (F:=F) (n:=n) (fun i (_:Unit)=>(i:Int)) (fun _ _=>True) (fun _ _=>some true) hl ?_ (v:=()) trivial
 .exact this
 .intro L i v _ hi ih;rcases Aj i n with h|h
  .rw[step L i h];exact ih () trivial h
  .obtain rfl:i=n:=by omega
   exact stop L
theorem Ec{α:Type}{l:List α}{i:Nat}(h:i<l.length):l.drop i=l[i]::l.drop (i+1):=List.drop_eq_getElem_cons h
theorem AF5{τ σ γ:Type}{F:(τ->AA γ)->τ->AA γ}(st:Nat->σ->τ)(I:Nat->σ->Prop)(Q:γ->Prop){n:Nat}(hn:n<2 ^ 63)
 (step:∀L i v,I i v->i<=n->(∀v',I (i+1) v'->i<n->∃r,L (st (i+1) v')=some r/\Q r)->∃r,F L (st i v)=some r/\Q r) {v:σ} (h0:I 0 v):∃r,Aw F big (st 0 v)=some r/\Q r:=by
 have key:∀(m i k:Nat) (v:σ),i+m=n->m<k->I i v->∃r,Aw F k (st i v)=some r/\Q r:=by
  intro m
  induction m with
  |zero=>
   intro i k v hi hk h;obtain⟨k,rfl⟩:∃j,k=j+1:=⟨k-1,by omega⟩;rw[HN];exact step _ i v h (by omega) fun v' _ h3=>by omega
  |succ m ih=>
   intro i k v hi hk h;obtain⟨k,rfl⟩:∃j,k=j+1:=⟨k-1,by omega⟩;rw[HN];exact step _ i v h (by omega) fun v' h2 h3=>ih (i+1) k v' (by omega) (by omega) h2
 exact key n 0 big v (by omega) (SY _ (by omega)) h0
end Lv.P
namespace Lv.P
open Go (IntKind BinOp UnOp)
def inB(a b c:Int):Bool:=decide (b<=a/\a<=c)
theorem CI{a b c:Int}:inB a b c=true↔b<=a/\a<=c:=by grind[inB]
theorem Gv(a b c:Int):EM a b c=some (inB a b c):=by
 grind[EM,Xt,inB,Bl,AW]
theorem Fe(a b c:Int):Ck a b c=some (inB a b c):=by
 grind[Ck,TH,inB,Bl,AW]
theorem XR(a b:Int):Mi a b=some (inB a 0 (w64 (b-1))):=by unfold Mi;rw[Fe,AF]
theorem B7(a b:Bool):br a (some b) (some false)=some (a&&b):=by cases a<;>rfl
theorem ADT(a b:Bool):br a (some true) (some b)=some (a||b):=by cases a<;>rfl
theorem F3(a b:Bool):br a (some false) (some b)=some (!a&&b):=by cases a<;>rfl
theorem Sa{γ:Type}(a:Bool)(x:AA γ):br a x x=x:=by cases a<;>rfl
def Gq(p:Nat->Bool):Nat->Nat->Bool|_,0=>true|i,m+1=>p i&&Gq p (i+1) m
theorem yG{p:Nat->Bool}:∀{m i:Nat},Gq p i m=true↔∀k,i<=k->k<i+m->p k=true
 |0,i=>by simp[Gq];omega|m+1,i=>by
  unfold Gq;rw[AD,yG]
  grind[Nat.eq_or_lt_of_le]
theorem Iw{p:Nat->Bool}{n:Nat}:Gq p 0 n=true↔∀k,k<n->p k=true:=by
 grind[yG]
theorem H7{n:Nat}{F:(Int->AA Bool)->Int->AA Bool}{E:AA Bool}(p:Nat->Bool)(hn:n<2 ^ 63)
 (step:∀L (i:Nat),i<n->F L (i:Int)=br (p i) (L ((i+1:Nat):Int)) (some false)) (stop:∀L,F L (n:Int)=E):Aw F big 0=br (Gq p 0 n) E (some false):=by
 have:=C5 (F:=F) (n:=n) (fun i (_:Unit)=>(i:Int)) (fun _ _=>True) (fun i _=>br (Gq p i (n-i)) E (some false)) hn ?_ (v:=()) trivial
 .exact this
 .intro L i v _ hi ih;rcases Aj i n with h|h
  .rw[step L i h,ih () trivial h,show n-i=(n-(i+1))+1 by omega,show Gq p i (n-(i+1)+1)=(p i&&Gq p (i+1) (n-(i+1))) from rfl];cases p i<;>rfl
  .obtain rfl:i=n:=by omega
   rw[stop,DI];rfl
theorem AJ0{α:Type}(l:List α)(p:α->Bool)(q:Nat->Bool)(h:∀k (hk:k<l.length),q k=p l[k]):Gq q 0 l.length=l.all p:=by
 grind[Iw,List.all_eq_true,List.getElem_of_mem,List.getElem_mem]
theorem A3{i n:Nat}(h:i<n):decide ((i:Int)<(n:Int))=true:=by rw[decide_eq_true_iff];omega
theorem Cw(n:Nat):decide ((n:Int)<(n:Int))=false:=by rw[decide_eq_false_iff_not];omega
theorem jE{α:Type}{l:List α}{F:(Int->AA Bool)->Int->AA Bool}{E:AA Bool}(p:α->Bool)(hn:l.length<2 ^ 63)
 (step:∀L (i:Nat) (h:i<l.length),F L (i:Int)=br (p l[i]) (L (w64 ((i:Int)+1))) (some false)) (stop:∀L,F L (l.length:Int)=E):Aw F big 0=br (l.all p) E (some false):=by
 have:=H7 (F:=F) (n:=l.length) (E:=E) (fun i=>match l[i]? with|some x=>p x|none=>true) hn ?_ stop
 .grind[AJ0]
 .intro L i h;rw[step L i h,Bd h hn];simp[h]
def GI(r:AV):Bool:=inB r.AR.length 1 4&&(inB r.Cg 1 5&&(inB r.Room 1 10&&(inB r.A1 1 6&&(inB r.CA 1 12&&(r.AR.all (fun x=>inB x 1 60)&&(inB r.Bq 1 8&&(inB r.Rest 0 8&&(inB r.Cc 1 4&&inB r.Cu 1 3))))))))
theorem KN{r:AV}(hr:r.AR.length<2 ^ 62):rq r=some (GI r):=by
 have hj:∀b,Nq r b=some (!b&&(r.AR.all (fun x=>inB x 1 60)&&(inB r.Bq 1 8&&(inB r.Rest 0 8&&(inB r.Cc 1 4&&inB r.Cu 1 3))))):=by
  intro b;unfold Nq;rw[jE (l:=r.AR) (fun x=>inB x 1 60) (E:=some (inB r.Bq 1 8&&(inB r.Rest 0 8&&(inB r.Cc 1 4&&inB r.Cu 1 3)))) (by omega) ?_ ?_,B7,F3]
  .intro L i h;unfold mn;rw[A3 h,BW,A5 h,AF,Gv,AF,BI]
  .intro L;unfold mn ADn TE;rw[Cw,BV];simp only[AW,Gv,AF,B7]
 unfold rq;simp only[Gv,AF,BI,AW,hj,Bi,BN,B7,Cs];rfl
theorem HM{r:AV}(hr:r.AR.length<2 ^ 62):TI r=some (GI r):=by
 unfold TI;rw[Fe,AF,BI];rw[jE (l:=r.AR) (fun x=>inB x 1 60) (E:=some (inB r.Cg 1 5&&(inB r.Room 1 10&&(inB r.A1 1 6&&(inB r.CA 1 12&&(inB r.Bq 1 8&&(inB r.Cc 1 4&&(inB r.Cu 1 3&&inB r.Rest 0 8)))))))) (by omega) ?_ ?_,B7,B7]
 .unfold GI;congr 1;ac_rfl
 .intro L i h;unfold Yo;rw[A3 h,BW,A5 h,AF,Fe,AF,BI]
 .intro L;unfold Yo r8 Ii;rw[Cw,BV];simp only[AW,Fe,AF,B7]
theorem Cb{r:AV}(h:GI r=true):(1<=r.AR.length/\r.AR.length<=4)/\(1<=r.Cg/\r.Cg<=5)/\(1<=r.Room/\r.Room<=10)/\(1<=r.A1/\r.A1<=6)/\(1<=r.CA/\r.CA<=12)/\(∀x∈r.AR,1<=x/\x<=60)/\(1<=r.Bq/\r.Bq<=8)/\(0<=r.Rest/\r.Rest<=8)/\(1<=r.Cc/\r.Cc<=4)/\(1<=r.Cu/\r.Cu<=3):=by
 grind[GI,CI,List.all_eq_true]
def DC(r:AV)(p:AJ)(now:Int):Bool:=
 GI r&&(inB now 0 1000000&&(inB p.Id 1 999&&(inB p.AT 0 (w64 ((r.AR.length:Int)-1))&&(inB p.BQ (-1) (w64 ((r.AR.length:Int)-1))&&(!(p.BQ==p.AT)&&(inB p.A1 1 r.A1&&(inB p.CT 0 (w64 (r.Cg-1))&&(inB p.Since 0 now&&(inB p.Ai 1 1000000&&(inB p.CX 0 (w64 (r.Cc-1))&&(((p.State==1)&&inB p.CB 0 (w64 (now+r.Rest)))||((p.State==2)&&inB p.CB 1 (w64 (now+r.Bq))))))))))))))
theorem OT{r:AV}(hr:r.AR.length<2 ^ 62)(p:AJ)(now:Int):zN r p now=some (DC r p now):=by
 have h2:∀b,Nr r p now b=some (!b&&(((p.State==1)&&inB p.CB 0 (w64 (now+r.Rest)))||((p.State==2)&&inB p.CB 1 (w64 (now+r.Bq))))):=by
  intro b;unfold Nr P6;simp only[Gv,AF,AW,B7,ADT];cases p.State==1<;>cases b<;>rfl
 have h1:∀b,LR r p now b=some (!b&&(inB p.A1 1 r.A1&&(inB p.CT 0 (w64 (r.Cg-1))&&(inB p.Since 0 now&&(inB p.Ai 1 1000000&&(inB p.CX 0 (w64 (r.Cc-1))&&(((p.State==1)&&inB p.CB 0 (w64 (now+r.Rest)))||((p.State==2)&&inB p.CB 1 (w64 (now+r.Bq)))))))))):=by
  intro b;unfold LR;simp only[Gv,AF,AW,BI,h2,Bi,BN,B7,F3,Cs]
 unfold zN;simp only[KN hr,Gv,AF,AW,BI,h1,Bi,BN,B7];rfl
theorem KI{r:AV}(hr:r.AR.length<2 ^ 62)(p:AJ)(now:Int):ZR r p now=some (DC r p now):=by
 have h2:∀b,Ko r p now b=some (!b&&(((p.State==1)&&inB p.CB 0 (w64 (now+r.Rest)))||((p.State==2)&&inB p.CB 1 (w64 (now+r.Bq))))):=by
  intro b;unfold Ko Mm;simp only[Fe,AF,AW,B7,ADT];cases p.State==1<;>cases b<;>rfl
 have h1:∀b,JW r p now b=some (!b&&(inB p.A1 1 r.A1&&(inB p.CT 0 (w64 (r.Cg-1))&&(inB p.Since 0 now&&(inB p.Ai 1 1000000&&(inB p.CX 0 (w64 (r.Cc-1))&&(((p.State==1)&&inB p.CB 0 (w64 (now+r.Rest)))||((p.State==2)&&inB p.CB 1 (w64 (now+r.Bq)))))))))):=by
  intro b;unfold JW;simp only[Fe,XR,AF,AW,BI,h2,Bi,BN,B7,F3,Cs]
 unfold ZR;simp only[HM hr,Fe,XR,AF,AW,BI,h1,Bi,BN,B7];rfl
def WQ(r:AV)(tier waited:Int):Int:=if 0>w64 (tier-w64 (waited.tdiv r.CA)) then 0 else w64 (tier-w64 (waited.tdiv r.CA))
theorem ANS(a b:Int):jS a b=some (if a>b then a else b):=by
 unfold jS;rw[Bl];split<;>rfl
theorem qW{r:AV}(hr:r.CA≠0)(t w:Int):ADs r t w=some (WQ r t w):=by
 unfold ADs;rw[DB hr,ANS,AF];rfl
theorem lO(r:AV)(t w:Int):0<=WQ r t w:=by unfold WQ;split<;>omega
theorem E5{r:AV}{p:AJ}{now:Int}(h:DC r p now=true):GI r=true/\(0<=now/\now<=1000000)/\(1<=p.Id/\p.Id<=999)/\(0<=p.AT/\p.AT<=r.AR.length-1)/\(-1<=p.BQ/\p.BQ<=r.AR.length-1)/\p.BQ≠p.AT/\(1<=p.A1/\p.A1<=r.A1)/\(0<=p.CT/\p.CT<=r.Cg-1)/\(0<=p.Since/\p.Since<=now)/\(1<=p.Ai/\p.Ai<=1000000)/\(0<=p.CX/\p.CX<=r.Cc-1)/\(p.State=1/\0<=p.CB/\p.CB<=now+r.Rest\/p.State=2/\1<=p.CB/\p.CB<=now+r.Bq):=by
 grind[DC,CI,Bool.not_eq_true',beq_eq_false_iff_ne,Cb,BP]
def Gw(r:AV)(p:AJ)(now:Int):Int:=if DC r p now=true then WQ r p.CT (w64 (now-p.Since)) else -1
theorem qN{r:AV}(hr:r.AR.length<2 ^ 62)(p:AJ)(now:Int):ADt r p now=some (Gw r p now):=by
 unfold ADt Gw;rw[OT hr,AF,BI,B5];split
 .rename_i h;have:=(Cb (E5 h).1).2.2.2.2.1;rw[qW (by omega),AF]
 .rfl
theorem oe{r:AV}(hr:r.AR.length<2 ^ 62)(p:AJ)(now:Int):ADz r p now=some (Gw r p now):=by
 unfold ADz Gw;rw[KI hr,AF,BI,B5];split
 .rename_i h;have hp:=E5 h;have hq:=Cb hp.1;unfold AKd TY;rw[HM hr,hp.1,AF,BI,BW,XR,AF,BI];have e1:inB p.CT 0 (w64 (r.Cg-1))=true:=by rw[CI,BP (by omega) (by omega)];omega
  have e2:decide (w64 (now-p.Since)<0)=false:=by rw[BP (by omega) (by omega)];simp;omega
  rw[e1,BW,AW,e2,BV,DB (by omega),AF,if_pos rfl]
  grind[WQ]
 .rfl
def D4(r:AV)(p:AJ)(now:Int):AQ×Bool:=if DC r p now=true/\p.State=1 then (⟨Gw r p now,p.Ai,p.Id,p.A1⟩,true) else (⟨0,0,0,0⟩,false)
theorem Uw{r:AV}(hr:r.AR.length<2 ^ 62)(p:AJ)(now:Int):jT r p now=some (D4 r p now):=by
 unfold jT Y0 D4;rw[qN hr,AF,Bl,AW,AW,BW];by_cases h:DC r p now=true
 .have:=lO r p.CT (w64 (now-p.Since))
  grind[Gw,B5]
 grind[Gw]
theorem N3{r:AV}(hr:r.AR.length<2 ^ 62)(p:AJ)(now:Int):jk r p now=some (D4 r p now):=by
 grind[jk,Za,D4,KI,AF,BI,B5,AW,BW,oe,DC]
def DD(l:Av):Bool:=inB l.Total 1 60&&(inB l.DJ 0 l.Total&&(inB l.Dd 0 l.Total&&(inB l.EK 0 l.Total&&((w64 (w64 (l.DJ+l.Dd)+l.EK)==l.Total)&&inB l.ET 0 l.EK))))
theorem MJ(l:Av):Yu l=some (DD l):=by
 unfold Yu Kn DD;simp only[Gv,AF,AW,B7]
theorem E0(l:Av):JX l=some (DD l):=by
 unfold JX Kq DD;simp only[Fe,AF,AW,B7]
def Wz(a:D8):Bool:=decide ((a.Data.length:Int)<=20000)&&inB a.Safe 0 a.Data.length
theorem Xc(a:D8):W7 a=some (Wz a):=by
 unfold W7 Ym Wz;simp only[Gv,AF,AW,B7]
theorem XM(a:D8):XB a=some (Wz a):=by
 unfold XB Z5 Wz;simp only[Fe,AF,AW,B7]
def gk(s:Dc):Bool:=Wz s.Log&&(Wz s.G1&&Wz s.Odd)
theorem qR(s:Dc):ADo s=some (gk s):=by
 unfold ADo TG gk;simp only[Xc,AF,AW,B7]
theorem ot(s:Dc):AD8 s=some (gk s):=by
 unfold AD8 Td gk;simp only[XM,AF,AW,B7]
end Lv.P
namespace Lv.P
open Go (IntKind BinOp UnOp)
section
variable{α:Type}(lt:α->α->Bool)
def put(x:α):List α->List α| []=>[x]|z::l=>if lt z x=true then z::put x l else x::z::l
def ins(x:α):List α->List α| []=>[x]|z::l=>if lt x z=true then x::z::l else z::ins x l
structure Swo:Prop where
 mT:∀a b,lt a b=true->lt b a=false
 neg:∀a b c,lt a c=true->lt a b=true\/lt b c=true
def Cm(l:List α):List α:=l.foldr (put lt) []
variable {lt}
theorem Swo.trans(h:Swo lt){a b c:α}(h1:lt a b=true)(h2:lt b c=true):lt a c=true:=by
 rcases h.neg a c b h1 with h3|h3
 .exact h3
 .rw[h.mT _ _ h2]at h3;cases h3
theorem AGJ(h:Swo lt)(x y:α):∀l,ins lt x (put lt y l)=put lt y (ins lt x l)
 | []=>by simp only[put,ins]|z::l=>by
  cases h1:lt z y with
  |true=>
   cases h2:lt x z with
   |true=>simp only[put,ins,h1,h2,h.trans h2 h1,if_true]|false=>simp[put,ins,h1,h2,AGJ h x y l]
  |false=>
   cases h2:lt x y with
   |true=>
    have h3:lt x z=true:=(h.neg x z y h2).resolve_right (by simp[h1]);simp[put,ins,h1,h2,h3]
   |false=>
    grind[put,ins]
theorem po(h:Swo lt)(ht:∀a b,lt a b=false->lt b a=false->a=b)(x y:α):∀l,put lt x (put lt y l)=put lt y (put lt x l)
 | []=>by
  simp only[put];cases h1:lt y x with
  |true=>simp[h.mT _ _ h1]|false=>
   cases h2:lt x y with
   |true=>simp|false=>simp[ht _ _ h1 h2]
 |z::l=>by
  cases h1:lt z y with
  |true=>
   cases h2:lt z x with
   |true=>simp only[put,h1,h2,if_true];rw[po h ht x y l]|false=>
    have h3:lt x y=true:=(h.neg z x y h1).resolve_left (by simp[h2]);simp[put,h1,h2,h3]
  |false=>
   cases h2:lt z x with
   |true=>
    have h3:lt y x=true:=(h.neg z y x h2).resolve_left (by simp[h1]);simp[put,h1,h2,h3]
   |false=>
    cases h3:lt y x with
    |true=>simp[put,h1,h2,h3,h.mT _ _ h3]|false=>
     cases h4:lt x y with
     |true=>simp[put,h1,h2,h3,h4]|false=>simp[ht _ _ h3 h4]
theorem ky(h:Swo lt):∀(l acc:List α) (a:α),l.foldl (fun s x=>ins lt x s) (put lt a acc)=put lt a (l.foldl (fun s x=>ins lt x s) acc)| [],_,_=>rfl|x::l,acc,a=>by rw[BU,AGJ h,ky h l,BU]
theorem lJ(h:Swo lt):∀l:List α,l.foldl (fun s x=>ins lt x s) []=Cm lt l
 | []=>rfl|a::l=>by
  rw[BU,show ins lt a []=put lt a [] from rfl,ky h,lJ h l];rfl
theorem kz(h:Swo lt)(ht:∀a b,lt a b=false->lt b a=false->a=b):∀(l acc:List α) (a:α),l.foldl (fun s x=>put lt x s) (put lt a acc)=put lt a (l.foldl (fun s x=>put lt x s) acc)| [],_,_=>rfl|x::l,acc,a=>by rw[BU,po h ht,kz h ht l,BU]
theorem WM(h:Swo lt)(ht:∀a b,lt a b=false->lt b a=false->a=b):∀l:List α,l.foldl (fun s x=>put lt x s) []=Cm lt l| []=>rfl|a::l=>by rw[BU,kz h ht,WM h ht l];rfl
theorem Em(x:α):∀l,(put lt x l).length=l.length+1| []=>rfl|z::l=>by unfold put;split<;>simp[Em x l]
theorem AGG(x:α):∀l,(ins lt x l).length=l.length+1| []=>rfl|z::l=>by unfold ins;split<;>simp[AGG x l]
theorem M3:∀l:List α,(Cm lt l).length=l.length
 | []=>rfl|a::l=>by
  have:=M3 l;unfold Cm at this ⊢;rw[Ia,Em,this];rfl
theorem QQ{x a:α}:∀{l},a∈put lt x l↔a=x\/a∈l
 | []=>by simp[put]|z::l=>by
  unfold put;split
  .rw[Ac,QQ,Ac]
   grind
  .simp
theorem AGH{x a:α}:∀{l},a∈ins lt x l↔a=x\/a∈l
 | []=>by simp[ins]|z::l=>by
  unfold ins;split
  .simp
  .rw[Ac,AGH,Ac]
   grind
theorem M4{a:α}:∀{l:List α},a∈Cm lt l↔a∈l
 | []=>by simp[Cm]|z::l=>by
  have:=M4 (a:=a) (l:=l);unfold Cm at this ⊢;rw[Ia,QQ,this,Ac]
def Srt(lt:α->α->Bool)(l:List α):Prop:=l.Pairwise fun a b=>lt b a=false
theorem AGK(h:Swo lt)(x:α):∀l,Srt lt l->Srt lt (ins lt x l)
 | [],_=>by simp[ins,Srt]|z::l,hs=>by
  unfold Srt at hs;rw[BA]at hs;unfold ins Srt;split
  .rename_i hx;rw[BA,BA];refine⟨?_,hs⟩;intro b hb;rcases Ac.1 hb with rfl|hb
   .exact h.mT _ _ hx
   .cases e:lt b x with|false=>rfl|true=>exact absurd (h.trans e hx) (by simp[hs.1 b hb])
  .rename_i hx;rw[BA];refine⟨?_,AGK h x l hs.2⟩
   grind[AGH]
theorem WJ{x:α}{s2:List α}(h2:∀b∈s2,lt x b=true):∀{s1:List α},(∀a∈s1,lt x a=false)->ins lt x (s1++s2)=s1++x::s2
 | [],_=>by
  cases s2 with
  |nil=>rfl|cons b s=>unfold ins;rw[B6];simp[h2 b BG]
 |a::s1,h1=>by
  rw[IJ];unfold ins;rw[h1 a BG,if_neg (by simp),WJ h2 fun c hc=>h1 c (List.mem_cons_of_mem _ hc)];rfl
theorem WI{γ:Type}(h:Swo lt){G:(List α×Int->AA γ)->List α×Int->AA γ}{E:List α->AA γ}{x:α}{r:List α}{M:Nat}
 (g1:∀L t z w,t.length<M->lt x z=true->G L (t++z::x::w,((t.length+1:Nat):Int))=L (t++x::z::w,(t.length:Int)))
 (g2:∀L t z w,t.length<M->lt x z=false->G L (t++z::x::w,((t.length+1:Nat):Int))=E (t++z::x::w)) (g3:∀L w,G L (x::w,0)=E (x::w)) :
 ∀(k N:Nat) (s1 s2:List α),s1.length=k->k<=M->k<N->(∀b∈s2,lt x b=true)->Srt lt s1->Aw G N (s1++x::(s2++r),(k:Int))=E (ins lt x (s1++s2)++r)
 |k,0,s1,s2,hk,hM,hN,h2,hs=>by omega|0,N+1,s1,s2,hk,hM,hN,h2,hs=>by
  obtain rfl:=List.eq_nil_of_length_eq_zero hk;rw[HN,B6,WJ (s1:=[]) h2 (by simp)];exact g3 _ _
 |k+1,N+1,s1,s2,hk,hM,hN,h2,hs=>by
  rcases List.eq_nil_or_concat s1 with rfl|⟨t,z,rfl⟩
  .simp at hk
  simp only[List.concat_eq_append]at hk hs ⊢;have ht:t.length=k:=by simpa using hk
  have hp:Srt lt t/\∀a∈t,lt z a=false:=by
   unfold Srt at hs ⊢;rw[List.pairwise_append]at hs;exact⟨hs.1,fun a ha=>hs.2.2 a ha z (by simp)⟩
  rw[HN];subst ht;cases hx:lt x z with
  |true=>
   have e:t++[z]++x::(s2++r)=t++z::x::(s2++r):=by simp
   rw[e,g1 _ _ _ _ (by omega) hx];have:=WI (r:=r) h g1 g2 g3 t.length N t (z::s2) rfl (by omega) (by omega) (by simpa[hx] using h2) hp.1;rw[IJ]at this;rw[this];simp
  |false=>
   have e:t++[z]++x::(s2++r)=t++z::x::(s2++r):=by simp
   rw[e,g2 _ _ _ _ (by omega) hx,WJ h2 ?_]
   .simp
   .intro a ha;rw[List.mem_append]at ha;rcases ha with ha|ha
    .cases e:lt x a with
     |false=>rfl|true=>
      rcases h.neg x z a e with h3|h3
      .rw[hx]at h3;cases h3
      .rw[hp.2 a ha]at h3;cases h3
    .rw[List.mem_singleton]at ha;subst ha;exact hx
theorem lI(h:Swo lt){F:(List α×Int->AA (List α))->List α×Int->AA (List α)}{v0:List α}(hn:v0.length<2 ^ 62)
 (step:∀L s x r,s.length+1+r.length=v0.length->0<s.length->Srt lt s->F L (s++x::r,(s.length:Int))=L (ins lt x s++r,((s.length+1:Nat):Int)))
 (stop:∀L v (i:Nat),v0.length<=i->F L (v,(i:Int))=some v):Aw F big (v0,1)=some (Cm lt v0):=by
 cases v0 with
 |nil=>
  have:=SZ 0 (by omega);obtain⟨n,hb⟩:=this;rw[hb,Nat.add_zero,HN];exact stop _ _ 1 (by simp)
 |cons a l=>
  have:=C5 (F:=F) (n:=l.length) (fun i (v:List α×List α)=>(v.1++v.2,((i+1:Nat):Int))) (fun i v=>v.1.length=i+1/\v.2.length+i=l.length/\Srt lt v.1) (fun i v=>some (v.2.foldl (fun s x=>ins lt x s) v.1)) (by simp at hn;omega) ?_ (v:=([a],l)) ⟨rfl,rfl,by simp[Srt]⟩
  .rw[<-lJ h];exact this
  .rintro L i ⟨s,r⟩ ⟨h1,h2,h3⟩ hi ih;dsimp only at h1 h2 h3 ih ⊢;cases r with
   |nil=>
    rw[stop _ _ _ (by simp at h2 ⊢;omega)];simp
   |cons x r=>
    have hl:s.length+1+r.length=(a::l).length:=by simp at h2 ⊢;omega
    rw[<-h1,step L s x r hl (by omega) h3,BU];have:=ih (ins lt x s,r) ⟨by dsimp only;rw[AGG,h1],by dsimp only;simp at h2 ⊢;omega,AGK h x s h3⟩ (by simp at h2;omega);rw[<-this,h1]
theorem Po{γ:Type}{F:(Int->AA γ)->Int->AA γ}{l:List α}{x:α}(J:List α->AA γ)(hl:l.length<2 ^ 62)
 (step:∀L (i:Nat) (h:i<l.length),F L (i:Int)=br (lt l[i] x) (L (w64 ((i:Int)+1))) (J (l.take i++x::l.drop i)))
 (stop:∀L,F L (l.length:Int)=J (l++[x])):Aw F big 0=J (put lt x l):=by
 refine(C5 (n:=l.length) (fun i (_:Unit)=>(i:Int)) (fun _ _=>True) (fun i _=>J (l.take i++put lt x (l.drop i))) (by omega) ?_ (v:=()) trivial).trans (by simp);intro L i _ _ hi ih;rcases Aj i l.length with h|h
 .rw[step L i h,Bd h (by omega),Ec h,put];cases e:lt l[i] x with
  |true=>
   have e2:l.take (i+1)=l.take i++[l[i]]:=by rw[CP,AU h];rfl
   rw[BW,ih () trivial h,e2,List.append_assoc];rfl
  |false=>rfl
 grind[put]
end
theorem SU{α:Type}(t w:List α)(z:α):at? (t++z::w) (t.length:Int)=some z:=by rw[H0];simp
theorem SV{α:Type}(t w:List α)(z x:α):at? (t++z::x::w) ((t.length+1:Nat):Int)=some x:=by rw[H0];simp
theorem yZ{α:Type}(t w:List α)(z a:α):(t++z::w).set t.length a=t++a::w:=by simp
theorem ya{α:Type}(t w:List α)(z x a:α):(t++z::x::w).set (t.length+1) a=t++z::a::w:=by
 rw[List.set_append_right _ _ (by omega),show t.length+1-t.length=1 by omega];rfl
theorem Hy(n:Nat)(h:0<n)(hn:n<2 ^ 63):w64 ((n:Int)-1)=((n-1:Nat):Int):=by grind[BP]
theorem me(a b:Int):ZU a b=some (if a<b then -1 else if a>b then 1 else 0):=by
 grind[ZU,ADy,AF,BV,Bl]
def ltE(a b:AQ):Bool:=decide (a.Level<b.Level)||((a.Level==b.Level)&&decide (a.Ai<b.Ai))
theorem QJ{a b:AQ}:ltE a b=true↔a.Level<b.Level\/a.Level=b.Level/\a.Ai<b.Ai:=by simp[ltE]
theorem ANc{a b:AQ}:ltE a b=false↔¬(a.Level<b.Level\/a.Level=b.Level/\a.Ai<b.Ai):=by rw[<-QJ];simp
def ltP(a b:AY):Bool:=decide (a.At<b.At)||((a.At==b.At)&&decide (a.Id<b.Id))
theorem OA{a b:AY}:ltP a b=true↔a.At<b.At\/a.At=b.At/\a.Id<b.Id:=by simp[ltP]
theorem fA{a b:AY}:ltP a b=false↔¬(a.At<b.At\/a.At=b.At/\a.Id<b.Id):=by rw[<-OA];simp
theorem YA:Swo ltE:=⟨fun a b h=>by rw[QJ]at h;rw[ANc];omega,fun a b c h=>by rw[QJ]at *;rw[QJ];omega⟩
theorem ED:Swo ltP:=⟨fun a b h=>by rw[OA]at h;rw[fA];omega,fun a b c h=>by rw[OA]at *;rw[OA];omega⟩
theorem UQ(a b:AY)(h1:ltP a b=false)(h2:ltP b a=false):a=b:=by
 rw[fA]at h1 h2;obtain⟨x,y⟩:=a;obtain⟨z,w⟩:=b
 grind
theorem Pw(a b:AQ):sE a b=some (ltE a b):=by
 unfold sE TK ltE;simp only[AW,B7,ADT]
theorem Xe(a b:AY):sL a b=some (ltP a b):=by
 unfold sL TL ltP;simp only[AW,B7,ADT]
theorem WG(a b:AQ):∃c,W8 a b=some c/\decide (c<0)=ltE a b:=by
 unfold W8;rw[me,AF,B5,me,AF];refine⟨if a.Level<b.Level then -1 else if a.Level>b.Level then 1 else if a.Ai<b.Ai then -1 else if a.Ai>b.Ai then 1 else 0,?_,?_⟩
 .split<;>split<;>simp_all
 grind[QJ]
theorem PV(a b:AQ):sv a b=some (ltE a b):=by
 unfold sv;obtain⟨c,h1,h2⟩:=WG a b;rw[h1,AF,h2]
theorem QH(a b:AY):∃c,TV a b=some c/\decide (c<0)=ltP a b/\decide (c>0)=ltP b a:=by
 unfold TV;rw[me,AF,B5,me,AF];refine⟨if a.At<b.At then -1 else if a.At>b.At then 1 else if a.Id<b.Id then -1 else if a.Id>b.Id then 1 else 0,?_,?_,?_⟩
 .split<;>split<;>simp_all
 .grind[OA]
 grind[OA]
theorem ATr{l:List AQ}(hl:l.length<2 ^ 62):s5 l 0 l.length=some (Cm ltE l):=by
 unfold s5;refine lI YA hl ?_ ?_
 .intro L s x r hn hs hsrt;unfold Zc;dsimp only;rw[A3 (by omega),BW];have:=WI (G:=Zd 0 L s.length) (E:=fun v=>L (v,((s.length+1:Nat):Int))) (x:=x) (r:=r) (M:=s.length) YA ?_ ?_ ?_ s.length big s [] rfl (by omega) (SY _ (by omega)) (by simp) hsrt
  .rw[B6,IZ]at this;exact this
  all_goals unfold Zd Zb s6
  .intro L' t z w ht hx;obtain⟨c,h1,h2⟩:=WG x z;have e:=Hy (t.length+1) (by omega) (by omega);have e0:((t.length+1:Nat):Int)>0:=by omega
   dsimp only;have h3:c<0:=by rw[hx,decide_eq_true_iff]at h2;exact h2
   simp only[Bl,AW,e,CH,SU,SV,AF,h1,yZ,ya,AX,e0,h3,if_true]
  .intro L' t z w ht hx;obtain⟨c,h1,h2⟩:=WG x z;have e:=Hy (t.length+1) (by omega) (by omega);have e0:((t.length+1:Nat):Int)>0:=by omega
   have e1:=Bd (i:=s.length) (n:=s.length+1) (by omega) (by omega);dsimp only;have h3:¬c<0:=by rw[hx,decide_eq_false_iff_not]at h2;exact h2
   simp only[Bl,AW,e,CH,SU,SV,AF,h1,e0,h3,if_true,if_false,e1]
  .intro L' w;have e1:=Bd (i:=s.length) (n:=s.length+1) (by omega) (by omega);dsimp only;rw[Bl,if_neg (by omega),AW,BV,AW,e1]
 grind[Zc,Bl]
theorem AR3{l:List AY}(hl:l.length<2 ^ 62):jX l 0 l.length=some (Cm ltP l):=by
 unfold jX;refine lI ED hl ?_ ?_
 .intro L s x r hn hs hsrt;unfold ZO;dsimp only;rw[A3 (by omega),BW];have:=WI (G:=ZP 0 L s.length) (E:=fun v=>L (v,((s.length+1:Nat):Int))) (x:=x) (r:=r) (M:=s.length) ED ?_ ?_ ?_ s.length big s [] rfl (by omega) (SY _ (by omega)) (by simp) hsrt
  .rw[B6,IZ]at this;exact this
  all_goals unfold ZP ZN sZ
  .intro L' t z w ht hx;obtain⟨c,h1,h2,_⟩:=QH x z;have e:=Hy (t.length+1) (by omega) (by omega);have e0:((t.length+1:Nat):Int)>0:=by omega
   dsimp only;have h3:c<0:=by rw[hx,decide_eq_true_iff]at h2;exact h2
   simp only[Bl,AW,e,CH,SU,SV,AF,h1,yZ,ya,AX,e0,h3,if_true]
  .intro L' t z w ht hx;obtain⟨c,h1,h2,_⟩:=QH x z;have e:=Hy (t.length+1) (by omega) (by omega);have e0:((t.length+1:Nat):Int)>0:=by omega
   have e1:=Bd (i:=s.length) (n:=s.length+1) (by omega) (by omega);dsimp only;have h3:¬c<0:=by rw[hx,decide_eq_false_iff_not]at h2;exact h2
   simp only[Bl,AW,e,CH,SU,SV,AF,h1,e0,h3,if_true,if_false,e1]
  .intro L' w;have e1:=Bd (i:=s.length) (n:=s.length+1) (by omega) (by omega);dsimp only;rw[Bl,if_neg (by omega),AW,BV,AW,e1]
 grind[ZO,Bl]
theorem ARS{l:List AQ}(hl:l.length<=19):AD1 l=some (Cm ltE l):=by
 unfold AD1 AKp;obtain⟨n,hb⟩:=SZ 0 (by omega)
 grind[Aw,tC,big,Cm,ltE,HN,Bl,AW,s8,ATr,AF,tE]
theorem ART{l:List AY}(hl:l.length<=19):AD6 l=some (Cm ltP l):=by
 unfold AD6 AKY;obtain⟨n,hb⟩:=SZ 0 (by omega)
 grind[Aw,sj,big,Cm,ltP,HN,Bl,AW,sg,AR3,AF,sk]
set_option maxRecDepth 100000
theorem AQB{n:Nat}(hn:n<256):∃c,ADv (IntKind.u64.wrap (n:Int))=some c:=by
 have e:IntKind.u64.wrap (n:Int)=n:=by
  simp only[IntKind.wrap,IntKind.bits,IntKind.signed];simp;omega
 unfold ADv AKL;rw[e,Bl,if_neg (by omega),AW];unfold ZK;dsimp only;rw[Bl,if_neg (by omega),AW];unfold ZL;dsimp only;rw[Bl,if_neg (by omega),AW];unfold ZM;dsimp only;rw[A5 (UInt8.toNat_lt (toB (n:Int))),AF,AF];exact⟨_,rfl⟩
theorem ATE{l:List AY}(hl:l.length<=12):ADw l=some (Cm ltP l):=by
 unfold ADw AKM;obtain⟨c,hc⟩:=AQB (n:=l.length) (by omega);rw[hc,AF];obtain⟨n,hb⟩:=SZ 0 (by omega)
 grind[HN,sa,Bl,BP,AR3,AF]
end Lv.P
namespace Lv.P
open Go (IntKind BinOp UnOp)
section
variable{α σ γ:Type}
theorem PJ{l:List α}{F:(σ×Int->AA γ)->σ×Int->AA γ}(f:σ->α->σ)(I:Nat->σ->Prop)(J:σ->AA γ)(hl:l.length<2 ^ 63)
 (step:∀L i (h:i<l.length) v,I i v->F L (v,(i:Int))=L (f v l[i],w64 ((i:Int)+1))) (Eh:∀i (h:i<l.length) v,I i v->I (i+1) (f v l[i]))
 (stop:∀L v,I l.length v->F L (v,(l.length:Int))=J v) {v0:σ} (h0:I 0 v0):Aw F big (v0,0)=J (l.foldl f v0):=by
 refine(C5 (n:=l.length) (fun i (v:σ)=>(v,(i:Int))) I (fun i v=>J ((l.drop i).foldl f v)) hl ?_ h0);intro L i v hv hi ih;rcases Aj i l.length with h|h
 .rw[step L i h v hv,Bd h hl,Ec h,BU];exact ih _ (Eh i h v hv) h
 grind[List.drop_length]
def Du(eq:α->α->Bool):List α->List α->Bool| [],[]=>true|x::a,y::b=>eq x y&&Du eq a b|_,_=>false
theorem IU{eq:α->α->Bool}(he:∀x y,eq x y=true↔x=y):∀{a b:List α},Du eq a b=true↔a=b| [],[]=>by simp[Du]| [],y::b=>by simp[Du]|x::a,[]=>by simp[Du]|x::a,y::b=>by rw[Du,AD,he,IU he,C1]
theorem gF{eq:α->α->Bool}:∀{a b:List α},a.length≠b.length->Du eq a b=false| [],[],h=>by simp at h| [],y::b,h=>rfl|x::a,[],h=>rfl|x::a,y::b,h=>by rw[Du,gF (a:=a) (b:=b) (by simpa using h),Ci]
theorem APL{eq:α->α->Bool}{a b:List α}{F:(Int->AA Bool)->Int->AA Bool}(hl:a.length<2 ^ 63)(hab:a.length=b.length)
 (step:∀L i (h:i<a.length) (h':i<b.length),F L (i:Int)=br (!(eq a[i] b[i])) (some false) (L (w64 ((i:Int)+1)))) (stop:∀L,F L (a.length:Int)=some true):Aw F big 0=some (Du eq a b):=by
 refine(C5 (n:=a.length) (fun i (_:Unit)=>(i:Int)) (fun _ _=>True) (fun i _=>some (Du eq (a.drop i) (b.drop i))) hl ?_ (v:=()) trivial);intro L i _ _ hi ih;rcases Aj i a.length with h|h
 .rw[step L i h (by omega),Bd h hl,Ec h,Ec (l:=b) (i:=i) (by omega),Du,BI];cases eq a[i] b[i] with|true=>rw[BW,ih () trivial h];rfl|false=>rfl
 .obtain rfl:i=a.length:=by omega
  rw[stop,Dy,List.drop_eq_nil_of_le (by omega)];rfl
theorem MI{eq:α->α->Bool}{a b:List α}{F:(Int->AA Bool)->Int->AA Bool}(hl:a.length<2 ^ 63)
 (step:∀L i (h:i<a.length) (h':i<b.length),F L (i:Int)=br (!(eq a[i] b[i])) (some false) (L (w64 ((i:Int)+1)))) (stop:∀L,F L (a.length:Int)=some true) :
 br ((a.length:Int) != (b.length:Int)) (some false) (Aw F big 0)=some (Du eq a b):=by
 by_cases h:a.length=b.length
 .have e:((a.length:Int) != (b.length:Int))=false:=by simp[h]
  rw[e,BV,APL hl h step stop]
 .have e:((a.length:Int) != (b.length:Int))=true:=by simp;omega
  rw[e,BW,gF h]
def atF(p:α->Bool):List α->Nat->Int| [],_=>-1|x::l,i=>if p x=true then (i:Int) else atF p l (i+1)
theorem NX{p:α->Bool}{l:List α}{F:(Int->AA Int)->Int->AA Int}(hl:l.length<2 ^ 63)
 (step:∀L i (h:i<l.length),F L (i:Int)=br (p l[i]) (some (i:Int)) (L (w64 ((i:Int)+1)))) (stop:∀L,F L (l.length:Int)=some (-1)):Aw F big 0=some (atF p l 0):=by
 refine(C5 (n:=l.length) (fun i (_:Unit)=>(i:Int)) (fun _ _=>True) (fun i _=>some (atF p (l.drop i) i)) hl ?_ (v:=()) trivial);intro L i _ _ hi ih;rcases Aj i l.length with h|h
 .rw[step L i h,Bd h hl,Ec h,atF];cases p l[i] with|true=>rfl|false=>rw[BV,ih () trivial h];simp
 .obtain rfl:i=l.length:=by omega
  rw[stop,Dy];rfl
theorem YQ{p:α->Bool}:∀{l:List α} {s:Nat},atF p l s<0↔∀x∈l,p x=false
 | [],s=>by simp[atF]|x::l,s=>by
  unfold atF;split
  .rename_i h;simp[h]
  .rename_i h;rw[YQ];simp[h]
theorem rQ{p:α->Bool}:∀{l:List α} {i:Nat} (s:Nat) (h:i<l.length),p l[i]=true->((atF p l s != ((s+i:Nat):Int))=decide (atF p (l.take i) s>=0))
 | [],i,s,h,hp=>by simp at h|x::l,0,s,h,hp=>by
  simp only[List.getElem_cons_zero]at hp;simp[atF,hp]
 |x::l,i+1,s,h,hp=>by
  simp only[List.getElem_cons_succ]at hp;rw[List.take_succ_cons,atF,atF];by_cases hx:p x=true
  .grind
  .rw[if_neg hx,if_neg hx];have:=rQ (l:=l) (i:=i) (s+1) (by simpa using h) hp;rw[<-this,show s+1+i=s+(i+1) by omega]
end
def Jr(cabin:Int)(n:Int)(p:AJ):Int:=if (p.AT==cabin)=true then n+1 else n
def Cr(l:List AJ)(cabin:Int):Int:=l.foldl (Jr cabin) 0
def Q0(cabin:Int)(n:Int)(p:AJ):Int:=if ((p.State==2)&&((p.AT==cabin)&&inB p.A1 1 6))=true then n+p.A1 else n
def Im(l:List AJ)(cabin:Int):Int:=l.foldl (Q0 cabin) 0
def RJ(cabin:Int)(n:Int)(p:AJ):Int:=if ((p.BQ==cabin)&&inB p.A1 1 6)=true then n+p.A1 else n
def IW(l:List AJ)(cabin:Int):Int:=l.foldl (RJ cabin) 0
theorem jK(cabin:Int)(p:AJ){i:Nat}{n:Int}(h:0<=n/\n<=i):0<=Jr cabin n p/\Jr cabin n p<=((i+1:Nat):Int):=by unfold Jr;split<;>omega
theorem UF(cabin:Int)(p:AJ){i:Nat}{n:Int}(h:0<=n/\n<=6*i):0<=Q0 cabin n p/\Q0 cabin n p<=6*((i+1:Nat):Int):=by
 grind[Q0,CI]
theorem U5(cabin:Int)(p:AJ){i:Nat}{n:Int}(h:0<=n/\n<=6*i):0<=RJ cabin n p/\RJ cabin n p<=6*((i+1:Nat):Int):=by
 grind[RJ,CI]
theorem OS{l:List AJ}(hl:l.length<2 ^ 58)(c:Int):jM l c=some (Cr l c):=by
 unfold jM;refine PJ (l:=l) (Jr c) (fun i n=>0<=n/\n<=i) some (by omega) ?_ (fun i h v hv=>jK c _ hv) ?_ (by simp)
 .grind[Yk,Yj,Jr,A3,BW,A5,AF,AW,BP,B5]
 grind[Yk,rr,BV,AW]
theorem N2{l:List AJ}(hl:l.length<2 ^ 58)(c:Int):jf l c=some (Cr l c):=by
 unfold jf;refine PJ (l:=l) (Jr c) (fun i n=>0<=n/\n<=i) some (by omega) ?_ (fun i h v hv=>jK c _ hv) ?_ (by simp)
 .grind[ZT,ZS,Jr,A3,BW,A5,AF,AW,BP,B5]
 grind[ZT,su,BV,AW]
theorem yg{l:List AJ}(hl:l.length<2 ^ 58)(c:Int):sW l c=some (Im l c):=by
 unfold sW;refine PJ (l:=l) (Q0 c) (fun i n=>0<=n/\n<=6*i) some (by omega) ?_ (fun i h v hv=>UF c _ hv) ?_ (by simp)
 .intro L i h v hv;have hk:=UF c l[i] hv;unfold Q0 at hk ⊢;unfold ZG TU ZF;dsimp only;rw[A3 h,BW];simp only[A5 h,AF,AW,Gv,BV];cases h1:l[i].State==2<;>cases h2:l[i].AT==c<;>cases h3:inB l[i].A1 1 6<;>simp only[BW,BV,CE,BN,if_true,A4,if_false]
  grind[BP]
 grind[ZG,sX,BV,AW]
theorem xS{l:List AJ}(hl:l.length<2 ^ 58)(c:Int):Zr l c=some (Im l c):=by
 unfold Zr;refine PJ (l:=l) (Q0 c) (fun i n=>0<=n/\n<=6*i) some (by omega) ?_ (fun i h v hv=>UF c _ hv) ?_ (by simp)
 .intro L i h v hv;have hk:=UF c l[i] hv;unfold Q0 at hk ⊢;unfold Zt Tb Zs;dsimp only;rw[A3 h,BW];simp only[A5 h,AF,AW,Fe,BV];cases h1:l[i].State==2<;>cases h2:l[i].AT==c<;>cases h3:inB l[i].A1 1 6<;>simp only[BW,BV,CE,BN,if_true,A4,if_false]
  grind[BP]
 grind[Zt,tZ,BV,AW]
theorem yi{l:List AJ}(hl:l.length<2 ^ 58)(c:Int):jW l c=some (IW l c):=by
 unfold jW;refine PJ (l:=l) (RJ c) (fun i n=>0<=n/\n<=6*i) some (by omega) ?_ (fun i h v hv=>U5 c _ hv) ?_ (by simp)
 .intro L i h v hv;have hk:=U5 c l[i] hv;unfold RJ at hk ⊢;unfold ZJ ZH ZI;dsimp only;rw[A3 h,BW];simp only[A5 h,AF,AW,Gv,BV];cases h2:l[i].BQ==c<;>cases h3:inB l[i].A1 1 6<;>simp only[BW,BV,CE,BN,if_true,A4,if_false]
  grind[BP]
 grind[ZJ,sY,BV,AW]
theorem xU{l:List AJ}(hl:l.length<2 ^ 58)(c:Int):XA l c=some (IW l c):=by
 unfold XA;refine PJ (l:=l) (RJ c) (fun i n=>0<=n/\n<=6*i) some (by omega) ?_ (fun i h v hv=>U5 c _ hv) ?_ (by simp)
 .intro L i h v hv;have hk:=U5 c l[i] hv;unfold RJ at hk ⊢;unfold Zw Zu Zv;dsimp only;rw[A3 h,BW];simp only[A5 h,AF,AW,Fe,BV];cases h2:l[i].BQ==c<;>cases h3:inB l[i].A1 1 6<;>simp only[BW,BV,CE,BN,if_true,A4,if_false]
  grind[BP]
 grind[Zw,ta,BV,AW]
def eqE(x y:AQ):Bool:=x.Level==y.Level&&(x.Ai==y.Ai&&(x.Id==y.Id&&(x.A1==y.A1&&true)))
theorem nA(x y:AQ):eqE x y=true↔x=y:=by
 obtain⟨a,b,c,d⟩:=x;obtain⟨e,f,g,h⟩:=y;simp[eqE]
def eqP(x y:AY):Bool:=x.At==y.At&&(x.Id==y.Id&&true)
theorem nC(x y:AY):eqP x y=true↔x=y:=by
 obtain⟨a,b⟩:=x;obtain⟨c,d⟩:=y;simp[eqP]
theorem Uy{a b:List AQ}(hl:a.length<2 ^ 62):sP a b=some (Du eqE a b):=by
 unfold sP;refine MI (by omega) ?_ ?_
 .intro L i h h';unfold Y6;rw[A3 h,BW,A5 h,AF,A5 h',AF];rfl
 grind[Y6,sQ,BV,AW]
theorem XN{a b:List AQ}(hl:a.length<2 ^ 62):tF a b=some (Du eqE a b):=by
 unfold tF;refine MI (by omega) ?_ ?_
 .intro L i h h';unfold Zi;rw[A3 h,BW,A5 h,AF,A5 h',AF];rfl
 grind[Zi,tG,BV,AW]
theorem RD{a b:List AY}(hl:a.length<2 ^ 62):sU a b=some (Du eqP a b):=by
 unfold sU;refine MI (by omega) ?_ ?_
 .intro L i h h';unfold ZE;rw[A3 h,BW,A5 h,AF,A5 h',AF];rfl
 grind[ZE,sV,BV,AW]
theorem XO{a b:List AY}(hl:a.length<2 ^ 62):tX a b=some (Du eqP a b):=by
 unfold tX;refine MI (by omega) ?_ ?_
 .intro L i h h';unfold Zq;rw[A3 h,BW,A5 h,AF,A5 h',AF];rfl
 grind[Zq,tY,BV,AW]
end Lv.P
namespace Lv.P
open Go (IntKind BinOp UnOp)
def He{α:Type}(l:List α)(k:Nat)(p:α->Bool):Bool:=match l[k]? with|some x=>p x|none=>true
theorem By{α:Type}{l:List α}{k:Nat}(h:k<l.length)(p:α->Bool):He l k p=p l[k]:=by unfold He;rw[AU h]
theorem QA(i:Nat):decide ((i:Int)>0)=decide (0<i):=by rw[decide_eq_decide];omega
theorem KK{α:Type}(l:List α)(x:α):l.length+[x].length=l.length+1:=rfl
theorem OU{l:List AQ}(hl:l.length<2 ^ 62)(id:Int):jO l id=some (atF (fun x=>x.Id==id) l 0):=by
 grind[jO,NX,sG,A3,BW,A5,AF,sF,BV,AW]
theorem UJ{l:List AQ}(hl:l.length<2 ^ 62)(id:Int):jg l id=some (atF (fun x=>x.Id==id) l 0):=by
 unfold jg AKc
 grind[NX,AF,sy,AKb,A3,BW,A5,sx,BV,AW]
def AHI(e:AQ):Bool:=inB e.Level 0 4&&(inB e.Ai 1 1000000&&(inB e.Id 1 999&&inB e.A1 1 6))
def qAt(l:List AQ)(i:Nat):Bool:=
 He l i fun e=>AHI e&&((if 0<i then He l (i-1) (fun d=>ltE d e) else true)&&!(decide (atF (fun x=>x.Id==e.Id) (l.take i) 0>=0)))
def ID(l:List AQ):Bool:=!(decide ((l.length:Int)>10))&&Gq (qAt l) 0 l.length
theorem qP(l:List AQ)(hl:l.length<2 ^ 62):ADr l=some (ID l):=by
 unfold ADr ID;rw[H7 (n:=l.length) (E:=some true) (qAt l) (by omega) ?_ ?_,B7,CD,F3]
 .intro L i h;have hw:=Bd h (show l.length<2 ^ 63 by omega);unfold qAt;rw[By h];unfold Yv;rw[A3 h,BW,A5 h,AF];have hj3:∀b,O7 L i b=br (!b) (L ((i+1:Nat):Int)) (some false):=by intro b;unfold O7;rw[hw];cases b<;>rfl
  have hq:(atF (fun x=>x.Id==l[i].Id) l 0 != (i:Int))=decide (atF (fun x=>x.Id==l[i].Id) (l.take i) 0>=0):=by
   grind[rQ]
  have hj2:∀b,Mk l L i l[i] b=br (!b&&((if 0<i then He l (i-1) (fun d=>ltE d l[i]) else true)&&!(decide (atF (fun x=>x.Id==l[i].Id) (l.take i) 0>=0)))) (L ((i+1:Nat):Int)) (some false):=by
   intro b;unfold Mk;rw[QA];by_cases h0:0<i
   .rw[decide_eq_true h0,BW,if_pos h0,Hy i h0 (by omega),A5 (show i-1<l.length by omega),AF,Pw,AF,BI,OU hl,AF,AW,AW,hj3,hj3,hq,By (by omega)];cases b<;>cases ltE l[i-1] l[i]<;>rfl
   .rw[decide_eq_false h0,BV,if_neg h0,OU hl,AF,AW,hj3,hq];cases b<;>rfl
  unfold AHI;simp only[Gv,AF,AW,BI,hj2];generalize ((if 0<i then He l (i-1) (fun d=>ltE d l[i]) else true)&&!(decide (atF (fun x=>x.Id==l[i].Id) (l.take i) 0>=0)))=X;cases inB l[i].Level 0 4<;>cases inB l[i].Ai 1 1000000<;>cases inB l[i].Id 1 999<;>cases inB l[i].A1 1 6<;>rfl
 grind[Yv,sH,BV,AW]
theorem UL(l:List AQ)(hl:l.length<2 ^ 62):jh l=some (ID l):=by
 unfold jh ID;rw[H7 (n:=l.length) (E:=some true) (qAt l) (by omega) ?_ ?_,B7,CD,F3]
 .intro L i h;have hw:=Bd h (show l.length<2 ^ 63 by omega);unfold qAt;rw[By h];unfold ZV;rw[A3 h,BW,A5 h,AF];have hj3:∀b,Mn L i b=br (!b) (L ((i+1:Nat):Int)) (some false):=by intro b;unfold Mn;rw[hw];cases b<;>rfl
  have hj2:∀b,O8 L i l[i] b=br (!b&&AHI l[i]) (L ((i+1:Nat):Int)) (some false):=by
   intro b;unfold O8 AHI;have e4:w64 (5-1)=4:=by rw[BP]<;>omega
   simp only[Fe,XR,AF,AW,BI,hj3,e4];cases b<;>cases inB l[i].Level 0 4<;>cases inB l[i].Ai 1 1000000<;>cases inB l[i].Id 1 999<;>cases inB l[i].A1 1 6<;>rfl
  have hg:(0:Int)<=(i:Int)/\(i:Int)<=(l.length:Int):=by omega
  grind[QA,decide_eq_true,BW,Hy,A5,AF,PV,BI,DB,Int.toNat_natCast,UJ,List.length_take,AW,By,AHI,ltE,atF,decide_eq_false,BV]
 grind[ZV,sz,BV,AW]
theorem Py{l:List AQ}(hl:l.length<=lim):TR l=some l:=by
 unfold TR;rw[DB (by omega),B6]
theorem gi{l:List AQ}(hl:l.length+1<=lim)(e:AQ):Y1 l e=some (put ltE e l):=by
 have h3:∀i:Nat,i<=l.length->Y2 l e i=some (l.take i++e::l.drop i):=by
  grind[List.length_take,lim,KK,Y2,DB,Int.toNat_natCast,Py,AF,Cz]
 have hlim:lim=268435456:=rfl;unfold Y1;refine Po some (by omega) ?_ ?_
 .grind[Y3,TS,A3,BW,A5,AF,Pw,AW]
 grind[Y3,TS,BV,AW]
theorem SE{l:List AY}(hl:l.length+1<=lim)(e:AY):jV l e=some (put ltP e l):=by
 have h3:∀i:Nat,i<=l.length->Y7 l e i=some (l.take i++e::l.drop i):=by
  grind[List.length_take,Y7,DB,Int.toNat_natCast,KK]
 have hlim:lim=268435456:=rfl;unfold jV;refine Po some (by omega) ?_ ?_
 .grind[Y8,TT,A3,BW,A5,AF,Xe,AW]
 grind[Y8,TT,BV,AW]
def MH(r:AV)(cabin now:Int)(p:AJ):AA AQ:=if ((D4 r p now).2&&(p.AT==cabin))=true then some (D4 r p now).1 else none
def De(r:AV)(l:List AJ)(cabin now:Int):List AQ:=Cm ltE (l.filterMap (MH r cabin now))
theorem Ux{r:AV}(hr:r.AR.length<2 ^ 62){l:List AJ}(hl:l.length<=1048576)(c now:Int):jU r l c now=some (De r l c now):=by
 have hlim:lim=268435456:=rfl;have e0:w64 ((l.length:Int)-1)=(l.length:Int)-1-((0:Nat):Int):=by rw[BP (by omega) (by omega)];omega
 unfold jU De;rw[e0];refine(C5 (n:=l.length) (fun i (v:List AQ)=>(v,(l.length:Int)-1-(i:Int))) (fun i v=>v.length<=i) (fun i v=>some ((((l.take (l.length-i)).filterMap (MH r c now)).foldr (put ltE) v))) (by omega) ?_ (v:=[]) (by simp)).trans (by rw[Nat.sub_zero,List.take_length];rfl);intro L i v hv hi ih;unfold sO Y4 Y5;dsimp only;rcases Aj i l.length with h|h
 .obtain⟨k,hk⟩:∃k,l.length=i+(k+1):=⟨l.length-i-1,by omega⟩;have e1:(l.length:Int)-1-(i:Int)=(k:Int):=by omega
  have hkl:k<l.length:=by omega
  have e2:w64 ((k:Int)-1)=(l.length:Int)-1-((i+1:Nat):Int):=by rw[BP (by omega) (by omega)];omega
  have e3:l.take (l.length-i)=l.take (l.length-(i+1))++[l[k]]:=by
   rw[show l.length-i=k+1 by omega,show l.length-(i+1)=k by omega,CP,AU hkl];rfl
  rw[e1,Bl,if_pos (by omega)];simp only[A5 hkl,AF,Uw hr,Cz,qy,AW,BV];have key:(br (D4 r l[k] now).2 (br (l[k].AT==c) (bd (Y1 v (D4 r l[k] now).1) fun x9=>L (x9,w64 ((k:Int)-1))) (L (v,w64 ((k:Int)-1)))) (L (v,w64 ((k:Int)-1))))=some ((((l.take (l.length-i)).filterMap (MH r c now)).foldr (put ltE) v)):=by
   grind[gi,AF,MH,put,ltE,D4,BW,BV,Bool.false_eq_true,Em]
  exact key
 .obtain rfl:i=l.length:=by omega
  unfold sN;rw[Bl,if_neg (by omega),AW,DI];rfl
theorem iW{α β:Type}(f:α->AA β){l:List α}{i:Nat}(h:i<l.length):(l.take (i+1)).filterMap f=(l.take i).filterMap f++(f l[i]).toList:=by
 rw[CP,AU h,List.filterMap_append];congr 1
theorem iX{α β:Type}(f:α->AA β)(l:List α)(i:Nat):((l.take i).filterMap f).length<=i:=Nat.le_trans (List.length_filterMap_le _ _) (by rw[List.length_take];omega)
theorem collect{α β γ:Type}{l:List α}(f:α->AA β){F:(List β×Int->AA γ)->List β×Int->AA γ}(J:List β->AA γ)(hl:l.length<=1048576)
 (step:∀L i (h:i<l.length) v,v.length<=i->F L (v,(i:Int))=L (v++(f l[i]).toList,w64 ((i:Int)+1))) (stop:∀L v,F L (v,(l.length:Int))=J v):Aw F big ([],0)=J (l.filterMap f):=by
 refine(C5 (n:=l.length) (fun i (v:List β)=>(v,(i:Int))) (fun i v=>v=(l.take i).filterMap f) (fun i v=>J (l.filterMap f)) (by omega) ?_ (by simp));intro L i v hv hi ih;rcases Aj i l.length with h|h
 .rw[step L i h v (by rw[hv];exact iX _ _ _),Bd h (by omega)];exact ih _ (by rw[hv,iW f h]) h
 grind[List.take_length]
theorem jL(c:Int):∀(l:List AJ) (n:Int),l.foldl (Jr c) n=n+(l.countP fun p=>p.AT==c)
 | [],n=>by simp|p::l,n=>by
  rw[BU,jL c l,List.countP_cons]
  grind[Jr]
theorem Xv{β:Type}(f:AJ->AA β)(c:Int)(hf:∀p,(p.AT==c)=false->f p=none):∀l:List AJ,((l.filterMap f).length:Int)<=Cr l c:=by
 intro l;unfold Cr;rw[jL,Int.zero_add]
 induction l with
 |nil=>simp|cons p l ih=>
  grind
theorem UK{r:AV}(hr:r.AR.length<2 ^ 62){l:List AJ}(hl:l.length<=1048576){c:Int}(hc:Cr l c<=19)(now:Int):jv r l c now=some (De r l c now):=by
 have hlim:lim=268435456:=rfl;have hn:=Xv (MH r c now) c (by intro p h;unfold MH;rw[h,Ci];rfl) l;unfold jv De;rw[collect (l:=l) (MH r c now) Zg hl ?_ ?_]
 .unfold Zg;rw[ARS (by omega),AF]
 .intro L i h v hv;unfold Zh Ze Zf MH;dsimp only;rw[A3 h,BW,A5 h,AF,N3 hr,AF,AW,AW,DB (by rw[KK];omega),AW,AW];cases h1:(D4 r l[i] now).2<;>cases h2:l[i].AT==c<;>simp
 grind[Zh,BV,AW]
def OK(cabin:Int)(p:AJ):AA AY:=if ((p.State==2)&&(p.AT==cabin))=true then some ⟨p.CB,p.Id⟩ else none
def GG(l:List AJ)(cabin:Int):List AY:=Cm ltP (l.filterMap (OK cabin))
theorem yh{l:List AJ}(hl:l.length<=1048576)(c:Int):sS l c=some (GG l c):=by
 have hlim:lim=268435456:=rfl;unfold sS GG;rw[PJ (l:=l) (fun v p=>match OK c p with|some x=>put ltP x v|none=>v) (fun i v=>v.length<=i) some (by omega) ?_ ?_ ?_ (by simp),<-WM ED UQ]
 .congr 1;generalize ([]:List AY)=a;clear hl
  induction l generalizing a with
  |nil=>rfl|cons p l ih=>
   rw[BU,ih,List.filterMap_cons];cases OK c p<;>rfl
 .intro L i h v hv;unfold ZD ZB ZC OK;dsimp only;rw[A3 h,BW];simp only[A5 h,AF,AW,BV,SE (show v.length+1<=lim by omega)];cases h1:l[i].State==2<;>cases h2:l[i].AT==c<;>rfl
 .grind[Em]
 grind[ZD,sT,BV,AW]
theorem xT{l:List AJ}(hl:l.length<=1048576){c:Int}(hc:Cr l c<=19):tW l c=some (GG l c):=by
 have hlim:lim=268435456:=rfl;have hn:=Xv (OK c) c (by intro p h;unfold OK;rw[h,Ci];rfl) l;unfold tW GG;rw[collect (l:=l) (OK c) Zo hl ?_ ?_]
 .unfold Zo;rw[ART (by omega),AF]
 .intro L i h v hv;unfold Zp Zm Zn OK;dsimp only;rw[A3 h,BW,A5 h,AF,AW,AW,DB (by rw[KK];omega),AW,AW];cases h1:l[i].State==2<;>cases h2:l[i].AT==c<;>simp
 grind[Zp,BV,AW]
end Lv.P
