/- Plain laws about what the program computes. -/
import Derived.Test.YtknihindefnhcaaGreatKA
set_option linter.all false
noncomputable section
open Bool renaming and_eq_true->AD,and_false->D3,and_true->Ce,eq_iff_iff->I3,false_and->Bv,false_eq_true->BP,not_eq_false->FF,not_eq_true->Es,not_eq_true'->BE,not_false->Ei,not_not->Ee,not_true->B5,true_and->Co
open Int renaming eq_ofNat_of_zero_le->AX,ofNat_inj->Nj,tdiv_eq_ediv_of_nonneg->Hr,tmod_eq_emod_of_nonneg->EY,toNat_natCast->Ah
open List renaming append_assoc->BF,append_eq_nil_iff->Ix,append_inj->EM,append_nil->CO,cons_append->A8,drop_drop->DD,drop_eq_getElem_cons->Fp,drop_eq_nil_iff->HA,drop_eq_nil_of_le->A9,drop_left->Ej,drop_left'->C4,drop_length->Cx,drop_zero->CX,flatMap_cons->CV,foldl_cons->Bu,foldr_cons->ME,getElem?_cons_zero->AN,getElem?_drop->Bw,getElem?_eq_getElem->AU,getElem?_eq_none->Du,getElem_mem->Aw,getElem_of_mem->HX,length_append->AH,length_cons->AK,length_drop->BD,length_nil->AT,length_set->An,length_singleton->Cf,length_take->Ag,map_cons->AJ,mem_append->Br,mem_cons->Ae,mem_cons_of_mem->Am,mem_cons_self->BQ,mem_flatten->FV,nil_append->Az,pairwise_cons->Bn,pairwise_iff_getElem->Cq,take_add_one->Cg,take_left'->Ci,take_length->Cd,take_of_length_le->BH,take_prefix->Dm
open List.cons renaming injEq->B3
open Nat renaming add_assoc->CW,add_sub_cancel->Cl,add_zero->DV,div_lt_iff_lt_mul->C9,le_refl->Aj,le_trans->Ax,lt_or_ge->AV,mod_eq_of_lt->Ll,mul_le_mul_right->Ap,pow_le_pow_right->HE,pow_succ->IX,sub_self->E7,sub_zero->Fu,xor_lt_two_pow->Dr,zero_add->A1
open Option.some renaming injEq->AE
open Prod.mk renaming injEq->BC
namespace Lv.P
open Lv Go
variable{w:A2}{h:AF}{r:Ad}{e:Ai}{c:Ak}{x:BY}{q q':Bo}{a m:Int}{b d s:List UInt8}{i k n:Nat}{o β u p f:Type}{l:List o}{cmp:o->o->AA Int}
theorem WR{n:Int}(a:-9223372036854775808<=n)(c:n<9223372036854775808):IntKind.i64.wrap n=n:=by simp only[IntKind.wrap,IntKind.bits,IntKind.signed];simp;omega
theorem A6{n:Int}(a:-9223372036854775808<=n:=by omega)(c:n<9223372036854775808:=by omega):w64 n=n:=WR a c
theorem Gk:lim=268435456:=rfl
theorem ifN{o:Type}{c:Prop} [Decidable c] {a b:o} (h:¬c:=by omega):(if c then a else b)=b:=Aa h
theorem ifP{o:Type}{c:Prop} [Decidable c] {a b:o} (h:c:=by omega):(if c then a else b)=a:=AY h
theorem AVu{n:Int}(a:0<=n)(c:n<256):IntKind.u8.wrap n=n:=by simp only[IntKind.wrap,IntKind.bits,IntKind.signed];simp;omega
theorem AK8(h:n<256):toB (n:Int)=UInt8.ofNat n:=by unfold toB;rw[AVu (by omega) (by omega)];rfl
@[simp] theorem LQ{o:Type}(l:List o)(i:Nat):at? l (i:Int)=l[i]?:=by simp[at?]
@[simp] theorem YE{o:Type}(l:List o):at? l 0=l[0]?:=by simp[at?]
theorem FM(k:Nat)(h:k<2 ^ 64):k<big:=by have:=Pf;omega
theorem Rb(k:Nat)(h:k<2 ^ 64):∃n,big=n+1+k:=⟨big-1-k,by have:=Pf;omega⟩
section
variable{p u:Type}
theorem ADW{F:(p->AA u)->p->AA u}(R:p->AA u)(I:p->Prop)(b:p->Nat)
 (step:∀(L:p->AA u) x,I x->(∀y,I y->b y<b x->L y=R y)->F L x=R x):∀n x,I x->b x<n->BK F n x=R x
 |0,x,_,h=>by omega|n+1,x,hI,e=>by rw[ED];exact step _ x hI λy a c=>ADW R I b step n y a (by omega)
theorem cY{F:(p->AA u)->p->AA u}(R:p->AA u)(I:p->Prop)(b:p->Nat)
 (step:∀(L:p->AA u) x,I x->(∀y,I y->b y<b x->L y=R y)->F L x=R x) {x:p} (hI:I x) (a:b x<2 ^ 64):BK F big x=R x:=
 ADW R I b step big x hI (FM _ a)
end
section
variable{o u:Type}
@[simp] theorem CB(x y:AA u):br true x y=x:=rfl
@[simp] theorem CI(x y:AA u):br false x y=y:=rfl
@[simp] theorem BV(p:Prop) [Decidable p] (x y:AA u):br (decide p) x y=if p then x else y:=by unfold br;by_cases h:p<;>simp[h]
@[simp] theorem BW(b:Bool)(x y:AA u):br (!b) x y=br b y x:=by cases b<;>rfl
@[simp] theorem AB(a:o)(f:o->AA u):bd (some a) f=f a:=by rw[uj];rfl
@[simp] theorem AWD(f:o->AA u):bd none f=none:=by rw[uj];rfl
@[simp] theorem AW(F:o->AA u)(x:o):jn F x=F x:=AS4 F x
theorem DX{p:Prop} [Decidable p] {x:AA u} (h:p:=by first|omega|(unfold lim;omega)|(unfold QL;omega)|(simp only[AK,AT,AH]at *;first|omega|(unfold lim;omega)|(unfold QL;omega))|(simp;omega)):gd p x=x:=by rw[AFK,AY h]
theorem D2{p:Prop} [Decidable p] (h:p) (x:AA u):gd p x=x:=by rw[AFK,AY h]
theorem brT{p:Prop} [Decidable p] {x y:AA u} (h:p:=by omega):br (decide p) x y=x:=by rw[decide_eq_true h,CB]
theorem brF{p:Prop} [Decidable p] {x y:AA u} (h:¬p:=by omega):br (decide p) x y=y:=by rw[decide_eq_false h,CI]
theorem brJ{F:o->AA u}{a:o}{x:AA u}:br false x (jn F a)=F a:=AW F a
theorem bFJ{p:Prop} [Decidable p] {F:o->AA u} {a:o} {x:AA u} (h:¬p:=by omega):br (decide p) x (jn F a)=F a:=by rw[decide_eq_false h];exact AW F a
theorem bnT{i n:Nat}{x y:AA u}(h:i<n):br (decide ((i:Int)<(n:Int))) x y=x:=brT
theorem bnJ{n:Nat}{F:o->AA u}{a:o}{x:AA u}:br (decide ((n:Int)<(n:Int))) x (jn F a)=F a:=bFJ
theorem Be(b:Bool)(x y:AA u):br b x y=if b=true then x else y:=rfl
end
theorem Dl{F:(f->AA u)->f->AA u}(st:Nat->p->f)(I:Nat->p->Prop)(R:Nat->p->AA u)(B:n<2 ^ 63)
 (step:∀L i v,I i v->i<=n->(∀a,I (i+1) a->i<n->L (st (i+1) a)=R (i+1) a)->F L (st i v)=R i v) {v:p} (c:I 0 v):BK F big (st 0 v)=R 0 v:=by
 have key:∀(m i k:Nat) (v:p),i+m=n->m<k->I i v->BK F k (st i v)=R i v:=by
  intro m;induction m with
  |zero=>intro i k v hi q h;obtain⟨k,rfl⟩:∃j,k=j+1:=⟨k-1,by omega⟩;rw[ED];exact step _ i v h (by omega) λa _ g=>by omega
  |succ m y=>intro i k v hi q h;obtain⟨k,rfl⟩:∃j,k=j+1:=⟨k-1,by omega⟩;rw[ED];exact step _ i v h (by omega) λa e g=>y (i+1) k a (by omega) (by omega) e
 exact key n 0 big v (by omega) (FM _ (by omega)) c
theorem BT(h:i<l.length):at? l (i:Int)=some l[i]:=by rw[LQ,AU h]
theorem dec_lt{l:Nat}:decide ((i:Int)<(l:Int))=decide (i<l):=by rw[decide_eq_decide];omega
theorem Bh(h:i<n)(a:n<2 ^ 63:=by omega):w64 ((i:Int)+1)=((i+1:Nat):Int):=by rw[A6];rfl
theorem D4(h:i<l.length):l.drop i=l[i]::l.drop (i+1):=Fp h
theorem Lf{p u:Type}{F:(p->AA u)->p->AA u}(I:p->Prop)(b:p->Nat)(Q:u->Prop)
 (step:∀(L:p->AA u) x,I x->(∀y,I y->b y<b x->∃r,L y=some r/\Q r)->∃r,F L x=some r/\Q r):∀n x,I x->b x<n->∃r,BK F n x=some r/\Q r
 |0,x,_,h=>by omega|n+1,x,hI,e=>by rw[ED];exact step _ x hI λy a c=>Lf I b Q step n y a (by omega)
theorem H4{F:(f->AA u)->f->AA u}(st:Nat->p->f)(I:Nat->p->Prop)(Q:u->Prop)(B:n<2 ^ 63)
 (step:∀L i v,I i v->i<=n->(∀a,I (i+1) a->i<n->∃r,L (st (i+1) a)=some r/\Q r)->∃r,F L (st i v)=some r/\Q r) {v:p} (c:I 0 v):∃r,BK F big (st 0 v)=some r/\Q r:=by
 have key:∀(m i k:Nat) (v:p),i+m=n->m<k->I i v->∃r,BK F k (st i v)=some r/\Q r:=by
  intro m;induction m with
  |zero=>intro i k v hi q h;obtain⟨k,rfl⟩:∃j,k=j+1:=⟨k-1,by omega⟩;rw[ED];exact step _ i v h (by omega) λa _ g=>by omega
  |succ m y=>intro i k v hi q h;obtain⟨k,rfl⟩:∃j,k=j+1:=⟨k-1,by omega⟩;rw[ED];exact step _ i v h (by omega) λa e g=>y (i+1) k a (by omega) (by omega) e
 exact key n 0 big v (by omega) (FM _ (by omega)) c
def inB(a b c:Int):Bool:=decide (b<=a/\a<=c)
theorem B6{b c:Int}:inB a b c=true↔b<=a/\a<=c:=by grind[inB]
theorem Db(a b c:Int):C3 a b c=some (inB a b c):=by grind[C3,Au,inB,BV,AW]
theorem Zk(a b:Int):Og a b=some (inB a 0 (w64 (b-1))):=by unfold Og;rw[Db,AB]
theorem DE(a b:Bool):br a (some b) (some false)=some (a&&b):=by cases a<;>rfl
theorem AHw(a b:Bool):br a (some true) (some b)=some (a||b):=by cases a<;>rfl
theorem Ia(a b:Bool):br a (some false) (some b)=some (!a&&b):=by cases a<;>rfl
theorem YH(a:Bool)(x:AA u):br a x x=x:=by cases a<;>rfl
def Jt(p:Nat->Bool):Nat->Nat->Bool|_,0=>true|i,m+1=>p i&&Jt p (i+1) m
theorem ADx{p:Nat->Bool}:∀{m i:Nat},Jt p i m=true↔∀k,i<=k->k<i+m->p k=true
 |0,i=>by simp[Jt];omega|m+1,i=>by unfold Jt;rw[AD,ADx];grind
theorem LM{p:Nat->Bool}:Jt p 0 n=true↔∀k,k<n->p k=true:=by grind[ADx]
theorem LX{F:(Int->AA Bool)->Int->AA Bool}{E:AA Bool}(p:Nat->Bool)(a:n<2 ^ 63)
 (step:∀L (i:Nat),i<n->F L (i:Int)=br (p i) (L ((i+1:Nat):Int)) (some false)) (stop:∀L,F L (n:Int)=E):BK F big 0=br (Jt p 0 n) E (some false):=by
 have:=Dl (F:=F) (n:=n) (λi (_:Unit)=>(i:Int)) (λ_ _=>True) (λi _=>br (Jt p i (n-i)) E (some false)) a ?_ (v:=()) trivial;exact this;intro L i v _ hi c;rcases AV i n with h|h;rw[step L i h,c () trivial h,show n-i=(n-(i+1))+1 by omega,show Jt p i (n-(i+1)+1)=(p i&&Jt p (i+1) (n-(i+1))) from rfl];cases p i<;>rfl;obtain rfl:i=n:=by omega
 rw[stop,E7];rfl
theorem AOL(l:List o)(p:o->Bool)(q:Nat->Bool)(h:∀k (a:k<l.length),q k=p l[k]):Jt q 0 l.length=l.all p:=by grind[LM,List.getElem_of_mem]
theorem S6(h:i<n):decide ((i:Int)<(n:Int))=true:=by rw[decide_eq_true_iff];omega
theorem gP(n:Nat):decide ((n:Int)<(n:Int))=false:=by rw[decide_eq_false_iff_not];omega
theorem qN{F:(Int->AA Bool)->Int->AA Bool}{E:AA Bool}(p:o->Bool)(a:l.length<2 ^ 63)
 (step:∀L (i:Nat) (h:i<l.length),F L (i:Int)=br (p l[i]) (L (w64 ((i:Int)+1))) (some false)) (stop:∀L,F L (l.length:Int)=E):BK F big 0=br (l.all p) E (some false):=by have:=LX (F:=F) (n:=l.length) (E:=E) (λi=>match l[i]? with|some x=>p x|none=>true) a ?_ stop;grind[AOL];intro L i h;rw[step L i h,Bh h a];simp[h]
def EG(r:Ad):Bool:=inB r.AZ.length 1 4&&(inB r.Cj 1 5&&(inB r.Room 1 10&&(inB r.BL 1 6&&(inB r.Ca 1 12&&(r.AZ.all (λx=>inB x 1 60)&&(inB r.CD 1 8&&(inB r.Rest 0 8&&(inB r.Cr 1 4&&inB r.Da 1 3))))))))
theorem JM(c:r.AZ.length<2 ^ 62):vG r=some (EG r):=by
 have a:∀b,Sz r b=some (!b&&(r.AZ.all (λx=>inB x 1 60)&&(inB r.CD 1 8&&(inB r.Rest 0 8&&(inB r.Cr 1 4&&inB r.Da 1 3))))):=by intro b;unfold Sz;rw[qN (l:=r.AZ) (λx=>inB x 1 60) (E:=some (inB r.CD 1 8&&(inB r.Rest 0 8&&(inB r.Cr 1 4&&inB r.Da 1 3)))) (by omega) ?_ ?_,DE,Ia];intro L i h;unfold vH;rw[bnT h,BT h,AB,Db,AB,BW];intro L;unfold vH AII Au;rw[gP,CI];simp only[AW,Db,AB,DE]
 unfold vG;simp only[Db,AB,BW,AW,a,B5,Bv,DE,Ee];rfl
theorem JD(a:r.AZ.length<2 ^ 62):dn r=some (EG r):=by unfold dn;rw[Db,AB,BW];rw[qN (l:=r.AZ) (λx=>inB x 1 60) (E:=some (inB r.Cj 1 5&&(inB r.Room 1 10&&(inB r.BL 1 6&&(inB r.Ca 1 12&&(inB r.CD 1 8&&(inB r.Cr 1 4&&(inB r.Da 1 3&&inB r.Rest 0 8)))))))) (by omega) ?_ ?_,DE,DE];unfold EG;congr 1;ac_rfl;intro L i h;unfold iZ;rw[bnT h,BT h,AB,Db,AB,BW];intro L;unfold iZ AA5 Au;rw[gP,CI];simp only[AW,Db,AB,DE]
theorem CU(h:EG r=true):(1<=r.AZ.length/\r.AZ.length<=4)/\(1<=r.Cj/\r.Cj<=5)/\(1<=r.Room/\r.Room<=10)/\(1<=r.BL/\r.BL<=6)/\(1<=r.Ca/\r.Ca<=12)/\(∀x∈r.AZ,1<=x/\x<=60)/\(1<=r.CD/\r.CD<=8)/\(0<=r.Rest/\r.Rest<=8)/\(1<=r.Cr/\r.Cr<=4)/\(1<=r.Da/\r.Da<=3):=by grind[EG,B6]
def EE(r:Ad)(p:AR)(now:Int):Bool:=
 EG r&&(inB now 0 1000000&&(inB p.Id 1 999&&(inB p.Ab 0 (w64 ((r.AZ.length:Int)-1))&&(inB p.Bs (-1) (w64 ((r.AZ.length:Int)-1))&&(!(p.Bs==p.Ab)&&(inB p.BL 1 r.BL&&(inB p.DH 0 (w64 (r.Cj-1))&&(inB p.Since 0 now&&(inB p.A3 1 1000000&&(inB p.De 0 (w64 (r.Cr-1))&&(((p.State==1)&&inB p.DK 0 (w64 (now+r.Rest)))||((p.State==2)&&inB p.DK 1 (w64 (now+r.CD))))))))))))))
theorem O6(e:r.AZ.length<2 ^ 62)(p:AR)(now:Int):AFA r p now=some (EE r p now):=by
 have c:∀b,Jf r p now b=some (!b&&(((p.State==1)&&inB p.DK 0 (w64 (now+r.Rest)))||((p.State==2)&&inB p.DK 1 (w64 (now+r.CD))))):=by intro b;unfold Jf Au;simp only[Db,AB,AW,DE,AHw];cases p.State==1<;>cases b<;>rfl
 have a:∀b,Qh r p now b=some (!b&&(inB p.BL 1 r.BL&&(inB p.DH 0 (w64 (r.Cj-1))&&(inB p.Since 0 now&&(inB p.A3 1 1000000&&(inB p.De 0 (w64 (r.Cr-1))&&(((p.State==1)&&inB p.DK 0 (w64 (now+r.Rest)))||((p.State==2)&&inB p.DK 1 (w64 (now+r.CD)))))))))):=by intro b;unfold Qh;simp only[Db,AB,AW,BW,c,B5,Bv,DE,Ia,Ee]
 unfold AFA;simp only[JM e,Db,AB,AW,BW,a,B5,Bv,DE];rfl
theorem Oy(e:r.AZ.length<2 ^ 62)(p:AR)(now:Int):ib r p now=some (EE r p now):=by
 have c:∀b,Jf r p now b=some (!b&&(((p.State==1)&&inB p.DK 0 (w64 (now+r.Rest)))||((p.State==2)&&inB p.DK 1 (w64 (now+r.CD))))):=by intro b;unfold Jf Au;simp only[Db,AB,AW,DE,AHw];cases p.State==1<;>cases b<;>rfl
 have a:∀b,No r p now b=some (!b&&(inB p.BL 1 r.BL&&(inB p.DH 0 (w64 (r.Cj-1))&&(inB p.Since 0 now&&(inB p.A3 1 1000000&&(inB p.De 0 (w64 (r.Cr-1))&&(((p.State==1)&&inB p.DK 0 (w64 (now+r.Rest)))||((p.State==2)&&inB p.DK 1 (w64 (now+r.CD)))))))))):=by intro b;unfold No;simp only[Db,Zk,AB,AW,BW,c,B5,Bv,DE,Ia,Ee]
 unfold ib;simp only[JD e,Db,Zk,AB,AW,BW,a,B5,Bv,DE];rfl
def cW(r:Ad)(tier waited:Int):Int:=if 0>w64 (tier-w64 (waited.tdiv r.Ca)) then 0 else w64 (tier-w64 (waited.tdiv r.Ca))
theorem N6(a b:Int):Pu a b=some (if a>b then a else b):=by unfold Pu;rw[BV];split<;>rfl
theorem zy(a:r.Ca≠0)(t w:Int):AWU r t w=some (cW r t w):=by unfold AWU;rw[D2 a,N6,AB];rfl
theorem tG(r:Ad)(t w:Int):0<=cW r t w:=by unfold cW;split<;>omega
theorem Fc{p:AR}{now:Int}(h:EE r p now=true):EG r=true/\(0<=now/\now<=1000000)/\(1<=p.Id/\p.Id<=999)/\(0<=p.Ab/\p.Ab<=r.AZ.length-1)/\(-1<=p.Bs/\p.Bs<=r.AZ.length-1)/\p.Bs≠p.Ab/\(1<=p.BL/\p.BL<=r.BL)/\(0<=p.DH/\p.DH<=r.Cj-1)/\(0<=p.Since/\p.Since<=now)/\(1<=p.A3/\p.A3<=1000000)/\(0<=p.De/\p.De<=r.Cr-1)/\(p.State=1/\0<=p.DK/\p.DK<=now+r.Rest\/p.State=2/\1<=p.DK/\p.DK<=now+r.CD):=by grind[EE,B6,CU,A6]
def Jh(r:Ad)(p:AR)(now:Int):Int:=if EE r p now=true then cW r p.DH (w64 (now-p.Since)) else -1
theorem zn(a:r.AZ.length<2 ^ 62)(p:AR)(now:Int):AWV r p now=some (Jh r p now):=by unfold AWV Jh;rw[O6 a,AB,BW,Be];split;rename_i h;have:=(CU (Fc h).1).2.2.2.2.1;rw[zy (by omega),AB];rfl
theorem yO(c:r.AZ.length<2 ^ 62)(p:AR)(now:Int):AIK r p now=some (Jh r p now):=by
 unfold AIK Jh;rw[Oy c,AB,BW,Be];split;rename_i h;have a:=Fc h;have j:=CU a.1;unfold AOm YQ M2;rw[JD c,a.1,AB,BW,CB,Zk,AB,BW];have e:inB p.DH 0 (w64 (r.Cj-1))=true:=by rw[B6,A6];omega
 have g:decide (w64 (now-p.Since)<0)=false:=by rw[A6];simp;omega
 rw[e,CB,AW,g,CI,DX,AB,AY rfl];grind[cW];rfl
def Fh(r:Ad)(p:AR)(now:Int):Ar×Bool:=if EE r p now=true/\p.State=1 then ({p with Level:=Jh r p now},true) else (⟨0,0,0,0⟩,false)
theorem aS(a:r.AZ.length<2 ^ 62)(p:AR)(now:Int):ALl r p now=some (Fh r p now):=by unfold ALl vT Fh;rw[zn a,AB,BV,AW,AW,CB];by_cases h:EE r p now=true;have:=tG r p.DH (w64 (now-p.Since));grind[Jh,Be];grind[Jh]
theorem Ox(a:r.AZ.length<2 ^ 62)(p:AR)(now:Int):qZ r p now=some (Fh r p now):=by grind[qZ,ik,Fh,Oy,AB,Be,AW,yO]
def Fi(l:BO):Bool:=inB l.Total 1 60&&(inB l.Et 0 l.Total&&(inB l.FU 0 l.Total&&(inB l.Ge 0 l.Total&&((w64 (w64 (l.Et+l.FU)+l.Ge)==l.Total)&&inB l.Gm 0 l.Ge))))
theorem Fo(l:BO):RD l=some (Fi l):=by unfold RD Au Fi;simp only[Db,AB,AW,DE]
def Eu(a:Bp):Bool:=decide ((a.Data.length:Int)<=20000)&&inB a.Safe 0 a.Data.length
theorem Dw(a:Bp):Rg a=some (Eu a):=by unfold Rg Au Eu;simp only[Db,AB,AW,DE]
def Ek(s:BY):Bool:=Eu s.Log&&(Eu s.DR&&Eu s.Odd)
theorem O9(s:BY):vC s=some (Ek s):=by unfold vC Au Ek;simp only[Dw,AB,AW,DE]
section
variable{o:Type}(lt:o->o->Bool)
def put(x:o):List o->List o| []=>[x]|z::l=>if lt z x=true then z::put x l else x::z::l
def ins(x:o):List o->List o| []=>[x]|z::l=>if lt x z=true then x::z::l else z::ins x l
structure Swo:Prop where
 uf:∀a b,lt a b=true->lt b a=false
 neg:∀a b c,lt a c=true->lt a b=true\/lt b c=true
def Dv(l:List o):List o:=l.foldr (put lt) []
variable {lt}
theorem Swo.trans(h:Swo lt){a b c:o}(g:lt a b=true)(j:lt b c=true):lt a c=true:=by rcases h.neg a c b g with e|e;exact e;rw[h.uf _ _ j]at e;cases e
theorem AKW(h:Swo lt)(x y:o):∀l,ins lt x (put lt y l)=put lt y (ins lt x l)
 | []=>by simp only[put,ins]|z::l=>by
  cases c:lt z y with
  |true=>
   cases a:lt x z with
   |true=>simp only[put,ins,c,a,h.trans a c,if_true]|false=>simp[put,ins,c,a,AKW h x y l]
  |false=>
   cases a:lt x y with
   |true=>have e:lt x z=true:=(h.neg x z y a).resolve_right (by simp[c]);simp[put,ins,c,a,e]
   |false=>grind[put,ins]
theorem zP(h:Swo lt)(j:∀a b,lt a b=false->lt b a=false->a=b)(x y:o):∀l,put lt x (put lt y l)=put lt y (put lt x l)
 | []=>by
  simp only[put];cases c:lt y x with
  |true=>simp[h.uf _ _ c]|false=>
   cases e:lt x y with
   |true=>simp|false=>simp[j _ _ c e]
 |z::l=>by
  cases c:lt z y with
  |true=>
   cases e:lt z x with
   |true=>simp only[put,c,e,if_true];rw[zP h j x y l]|false=>have g:lt x y=true:=(h.neg z x y c).resolve_left (by simp[e]);simp[put,c,e,g]
  |false=>
   cases e:lt z x with
   |true=>have g:lt y x=true:=(h.neg z y x e).resolve_left (by simp[c]);simp[put,c,e,g]
   |false=>
    cases g:lt y x with
    |true=>simp[put,c,e,g,h.uf _ _ g]|false=>
     cases q:lt x y with
     |true=>simp[put,c,e,g,q]|false=>simp[j _ _ g q]
theorem sW(h:Swo lt):∀(l acc:List o) (a:o),l.foldl (λs x=>ins lt x s) (put lt a acc)=put lt a (l.foldl (λs x=>ins lt x s) acc)| [],_,_=>rfl|x::l,acc,a=>by rw[Bu,AKW h,sW h l,Bu]
theorem s6(h:Swo lt):∀l:List o,l.foldl (λs x=>ins lt x s) []=Dv lt l
 | []=>rfl|a::l=>by rw[Bu,show ins lt a []=put lt a [] from rfl,sW h,s6 h l];rfl
theorem sX(h:Swo lt)(c:∀a b,lt a b=false->lt b a=false->a=b):∀(l acc:List o) (a:o),l.foldl (λs x=>put lt x s) (put lt a acc)=put lt a (l.foldl (λs x=>put lt x s) acc)| [],_,_=>rfl|x::l,acc,a=>by rw[Bu,zP h c,sX h c l,Bu]
theorem cR(h:Swo lt)(c:∀a b,lt a b=false->lt b a=false->a=b):∀l:List o,l.foldl (λs x=>put lt x s) []=Dv lt l| []=>rfl|a::l=>by rw[Bu,sX h c,cR h c l];rfl
theorem GU(x:o):∀l,(put lt x l).length=l.length+1| []=>rfl|z::l=>by unfold put;split<;>simp[GU x l]
theorem AKT(x:o):∀l,(ins lt x l).length=l.length+1| []=>rfl|z::l=>by unfold ins;split<;>simp[AKT x l]
theorem Ir:∀l:List o,(Dv lt l).length=l.length
 | []=>rfl|a::l=>by have:=Ir l;unfold Dv at this ⊢;rw[ME,GU,this];rfl
theorem WE{x a:o}:∀{l},a∈put lt x l↔a=x\/a∈l
 | []=>by simp[put]|z::l=>by unfold put;split;rw[Ae,WE,Ae];grind;simp
theorem AKU{x a:o}:∀{l},a∈ins lt x l↔a=x\/a∈l
 | []=>by simp[ins]|z::l=>by unfold ins;split;simp;rw[Ae,AKU,Ae];grind
theorem SG{a:o}:∀{l:List o},a∈Dv lt l↔a∈l
 | []=>by simp[Dv]|z::l=>by have:=SG (a:=a) (l:=l);unfold Dv at this ⊢;rw[ME,WE,this,Ae]
def Srt(lt:o->o->Bool)(l:List o):Prop:=l.Pairwise λa b=>lt b a=false
theorem AKX(h:Swo lt)(x:o):∀l,Srt lt l->Srt lt (ins lt x l)
 | [],_=>by simp[ins,Srt]|z::l,a=>by
  unfold Srt at a;rw[Bn]at a;unfold ins Srt;split;rename_i g;rw[Bn,Bn];refine⟨?_,a⟩;intro b c;rcases Ae.1 c with rfl|c;exact h.uf _ _ g;cases e:lt b x with|false=>rfl|true=>exact absurd (h.trans e g) (by simp[a.1 b c])
  rename_i g;rw[Bn];refine⟨?_,AKX h x l a.2⟩;grind[AKU]
theorem cO{x:o}{e:List o}(h:∀b∈e,lt x b=true):∀{s1:List o},(∀a∈s1,lt x a=false)->ins lt x (s1++e)=s1++x::e
 | [],_=>by
  cases e with
  |nil=>rfl|cons b s=>unfold ins;rw[Az];simp[h b BQ]
 |a::s1,g=>by rw[A8];unfold ins;rw[g a BQ,Aa (by simp),cO h λc j=>g c (Am _ j)];rfl
theorem cM{u:Type}(h:Swo lt){G:(List o×Int->AA u)->List o×Int->AA u}{E:List o->AA u}{x:o}{r:List o}{M:Nat}
 (I:∀L t z w,t.length<M->lt x z=true->G L (t++z::x::w,((t.length+1:Nat):Int))=L (t++x::z::w,(t.length:Int)))
 (J:∀L t z w,t.length<M->lt x z=false->G L (t++z::x::w,((t.length+1:Nat):Int))=E (t++z::x::w)) (O:∀L w,G L (x::w,0)=E (x::w)) :
 ∀(k N:Nat) (s1 c:List o),s1.length=k->k<=M->k<N->(∀b∈c,lt x b=true)->Srt lt s1->BK G N (s1++x::(c++r),(k:Int))=E (ins lt x (s1++c)++r)
 |k,0,s1,c,q,hM,hN,y,j=>by omega|0,N+1,s1,c,q,hM,hN,y,j=>by obtain rfl:=List.eq_nil_of_length_eq_zero q;rw[ED,Az,cO (s1:=[]) y (by simp)];exact O _ _
 |k+1,N+1,s1,c,q,hM,hN,y,j=>by
  rcases List.eq_nil_or_concat s1 with rfl|⟨t,z,rfl⟩;simp at q;simp only[List.concat_eq_append]at q j ⊢;have X:t.length=k:=by simpa using q
  have S:Srt lt t/\∀a∈t,lt z a=false:=by unfold Srt at j ⊢;rw[List.pairwise_append]at j;exact⟨j.1,λa g=>j.2.2 a g z (by simp)⟩
  rw[ED];subst X;cases H:lt x z with
  |true=>
   have e:t++[z]++x::(c++r)=t++z::x::(c++r):=by simp
   rw[e,I _ _ _ _ (by omega) H];have:=cM (r:=r) h I J O t.length N t (z::c) rfl (by omega) (by omega) (by simpa[H] using y) S.1;rw[A8]at this;rw[this];simp
  |false=>
   have e:t++[z]++x::(c++r)=t++z::x::(c++r):=by simp
   rw[e,J _ _ _ _ (by omega) H,cO y ?_];simp;intro a g;rw[Br]at g;rcases g with g|g;cases e:lt x a with
   |false=>rfl|true=>rcases h.neg x z a e with B|B;rw[H]at B;cases B;rw[S.2 a g]at B;cases B
   rw[List.mem_singleton]at g;subst g;exact H
theorem s5(h:Swo lt){F:(List o×Int->AA (List o))->List o×Int->AA (List o)}{v0:List o}(B:v0.length<2 ^ 62)
 (step:∀L s x r,s.length+1+r.length=v0.length->0<s.length->Srt lt s->F L (s++x::r,(s.length:Int))=L (ins lt x s++r,((s.length+1:Nat):Int)))
 (stop:∀L v (i:Nat),v0.length<=i->F L (v,(i:Int))=some v):BK F big (v0,1)=some (Dv lt v0):=by
 cases v0 with
 |nil=>have:=Rb 0 (by omega);have ⟨n,q⟩:=this;rw[q,DV,ED];exact stop _ _ 1 (by simp)
 |cons a l=>
  have:=Dl (F:=F) (n:=l.length) (λi (v:List o×List o)=>(v.1++v.2,((i+1:Nat):Int))) (λi v=>v.1.length=i+1/\v.2.length+i=l.length/\Srt lt v.1) (λi v=>some (v.2.foldl (λs x=>ins lt x s) v.1)) (by simp at B;omega) ?_ (v:=([a],l)) ⟨rfl,rfl,by simp[Srt]⟩;rw[<-s6 h];exact this;rintro L i ⟨s,r⟩ ⟨e,c,g⟩ hi j;dsimp only at e c g j ⊢;cases r with
  |nil=>rw[stop _ _ _ (by simp at c ⊢;omega)];simp
  |cons x r=>
   have y:s.length+1+r.length=(a::l).length:=by simp at c ⊢;omega
   rw[<-e,step L s x r y (by omega) g,Bu];have:=j (ins lt x s,r) ⟨by rw[AKT,e],by dsimp only;simp at c ⊢;omega,AKX h x s g⟩ (by simp at c;omega);rw[<-this,e]
theorem VN{u:Type}{F:(Int->AA u)->Int->AA u}{l:List o}{x:o}(J:List o->AA u)(g:l.length<2 ^ 62)
 (step:∀L (i:Nat) (h:i<l.length),F L (i:Int)=br (lt l[i] x) (L (w64 ((i:Int)+1))) (J (l.take i++x::l.drop i)))
 (stop:∀L,F L (l.length:Int)=J (l++[x])):BK F big 0=J (put lt x l):=by
 refine(Dl (n:=l.length) (λi (_:Unit)=>(i:Int)) (λ_ _=>True) (λi _=>J (l.take i++put lt x (l.drop i))) (by omega) ?_ (v:=()) trivial).trans (by simp);intro L i _ _ hi c;rcases AV i l.length with h|h;rw[step L i h,Bh h,D4 h,put];cases e:lt l[i] x with
 |true=>
  have a:l.take (i+1)=l.take i++[l[i]]:=by rw[Cg,AU h];rfl
  rw[CB,c () trivial h,a,BF];rfl
 |false=>rfl
 grind[put]
end
theorem YB(t w:List o)(z:o):at? (t++z::w) (t.length:Int)=some z:=by rw[LQ];simp
theorem YC(t w:List o)(z x:o):at? (t++z::x::w) ((t.length+1:Nat):Int)=some x:=by rw[LQ];simp
theorem AEJ(t w:List o)(z a:o):(t++z::w).set t.length a=t++a::w:=by simp
theorem AEK(t w:List o)(z x a:o):(t++z::x::w).set (t.length+1) a=t++z::a::w:=by rw[List.set_append_right _ _ (by omega),show t.length+1-t.length=1 by omega];rfl
theorem LP(n:Nat)(h:0<n)(a:n<2 ^ 63):w64 ((n:Int)-1)=((n-1:Nat):Int):=by grind[A6]
theorem uw(a b:Int):ic a b=some (if a<b then -1 else if a>b then 1 else 0):=by grind[ic,AIJ,AB,BV]
def ltE(a b:Ar):Bool:=decide (a.Level<b.Level)||((a.Level==b.Level)&&decide (a.A3<b.A3))
theorem V4{a b:Ar}:ltE a b=true↔a.Level<b.Level\/a.Level=b.Level/\a.A3<b.A3:=by simp[ltE]
theorem ATJ{a b:Ar}:ltE a b=false↔¬(a.Level<b.Level\/a.Level=b.Level/\a.A3<b.A3):=by rw[<-V4];simp
def ltP(a b:Bf):Bool:=decide (a.At<b.At)||((a.At==b.At)&&decide (a.Id<b.Id))
theorem TO{a b:Bf}:ltP a b=true↔a.At<b.At\/a.At=b.At/\a.Id<b.Id:=by simp[ltP]
theorem nL{a b:Bf}:ltP a b=false↔¬(a.At<b.At\/a.At=b.At/\a.Id<b.Id):=by rw[<-TO];simp
theorem gk:Swo ltE:=⟨λa b h=>by rw[V4]at h;rw[ATJ];omega,λa b c h=>by rw[V4]at *;rw[V4];omega⟩
theorem Fq:Swo ltP:=⟨λa b h=>by rw[TO]at h;rw[nL];omega,λa b c h=>by rw[TO]at *;rw[TO];omega⟩
theorem gl(a b:Bf)(c:ltP a b=false)(e:ltP b a=false):a=b:=by rw[nL]at c e;have ⟨x,y⟩:=a;have ⟨z,w⟩:=b;grind
theorem VR(a b:Ar):AO2 a b=some (ltE a b):=by unfold AO2 Au ltE;simp only[AW,DE,AHw]
theorem fQ(a b:Bf):APN a b=some (ltP a b):=by unfold APN Au ltP;simp only[AW,DE,AHw]
theorem SD(a b:Ar):∃c,WZ a b=some c/\decide (c<0)=ltE a b:=by unfold WZ;rw[uw,AB,Be,uw,AB];refine⟨if a.Level<b.Level then -1 else if a.Level>b.Level then 1 else if a.A3<b.A3 then -1 else if a.A3>b.A3 then 1 else 0,?_,?_⟩;split<;>split<;>simp_all;grind[V4]
theorem U2(a b:Ar):AA6 a b=some (ltE a b):=by unfold AA6;have ⟨c,e,g⟩:=SD a b;rw[e,AB,g]
theorem PN(a b:Bf):∃c,UJ a b=some c/\decide (c<0)=ltP a b/\decide (c>0)=ltP b a:=by unfold UJ;rw[uw,AB,Be,uw,AB];refine⟨if a.At<b.At then -1 else if a.At>b.At then 1 else if a.Id<b.Id then -1 else if a.Id>b.Id then 1 else 0,?_,?_,?_⟩;split<;>split<;>simp_all;grind[TO];grind[TO]
theorem Aa5{l:List Ar}(H:l.length<2 ^ 62):AIL l 0 l.length=some (Dv ltE l):=by
 unfold AIL Dn;refine s5 gk H ?_ ?_
 .intro L s x r J O g;unfold EA;dsimp only;rw[bnT (by omega)];have:=cM (G:=EB WZ 0 L s.length) (E:=λv=>L (v,((s.length+1:Nat):Int))) (x:=x) (r:=r) (M:=s.length) gk ?_ ?_ ?_ s.length big s [] rfl (by omega) (FM _ (by omega)) (by simp) g;rw[Az,CO]at this;exact this;all_goals unfold EB D9 Ev be
  intro L' t z w I B;have ⟨c,q,a⟩:=SD x z;have e:=LP (t.length+1) (by omega) (by omega);have h:((t.length+1:Nat):Int)>0:=by omega
  have y:c<0:=by rw[B,decide_eq_true_iff]at a;exact a
  simp only[BV,AW,e,Cl,YB,YC,AB,q,AEJ,AEK,Ah,h,y,if_true];intro L' t z w I B;have ⟨c,q,a⟩:=SD x z;have e:=LP (t.length+1) (by omega) (by omega);have h:((t.length+1:Nat):Int)>0:=by omega
  have j:=Bh (i:=s.length) (n:=s.length+1) (by omega) (by omega);have y:¬c<0:=by rw[B,decide_eq_false_iff_not]at a;exact a
  simp only[BV,AW,e,Cl,YB,YC,AB,q,h,y,if_true,if_false,j];intro L' w;have j:=Bh (i:=s.length) (n:=s.length+1) (by omega) (by omega);dsimp only;rw[BV,ifN,AW,brJ,j]
 grind[EA,BV]
theorem AYM{l:List Bf}(H:l.length<2 ^ 62):AA1 l 0 l.length=some (Dv ltP l):=by
 unfold AA1 Dn;refine s5 Fq H ?_ ?_
 .intro L s x r J O g;unfold EA;dsimp only;rw[bnT (by omega)];have:=cM (G:=EB UJ 0 L s.length) (E:=λv=>L (v,((s.length+1:Nat):Int))) (x:=x) (r:=r) (M:=s.length) Fq ?_ ?_ ?_ s.length big s [] rfl (by omega) (FM _ (by omega)) (by simp) g;rw[Az,CO]at this;exact this;all_goals unfold EB D9 Ev be
  intro L' t z w I B;have ⟨c,q,a,_⟩:=PN x z;have e:=LP (t.length+1) (by omega) (by omega);have h:((t.length+1:Nat):Int)>0:=by omega
  have y:c<0:=by rw[B,decide_eq_true_iff]at a;exact a
  simp only[BV,AW,e,Cl,YB,YC,AB,q,AEJ,AEK,Ah,h,y,if_true];intro L' t z w I B;have ⟨c,q,a,_⟩:=PN x z;have e:=LP (t.length+1) (by omega) (by omega);have h:((t.length+1:Nat):Int)>0:=by omega
  have j:=Bh (i:=s.length) (n:=s.length+1) (by omega) (by omega);have y:¬c<0:=by rw[B,decide_eq_false_iff_not]at a;exact a
  simp only[BV,AW,e,Cl,YB,YC,AB,q,h,y,if_true,if_false,j];intro L' w;have j:=Bh (i:=s.length) (n:=s.length+1) (by omega) (by omega);dsimp only;rw[BV,ifN,AW,brJ,j]
 grind[EA,BV]
theorem AXY{l:List Ar}(e:l.length<=19):qU l=some (Dv ltE l):=by unfold qU AIM HT;have ⟨n,c⟩:=Rb 0 (by omega);have a:=Aa5 (l:=l) (by omega);unfold AIL at a;grind[G3,ED,BV,AW,Ib,AB,G4]
theorem AXZ{l:List Bf}(e:l.length<=19):qh l=some (Dv ltP l):=by unfold qh AIQ HT;have ⟨n,c⟩:=Rb 0 (by omega);have a:=AYM (l:=l) (by omega);unfold AA1 at a;grind[G3,ED,BV,AW,Ib,AB,G4]
set_option maxRecDepth 100000
theorem AWH(a:n<256):∃c,AIF (IntKind.u64.wrap (n:Int))=some c:=by
 have e:IntKind.u64.wrap (n:Int)=n:=by simp only[IntKind.wrap,IntKind.bits,IntKind.signed];simp;omega
 unfold AIF AOi;rw[e,BV,ifN,AW];unfold iV;dsimp only;rw[BV,ifN,AW];unfold iW;dsimp only;rw[BV,ifN,AW];unfold iX;dsimp only;rw[BT (UInt8.toNat_lt (toB (n:Int))),AB,AB];exact⟨_,rfl⟩
theorem AZn{l:List Bf}(g:l.length<=12):AIH l=some (Dv ltP l):=by unfold AIH AOj;have ⟨c,a⟩:=AWH (n:=l.length) (by omega);rw[a,AB];have ⟨n,e⟩:=Rb 0 (by omega);grind[ED,AA2,BV,A6,AYM,AB]
section
variable{o p u:Type}
theorem XF{l:List o}{F:(p×Int->AA u)->p×Int->AA u}(f:p->o->p)(I:Nat->p->Prop)(J:p->AA u)(a:l.length<2 ^ 63)
 (step:∀L i (h:i<l.length) v,I i v->F L (v,(i:Int))=L (f v l[i],w64 ((i:Int)+1))) (FZ:∀i (h:i<l.length) v,I i v->I (i+1) (f v l[i]))
 (stop:∀L v,I l.length v->F L (v,(l.length:Int))=J v) {v0:p} (e:I 0 v0):BK F big (v0,0)=J (l.foldl f v0):=by refine(Dl (n:=l.length) (λi (v:p)=>(v,(i:Int))) I (λi v=>J ((l.drop i).foldl f v)) a ?_ e);intro L i v c hi g;rcases AV i l.length with h|h;rw[step L i h v c,Bh h a,D4 h,Bu];exact g _ (FZ i h v c) h;grind
def F5(eq:o->o->Bool):List o->List o->Bool| [],[]=>true|x::a,y::b=>eq x y&&F5 eq a b|_,_=>false
theorem KZ{eq:o->o->Bool}(c:∀x y,eq x y=true↔x=y):∀{a b:List o},F5 eq a b=true↔a=b| [],[]=>by simp[F5]| [],y::b=>by simp[F5]|x::a,[]=>by simp[F5]|x::a,y::b=>by rw[F5,AD,c,KZ c,B3]
theorem oQ{eq:o->o->Bool}:∀{a b:List o},a.length≠b.length->F5 eq a b=false| [],[],h=>by simp at h| [],y::b,h=>rfl|x::a,[],h=>rfl|x::a,y::b,h=>by rw[F5,oQ (a:=a) (b:=b) (by simpa using h),D3]
theorem AVB{eq:o->o->Bool}{a b:List o}{F:(Int->AA Bool)->Int->AA Bool}(c:a.length<2 ^ 63)(e:a.length=b.length)
 (step:∀L i (h:i<a.length) (j:i<b.length),F L (i:Int)=br (!(eq a[i] b[i])) (some false) (L (w64 ((i:Int)+1)))) (stop:∀L,F L (a.length:Int)=some true):BK F big 0=some (F5 eq a b):=by
 refine(Dl (n:=a.length) (λi (_:Unit)=>(i:Int)) (λ_ _=>True) (λi _=>some (F5 eq (a.drop i) (b.drop i))) c ?_ (v:=()) trivial);intro L i _ _ hi g;rcases AV i a.length with h|h;rw[step L i h (by omega),Bh h c,D4 h,D4 (l:=b) (i:=i) (by omega),F5,BW];cases eq a[i] b[i] with|true=>rw[CB,g () trivial h];rfl|false=>rfl
 obtain rfl:i=a.length:=by omega
 rw[stop,Cx,A9 (by omega)];rfl
theorem oO{eq:o->o->Bool}{a b:List o}{F:(Int->AA Bool)->Int->AA Bool}(c:a.length<2 ^ 63)
 (step:∀L i (h:i<a.length) (g:i<b.length),F L (i:Int)=br (!(eq a[i] b[i])) (some false) (L (w64 ((i:Int)+1)))) (stop:∀L,F L (a.length:Int)=some true) :
 br ((a.length:Int) != (b.length:Int)) (some false) (BK F big 0)=some (F5 eq a b):=by
 by_cases h:a.length=b.length;have e:((a.length:Int) != (b.length:Int))=false:=by simp[h]
 rw[e,CI,AVB c h step stop];have e:((a.length:Int) != (b.length:Int))=true:=by simp;omega
 rw[e,CB,oQ h]
def atF(p:o->Bool):List o->Nat->Int| [],_=>-1|x::l,i=>if p x=true then (i:Int) else atF p l (i+1)
theorem Su{p:o->Bool}{l:List o}{F:(Int->AA Int)->Int->AA Int}(a:l.length<2 ^ 63)
 (step:∀L i (h:i<l.length),F L (i:Int)=br (p l[i]) (some (i:Int)) (L (w64 ((i:Int)+1)))) (stop:∀L,F L (l.length:Int)=some (-1)):BK F big 0=some (atF p l 0):=by
 refine(Dl (n:=l.length) (λi (_:Unit)=>(i:Int)) (λ_ _=>True) (λi _=>some (atF p (l.drop i) i)) a ?_ (v:=()) trivial);intro L i _ _ hi c;rcases AV i l.length with h|h;rw[step L i h,Bh h a,D4 h,atF];cases p l[i] with|true=>rfl|false=>rw[CI,c () trivial h];simp
 obtain rfl:i=l.length:=by omega
 rw[stop,Cx];rfl
theorem iG{p:o->Bool}:∀{l:List o} {s:Nat},atF p l s<0↔∀x∈l,p x=false
 | [],s=>by simp[atF]|x::l,s=>by unfold atF;split;rename_i h;simp[h];rename_i h;rw[iG];simp[h]
theorem AAd{p:o->Bool}:∀{l:List o} {i:Nat} (s:Nat) (h:i<l.length),p l[i]=true->((atF p l s != ((s+i:Nat):Int))=decide (atF p (l.take i) s>=0))
 | [],i,s,h,a=>by simp at h|x::l,0,s,h,a=>by simp only[List.getElem_cons_zero]at a;simp[atF,a]
 |x::l,i+1,s,h,a=>by simp only[List.getElem_cons_succ]at a;rw[List.take_succ_cons,atF,atF];by_cases c:p x=true;grind;rw[Aa c,Aa c];have:=AAd (l:=l) (i:=i) (s+1) (by simpa using h) a;rw[<-this,show s+1+i=s+(i+1) by omega]
end
def Q9(cabin:Int)(n:Int)(p:AR):Int:=if (p.Ab==cabin)=true then n+1 else n
def Ds(l:List AR)(cabin:Int):Int:=l.foldl (Q9 cabin) 0
def Wg(cabin:Int)(n:Int)(p:AR):Int:=if ((p.State==2)&&((p.Ab==cabin)&&inB p.BL 1 6))=true then n+p.BL else n
def KI(l:List AR)(cabin:Int):Int:=l.foldl (Wg cabin) 0
def Wy(cabin:Int)(n:Int)(p:AR):Int:=if ((p.Bs==cabin)&&inB p.BL 1 6)=true then n+p.BL else n
def Kn(l:List AR)(cabin:Int):Int:=l.foldl (Wy cabin) 0
theorem ALb(cabin:Int)(p:AR){n:Int}(h:0<=n/\n<=i):0<=Q9 cabin n p/\Q9 cabin n p<=((i+1:Nat):Int):=by unfold Q9;split<;>omega
theorem Zc(cabin:Int)(p:AR){n:Int}(h:0<=n/\n<=6*i):0<=Wg cabin n p/\Wg cabin n p<=6*((i+1:Nat):Int):=by grind[Wg,B6]
theorem ah(cabin:Int)(p:AR){n:Int}(h:0<=n/\n<=6*i):0<=Wy cabin n p/\Wy cabin n p<=6*((i+1:Nat):Int):=by grind[Wy,B6]
theorem JL{l:List AR}(e:l.length<2 ^ 58)(c:Int):iT l c=some (Ds l c):=by unfold iT;refine XF (l:=l) (Q9 c) (λi n=>0<=n/\n<=i) some (by omega) ?_ (λi h v a=>ALb c _ a) ?_ (by simp);grind[uz,HG,Q9,BT,AB,AW,A6,Be];grind[uz,CT,CI,AW]
theorem Q0{l:List AR}(y:l.length<2 ^ 58)(c:Int):AE9 l c=some (KI l c):=by unfold AE9;refine XF (l:=l) (Wg c) (λi n=>0<=n/\n<=6*i) some (by omega) ?_ (λi h v a=>Zc c _ a) ?_ (by simp);intro L i h v a;have e:=Zc c l[i] a;unfold Wg at e ⊢;unfold ux Sy HG;dsimp only;rw[bnT h];simp only[BT h,AB,AW,Db,CI];cases g:l[i].State==2<;>cases j:l[i].Ab==c<;>cases q:inB l[i].BL 1 6<;>simp only[CB,CI,Co,Bv,if_true,BP,if_false];grind[A6];grind[ux,CT,CI,AW]
theorem eV{l:List AR}(y:l.length<2 ^ 58)(c:Int):iw l c=some (KI l c):=by unfold iw;refine XF (l:=l) (Wg c) (λi n=>0<=n/\n<=6*i) some (by omega) ?_ (λi h v a=>Zc c _ a) ?_ (by simp);intro L i h v a;have e:=Zc c l[i] a;unfold Wg at e ⊢;unfold iy Pm HG;dsimp only;rw[bnT h];simp only[BT h,AB,AW,Db,CI];cases g:l[i].State==2<;>cases j:l[i].Ab==c<;>cases q:inB l[i].BL 1 6<;>simp only[CB,CI,Co,Bv,if_true,BP,if_false];grind[A6];grind[iy,CT,CI,AW]
theorem Q2{l:List AR}(q:l.length<2 ^ 58)(c:Int):AA0 l c=some (Kn l c):=by unfold AA0;refine XF (l:=l) (Wy c) (λi n=>0<=n/\n<=6*i) some (by omega) ?_ (λi h v a=>ah c _ a) ?_ (by simp);intro L i h v a;have e:=ah c l[i] a;unfold Wy at e ⊢;unfold uy Sy HG;dsimp only;rw[bnT h];simp only[BT h,AB,AW,Db,CI];cases g:l[i].Bs==c<;>cases j:inB l[i].BL 1 6<;>simp only[CB,CI,Co,Bv,if_true,BP,if_false];grind[A6];grind[uy,CT,CI,AW]
theorem eX{l:List AR}(q:l.length<2 ^ 58)(c:Int):dp l c=some (Kn l c):=by unfold dp;refine XF (l:=l) (Wy c) (λi n=>0<=n/\n<=6*i) some (by omega) ?_ (λi h v a=>ah c _ a) ?_ (by simp);intro L i h v a;have e:=ah c l[i] a;unfold Wy at e ⊢;unfold iz Pm HG;dsimp only;rw[bnT h];simp only[BT h,AB,AW,Db,CI];cases g:l[i].Bs==c<;>cases j:inB l[i].BL 1 6<;>simp only[CB,CI,Co,Bv,if_true,BP,if_false];grind[A6];grind[iz,CT,CI,AW]
def eqE(x y:Ar):Bool:=x.Level==y.Level&&(x.A3==y.A3&&(x.Id==y.Id&&(x.BL==y.BL&&true)))
theorem vk(x y:Ar):eqE x y=true↔x=y:=by have ⟨a,b,c,d⟩:=x;have ⟨e,f,g,h⟩:=y;simp[eqE]
def eqP(x y:Bf):Bool:=x.At==y.At&&(x.Id==y.Id&&true)
theorem vn(x y:Bf):eqP x y=true↔x=y:=by have ⟨a,b⟩:=x;have ⟨c,d⟩:=y;simp[eqP]
theorem O8{a b:List Ar}(e:a.length<2 ^ 62):ACn a b=some (F5 eqE a b):=by unfold ACn;refine oO (by omega) ?_ ?_;intro L i h c;unfold vY;rw[bnT h,BT h,AB,BT c,AB];rfl;grind[vY,EZ,CI,AW]
theorem Nd{a b:List Bf}(e:a.length<2 ^ 62):ACo a b=some (F5 eqP a b):=by unfold ACo;refine oO (by omega) ?_ ?_;intro L i h c;unfold vi;rw[bnT h,BT h,AB,BT c,AB];rfl;grind[vi,EZ,CI,AW]
def LK{o:Type}(l:List o)(k:Nat)(p:o->Bool):Bool:=match l[k]? with|some x=>p x|none=>true
theorem Ch(h:k<l.length)(p:o->Bool):LK l k p=p l[k]:=by unfold LK;rw[AU h]
theorem gO(i:Nat):decide ((i:Int)>0)=decide (0<i):=by rw[decide_eq_decide];omega
theorem ADU(l:List o)(x:o):l.length+[x].length=l.length+1:=rfl
theorem Tg{l:List Ar}(a:l.length<2 ^ 62)(id:Int):ALi l id=some (atF (λx=>x.Id==id) l 0):=by grind[ALi,Su,AJV,CB,BT,AB,HH,CI,AW]
theorem Zf{l:List Ar}(a:l.length<2 ^ 62)(id:Int):qV l id=some (atF (λx=>x.Id==id) l 0):=by unfold qV AOl;grind[Su,AB,AA7,AOk,CB,BT,HH,CI,AW]
def APU(e:Ar):Bool:=inB e.Level 0 4&&(inB e.A3 1 1000000&&(inB e.Id 1 999&&inB e.BL 1 6))
def qAt(l:List Ar)(i:Nat):Bool:=
 LK l i λe=>APU e&&((if 0<i then LK l (i-1) (λd=>ltE d e) else true)&&!(decide (atF (λx=>x.Id==e.Id) (l.take i) 0>=0)))
def MY(l:List Ar):Bool:=!(decide ((l.length:Int)>10))&&Jt (qAt l) 0 l.length
theorem Th(l:List Ar)(g:l.length<2 ^ 62):ALj l=some (MY l):=by
 unfold ALj MY;rw[LX (n:=l.length) (E:=some true) (qAt l) (by omega) ?_ ?_,DE,Ce,Ia];intro L i h;have q:=Bh h (show l.length<2 ^ 63 by omega);unfold qAt;rw[Ch h];unfold vO;rw[bnT h,BT h,AB];have a:∀b,C5 L i b=br (!b) (L ((i+1:Nat):Int)) (some false):=by intro b;unfold C5;rw[q];cases b<;>rfl
 have j:(atF (λx=>x.Id==l[i].Id) l 0 != (i:Int))=decide (atF (λx=>x.Id==l[i].Id) (l.take i) 0>=0):=by grind[AAd]
 have e:∀b,Vv l L i l[i] b=br (!b&&((if 0<i then LK l (i-1) (λd=>ltE d l[i]) else true)&&!(decide (atF (λx=>x.Id==l[i].Id) (l.take i) 0>=0)))) (L ((i+1:Nat):Int)) (some false):=by intro b;unfold Vv;rw[gO];by_cases c:0<i;rw[brT c,AY c,LP i c (by omega),BT (show i-1<l.length by omega),AB,VR,AB,BW,Tg g,AB,AW,AW,a,a,j,Ch (by omega)];cases b<;>cases ltE l[i-1] l[i]<;>rfl;rw[brF c,Aa c,Tg g,AB,AW,a,j];cases b<;>rfl
 unfold APU;simp only[Db,AB,AW,BW,e];generalize ((if 0<i then LK l (i-1) (λd=>ltE d l[i]) else true)&&!(decide (atF (λx=>x.Id==l[i].Id) (l.take i) 0>=0)))=X;cases inB l[i].Level 0 4<;>cases inB l[i].A3 1 1000000<;>cases inB l[i].Id 1 999<;>cases inB l[i].BL 1 6<;>rfl;grind[vO,EZ,CI,AW]
theorem Zg(l:List Ar)(q:l.length<2 ^ 62):qW l=some (MY l):=by
 unfold qW MY;rw[LX (n:=l.length) (E:=some true) (qAt l) (by omega) ?_ ?_,DE,Ce,Ia];intro L i h;have g:=Bh h (show l.length<2 ^ 63 by omega);unfold qAt;rw[Ch h];unfold ie;rw[bnT h,BT h,AB];have a:∀b,C5 L i b=br (!b) (L ((i+1:Nat):Int)) (some false):=by intro b;unfold C5;rw[g];cases b<;>rfl
 have e:∀b,UI L i l[i] b=br (!b&&APU l[i]) (L ((i+1:Nat):Int)) (some false):=by
  intro b;unfold UI APU;have c:w64 (5-1)=4:=by rw[A6]<;>omega
  simp only[Db,Zk,AB,AW,BW,a,c];cases b<;>cases inB l[i].Level 0 4<;>cases inB l[i].A3 1 1000000<;>cases inB l[i].Id 1 999<;>cases inB l[i].BL 1 6<;>rfl
 have j:(0:Int)<=(i:Int)/\(i:Int)<=(l.length:Int):=by omega
 grind[CB,LP,BT,AB,U2,D2,Zf,AW,Ch,ltE,CI];grind[ie,EZ,CI,AW]
theorem Q3{l:List Ar}(a:l.length<=lim):pd l=some l:=by unfold pd;rw[DX,Az]
theorem Xh{l:List Ar}(c:l.length+1<=lim)(e:Ar):ACm l e=some (put ltE e l):=by
 have a:∀i:Nat,i<=l.length->vU l e i=some (l.take i++e::l.drop i):=by grind[vU,D2,Q3,AB,Cy]
 have hlim:=Gk;unfold ACm;refine VN some (by omega) ?_ ?_;grind[vV,gK,CB,BT,AB,VR,AW];grind[vV,gK,CI,AW]
theorem Xi{l:List Bf}(c:l.length+1<=lim)(e:Bf):ALm l e=some (put ltP e l):=by
 have a:∀i:Nat,i<=l.length->vZ l e i=some (l.take i++e::l.drop i):=by grind[vZ,D2]
 have hlim:=Gk;unfold ALm;refine VN some (by omega) ?_ ?_;grind[va,gM,CB,BT,AB,fQ,AW];grind[va,gM,CI,AW]
def Mn(r:Ad)(cabin now:Int)(p:AR):AA Ar:=if ((Fh r p now).2&&(p.Ab==cabin))=true then some (Fh r p now).1 else none
def EF(r:Ad)(l:List AR)(cabin now:Int):List Ar:=Dv ltE (l.filterMap (Mn r cabin now))
theorem O7(j:r.AZ.length<2 ^ 62){l:List AR}(G:l.length<=1048576)(c now:Int):AFB r l c now=some (EF r l c now):=by
 have hlim:=Gk;have e:w64 ((l.length:Int)-1)=(l.length:Int)-1-((0:Nat):Int):=by rw[A6];omega
 unfold AFB EF;rw[e];refine(Dl (n:=l.length) (λi (v:List Ar)=>(v,(l.length:Int)-1-(i:Int))) (λi v=>v.length<=i) (λi v=>some ((((l.take (l.length-i)).filterMap (Mn r c now)).foldr (put ltE) v))) (by omega) ?_ (v:=[]) (by simp)).trans (by rw[Fu,Cd];rfl);intro L i v H hi I;unfold AJ3 vW vX;dsimp only;rcases AV i l.length with h|h;have ⟨k,E⟩:∃k,l.length=i+(k+1):=⟨l.length-i-1,by omega⟩;have g:(l.length:Int)-1-(i:Int)=(k:Int):=by omega
 have a:k<l.length:=by omega
 have y:w64 ((k:Int)-1)=(l.length:Int)-1-((i+1:Nat):Int):=by rw[A6];omega
 have B:l.take (l.length-i)=l.take (l.length-(i+1))++[l[k]]:=by rw[show l.length-i=k+1 by omega,show l.length-(i+1)=k by omega,Cg,AU a];rfl
 rw[g,BV,ifP];simp only[BT a,AB,aS j,Cy,AAG,AW,CI];have key:(br (Fh r l[k] now).2 (br (l[k].Ab==c) (bd (ACm v (Fh r l[k] now).1) λq=>L (q,w64 ((k:Int)-1))) (L (v,w64 ((k:Int)-1)))) (L (v,w64 ((k:Int)-1))))=some ((((l.take (l.length-i)).filterMap (Mn r c now)).foldr (put ltE) v)):=by grind[Xh,AB,Mn,Fh,CB,CI,GU]
 exact key;obtain rfl:i=l.length:=by omega
 unfold Pk;rw[BV,ifN,AW,E7];rfl
theorem pf(f:o->AA β)(h:i<l.length):(l.take (i+1)).filterMap f=(l.take i).filterMap f++(f l[i]).toList:=by rw[Cg,AU h,List.filterMap_append];congr 1
theorem pg(f:o->AA β)(l:List o)(i:Nat):((l.take i).filterMap f).length<=i:=Ax (List.length_filterMap_le _ _) (by rw[Ag];omega)
theorem collect(f:o->AA β){F:(List β×Int->AA u)->List β×Int->AA u}(J:List β->AA u)(e:l.length<=1048576)
 (step:∀L i (h:i<l.length) v,v.length<=i->F L (v,(i:Int))=L (v++(f l[i]).toList,w64 ((i:Int)+1))) (stop:∀L v,F L (v,(l.length:Int))=J v):BK F big ([],0)=J (l.filterMap f):=by refine(Dl (n:=l.length) (λi (v:List β)=>(v,(i:Int))) (λi v=>v=(l.take i).filterMap f) (λi v=>J (l.filterMap f)) (by omega) ?_ (by simp));intro L i v a hi c;rcases AV i l.length with h|h;rw[step L i h v (by rw[a];exact pg _ _ _),Bh h];exact c _ (by rw[a,pf f h]) h;grind
theorem qT(c:Int):∀(l:List AR) (n:Int),l.foldl (Q9 c) n=n+(l.countP λp=>p.Ab==c)
 | [],n=>by simp|p::l,n=>by rw[Bu,qT c l,List.countP_cons];grind[Q9]
theorem gU{β:Type}(f:AR->AA β)(c:Int)(a:∀p,(p.Ab==c)=false->f p=none):∀l:List AR,((l.filterMap f).length:Int)<=Ds l c:=by
 intro l;unfold Ds;rw[qT,Int.zero_add];induction l with
 |nil=>simp|cons p l e=>grind
theorem TJ(e:r.AZ.length<2 ^ 62){l:List AR}(a:l.length<=1048576){c:Int}(q:Ds l c<=19)(now:Int):dm r l c now=some (EF r l c now):=by have y:=gU (Mn r c now) c (by intro p h;unfold Mn;rw[h,D3];rfl) l;unfold dm EF;rw[collect (l:=l) (Mn r c now) UG a ?_ ?_];unfold UG;rw[AXY (by omega),AB];intro L i h v B;unfold UH YM YN Mn;dsimp only;rw[bnT h,BT h,AB,Ox e,AB,AW,AW,DX,AW,AW];cases g:(Fh r l[i] now).2<;>cases j:l[i].Ab==c<;>simp;grind[UH,CI,AW]
def OA(cabin:Int)(p:AR):AA Bf:=if ((p.State==2)&&(p.Ab==cabin))=true then some ⟨p.DK,p.Id⟩ else none
def G7(l:List AR)(cabin:Int):List Bf:=Dv ltP (l.filterMap (OA cabin))
theorem VU{l:List AR}(e:l.length<=1048576)(c:Int):AFD l c=some (G7 l c):=by
 have hlim:=Gk;unfold AFD G7;rw[XF (l:=l) (λv p=>match OA c p with|some x=>put ltP x v|none=>v) (λi v=>v.length<=i) some (by omega) ?_ ?_ ?_ (by simp),<-cR Fq gl];congr 1;generalize ([]:List Bf)=a;clear e;induction l generalizing a with
 |nil=>rfl|cons p l g=>rw[Bu,g,List.filterMap_cons];cases OA c p<;>rfl
 intro L i h v y;unfold vg ve KW OA;dsimp only;rw[bnT h];simp only[BT h,AB,AW,CI,Xi (show v.length+1<=lim by omega)];cases j:l[i].State==2<;>cases q:l[i].Ab==c<;>rfl;grind[GU];grind[vg,Ec,CI,AW]
theorem eW{l:List AR}(a:l.length<=1048576){c:Int}(j:Ds l c<=19):iv l c=some (G7 l c):=by have q:=gU (OA c) c (by intro p h;unfold OA;rw[h,D3];rfl) l;unfold iv G7;rw[collect (l:=l) (OA c) UL a ?_ ?_];unfold UL;rw[AXZ (by omega),AB];intro L i h v y;unfold UM YS KW OA;dsimp only;rw[bnT h,BT h,AB,AW,AW,DX,AW,AW];cases e:l[i].State==2<;>cases g:l[i].Ab==c<;>simp;grind[UM,CI,AW]
def TW(p:Bf):Bool:=inB p.At 1 1000008&&inB p.Id 1 999
structure Q6(w:A2):Prop where
 nine:w.Av.length=9
 few:w.Av.flatten.length<=10
 pins:∀p∈w.Av.flatten,TW p=true
 ids:w.Av.flatten.Pairwise λa b=>a.Id≠b.Id
 at_:∀i (h:i<w.Av.length) k (hk:k<w.Av[i].length),w.Av[i][k].At.tmod 9=(i:Int)
 srt:∀i (h:i<w.Av.length) k (hk:k+1<w.Av[i].length),ltP w.Av[i][k] w.Av[i][k+1]=true
def Iu(w:A2):Bool:=@decide (Q6 w) (Classical.propDecidable _)
theorem ET:Iu w=true↔Q6 w:=by grind[Iu]
def DQ(w:A2):Prop:=w.Av.length<=1048576/\w.Av.flatten.length<=1048576
theorem ZX{l:List (List o)}(h:i<l.length):(l.take i).flatten.length+l[i].length<=l.flatten.length:=by grind[D4,List.take_append_drop]
theorem Ly{l:List (List Bf)}(h:i<l.length):l[i].length<=l.flatten.length:=by have:=ZX h;omega
theorem o7(a:DQ w):APM w=some w.Av.flatten:=by have hlim:=Gk;have c:=a.1;have e:=a.2;unfold APM;refine(Dl (n:=w.Av.length) (λi (v:List Bf)=>(v,(i:Int))) (λi v=>v=(w.Av.take i).flatten) (λi v=>some w.Av.flatten) (by omega) ?_ (by simp));intro L i v g hi j;unfold AJ1 Ec;rcases AV i w.Av.length with h|h;have:=ZX h;grind[CB,BT,AB,D2,Bh,List.take_add_one];grind[CI,AW]
def fR(s:List Bf)(i:Nat)(k:Nat):Bool:=LK s k λp=>(p.At.tmod 9==(i:Int))&&(if 0<k then LK s (k-1) (λd=>ltP d p) else true)
def tL(l:List Bf)(i:Nat):Bool:=LK l i λp=>TW p&&Jt (λk=>LK l k λq=>!(q.Id==p.Id)) 0 i
theorem JN(H:DQ w):pc w=some (Iu w):=by
 have h1:=H.1;have h2:=H.2;have G:gJ w ()=some (Jt (λi=>LK w.Av i λs=>Jt (fR s i) 0 s.length) 0 w.Av.length):=by unfold gJ;rw[LX (n:=w.Av.length) (E:=some true) (λi=>LK w.Av i λs=>Jt (fR s i) 0 s.length) (by omega) ?_ ?_,DE,Ce];intro L i h;have hs:=Ly h;rw[Ch h];unfold vR;rw[bnT h];refine LX (n:=w.Av[i].length) (E:=L ((i+1:Nat):Int)) (fR w.Av[i] i) (by omega) ?_ ?_;intro L' k a;have I:=Bh a (show w.Av[i].length<2 ^ 63 by omega);unfold fR;rw[Ch a];unfold vS C5;rw[BT h,AB,bnT a,gO];simp only[AB,BT a,AW,I,CB,CI];by_cases c:0<k;rw[brT c,AY c,LP k c (by omega),BT (show k-1<w.Av[i].length by omega),AB,fQ,AB,Ch (show k-1<w.Av[i].length by omega),bne];cases w.Av[i][k].At.tmod 9==(i:Int)<;>cases ltP w.Av[i][k-1] w.Av[i][k]<;>rfl;rw[brF c,Aa c,bne];cases w.Av[i][k].At.tmod 9==(i:Int)<;>rfl;intro L';unfold vS Qi;rw[BT h,AB,bnJ,Bh h];intro L;unfold vR EZ;rw[bnJ]
 have e:∀b,gG w w.Av.flatten b=some (!b&&(Jt (tL w.Av.flatten) 0 w.Av.flatten.length&&Jt (λi=>LK w.Av i λs=>Jt (fR s i) 0 s.length) 0 w.Av.length)):=by
  intro b;unfold gG;rw[LX (n:=w.Av.flatten.length) (E:=gJ w ()) (tL w.Av.flatten) (by omega) ?_ ?_,G,DE,Ia];intro L i h;unfold tL;rw[Ch h];have B:∀b,gH w.Av.flatten L i b=br (!b&&Jt (λk=>LK w.Av.flatten k λq=>!(q.Id==w.Av.flatten[i].Id)) 0 i) (L ((i+1:Nat):Int)) (some false):=by intro b;unfold gH;rw[LX (n:=i) (E:=L ((i+1:Nat):Int)) (λk=>LK w.Av.flatten k λq=>!(q.Id==w.Av.flatten[i].Id)) (by omega) ?_ ?_];cases b<;>rfl;intro L' k a;rw[Ch (show k<w.Av.flatten.length by omega)];unfold vQ be;rw[bnT a];simp only[BT h,BT (show k<w.Av.flatten.length by omega),AB,Bh a (show i<2 ^ 63 by omega)];cases w.Av.flatten[k].Id==w.Av.flatten[i].Id<;>rfl;intro L';unfold vQ Qi be;rw[bnJ,Bh h]
  unfold vP TW be;rw[bnT h];simp only[BT h,AB,Db,BW,AW,B];generalize Jt (λk=>LK w.Av.flatten k λq=>!(q.Id==w.Av.flatten[i].Id)) 0 i=X;cases inB w.Av.flatten[i].At 1 1000008<;>cases inB w.Av.flatten[i].Id 1 999<;>rfl;intro L;unfold vP be;rw[bnJ]
 unfold pc;rw[o7 H,AB,AW,AW,e,e,B5,Bv,bne,BW,DE];congr 1;rw[I3,ET];simp only[AD,beq_iff_eq,BE,decide_eq_false_iff_not,LM];constructor;rintro⟨J,O,a3,a4⟩;refine⟨by omega,by omega,?_,?_,?_,?_⟩;intro p Z;obtain⟨k,a,rfl⟩:=HX Z;have:=a3 k a;unfold tL at this;rw[Ch a,AD]at this;exact this.1;rw[Cq];intro i j hi g y;have:=a3 j g;unfold tL at this;rw[Ch g,AD,LM]at this;have:=this.2 i y;rw[Ch hi]at this;simpa using this;intro i h k a;have:=a4 i h;rw[Ch h,LM]at this;have:=this k a;unfold fR at this;rw[Ch a,AD,beq_iff_eq]at this;exact this.1;intro i h k a;have:=a4 i h;rw[Ch h,LM]at this;have:=this (k+1) a;unfold fR at this;rw[Ch a,AD,ifP,Cl,Ch (by omega)]at this;exact this.2;rintro⟨J,O,a3,a4,S,Y⟩;refine⟨by omega,by omega,?_,?_⟩;intro k a;unfold tL;rw[Ch a,AD,LM];refine⟨a3 _ (Aw _),λj g=>?_⟩;rw[Ch (by omega)];rw[Cq]at a4;have:=a4 j k (by omega) a g;simpa using this;intro i h;rw[Ch h,LM];intro k a;unfold fR;rw[Ch a,AD,beq_iff_eq];refine⟨S i h k a,?_⟩;split;rename_i c;obtain⟨k,rfl⟩:∃j,k=j+1:=⟨k-1,by omega⟩;rw[Cl,Ch (by omega)];exact Y i h k a;rfl
def QZ(m:List (Int×Int))(p:Bf):List (Int×Int):=K5 m p.Id (w64 (OV m p.Id+1))
theorem AVF:∀{m:List (Int×Int)} {n v:Int},n∈m.map (·.1)->(K5 m n v).map (·.1)=m.map (·.1)
 | [],n,v,h=>by simp at h|(k,w)::m,n,v,h=>by unfold K5;by_cases e:n=k;rw[AY e];rfl;rw[Aa e];rw[AJ,Ae]at h;rw[AJ,AVF (h.resolve_left e)];rfl
theorem AK3:∀{m:List (Int×Int)} {n v:Int},n∉m.map (·.1)->(K5 m n v).map (·.1)=m.map (·.1)++[n]
 | [],n,v,h=>rfl|(k,w)::m,n,v,h=>by unfold K5;rw[AJ,Ae,not_or]at h;rw[Aa h.1,AJ,AK3 h.2];rfl
theorem AOH:∀(l:List Bf) (m:List (Int×Int)),(l.foldl QZ m).length<=m.length+l.length/\((l.foldl QZ m).length=m.length+l.length↔(∀p∈l,p.Id∉m.map (·.1))/\l.Pairwise λa b=>a.Id≠b.Id)
 | [],m=>by simp|p::l,m=>by
  rw[Bu];have c:=AOH l (QZ m p);by_cases h:p.Id∈m.map (·.1);have e:(QZ m p).map (·.1)=m.map (·.1):=AVF h;have el:(QZ m p).length=m.length:=by simpa using congrArg List.length e
  rw[el]at c;refine⟨by rw[AK];omega,?_⟩;constructor;intro g;rw[AK]at g;omega;intro g;exact absurd h (g.1 p BQ);have e:(QZ m p).map (·.1)=m.map (·.1)++[p.Id]:=AK3 h;have el:(QZ m p).length=m.length+1:=by simpa using congrArg List.length e
  grind[List.pairwise_cons]
theorem XQ(p:Bf):qX p=some (TW p):=by unfold qX Au TW;simp only[Db,AB,AW,DE]
def Xj(s:List Bf)(i:Nat)(k:Nat):Bool:=LK s k λp=>TW p&&((p.At.tmod 9==(i:Int))&&(if 0<k then LK s (k-1) (λd=>!(ltP p d)) else true))
theorem tU(p:Nat->Bool)(h:i<n):Jt p i (n-i)=(p i&&Jt p (i+1) (n-(i+1))):=by rw[show n-i=(n-(i+1))+1 by omega];rfl
theorem AHm{s:List Bf}(I:s.length<=1048576){L:List (Int×Int)×Int×Int->AA Bool}(hi:i<9){m:List (Int×Int)}(H:n<=2 ^ 50) :
 BK (ij L i s) big (m,(n:Int),0)=br (Jt (Xj s i) 0 s.length) (L (s.foldl QZ m,((n+s.length:Nat):Int),((i+1:Nat):Int))) (some false):=by
 refine(Dl (n:=s.length) (λk (v:List (Int×Int)×Nat)=>(v.1,(v.2:Int),(k:Int))) (λk v=>v.2=n+k) (λk v=>br (Jt (Xj s i) k (s.length-k)) (L ((s.drop k).foldl QZ v.1,((n+s.length:Nat):Int),((i+1:Nat):Int))) (some false)) (by omega) ?_ (v:=(m,n)) rfl);rintro L' k ⟨m,g⟩ j G q;dsimp only at j q ⊢;unfold ij UK;dsimp only;rcases AV k s.length with h|h;have e:=q (QZ m s[k],g+1) (by omega) h;have ew:w64 ((g:Int)+1)=((g+1:Nat):Int):=by rw[A6];rfl
 rw[bnT h,BT h,AB,XQ,AB,BW,tU _ h,D4 h,Bu,gO];simp only[AW,CB,CI,Bh h (show s.length<2 ^ 63 by omega),ew];have ed:K5 m s[k].Id (w64 (OV m s[k].Id+1))=QZ m s[k]:=rfl;rw[ed,e];unfold Xj;rw[Ch h];generalize Jt _ (k+1) (s.length-(k+1))=X;generalize L _=Z;by_cases a:0<k;have ⟨c,y,E,B⟩:=PN s[k-1] s[k];rw[brT a,AY a,LP k a (by omega),BT (show k-1<s.length by omega),AB,y,AB,B,Ch (show k-1<s.length by omega),bne];cases TW s[k]<;>cases s[k].At.tmod 9==(i:Int)<;>cases ltP s[k] s[k-1]<;>rfl;rw[brF a,Aa a,bne];cases TW s[k]<;>cases s[k].At.tmod 9==(i:Int)<;>rfl;obtain rfl:k=s.length:=by omega
 unfold AA8;rw[bnJ,Bh (i:=i) (n:=9) hi (by omega),E7,Cx,j];rfl
theorem JG(I:DQ w):Tx w=some (Iu w):=by
 have h1:=I.1;have h2:=I.2;unfold Tx;rw[bne,BW];by_cases B:w.Av.length=9;have g:((w.Av.length:Int)==9)=true:=by rw[beq_iff_eq];omega
 rw[g,CB];have:=(Dl (F:=ig w) (n:=w.Av.length) (λk (v:List (Int×Int)×Nat)=>(v.1,(v.2:Int),(k:Int))) (λk v=>v.2=(w.Av.take k).flatten.length) (λk v=>br (Jt (λi=>LK w.Av i λs=>Jt (Xj s i) 0 s.length) k (w.Av.length-k)) (YP ((w.Av.drop k).flatten.foldl QZ v.1,((v.2+(w.Av.drop k).flatten.length:Nat):Int))) (some false)) (by omega) ?_ (v:=([],0)) (by simp))
 refine Eq.trans this ?_;unfold YP Au;simp only[CX,A1,AW,DE,Fu];congr 1;have E:=AOH w.Av.flatten [];rw[AT,A1]at E;rw[I3,ET];simp only[AD,beq_iff_eq,decide_eq_true_iff,LM];have hm:((w.Av.flatten.foldl QZ []).length:Int)=(w.Av.flatten.length:Int)↔w.Av.flatten.Pairwise λa b=>a.Id≠b.Id:=by rw[Nj,E.2];simp
 rw[hm];constructor;rintro⟨y,O,a3⟩;have c:∀i (h:i<w.Av.length) k (c:k<w.Av[i].length),TW w.Av[i][k]=true/\w.Av[i][k].At.tmod 9=(i:Int)/\(if 0<k then LK w.Av[i] (k-1) (λd=>!(ltP w.Av[i][k] d)) else true)=true:=by intro i h k c;have:=y i h;rw[Ch h,LM]at this;have:=this k c;unfold Xj at this;rw[Ch c,AD,AD,beq_iff_eq]at this;exact this
 refine⟨B,by omega,?_,a3,λi h k e=>(c i h k e).2.1,?_⟩;intro p q;have ⟨s,hs,q⟩:=FV.1 q;obtain⟨i,hi,rfl⟩:=HX hs;obtain⟨k,e,rfl⟩:=HX q;exact(c i hi k e).1;intro i h k e;have:=(c i h (k+1) e).2.2;rw[ifP,Cl,Ch (by omega),BE,nL]at this;have G:=(List.pairwise_flatten.1 a3).1 _ (Aw h);rw[Cq]at G;have:=G k (k+1) (by omega) e (by omega);rw[TO];omega;rintro⟨y,O,a3,a4,S,Y⟩;refine⟨?_,by omega,a4⟩;intro i h;rw[Ch h,LM];intro k c;unfold Xj;rw[Ch c,AD,AD,beq_iff_eq];refine⟨a3 _ (FV.2 ⟨_,Aw h,Aw c⟩),S i h k c,?_⟩;split;obtain⟨k,rfl⟩:∃j,k=j+1:=⟨k-1,by omega⟩;rw[Cl,Ch (by omega),BE];exact Fq.uf _ _ (Y i h k c);rfl;rintro L k ⟨m,n⟩ H c J;dsimp only at H J ⊢;unfold ig;dsimp only;rcases AV k w.Av.length with h|h;have hf:=ZX h;rw[bnT h,BT h,AB,AHm (by omega) (by omega) (by omega),tU _ h,Ch h];have ef:(w.Av.take (k+1)).flatten=(w.Av.take k).flatten++w.Av[k]:=by rw[Cg,AU h,List.flatten_append];simp
 have:=J (w.Av[k].foldl QZ m,n+w.Av[k].length) (by rw[ef,AH,H]) h;rw[this,D4 h,List.flatten_cons,List.foldl_append,AH,CW];generalize Jt _ (k+1) _=X;generalize YP _=Z;cases Jt (Xj w.Av[k] k) 0 w.Av[k].length<;>rfl;obtain rfl:k=w.Av.length:=by omega
 rw[bnJ,E7,Cx];rfl;have g:((w.Av.length:Int)==9)=false:=by rw[beq_eq_false_iff_ne];omega
 rw[g,CI];congr 1;have:¬(Iu w=true):=by rw[ET];exact λh=>B h.nine
 rw[Es]at this;exact this.symm
def Fk(w:A2):List Bf:=if Iu w=true then Dv ltP w.Av.flatten else []
theorem Q1(a:DQ w):AFC w=some (Fk w):=by have hlim:=Gk;have c:=a.2;unfold AFC Fk;rw[JN a,AB,BW,o7 a,AB,Be];split;rw[XF (l:=w.Av.flatten) (λv p=>put ltP p v) (λi v=>v.length<=i) some (by omega) ?_ ?_ ?_ (by simp),<-cR Fq gl];simp only[vd,be];grind[CB,BT,AB,Xi];intro i h v e;rw[GU];omega;grind[vd,Ec,CI,AW];rfl
theorem Qq(c:DQ w):iY w=some (Fk w):=by
 have hlim:=Gk;have g:=c.1;have j:=c.2;unfold iY Fk;rw[JG c,AB,BW,Be];split;rename_i a;have a:=ET.1 a;refine(Dl (n:=w.Av.length) (λi (v:List Bf)=>(v,(i:Int))) (λi v=>v=(w.Av.take i).flatten) (λi v=>some (Dv ltP w.Av.flatten)) (by omega) ?_ (by simp));intro L i v e hi q;unfold AA4 AA3;dsimp only;rcases AV i w.Av.length with h|h;have:=ZX h;grind[CB,BT,AB,D2,Bh,List.take_add_one];obtain rfl:i=w.Av.length:=by omega
 have:=a.few;rw[bnJ,e,Cd,AZn (by omega),AB];rfl
def E3(c:Ak):Prop:=c.Row.length<=1048576/\DQ c.B9
structure Bt(h:AF):Prop where
 EI:h.AQ.AZ.length<=1048576
 Cc:h.AG.length<=1048576
 EH:h.AI.length<=1048576
 EX:∀c∈h.AI,E3 c
 todo:h.BM.length<=1048576
 Gs:h.BI.length<=1048576
def Q7(c:Ak):Bool:=Fi c.AZ&&(MY c.Row&&Iu c.B9)
theorem Tf(a:E3 c):ALk c=some (Q7 c):=by have:=a.1;unfold ALk Au Q7;simp only[Fo,Th c.Row (by omega),JN a.2,AB,AW,DE]
theorem TI(a:E3 c):qY c=some (Q7 c):=by have:=a.1;unfold qY Au Q7;simp only[Fo,Zg c.Row (by omega),JG a.2,AB,AW,DE]
theorem KL(a:DQ w):(Fk w).length<=1048576:=by unfold Fk;split;rw[Ir];exact a.2;simp
def MD(r:Ad)(c:Ak)(l:List AR)(k now:Int):Bool:=
 Q7 c&&(F5 eqE c.Row (EF r l k now)&&(F5 eqP (Fk c.B9) (G7 l k)&&((c.AZ.FU==KI l k)&&(c.AZ.Gm==Kn l k))))
theorem AER(g:r.AZ.length<2 ^ 62)(a:E3 c){l:List AR}(e:l.length<=1048576)(k now:Int):AWR r c l k now=some (MD r c l k now):=by have h:=a.1;have j:=KL a.2;unfold AWR Au MD;simp only[Tf a,O7 g e,O8 (show c.Row.length<2 ^ 62 by omega),Q1 a.2,VU e,Nd (show (Fk c.B9).length<2 ^ 62 by omega),Q0 (show l.length<2 ^ 58 by omega),Q2 (show l.length<2 ^ 58 by omega),AB,AW,DE]
theorem ADG(h:r.AZ.length<2 ^ 62)(a:E3 c){l:List AR}(g:l.length<=1048576){k:Int}(e:Ds l k<=19)(now:Int):AIR r c l k now=some (MD r c l k now):=by have j:=a.1;have q:=KL a.2;unfold AIR Au MD;simp only[TI a,TJ h g e,O8 (show c.Row.length<2 ^ 62 by omega),Qq a.2,eW g e,Nd (show (Fk c.B9).length<2 ^ 62 by omega),eV (show l.length<2 ^ 58 by omega),eX (show l.length<2 ^ 58 by omega),AB,AW,DE]
def Jb(q p:AR):Bool:=(q.A3==p.A3)||((decide (q.A3<p.A3)&&decide (p.Since<q.Since))||(decide (p.A3<q.A3)&&decide (q.Since<p.Since)))
def fF(h:AF)(i:Nat):Bool:=
 LK h.AG i λp=>EE h.AQ p h.Now&&(!(decide (p.A3>=h.A3))&&((if 0<i then LK h.AG (i-1) (λq=>!(decide (q.Id>=p.Id))) else true)&&Jt (λk=>LK h.AG k λq=>!(Jb q p)) 0 i))
def MV(h:AF):Bool:=Jt (fF h) 0 h.AG.length
theorem ft(e:Bt h):AWS h=some (MV h):=by
 have y:=e.EI;have B:=e.Cc;unfold AWS MV;rw[LX (n:=h.AG.length) (E:=some true) (fF h) (by omega) ?_ ?_,DE,Ce];intro L i hi;unfold fF;rw[Ch hi];have j:∀b,Vt h L i h.AG[i] b=br (!b&&Jt (λk=>LK h.AG k λq=>!(Jb q h.AG[i])) 0 i) (L ((i+1:Nat):Int)) (some false):=by
  intro b;unfold Vt;rw[LX (n:=i) (E:=L ((i+1:Nat):Int)) (λk=>LK h.AG k λq=>!(Jb q h.AG[i])) (by omega) ?_ ?_];cases b<;>rfl;intro L' k g;have a:k<h.AG.length:=by omega
  have c:∀b,C5 L' k b=br (!b) (L' ((k+1:Nat):Int)) (some false):=by intro b;unfold C5;rw[Bh g];cases b<;>rfl
  rw[Ch a];unfold vJ Jb;rw[bnT g,BT a,AB];simp only[AW,c,gt_iff_lt];cases h.AG[k].A3==h.AG[i].A3<;>cases decide (h.AG[k].A3<h.AG[i].A3)<;>cases decide (h.AG[i].Since<h.AG[k].Since)<;>cases decide (h.AG[i].A3<h.AG[k].A3)<;>cases decide (h.AG[k].Since<h.AG[i].Since)<;>rfl;intro L';unfold vJ Qi;rw[bnJ,Bh hi]
 unfold vI;grind[CB,BT,AB,O6,BW,AW,LK,LP,EE,decide_eq_false];grind[vI,EZ,CI,AW]
theorem Ti{l:List Int}(c:l.length<2 ^ 62)(x:Int):ALh l x=some (l.any (λy=>y==x)):=by
 unfold ALh;refine(Dl (n:=l.length) (λi (_:Unit)=>(i:Int)) (λ_ _=>True) (λi _=>some ((l.drop i).any (λy=>y==x))) (by omega) ?_ (v:=()) trivial);intro L i _ _ hi a;unfold AIf AIe;rcases AV i l.length with h|h;rw[bnT h,BT h,AB,Bh h,D4 h,List.any_cons];cases l[i]==x with|true=>rfl|false=>rw[CI,a () trivial h];rfl
 grind[CI,AW]
theorem RI{l:List Int}(a:l.length<2 ^ 62)(x:Int):qv l x=some (l.any (λy=>y==x)):=by unfold qv AOw;rw[Su (l:=l) (p:=λy=>x==y) (by omega) ?_ ?_,AB];congr 1;rw[I3,decide_eq_true_iff,List.any_eq_true];have:=iG (p:=λy=>x==y) (l:=l) (s:=0);grind;grind[i6,CB,BT,AB];grind[i6,HH,CI,AW]
def Tl(t:List Int)(n:Int)(i:Nat):Bool:=LK t i λk=>inB k 0 (w64 (n-1))&&!((t.take i).any λy=>y==k)
def IS(t:List Int)(n:Int):Bool:=Jt (Tl t n) 0 t.length
def Km(t:List Int)(n:Int):Bool:=t.all λx=>inB x (-1) (w64 (n-1))
theorem zu(a:Bt h):AWT h=some (IS h.BM h.AI.length&&(Km h.BI h.AI.length&&((h.BI.length:Int)==h.AQ.Da))):=by
 have e:=a.todo;have g:=a.Gs;have c:gF h ()=some (Km h.BI h.AI.length&&((h.BI.length:Int)==h.AQ.Da)):=by unfold gF Km;rw[qN (l:=h.BI) (λx=>inB x (-1) (w64 ((h.AI.length:Int)-1))) (E:=some ((h.BI.length:Int)==h.AQ.Da)) (by omega) ?_ ?_,DE];intro L i hi;unfold vN;rw[bnT hi,BT hi,AB,Db,AB,BW];intro L;unfold vN AIs;rw[bnJ]
 unfold AWT IS;rw[LX (n:=h.BM.length) (E:=gF h ()) (Tl h.BM h.AI.length) (by omega) ?_ ?_,c,DE];intro L i hi;unfold Tl;rw[Ch hi];unfold vK C5;grind[CB,BT,AB,Db,BW,D2,Ti,AW,Bh,inB];grind[vK,CI,AW]
def dh(h:AF)(i:Nat):Bool:=
 LK h.AI i λc=>LK h.AQ.AZ i (λs=>c.AZ.Total==s)&&(MD h.AQ c h.AG i h.Now&&!(decide (Ds h.AG i>h.AQ.Room)))
def Ot(h:AF):Bool:=Jt (dh h) 0 h.AI.length
def C0(h:AF):Bool:=
 EG h.AQ&&(inB h.Now 0 1000000&&(inB h.A3 1 1000001&&(!(decide ((h.AG.length:Int)>40))&&(((h.AI.length:Int)==(h.AQ.AZ.length:Int))&&(MV h&&((IS h.BM h.AI.length&&(Km h.BI h.AI.length&&((h.BI.length:Int)==h.AQ.Da)))&&Ot h))))))
theorem GV(a:Bt h):iU h=some (C0 h):=by
 have G:=a.EI;have q:=a.Cc;have H:=a.EH;have B:Qg h true=some false:=rfl;unfold iU C0;by_cases y:h.AI.length=h.AQ.AZ.length;have g:∀b,gD h b=some (!b&&Ot h):=by
  intro b;unfold gD Ot;rw[LX (n:=h.AI.length) (E:=some true) (dh h) (by omega) ?_ ?_,DE,Ce,Ia];intro L i hi;have j:∀b,C5 L i b=br (!b) (L ((i+1:Nat):Int)) (some false):=by intro b;unfold C5;rw[Bh hi];cases b<;>rfl
  unfold dh;rw[Ch hi,Ch (show i<h.AQ.AZ.length by omega)];unfold vB;rw[bnT hi,BT hi,AB,BT (show i<h.AQ.AZ.length by omega),AB,AB,AER (by omega) (a.EX _ (Aw hi)) q,AB,BW,JL (by omega),AB];simp only[AW,j,bne];cases h.AI[i].AZ.Total==h.AQ.AZ[i]<;>cases MD h.AQ h.AI[i] h.AG i h.Now<;>cases decide (Ds h.AG i>h.AQ.Room)<;>rfl;intro L;unfold vB EZ;rw[bnJ]
 have c:∀b,Qg h b=some (!b&&(MV h&&((IS h.BM h.AI.length&&(Km h.BI h.AI.length&&((h.BI.length:Int)==h.AQ.Da)))&&Ot h))):=by intro b;unfold Qg;simp only[ft a,zu a,AB,BW,AW,g,B5,Bv,Ee,DE,Ia]
 simp only[JM (show h.AQ.AZ.length<2 ^ 62 by omega),Db,AB,BW,AW,c,B5,Bv,DE,Ia,bne,Ee];have e:((h.AI.length:Int)==(h.AQ.AZ.length:Int))=false:=by rw[beq_eq_false_iff_ne];omega
 simp only[JM (show h.AQ.AZ.length<2 ^ 62 by omega),Db,AB,BW,AW,bne,e,Ei,B,YH,Bv,D3]
theorem GR(g:Bt h):Ty h=some (C0 h):=by
 have h1:=g.EI;have h2:=g.Cc;have h3:=g.EH;have h4:=g.todo;have h5:=g.Gs;have ht:Np h true=some false:=rfl;unfold Ty C0;by_cases Z:EG h.AQ=false;rw[JD (by omega),AB,Z,BW,brJ,ht];rfl;rw[FF]at Z;have hrm:=(CU Z).2.2.1;by_cases c:h.AI.length≠h.AQ.AZ.length;have e:((h.AI.length:Int)==(h.AQ.AZ.length:Int))=false:=by rw[beq_eq_false_iff_ne];omega
 simp only[JD (show h.AQ.AZ.length<2 ^ 62 by omega),Db,AB,BW,AW,bne,e,Ei,ht,CB,YH,Bv,D3];have c:=Classical.not_not.1 c;have H:Vr h ()=some (Km h.BI h.AI.length):=by unfold Vr Km;rw[qN (l:=h.BI) (λx=>inB x (-1) (w64 ((h.AI.length:Int)-1))) (E:=some true) (by omega) ?_ ?_,DE,Ce];intro L i hi;unfold bG;rw[bnT hi,BT hi,AB,Db,AB,BW,c];intro L;unfold bG EZ;rw[bnJ]
 have G:Vq h ()=some (IS h.BM h.AI.length&&Km h.BI h.AI.length):=by unfold Vq IS;rw[LX (n:=h.BM.length) (E:=Vr h ()) (Tl h.BM h.AI.length) (by omega) ?_ ?_,H,DE];intro L i hi;unfold Tl;rw[Ch hi];unfold bF C5;rw[bnT hi,BT hi,AB,Zk,AB,BW,DX,Ah,RI (by rw[Ag];omega),AB,AW,AW,Bh hi,CB,c];cases inB h.BM[i] 0 (w64 ((h.AQ.AZ.length:Int)-1))<;>cases (h.BM.take i).any (λy=>y==h.BM[i])<;>rfl;intro L;unfold bF;rw[bnJ]
 have e7:YT h ()=some (Ot h&&(IS h.BM h.AI.length&&Km h.BI h.AI.length)):=by
  unfold YT Ot;rw[LX (n:=h.AI.length) (E:=Vq h ()) (dh h) (by omega) ?_ ?_,G,DE];intro L i hi;have B:∀b,C5 L i b=br (!b) (L ((i+1:Nat):Int)) (some false):=by intro b;unfold C5;rw[Bh hi];cases b<;>rfl
  unfold dh;rw[Ch hi,Ch (show i<h.AQ.AZ.length by omega)];unfold jB;rw[bnT hi,BT hi,AB,BT (show i<h.AQ.AZ.length by omega),AB,JL (by omega),AB];by_cases hc:Ds h.AG i>h.AQ.Room;rw[decide_eq_true hc];simp only[AW,B,bne,CB];cases h.AI[i].AZ.Total==h.AQ.AZ[i]<;>cases MD h.AQ h.AI[i] h.AG i h.Now<;>rfl;rw[decide_eq_false hc,ADG (by omega) (g.EX _ (Aw hi)) h2 (by omega),AB];simp only[AW,B,bne,CI];cases h.AI[i].AZ.Total==h.AQ.AZ[i]<;>cases MD h.AQ h.AI[i] h.AG i h.Now<;>rfl;intro L;unfold jB;rw[bnJ]
 have J:∀b,Np h b=some (!b&&(!(decide ((h.AG.length:Int)>40))&&(MV h&&(Ot h&&(IS h.BM h.AI.length&&Km h.BI h.AI.length))))):=by
  intro b;unfold Np MV;rw[LX (n:=h.AG.length) (E:=YT h ()) (fF h) (by omega) ?_ ?_,e7,DE,Ia,Ia];intro L i hi;unfold fF;rw[Ch hi];have O:∀b,Rh h L i h.AG[i] b=br (!b&&Jt (λk=>LK h.AG k λq=>!(Jb q h.AG[i])) 0 i) (L ((i+1:Nat):Int)) (some false):=by
   intro b;unfold Rh;rw[DX,LX (n:=i) (E:=L ((i+1:Nat):Int)) (λk=>LK h.AG k λq=>!(Jb q h.AG[i])) (by omega) ?_ ?_];cases b<;>rfl;intro L' k hk;have Y:k<h.AG.length:=by omega
   have S:∀b,C5 L' k b=br (!b) (L' ((k+1:Nat):Int)) (some false):=by intro b;unfold C5;rw[Bh hk];cases b<;>rfl
   have a:(h.AG.take i).length=i:=by rw[Ag];omega
   have I:at? (h.AG.take i) (k:Int)=some h.AG[k]:=by rw[BT (by omega)];simp
   rw[Ch Y];unfold jA Jb;rw[Ah,a,bnT hk,I,AB];have eb:(h.AG[i].A3==h.AG[k].A3)=(h.AG[k].A3==h.AG[i].A3):=BEq.comm;simp only[AW,S,gt_iff_lt,eb];cases h.AG[k].A3==h.AG[i].A3<;>cases decide (h.AG[k].A3<h.AG[i].A3)<;>cases decide (h.AG[i].Since<h.AG[k].Since)<;>cases decide (h.AG[i].A3<h.AG[k].A3)<;>cases decide (h.AG[k].Since<h.AG[i].Since)<;>rfl;intro L';have a:(h.AG.take i).length=i:=by rw[Ag];omega
   unfold jA Qi;rw[Ah,a,bnJ,Bh hi]
  unfold i7;rw[bnT hi,BT hi,AB,Oy (by omega),AB,BW,gO];simp only[AW,O];generalize Jt (λk=>LK h.AG k λq=>!(Jb q h.AG[i])) 0 i=X;by_cases j:0<i;rw[brT j,AY j,LP i j (by omega),BT (show i-1<h.AG.length by omega),AB,Ch (show i-1<h.AG.length by omega)];cases EE h.AQ h.AG[i] h.Now<;>cases decide (h.AG[i].A3>=h.A3)<;>cases decide (h.AG[i-1].Id>=h.AG[i].Id)<;>rfl;rw[brF j,Aa j];cases EE h.AQ h.AG[i] h.Now<;>cases decide (h.AG[i].A3>=h.A3)<;>rfl;intro L;unfold i7;rw[bnJ]
 have e:((h.AI.length:Int)==(h.AQ.AZ.length:Int))=true:=by rw[beq_iff_eq];omega
 simp only[JD (show h.AQ.AZ.length<2 ^ 62 by omega),Db,AB,BW,AW,J,B5,Bv,DE,Ia,bne,Ee,e,CB,Ei,Co];congr 1;ac_rfl
def Up(n:Int):Bool:=inB n 0 9999
theorem AEX(n:Int):QV n=some (Up n):=by unfold QV Up;rw[Db,AB]
def LD(q:Bo):Bool:=
 if q.Kind=1 then Up q.Id&&(Up q.Ab&&(inB q.Bs (-1) 9999&&(Up q.BL&&Up q.DH)))
 else if q.Kind=2\/q.Kind=4\/q.Kind=5\/q.Kind=7 then Up q.Id&&(q.Ab==0&&(q.Bs==0&&(q.BL==0&&q.DH==0)))
 else if q.Kind=3 then Up q.Ab&&(Up q.BL&&(q.Id==0&&(q.Bs==0&&q.DH==0)))
 else if q.Kind=6 then q.Id==0&&(q.Ab==0&&(q.Bs==0&&(q.BL==0&&q.DH==0)))
 else false
theorem oz(q:Bo):vD q=some (LD q):=by have ⟨k,a,b,c,d,e⟩:=q;unfold vD Vo Au LD;simp only[AW,AEX,AB,Db,DE,Be,beq_iff_eq];grind
theorem ADM(q:Bo):dq q=some (LD q):=by have ⟨k,a,b,c,d,e⟩:=q;unfold dq Ri Au LD;simp only[AW,AEX,AB,Db,DE,Be,beq_iff_eq];grind
structure CS(e:Ai):Prop where
 Dt:Bt e.BG
 log:e.Ac.Log.Data.length<=1048576
 even:e.Ac.DR.Data.length<=1048576
 odd:e.Ac.Odd.Data.length<=1048576
 laid:e.Laid.length<=1048576
def DC(e:Ai):Bool:=C0 e.BG&&(Ek e.Ac&&(!(decide ((e.Laid.length:Int)>8))&&(inB e.Seq e.Laid.length 1000000&&e.Laid.all LD)))
theorem Ed(a:CS e):vE e=some (DC e):=by
 have g:=a.laid;have c:∀b,Vp e b=some (!b&&e.Laid.all LD):=by intro b;unfold Vp;rw[qN (l:=e.Laid) LD (E:=some true) (by omega) ?_ ?_,DE,Ce,Ia];intro L i h;unfold vF;rw[bnT h,BT h,AB,oz,AB,BW];grind[vF,EZ,CI,AW]
 unfold vE DC;simp only[GV a.Dt,O9,Db,AB,BW,AW,c,B5,Bv,DE,Ia,Ee]
theorem RJ(a:CS e):qy e=some (DC e):=by
 have g:=a.laid;have c:∀b,Rj e b=some (!b&&e.Laid.all LD):=by intro b;unfold Rj;rw[qN (l:=e.Laid) LD (E:=some true) (by omega) ?_ ?_,DE,Ce,Ia];intro L i h;unfold jC;rw[bnT h,BT h,AB,ADM,AB,BW];grind[jC,EZ,CI,AW]
 unfold qy DC;simp only[GR a.Dt,O9,Db,AB,BW,AW,c,B5,Bv,DE,Ia,Ee]
@[simp] theorem gi(a b c:Int):C3 a b c=some (decide (b<=a/\a<=c)):=by grind[C3,Au,BV,AW]
@[simp] theorem So(a b c:Int):C3 a b c=some (decide (b<=a/\a<=c)):=by grind[C3,Au,BV,AW]
def Fm(n:Nat):List UInt8:=if n<128 then [UInt8.ofNat n] else UInt8.ofNat (n % 128+128)::Fm (n / 128)
decreasing_by omega
def pN(n:Int):List UInt8:=if 0<=n/\n<=2147483647 then Fm n.toNat else []
theorem LU(h:n<128):Fm n=[UInt8.ofNat n]:=by rw[Fm,AY h]
theorem TZ(h:128<=n):Fm n=UInt8.ofNat (n % 128+128)::Fm (n / 128):=by rw[Fm,ifN]
theorem JK(n:Nat):0<(Fm n).length:=by rw[Fm];split<;>simp
theorem fH:∀(k n:Nat),n<128 ^ (k+1)->(Fm n).length<=k+1
 |0,n,h=>by rw[LU (by simpa using h)];simp|k+1,n,h=>by rcases AV n 128 with a|a;rw[LU a];simp;rw[TZ a];have:=fH k (n / 128) (by rw[C9 (by omega)];rw[IX]at h;exact h);simp only[AK];omega
theorem Lr(h:n<=2147483647):(Fm n).length<=5:=fH 4 n (by omega)
theorem RQ(n:Int):(pN n).length<=5:=by unfold pN;split
                                       exact Lr (by omega);simp
theorem AKo{F:(Int×List UInt8->AA (List UInt8))->Int×List UInt8->AA (List UInt8)}
 (hF:∀L n acc,F L (n,acc)=if n<128 then gd (acc.length+1<=lim) (some (acc++[toB n])) else gd (acc.length+1<=lim) (L (w64 (Int.tdiv n 128),acc++[toB (w64 (Int.tmod n 128+128))])))
 {n:Nat} (j:n<=2147483647):BK F big ((n:Int),[])=some (Fm n):=by
 have:=cY (F:=F) (x:=((n:Int),[])) (λx=>some (x.2++Fm x.1.toNat)) (λx=>0<=x.1/\x.1<=2147483647/\x.2.length+(Fm x.1.toNat).length<=5) (λx=>x.1.toNat) ?_ ?_ ?_;simpa using this;rintro L ⟨m,acc⟩ ⟨e,q,g⟩ hL;obtain⟨m,rfl⟩:=AX e;rw[hF];simp only[Ah]at g hL ⊢;have hlim:acc.length+1<=lim:=by have:=JK m;unfold lim;omega
 by_cases h:m<128;rw[ifP,D2 hlim,LU h,AK8 (by omega)];have a:Int.tdiv (m:Int) 128=((m / 128:Nat):Int):=by rw[Hr (by omega)];rfl
 have c:Int.tmod (m:Int) 128+128=((m % 128+128:Nat):Int):=by rw[EY (by omega)];omega
 have y:=TZ (n:=m) (by omega);rw[ifN,D2 hlim,a,c,A6,A6,AK8 (by omega)];grind;refine⟨by omega,by dsimp only;omega,?_⟩;have:=Lr j;simpa using this;omega
@[simp] theorem VV(n:Int):jH n=some (pN n):=by unfold jH pN;simp only[gi,AB,BW,BV];split;rename_i h;obtain⟨m,rfl⟩:=AX h.1;refine AKo (λL n acc=>?_) (by omega);unfold ABD YW;simp only[BV,AW,AK,AT,A1];by_cases h:n>127;grind;rw[Aa h,ifP];rfl
@[simp] theorem Lo(n:Int):YR n=some (pN n):=by unfold YR pN;simp only[So,AB,BW,BV];split;rename_i h;obtain⟨m,rfl⟩:=AX h.1;refine AKo (λL n acc=>?_) (by omega);unfold AA9 YW;simp only[BV,AW,AK,AT,A1];by_cases h:n>=128;grind;rw[Aa h,ifP];rfl
def rdN:Nat->Nat->Nat->List UInt8->AA (Nat×Nat)
 |0,_,_,_=>none|_+1,_,_,[]=>none|f+1,k,a,d::l=>
  if d.toNat<128 then (if (0<k/\d.toNat=0)\/2147483647<a+(d.toNat % 128)*2 ^ (7*k) then none else some (a+(d.toNat % 128)*2 ^ (7*k),k+1))
  else rdN f (k+1) (a+(d.toNat % 128)*2 ^ (7*k)) l
def wS(at_:Nat):AA (Nat×Nat)->Int×Int×Bool|some (n,m)=>((n:Int),((at_+m:Nat):Int),true)|none=>(0,0,false)
def gN(b:List UInt8)(i:Int):Int×Int×Bool:=if 0<=i/\i<b.length then wS i.toNat (rdN 5 0 0 (b.drop i.toNat)) else (0,0,false)
theorem AEL{c s:Nat}(g:c<128)(a:s<=28):px (c:Int) (s:Int)=((c*2 ^ s:Nat):Int):=by
 have e:c*2 ^ s<2 ^ 35:=by
  have:2 ^ s<=2 ^ 28:=HE (by omega) a;calc c*2 ^ s<=127*2 ^ 28:=Nat.mul_le_mul (by omega) this
   _<2 ^ 35:=by decide
 grind[IntKind.bits,WR]
theorem SN(h:n<2 ^ 63):(BitVec.ofInt IntKind.i64.bits (n:Int)).toNat=n:=by simp only[IntKind.bits,BitVec.toNat_ofInt];omega
theorem AW6{a b:Nat}(c:a<2 ^ 63)(e:b<2 ^ 63):orI (a:Int) (b:Int)=((a |||b:Nat):Int):=by unfold orI;rw[BitVec.toNat_or,SN c,SN e];have:a |||b<2 ^ 63:=Nat.or_lt_two_pow c e;rw[WR (by omega) (by omega)]
theorem AZb{a c s:Nat}(e:a<2 ^ s):a |||c*2 ^ s=a+c*2 ^ s:=by have:=Nat.two_pow_add_eq_or_of_lt e c;rw[Nat.or_comm,Nat.mul_comm,<-this,Nat.add_comm]
theorem ADs:∀(k n:Nat),n<128 ^ (k+1)->((Fm n).length=k+1↔k=0\/128 ^ k<=n)
 |0,n,h=>by rw[LU (by simpa using h)];simp|k+1,n,h=>by
  rcases AV n 128 with a|a;grind[LU];rw[TZ a];have c:n / 128<128 ^ (k+1):=by rw[C9 (by omega)];rw[IX]at h;exact h
  have:=ADs k (n / 128) c;have e:128 ^ k<=n / 128↔128 ^ (k+1)<=n:=by rw[Nat.le_div_iff_mul_le (by omega),IX]
  grind
theorem AZf(k:Nat):(2:Nat) ^ (7*k)=128 ^ k:=by rw[Nat.pow_mul]
theorem digit{a c:Nat}(j:k<5)(g:a<128 ^ k)(h:c<128):a+c*2 ^ (7*k)<128 ^ (k+1)/\a+c*2 ^ (7*k)<2 ^ 35:=by
 rw[AZf];have e:a+c*128 ^ k<128 ^ (k+1):=by have:c*128 ^ k<=127*128 ^ k:=Ap _ (by omega);rw[IX];omega
 refine⟨e,Nat.lt_of_lt_of_le e ?_⟩;calc 128 ^ (k+1)<=128 ^ 5:=HE (by omega) (by omega)
  _=2 ^ 35:=by decide
theorem Sg{b:List UInt8}(I:b.length<2 ^ 62){i:Nat}(hi:i<2 ^ 62):∀(f k a n:Nat),f+k=5->f<n->a<128 ^ k ->
 BK (Rp b i) n ((a:Int),(k:Int))=some (wS i (rdN f k a (b.drop (i+k))))
 |0,k,a,n,S,Y,g=>by obtain⟨n,rfl⟩:∃m,n=m+1:=⟨n-1,by omega⟩;rw[ED];unfold Rp UQ;simp only[BV,AW];rw[ifN];rfl
 |f+1,k,a,n,S,Y,g=>by
  obtain⟨n,rfl⟩:∃m,n=m+1:=⟨n-1,by omega⟩;rw[ED];generalize hL:BK (Rp b i) n=L;unfold Rp;simp only[BV,AW];rw[ifP,ifN];unfold Yf Yg;simp only[BV,AW,CB,Be,ge_iff_le,beq_iff_eq,decide_eq_true_eq];rw[A6 (n:=(b.length:Int)-k)];cases e:b.drop (i+k) with
  |nil=>have:b.length<=i+k:=HA.1 e;rw[ifP];rfl
  |cons d l=>
   have X:i+k<b.length:=by rcases AV (i+k) b.length with h|h;exact h;rw[A9 h]at e;cases e
   have J:b[i+k]?=some d:=by have:=Bw (xs:=b) (i:=i+k) (j:=0);rw[e]at this;simpa using this.symm
   have q:b.drop (i+(k+1))=l:=by rw[<-CW,<-DD,e];rfl
   rw[ifN,A6 (n:=(i:Int)+k),show (i:Int)+k=((i+k:Nat):Int) from by push_cast;rfl,LQ,J,AB];have O:d.toNat<256:=d.toNat_lt;have G:w64 (7*(k:Int))=((7*k:Nat):Int):=by rw[A6];push_cast;rfl
   have ed:w64 ((d.toNat:Nat):Int)=(d.toNat:Int):=A6 (by omega) (by omega);have em:Int.tmod (d.toNat:Int) 128=((d.toNat % 128:Nat):Int):=by rw[EY (by omega)];rfl
   have ⟨B,Z⟩:=digit (a:=a) (k:=k) (c:=d.toNat % 128) (by omega) g (by omega);have y:orI (a:Int) (px ((d.toNat % 128:Nat):Int) ((7*k:Nat):Int))=((a+(d.toNat % 128)*2 ^ (7*k):Nat):Int):=by rw[AEL (by omega) (by omega)];rw[AW6 (by have:=HE (n:=128) (by omega) (show k<=5 by omega);omega) (by omega),AZb (by rw[AZf];exact g)]
   rw[G,DX,ed,em,y];simp only[rdN];have E:w64 ((k:Int)+1)=((k+1:Nat):Int):=A6 (by omega) (by omega);by_cases H:d.toNat<128;grind[wS,Prod.mk.injEq,A6];rw[ifN,Aa H,E,<-hL,Sg I hi f (k+1) _ n (by omega) (by omega) B,q]
theorem SC{b:List UInt8}(S:b.length<2 ^ 62){i:Nat}(hi:i<2 ^ 62):∀(f k a n:Nat),f+k=5->f<n->a<128 ^ k ->
 BK (UO b i) n ((a:Int),(k:Int))=some (wS i (rdN f k a (b.drop (i+k))))
 |0,k,a,n,Z,hn,G=>by obtain⟨n,rfl⟩:∃m,n=m+1:=⟨n-1,by omega⟩;rw[ED];unfold UO Ya UQ;simp only[BV,AW];rw[ifN];rfl
 |f+1,k,a,n,Z,hn,G=>by
  obtain⟨n,rfl⟩:∃m,n=m+1:=⟨n-1,by omega⟩;rw[ED];generalize hL:BK (UO b i) n=L;unfold UO;simp only[BV,AW];rw[ifP];unfold Ya UQ;simp only[BV,AW,Be,bne_iff_ne,Lo,AB,decide_eq_true_eq];rw[A6 (n:=(i:Int)+k),show (i:Int)+k=((i+k:Nat):Int) from by push_cast;rfl];cases e:b.drop (i+k) with
  |nil=>have:b.length<=i+k:=HA.1 e;rw[ifN];rfl
  |cons d l=>
   have hlt:i+k<b.length:=by rcases AV (i+k) b.length with h|h;exact h;rw[A9 h]at e;cases e
   have X:b[i+k]?=some d:=by have:=Bw (xs:=b) (i:=i+k) (j:=0);rw[e]at this;simpa using this.symm
   have y:b.drop (i+(k+1))=l:=by rw[<-CW,<-DD,e];rfl
   rw[ifP,LQ,X,AB];have Y:d.toNat<256:=d.toNat_lt;have J:w64 (7*(k:Int))=((7*k:Nat):Int):=by rw[A6];push_cast;rfl
   have ed:w64 ((d.toNat:Nat):Int)=(d.toNat:Int):=A6 (by omega) (by omega);have em:Int.tmod (d.toNat:Int) 128=((d.toNat % 128:Nat):Int):=by rw[EY (by omega)];rfl
   have ⟨q,hs2⟩:=digit (a:=a) (k:=k) (c:=d.toNat % 128) (by omega) G (by omega);have B:w64 ((a:Int)+(px ((d.toNat % 128:Nat):Int) ((7*k:Nat):Int)))=((a+(d.toNat % 128)*2 ^ (7*k):Nat):Int):=by rw[AEL (by omega) (by omega),A6];push_cast;rfl
   rw[J,DX,ed,em,B];simp only[rdN,Lo,AB];have I:w64 ((k:Int)+1)=((k+1:Nat):Int):=A6 (by omega) (by omega);rw[I];by_cases E:d.toNat<128;rw[ifP,AY E];have g:128 ^ k<=a+(d.toNat % 128)*2 ^ (7*k)↔d.toNat≠0:=by rw[AZf];constructor;rintro h O;rw[O]at h;simp at h;omega;intro h;have:1*128 ^ k<=d.toNat % 128*128 ^ k:=Ap _ (by omega);omega
   have H:((pN ((a+(d.toNat % 128)*2 ^ (7*k):Nat):Int)).length:Int)≠((k+1:Nat):Int)↔(0<k/\d.toNat=0)\/2147483647<a+(d.toNat % 128)*2 ^ (7*k):=by unfold pN;split;rename_i hle;rw[Ah];have:=ADs k _ q;rw[g]at this;rw[Ne,Nj,this];omega;simp only[AT];omega
   grind[wS,A6];rw[ifN,Aa E,<-hL,SC S hi f (k+1) _ n (by omega) (by omega) q,y]
theorem Qz(c:b.length<2 ^ 62)(i:Int)(hi:i<2 ^ 62):jl b i=some (gN b i):=by unfold jl gN;by_cases a:0<=i;obtain⟨j,rfl⟩:=AX a;have:=Sg c (i:=j) (by omega) 5 0 0 big (by omega) (FM _ (by omega)) (by omega);refine Eq.trans this ?_;simp only[Ah,DV];split;rfl;rw[A9 (by omega)];rfl;have ⟨n,e⟩:=Rb 0 (by omega);grind[ED,Rp,Yf,BV,AW]
theorem Qp(c:b.length<2 ^ 62)(i:Int):jM b i=some (gN b i):=by unfold jM gN;simp only[So,AB,BW,BV];rw[A6];by_cases a:0<=i/\i<b.length;obtain⟨j,rfl⟩:=AX a.1;rw[ifP,AY a];have:=SC c (i:=j) (by omega) 5 0 0 big (by omega) (FM _ (by omega)) (by omega);grind;grind
theorem AYP(h:n<256):(UInt8.ofNat n).toNat=n:=by simp;omega
theorem zS:∀(f k a n:Nat) (l:List UInt8),(Fm n).length<=f->(k=0\/n≠0)->a+n*2 ^ (7*k)<=2147483647->rdN f k a (Fm n++l)=some (a+n*2 ^ (7*k),k+(Fm n).length)
 |0,k,a,n,l,h,_,_=>by have:=JK n;omega|f+1,k,a,n,l,h,q,j=>by
  rcases AV n 128 with c|c;rw[LU c];simp only[A8,Az,rdN,AK,AT];rw[AYP (by omega),AY c,Ll c,ifN];rw[TZ c]at h ⊢;simp only[A8,rdN,AK]at h ⊢;rw[AYP (by omega),ifN];have e:(n % 128+128) % 128=n % 128:=by omega
  have g:a+n % 128*2 ^ (7*k)+n / 128*2 ^ (7*(k+1))=a+n*2 ^ (7*k):=by grind[Nat.mod_add_div]
  rw[e,zS f (k+1) _ (n / 128) l (by omega) (by omega) (by rw[g];exact j),g];congr 2;omega
theorem gw:∀(f k a:Nat) (l:List UInt8) (N m:Nat),rdN f k a l=some (N,m)->∃n l',l=Fm n++l'/\N=a+n*2 ^ (7*k)/\m=k+(Fm n).length/\(k=0\/n≠0)/\N<=2147483647
 |0,k,a,l,N,m,h=>by cases h
 |f+1,k,a,[],N,m,h=>by cases h
 |f+1,k,a,d::l,N,m,h=>by
  have y:d.toNat<256:=d.toNat_lt;simp only[rdN]at h;split at h;rename_i e;split at h;cases h;rename_i B;cases h;refine⟨d.toNat,l,?_,?_,?_,by omega,by omega⟩;rw[LU e];simp;rw[Ll e];rw[LU e];rfl;rename_i e;have ⟨n,l',g,E,j,G,q⟩:=gw f (k+1) _ l N m h;have H:n≠0:=by omega
  have c:128<=d.toNat % 128+128*n:=by omega
  refine⟨d.toNat % 128+128*n,l',?_,?_,?_,.inr (by omega),q⟩;rw[TZ c,show (d.toNat % 128+128*n) % 128+128=d.toNat by omega,show (d.toNat % 128+128*n) / 128=n by omega,g];simp;grind;rw[TZ c,show (d.toNat % 128+128*n) / 128=n by omega,j];simp only[AK];omega
def rdL:Nat->List UInt8->AA (List Int)
 |0,_=>none|f+1,[]=>some []|f+1,l=>match rdN 5 0 0 l with|some (n,m)=>(rdL f (l.drop m)).map ((n:Int)::·)|none=>none
def okN(n:Int):Prop:=0<=n/\n<=2147483647
def pL(l:List Int):List UInt8:=l.flatMap pN
theorem AKl{n:Int}(h:okN n):pN n=Fm n.toNat:=by unfold pN;rw[AY (show 0<=n/\n<=2147483647 from h)]
theorem nn{n:Int}(h:okN n):0<(pN n).length:=by rw[AKl h];exact JK _
theorem AHL{n:Int}(h:okN n)(l:List UInt8):rdN 5 0 0 (pN n++l)=some (n.toNat,(pN n).length):=by rw[AKl h,zS 5 0 0 n.toNat l (Lr (by have:=h.2;omega)) (.inl rfl) (by have:=h.2;simp;omega)];simp
theorem zR:∀(l:List Int) (f:Nat),(∀n∈l,okN n)->(pL l).length<f->rdL f (pL l)=some l
 | [],f,_,h=>by obtain⟨f,rfl⟩:∃g,f=g+1:=⟨f-1,by omega⟩;rfl
 |n::l,f,j,h=>by
  obtain⟨f,rfl⟩:∃g,f=g+1:=⟨f-1,by omega⟩;have a:=j n (by simp);have q:=nn a;have e:pL (n::l)=pN n++pL l:=by simp[pL]
  rw[e]at h ⊢;have c:pN n++pL l≠[]:=by intro h;rw[Ix]at h;rw[h.1]at q;simp at q
  rw[rdL.eq_3 _ _ (by simpa using c),AHL a];simp only[Ej];rw[zR l f (λm y=>j m (by simp[y])) (by rw[AH]at h;omega)];simp only[Option.map_some,Int.toNat_of_nonneg a.1]
theorem aF:∀(f:Nat) (s:List UInt8) (l:List Int),rdL f s=some l->s=pL l/\∀n∈l,okN n
 |0,s,l,h=>by cases h
 |f+1,[],l,h=>by cases h;exact⟨rfl,by simp⟩
 |f+1,d::s,l,h=>by rw[rdL.eq_3 _ _ (by simp)]at h;split at h;rename_i n m B;have ⟨H,l',c,e,g,_,G⟩:=gw _ _ _ _ _ _ B;simp only[Nat.mul_zero,Nat.pow_zero,Nat.mul_one,A1]at e g;subst e g;rw[Option.map_eq_some_iff]at h;obtain⟨E,j,rfl⟩:=h;rw[c,Ej]at j;have ⟨q,y⟩:=aF f l' E j;refine⟨?_,?_⟩;rw[c,q];simp only[pL,CV];rw[AKl ⟨by omega,by omega⟩];simp;intro x a;rcases Ae.1 a with rfl|a;exact⟨by omega,by omega⟩;exact y x a;cases h
def AHK:AA (List Int)->List Int×Bool|some l=>(l,true)|none=>([],false)
theorem oC{b:List UInt8}(y:b.length<=1048576){G:List UInt8->Int->AA (Int×Int×Bool)}(hG:∀i:Int,i<2 ^ 62->G b i=some (gN b i))
 {F:(List Int×Int->AA (List Int×Bool))->List Int×Int->AA (List Int×Bool)}
 (hF:∀L acc i,F L (acc,i)=if i<(b.length:Int) then bd (G b i) λx=>br (!x.2.2) (some ([],false)) (gd (acc.length+1<=lim) (L (acc++[x.1],x.2.1))) else some (acc,true)) :
 ∀(f i n:Nat) (acc:List Int),b.length<f+i->f<=n->acc.length<=i->i<=b.length->BK F n (acc,(i:Int))=some (match rdL f (b.drop i) with|some l=>(acc++l,true)|none=>([],false))
 |0,i,n,acc,e,g,j,q=>by omega|f+1,i,n,acc,e,g,j,q=>by
  obtain⟨n,rfl⟩:∃m,n=m+1:=⟨n-1,by omega⟩;rw[ED,hF];by_cases hi:i<b.length;rw[ifP,hG _ (by omega),AB];unfold gN;rw[ifP,Ah];have c:b.drop i≠[]:=by intro h;rw[HA]at h;omega
  rw[rdL.eq_3 _ _ (by simpa using c)];cases B:rdN 5 0 0 (b.drop i) with
  |none=>rfl|some p=>
   have ⟨v,m⟩:=p;have ⟨H,l',E,J,O,_,_⟩:=gw _ _ _ _ _ _ B;have I:0<m:=by have:=JK H;omega
   have a:i+m<=b.length:=by have:=congrArg List.length E;rw[BD,AH]at this;omega
   simp only[wS,BW,CB];rw[DX,oC y hG hF f (i+m) n (acc++[(v:Int)]) (by omega) (by omega) (by rw[AH];simp;omega) a,<-DD];grind
  rw[ifN,A9 (by omega)];simp[rdL]
theorem aZ(a:b.length<=1048576):ABa b=some (AHK (rdL (b.length+1) b)):=by unfold ABa;have:=oC a (G:=jl) (F:=jm b) (λi hi=>Qz (by omega) i hi) (λL acc i=>by unfold jm Yh;simp only[BV,AW];rfl) (b.length+1) 0 big [] (by omega) (by have:=Pf;omega) (by simp) (by omega);refine Eq.trans this ?_;simp only[CX,Az];cases rdL (b.length+1) b<;>rfl
theorem Zh(a:b.length<=1048576):ABH b=some (AHK (rdL (b.length+1) b)):=by unfold ABH;have:=oC a (G:=jM) (F:=jN b) (λi hi=>Qp (by omega) i) (λL acc i=>by unfold jN Yh;simp only[BV,AW];rfl) (b.length+1) 0 big [] (by omega) (by have:=Pf;omega) (by simp) (by omega);refine Eq.trans this ?_;simp only[CX,Az];cases rdL (b.length+1) b<;>rfl
theorem nr{l:List Int}(h:l.length<=10000000){G:Int->AA (List UInt8)}(hG:∀n,G n=some (pN n))
 {F:(List UInt8×Int->AA (List UInt8))->List UInt8×Int->AA (List UInt8)}
 (hF:∀L acc i,F L (acc,i)=if i<(l.length:Int) then bd (at? l i) λx=>bd (G x) λy=>gd (acc.length+y.length<=lim) (L (acc++y,w64 (i+1))) else some acc) :
 ∀(f i n:Nat) (acc:List UInt8),l.length<f+i->f<=n->acc.length<=5*i->i<=l.length->BK F n (acc,(i:Int))=some (acc++pL (l.drop i))
 |0,i,n,acc,a,c,e,g=>by omega|f+1,i,n,acc,a,c,e,g=>by obtain⟨n,rfl⟩:∃m,n=m+1:=⟨n-1,by omega⟩;rw[ED,hF];by_cases hi:i<l.length;rw[ifP,LQ,AU hi,AB,hG,AB];have:=RQ l[i];rw[DX,A6];have:=nr h hG hF f (i+1) n (acc++pN l[i]) (by omega) (by omega) (by rw[AH];omega) hi;refine Eq.trans this ?_;rw[Fp hi];simp only[pL,CV,BF];rw[ifN,A9 (by omega)];simp[pL]
theorem aY{l:List Int}(a:l.length<=10000000):dt l=some (pL l):=by unfold dt;have:=nr a (G:=jH) (F:=jI l) VV (λL acc i=>by unfold jI YX;simp only[BV,AW]) (l.length+1) 0 big [] (by omega) (by have:=Pf;omega) (by simp) (by omega);simpa using this
theorem Zi{l:List Int}(a:l.length<=10000000):ABA l=some (pL l):=by unfold ABA;have:=nr a (G:=YR) (F:=il l) Lo (λL acc i=>by unfold il YX;simp only[BV,AW]) (l.length+1) 0 big [] (by omega) (by have:=Pf;omega) (by simp) (by omega);simpa using this
def fld(n:Int):Bool:=decide (0<=n/\n<=9999)
def Gl(q:Bo):Bool:=
 if q.Kind=1 then fld q.Id&&fld q.Ab&&decide (-1<=q.Bs/\q.Bs<=9999)&&fld q.BL&&fld q.DH
 else if q.Kind=2\/q.Kind=4\/q.Kind=5\/q.Kind=7 then fld q.Id&&(q.Ab==0&&(q.Bs==0&&(q.BL==0&&q.DH==0)))
 else if q.Kind=3 then fld q.Ab&&fld q.BL&&(q.Id==0&&(q.Bs==0&&q.DH==0))
 else if q.Kind=6 then q.Id==0&&(q.Ab==0&&(q.Bs==0&&(q.BL==0&&q.DH==0)))
 else false
def Fj(q:Bo):List Int:=
 if q.Kind=1 then [q.Kind,q.Id,q.Ab,q.Bs+1,q.BL,q.DH]
 else if q.Kind=3 then [q.Kind,q.Ab,q.BL]
 else if q.Kind=6 then [q.Kind]
 else [q.Kind,q.Id]
def Fs(q:Bo):List UInt8:=if Gl q then pL (Fj q) else []
@[simp] theorem AHX(n:Int):QV n=some (fld n):=by unfold QV fld;simp
@[simp] theorem AGi(n:Int):QV n=some (fld n):=by unfold QV fld;simp
theorem AHW(q:Bo):vD q=some (Gl q):=by have ⟨k,a,b,c,d,e⟩:=q;unfold vD Vo Au Gl;simp only[Be,AW,AHX,AB,gi,beq_iff_eq];grind
theorem AGh(q:Bo):dq q=some (Gl q):=by have ⟨k,a,b,c,d,e⟩:=q;unfold dq Ri Au Gl;simp only[Be,AW,AGi,AB,So,beq_iff_eq];grind
theorem KM(h:Gl q=true):(q.Kind=1/\(0<=q.Id/\q.Id<=9999)/\(0<=q.Ab/\q.Ab<=9999)/\(-1<=q.Bs/\q.Bs<=9999)/\(0<=q.BL/\q.BL<=9999)/\(0<=q.DH/\q.DH<=9999)) \/
 ((q.Kind=2\/q.Kind=4\/q.Kind=5\/q.Kind=7)/\(0<=q.Id/\q.Id<=9999)/\q.Ab=0/\q.Bs=0/\q.BL=0/\q.DH=0) \/
 (q.Kind=3/\(0<=q.Ab/\q.Ab<=9999)/\(0<=q.BL/\q.BL<=9999)/\q.Id=0/\q.Bs=0/\q.DH=0) \/
 (q.Kind=6/\q.Id=0/\q.Ab=0/\q.Bs=0/\q.BL=0/\q.DH=0):=by unfold Gl fld at h;split at h;grind;split at h;grind;split at h;grind;grind
theorem oF(h:Gl q=true):∀n∈Fj q,okN n:=by grind[KM,Fj,okN]
theorem fI(q:Bo):0<(Fj q).length/\(Fj q).length<=6:=by grind[Fj]
theorem Wu:ABX q=some (Fs q):=by unfold ABX Fs;rw[AHW,AB,BW,Be];grind[Gl,Fj,Be,A6,aY,AB]
theorem pk:AIY q=some (Fs q):=by grind[AIY,UP,Fs,AGh,AB,Be,Gl,Fj,AW,D2,lim,A6,Zi]
theorem VL{n:Int}{l:List Int}(h:okN n):pL (n::l)≠[]:=by intro a;have:=nn h;simp only[pL,CV,Ix]at a;grind
theorem zW(h:Gl q=true):Fs q≠[]:=by grind[Fs,oF,Fj,VL]
theorem ATj:∀l:List Int,(pL l).length<=5*l.length
 | []=>by simp[pL]|n::l=>by have c:=RQ n;have a:=ATj l;simp only[pL,CV,AH,AK]at a ⊢;omega
theorem AD8(q:Bo):(Fs q).length<=30:=by grind[Fs,ATj,fI]
theorem Sa(h:Gl q=true)(f:Nat)(a:(Fs q).length<f):rdL f (Fs q)=some (Fj q):=by grind[Fs,zR,oF]
def QF(s:List UInt8):Bo×Bool:=open Classical in if h:∃q,Gl q=true/\Fs q=s then (h.choose,true) else (⟨0,0,0,0,0,0⟩,false)
theorem AD9(h:Gl q=true)(a:Gl q'=true)(c:Fj q=Fj q'):q=q':=by grind[Bo,Fj,KM]
theorem AU5(h:Gl q=true)(a:Gl q'=true)(e:Fs q=Fs q'):q=q':=by have c:=Sa h ((Fs q).length+1) (by omega);grind[Sa,AD9]
theorem oG(h:Gl q=true):QF (Fs q)=(q,true):=by
 unfold QF;have a:∃q',Gl q'=true/\Fs q'=Fs q:=⟨q,h,rfl⟩
 grind[AU5]
theorem NU(h:∀q,Gl q=true->Fs q≠s):QF s=(⟨0,0,0,0,0,0⟩,false):=by grind[QF]
theorem um(a b:List UInt8)(x y:AA u):br (a != b) x y=if a=b then y else x:=by unfold br;grind[grind]
theorem fk(s:List UInt8)(q:Bo):Rk s q=if Fs q=s then some (q,true) else some (⟨0,0,0,0,0,0⟩,false):=by unfold Rk;rw[Wu,AB,um]
theorem fZ(s:List UInt8)(q:Bo):Rl s q=if Fs q=[]\/Fs q≠s then some (⟨0,0,0,0,0,0⟩,false) else some (q,true):=by grind[Rl,jO,pk,AB,AW,CB,Fs,Be]
theorem Lt(a:s≠[])(h:∀q',Gl q'=true->Fs q'=s->q'=q):(if Fs q=s then some (q,true) else some (⟨0,0,0,0,0,0⟩,false))=some (QF s):=by grind[Fs,Gl,oG,NU]
theorem tV{f:Nat}(h:rdL f s=none)(a:s.length<f):∀q,Gl q=true->Fs q≠s:=by grind[Sa]
theorem aU{s:List UInt8}(X:s.length<=1048576):rC s=some (QF s):=by
 unfold rC;rw[BV];by_cases H:(s.length:Int)>60;rw[AY H,NU];rintro q _ rfl;have:=AD8 q;omega;rw[Aa H,aZ X,AB];cases L:rdL (s.length+1) s with
 |none=>simp only[AHK,BW,CI,AW];unfold YZ be;rw[CB,NU (tV L (by omega))]
 |some l=>
  have ⟨J,I⟩:=aF _ _ _ L;simp only[AHK,BW,CB,AW];unfold YZ be;cases l with
  |nil=>simp only[AT];show br true _ _=_;rw[CB,NU];rintro q j B;exact zW j (B.trans J)
  |cons n l=>
   have E:s≠[]:=by rw[J];exact VL (I n (by simp))
   have O:((((n::l).length:Nat):Int)==0)=false:=by rw[AK,beq_eq_false_iff_ne];omega
   have G:∀q,Gl q=true->Fs q=s->Fj q=n::l:=by rintro q j rfl;have:=Sa j ((Fs q).length+1) (by omega);rw[L]at this;simpa using this.symm
   simp only[O,CI];simp only[YE,AN,AB,fk,AW,Be,beq_iff_eq];have okq:∀m∈n::l,0<=m/\m<=2147483647:=λm S=>I m S;match l,G,okq with
   | [],G,_=>
    rw[Aa (by simp),Aa (by simp),Aa (by simp)];refine Lt E λq j B=>?_;have ⟨k,a,b,c,d,e⟩:=q;have g:=G _ j B;unfold Fj at g;rcases KM j with h|h|h|h<;>dsimp only at h g;rw[AY h.1]at g;simp at g;rw[ifN,ifN,ifN]at g;simp at g;rw[ifN,AY h.1]at g;simp at g;rw[ifN,ifN,AY h.1]at g;simp at g;simp;omega
   | [x],G,okq=>
    rw[AY (by simp)];simp only[show at? [n,x] 1=some x from rfl,AB];refine Lt E λq j B=>?_;have ⟨k,a,b,c,d,e⟩:=q;have g:=G _ j B;unfold Fj at g;rcases KM j with h|h|h|h<;>dsimp only at h g;rw[AY h.1]at g;simp at g;rw[ifN,ifN,ifN]at g;simp at g;simp;omega;rw[ifN,AY h.1]at g;simp at g;rw[ifN,ifN,AY h.1]at g;simp at g
   | [x,y],G,okq=>
    rw[Aa (by simp),AY (by simp)];simp only[show at? [n,x,y] 1=some x from rfl,show at? [n,x,y] 2=some y from rfl,AB];refine Lt E λq j B=>?_;have ⟨k,a,b,c,d,e⟩:=q;have g:=G _ j B;unfold Fj at g;rcases KM j with h|h|h|h<;>dsimp only at h g;rw[AY h.1]at g;simp at g;rw[ifN,ifN,ifN]at g;simp at g;rw[ifN,AY h.1]at g;simp at g;simp;omega;rw[ifN,ifN,AY h.1]at g;simp at g
   | [x,y,z,u,v],G,okq=>
    have Y:=okq z (by simp);rw[Aa (by simp),Aa (by simp),AY (by simp)];simp only[show at? [n,x,y,z,u,v] 1=some x from rfl,show at? [n,x,y,z,u,v] 2=some y from rfl,show at? [n,x,y,z,u,v] 3=some z from rfl,show at? [n,x,y,z,u,v] 4=some u from rfl,show at? [n,x,y,z,u,v] 5=some v from rfl,AB];rw[A6];refine Lt E λq j B=>?_;have ⟨k,a,b,c,d,e⟩:=q;have g:=G _ j B;unfold Fj at g;rcases KM j with h|h|h|h<;>dsimp only at h g;rw[AY h.1]at g;simp at g;simp;omega;rw[ifN,ifN,ifN]at g;simp at g;rw[ifN,AY h.1]at g;simp at g;rw[ifN,ifN,AY h.1]at g;simp at g
   | [x,y,z],G,okq=>
    rw[Aa (by simp),Aa (by simp),Aa (by simp)];refine Lt E λq j B=>?_;have g:=congrArg List.length (G _ j B);have:(Fj q).length≠4:=by unfold Fj;(repeat' split)<;>simp
    simp at g;omega
   | [x,y,z,u],G,okq=>
    rw[Aa (by simp),Aa (by simp),Aa (by simp)];refine Lt E λq j B=>?_;have g:=congrArg List.length (G _ j B);have:(Fj q).length≠5:=by unfold Fj;(repeat' split)<;>simp
    simp at g;omega
   |x::y::z::u::v::w::r,G,okq=>rw[Aa (by simp;omega),Aa (by simp;omega),Aa (by simp;omega)];refine Lt E λq j B=>?_;have g:=congrArg List.length (G _ j B);have:=(fI q).2;simp at g;omega
theorem Zj(a:s≠[])(h:∀q',Gl q'=true->Fs q'=s->q'=q):(if Fs q=[]\/Fs q≠s then some (⟨0,0,0,0,0,0⟩,false) else some (q,true))=some (QF s):=by grind[Lt,Fs]
theorem yS{s:List UInt8}(hs:s.length<=1048576):ABI s=some (QF s):=by
 unfold ABI;rw[Zh hs,AB];cases hr:rdL (s.length+1) s with
 |none=>simp only[AHK,BW,CI,AW];unfold Yb be;rw[CB,NU (tV hr (by omega))]
 |some l=>
  have ⟨I,H⟩:=aF _ _ _ hr;simp only[AHK,BW,CB,AW];unfold Yb be;cases l with
  |nil=>simp only[AT];show br true _ _=_;rw[CB,NU];rintro q j G;exact zW j (G.trans I)
  |cons n l=>
   have B:s≠[]:=by rw[I];exact VL (H n (by simp))
   have hb:((((n::l).length:Nat):Int)==0)=false:=by rw[AK,beq_eq_false_iff_ne];omega
   have hq:∀q,Gl q=true->Fs q=s->Fj q=n::l:=by rintro q j rfl;have:=Sa j ((Fs q).length+1) (by omega);rw[hr]at this;simpa using this.symm
   have Z:(n::l).length<=s.length:=by
    rw[I];have:∀l:List Int,(∀m∈l,okN m)->l.length<=(pL l).length:=by
     intro l;induction l with
     |nil=>simp|cons m l ih=>intro h;have j:=nn (h m (by simp));have G:=ih λx J=>h x (by simp[J]);simp only[pL,CV,AH,AK]at G ⊢;omega
    exact this _ H
   rw[AK]at Z;have e1:Int.toNat 1=1:=rfl;have e5:Int.toNat 5=5:=rfl;have ed:List.take ((n::l).length-1) (List.drop 1 (n::l))=l:=by simp
   simp only[hb,CI];simp only[YE,AN,AB,fZ,AW,Be,beq_iff_eq,e1,e5,ed];rw[DX,DX,DX];have okq:∀m∈n::l,0<=m/\m<=2147483647:=λm hm=>H m hm;have J:∀(i:Nat),i<5->∃x,(l++List.replicate 5 (0:Int))[i]?=some x/\(0<=x/\x<=2147483647)/\(∀y,l[i]?=some y->x=y):=by
    intro i hi;have O:i<(l++List.replicate 5 (0:Int)).length:=by rw[AH,List.length_replicate];omega
    refine⟨_,AU O,?_,?_⟩;have:(l++List.replicate 5 (0:Int))[i]∈l++List.replicate 5 (0:Int):=Aw O;rw[Br,List.mem_replicate]at this;rcases this with h|h;exact okq _ (Am _ h);omega;intro y hy;have Y:=(List.getElem?_eq_some_iff.1 hy);have ⟨j,G⟩:=Y;rw[List.getElem_append_left j,G]
   have ⟨X,hx0,b0,i0⟩:=J 0 (by omega);have ⟨x1,hx1,b1,i1⟩:=J 1 (by omega);have ⟨x2,hx2,b2,i2⟩:=J 2 (by omega);have ⟨x3,hx3,b3,i3⟩:=J 3 (by omega);have ⟨x4,hx4,b4,i4⟩:=J 4 (by omega);have a0:(l++List.replicate 5 (0:Int))[0]?=some X:=hx0;have a1:at? (l++List.replicate 5 (0:Int)) 1=some x1:=by rw[show (1:Int)=((1:Nat):Int) from rfl,LQ];exact hx1
   have a2:at? (l++List.replicate 5 (0:Int)) 2=some x2:=by rw[show (2:Int)=((2:Nat):Int) from rfl,LQ];exact hx2
   have a3:at? (l++List.replicate 5 (0:Int)) 3=some x3:=by rw[show (3:Int)=((3:Nat):Int) from rfl,LQ];exact hx3
   have a4:at? (l++List.replicate 5 (0:Int)) 4=some x4:=by rw[show (4:Int)=((4:Nat):Int) from rfl,LQ];exact hx4
   simp only[a0,a1,a2,a3,a4,AB];rw[A6 (n:=x2-1)];have shape:∀q,Gl q=true->Fs q=s->q=(if n=1 then ⟨n,X,x1,x2-1,x3,x4⟩ else if n=3 then ⟨n,0,X,0,x1,0⟩ else if n=6 then ⟨n,0,0,0,0,0⟩ else ⟨n,X,0,0,0,0⟩):=by intro q j G;have ⟨k,a,b,c,d,e⟩:=q;have g:=hq _ j G;unfold Fj at g;rcases KM j with h|h|h|h<;>dsimp only at h g;rw[AY h.1]at g;obtain⟨rfl,rfl⟩:=List.cons.inj g;rw[AY h.1];have j0:=i0 _ rfl;have j1:=i1 _ rfl;have j2:=i2 _ rfl;have j3:=i3 _ rfl;have j4:=i4 _ rfl;simp;omega;rw[ifN,ifN,ifN]at g;obtain⟨rfl,rfl⟩:=List.cons.inj g;rw[ifN,ifN,ifN];have j0:=i0 _ rfl;simp;omega;rw[ifN,AY h.1]at g;obtain⟨rfl,rfl⟩:=List.cons.inj g;rw[ifN,AY h.1];have j0:=i0 _ rfl;have j1:=i1 _ rfl;simp;omega;rw[ifN,ifN,AY h.1]at g;obtain⟨rfl,rfl⟩:=List.cons.inj g;rw[ifN,ifN,AY h.1];simp;omega
   by_cases E:n=1;rw[AY E];simp only[AY E]at shape;exact Zj B shape;by_cases L:n=3;rw[Aa E,AY L];simp only[Aa E,AY L]at shape;exact Zj B shape;by_cases S:n=6;rw[Aa E,Aa L,AY S];simp only[Aa E,Aa L,AY S]at shape;exact Zj B shape;rw[Aa E,Aa L,Aa S];simp only[Aa E,Aa L,Aa S]at shape;exact Zj B shape
@[simp] theorem AYy(q:Bo):YL q q=some true:=by unfold YL;simp[Be]
def La(v:Nat):Nat:=if v % 2=1 then (v / 2) ^^^ 3988292384 else v / 2
def Hm:Nat->Nat->Nat|0,v=>v|k+1,v=>Hm k (La v)
def HF:Nat->List UInt8->Nat|v,[]=>v|v,x::l=>HF (Hm 8 (v ^^^ x.toNat)) l
def JR(s:List UInt8):Nat:=HF 4294967295 s ^^^ 4294967295
theorem bE{v:Nat}(h:v<2 ^ 32):La v<2 ^ 32:=by unfold La;split;exact Dr (by omega) (by omega);omega
theorem W8:∀k {v:Nat},v<2 ^ 32->Hm k v<2 ^ 32|0,_,h=>h|k+1,_,h=>W8 k (bE h)
theorem NB:∀(l:List UInt8) {v:Nat},v<2 ^ 32->HF v l<2 ^ 32| [],_,h=>h|x::l,v,h=>NB l (W8 8 (Dr h (by have:=x.toNat_lt;omega)))
theorem AOg(s:List UInt8):JR s<2 ^ 32:=Dr (NB s (by omega)) (by omega)
theorem Sp{a b:Nat}(c:a<2 ^ 63)(e:b<2 ^ 63):Xs (a:Int) (b:Int)=((a ^^^ b:Nat):Int):=by unfold Xs;rw[BitVec.toNat_xor,SN c,SN e];have:a ^^^ b<2 ^ 63:=Dr c e;rw[WR (by omega) (by omega)]
theorem AOO{a b:Nat}(c:a<2 ^ 63)(e:b<2 ^ 63):iB (a:Int) (b:Int)=((a &&& b:Nat):Int):=by grind[SN,Nat.and_le_left,WR]
theorem Aa4(a:Nat):EJ (a:Int) 1=((a / 2:Nat):Int):=by grind[IntKind.bits]
theorem iS{u:Type}{F:(Int×Int->AA u)->Int×Int->AA u}{G:Int->AA u}
 (hF:∀L (v k:Nat),v<2 ^ 32->k<=8->F L ((v:Int),(k:Int))=if k<8 then L (((La v:Nat):Int),((k+1:Nat):Int)) else G (v:Int)) :
 ∀(m k v n:Nat),k+m=8->m<n->v<2 ^ 32->BK F n ((v:Int),(k:Int))=G ((Hm m v:Nat):Int)
 |0,k,v,0,_,h,_=>by omega|0,k,v,n+1,c,_,a=>by rw[ED,hF _ _ _ a (by omega),ifN];rfl|m+1,k,v,0,_,h,_=>by omega|m+1,k,v,n+1,c,h,a=>by rw[ED,hF _ _ _ a (by omega),ifP,iS hF m (k+1) _ n (by omega) (by omega) (bE a)];rfl
theorem iR{s:List UInt8}{u:Type}{F:(Int×Int->AA u)->Int×Int->AA u}{G:Int->AA u}(e:s.length<2 ^ 62)
 (hF:∀L (v i:Nat),v<2 ^ 32->i<=s.length->F L ((v:Int),(i:Int))=match s[i]? with|none=>G (v:Int)|some x=>L (((Hm 8 (v ^^^ x.toNat):Nat):Int),((i+1:Nat):Int))) :
 ∀(m i v n:Nat),i+m=s.length->m<n->v<2 ^ 32->BK F n ((v:Int),(i:Int))=G ((HF v (s.drop i):Nat):Int)
 |0,i,v,0,_,h,_=>by omega|0,i,v,n+1,hi,_,c=>by rw[ED,hF _ _ _ c (by omega),Du (by omega),A9 (by omega)];rfl
 |m+1,i,v,0,_,h,_=>by omega|m+1,i,v,n+1,hi,h,c=>by
  have a:i<s.length:=by omega
  rw[ED,hF _ _ _ c (by omega),AU a];dsimp only;rw[iR e hF m (i+1) _ n (by omega) (by omega) (W8 8 (Dr c (by have:=s[i].toNat_lt;omega))),Fp a];rfl
theorem AET(B:s.length<2 ^ 62):ABE s=some ((JR s:Nat):Int):=by
 unfold ABE;have:=iR (F:=jJ s) (G:=λv=>some (Xs v 4294967295)) B ?_ s.length 0 4294967295 big (by omega) (FM _ (by omega)) (by omega);refine Eq.trans this ?_;have e:=Sp (a:=HF 4294967295 s) (b:=4294967295) (by have:=NB s (v:=4294967295) (by omega);omega) (by omega);show some (Xs _ ((4294967295:Nat):Int))=_;rw[CX,e];rfl;intro L v i j hi;unfold jJ YY;simp only[BV,AW,LQ];by_cases h:i<s.length;rw[ifP,AU h,AB];have H:=s[i].toNat_lt;rw[A6,Sp (by omega) (by omega)];have:=iS (F:=jK L (i:Int)) (G:=λv=>L (v,((i+1:Nat):Int))) ?_ 8 0 (v ^^^ s[i].toNat) big (by omega) (FM _ (by omega)) (Dr j (by omega));exact this;intro L5 v k j E;unfold jK HG;simp only[BV,AW];by_cases g:k<8;rw[ifP,AY g];have q:Int.tmod (v:Int) 2=((v % 2:Nat):Int):=by rw[EY (by omega)];omega
 have y:Int.tdiv (v:Int) 2=((v / 2:Nat):Int):=by rw[Hr (by omega)];omega
 rw[q,y,A6,A6 (n:=(k:Int)+1),Be,show (3988292384:Int)=((3988292384:Nat):Int) from rfl,Sp (by omega) (by omega)];unfold La;by_cases c:v % 2=1;rw[AY (by rw[c];rfl),AY c];rfl;rw[Aa (by rw[beq_iff_eq];omega),Aa c];rfl;rw[ifN,Aa g,A6];rfl;rw[ifN,Du (by omega)]
theorem ADJ(y:s.length<2 ^ 62):ABB s=some ((JR s:Nat):Int):=by
 unfold ABB;have:=iR (F:=iq s) (G:=λv=>some (Xs v 4294967295)) y ?_ s.length 0 4294967295 big (by omega) (FM _ (by omega)) (by omega);refine Eq.trans this ?_;have e:=Sp (a:=HF 4294967295 s) (b:=4294967295) (by have:=NB s (v:=4294967295) (by omega);omega) (by omega);show some (Xs _ ((4294967295:Nat):Int))=_;rw[CX,e];rfl;intro L v i j hi;unfold iq YY;simp only[BV,AW,LQ];by_cases h:i<s.length;rw[ifP,AU h,AB];have E:=s[i].toNat_lt;rw[A6,Sp (by omega) (by omega)];have:=iS (F:=iu L (i:Int)) (G:=λv=>L (v,((i+1:Nat):Int))) ?_ 8 0 (v ^^^ s[i].toNat) big (by omega) (FM _ (by omega)) (Dr j (by omega));exact this;intro L5 v k j B;unfold iu HG;simp only[BV,AW];by_cases g:k<8;rw[ifP,AY g];have q:iB (v:Int) 1=((v % 2:Nat):Int):=by rw[show (1:Int)=((1:Nat):Int) from rfl,AOO (by omega) (by omega),Nat.and_one_is_mod]
 rw[q,Aa4,A6 (n:=(k:Int)+1),Be,show (3988292384:Int)=((3988292384:Nat):Int) from rfl,Sp (by omega) (by omega)];unfold La;by_cases c:v % 2=1;rw[AY (by rw[c];rfl),AY c];rfl;rw[Aa (by rw[beq_iff_eq];omega),Aa c];rfl;rw[ifN,Aa g,A6];rfl;rw[ifN,Du (by omega)]
def four(c:Int):List UInt8:=[toB (EJ c 24),toB (EJ c 16),toB (EJ c 8),toB c]
theorem Hg(c:Int):(four c).length=4:=rfl
def RE(q:Int)(b:List UInt8):Prop:=(1<=q/\q<=1000000)/\(1<=b.length/\b.length<=60)
instance (q:Int) (b:List UInt8):Decidable (RE q b):=by unfold RE;infer_instance
def frT(q:Int)(b:List UInt8):List UInt8:=four ((JR (pN q++b):Nat):Int)++(pN q++b)
def frB(q:Int)(b:List UInt8):List UInt8:=if RE q b then pN ((frT q b).length:Int)++frT q b else []
theorem Qn{q:Int}(h:RE q b):6<=(frT q b).length/\(frT q b).length<=69:=by
 have a:=RQ q;have c:0<(pN q).length:=by unfold pN;rw[AY (by have:=h.1;omega)];exact JK _
 have:=h.2;simp only[frT,AH,Hg];omega
theorem Qm{q:Int}(h:RE q b):7<=(frB q b).length/\(frB q b).length<=74:=by
 have:=Qn h;have a:=RQ ((frT q b).length:Int);have c:0<(pN ((frT q b).length:Int)).length:=by unfold pN;rw[ifP];exact JK _
 unfold frB;rw[AY h,AH];omega
theorem APc{q:Int}(h:frB q b≠[]):RE q b:=by grind[frB]
theorem Mc(q:Int)(b:List UInt8):jc q b=some (frB q b):=by unfold jc je;simp only[gi,AB,AW,BW,CB];by_cases c:1<=q/\q<=1000000;rw[brT c];by_cases g:(1:Int)<=b.length/\(b.length:Int)<=60;have a:RE q b:=⟨c,by omega⟩;have j:=RQ q;rw[brT g,VV,AB,DX,AET (by rw[AH];omega),AB];unfold ABF;rw[AB,D2 (by simp only[AH,AK,AT];unfold QL;omega),VV,AB];have e:[toB (EJ ((JR (pN q++b):Nat):Int) 24),toB (EJ ((JR (pN q++b):Nat):Int) 16),toB (EJ ((JR (pN q++b):Nat):Int) 8),toB ((JR (pN q++b):Nat):Int)]++(pN q++b)=frT q b:=rfl;rw[e];have:=RQ ((frT q b).length:Int);have:=Qn a;rw[DX];unfold frB;rw[AY a];rw[brF g];unfold frB;rw[Aa (λh=>g ⟨by have:=h.2;omega,by have:=h.2;omega⟩)];rw[brF c];unfold frB;rw[Aa (λh=>c h.1)]
theorem Ze(q:Int)(b:List UInt8):AIZ q b=some (frB q b):=by unfold AIZ jk;simp only[So,AB,AW,BW,CB];by_cases c:1<=q/\q<=1000000;rw[brT c];by_cases g:(1:Int)<=b.length/\(b.length:Int)<=60;have a:RE q b:=⟨c,by omega⟩;have j:=RQ q;rw[brT g,Lo,AB,DX,ADJ (by rw[AH];omega),AB];rw[D2 (by simp only[AH,AK,AT];unfold lim;omega),Lo,AB];have e:[toB (EJ ((JR (pN q++b):Nat):Int) 24),toB (EJ ((JR (pN q++b):Nat):Int) 16),toB (EJ ((JR (pN q++b):Nat):Int) 8),toB ((JR (pN q++b):Nat):Int)]++(pN q++b)=frT q b:=rfl;rw[e];have:=RQ ((frT q b).length:Int);have:=Qn a;rw[DX];unfold frB;rw[AY a];rw[brF g];unfold frB;rw[Aa (λh=>g ⟨by have:=h.2;omega,by have:=h.2;omega⟩)];rw[brF c];unfold frB;rw[Aa (λh=>c h.1)]
theorem Gp{i:Int}(a:0<=i)(c:i<l.length):∃x,at? l i=some x:=by obtain⟨n,rfl⟩:=AX a;exact⟨_,BT (by omega)⟩
theorem ZY{x:Int}(a:0<=x)(c:x<1152921504606846976):w64 (EJ (IntKind.u64.wrap (w64 x)) 1)=x / 2:=by obtain⟨n,rfl⟩:=AX a;grind[A6,IntKind.wrap,IntKind.signed,IntKind.bits,Aa4]
def Ln{o:Type}(n:Nat)(x:AA (List o)):Prop:=∃r,x=some r/\r.length=n
theorem AYD(e:∀x y,∃c,cmp x y=some c){b:Int}(h0:0<=a)(ha:a<=l.length)(hb:b<=l.length)(hl:l.length<1099511627776):Ln l.length (Dn cmp l a b):=by
 unfold Dn;rw[A6];refine Lf (λx=>x.1.length=l.length/\a+1<=x.2/\x.2<=2*1099511627776) (λx=>(b-x.2).toNat) (λr:List o=>r.length=l.length) ?_ big (l,a+1) ⟨rfl,by dsimp only;omega⟩ (FM _ (by dsimp only;omega));rintro L ⟨v,i⟩ ⟨E,hi,J⟩ Y;unfold EA;dsimp only;rw[BV];split;rename_i O;refine Lf (λx=>x.1.length=l.length/\a<=x.2/\x.2<=i) (λx=>(x.2-a).toNat) (λr:List o=>r.length=l.length) ?_ big (v,i) ⟨E,by dsimp only;omega⟩ (FM _ (by dsimp only;omega));rintro L' ⟨u,j⟩ ⟨g,S,q⟩ h;dsimp only at g S q h;have out:∀(u:List o),u.length=l.length->∃r,Ev cmp L i u=some r/\r.length=l.length:=by intro u g;unfold Ev;rw[A6];exact Y (u,i+1) ⟨g,by dsimp only;omega⟩ (by dsimp only;omega)
 unfold EB be;dsimp only;rw[BV];split;rename_i X;have B:w64 (j-1)=j-1:=A6 (by omega) (by omega);have ⟨x1,q1⟩:=Gp (l:=u) (i:=j) (by omega) (by omega);have ⟨H,G⟩:=Gp (l:=u) (i:=j-1) (by omega) (by omega);have ⟨c,I⟩:=e x1 H;have ⟨x3,Z⟩:=Gp (l:=List.set u j.toNat H) (i:=j-1) (by omega) (by rw[An];omega);simp only[B,q1,G,AB,I,AW];unfold D9 be;rw[BV];split;simp only[B,q1,G,Z,AB];exact h (_,j-1) ⟨by simp only[An];omega,by dsimp only;omega⟩ (by dsimp only;omega);rw[AW];exact out u g;rw[AW];unfold D9 be;rw[brJ];exact out u g;exact⟨v,rfl,E⟩
theorem AHb{b n:Int}(G:0<=a)(H:0<=b)(I:a+n<=l.length)(J:b+n<=l.length)(O:l.length<1099511627776):Ln l.length (E9 cmp l a b n):=by unfold E9;refine Lf (λx=>x.1.length=l.length/\0<=x.2) (λx=>(n-x.2).toNat) (λr:List o=>r.length=l.length) ?_ big (l,0) ⟨rfl,by omega⟩ (FM _ (by dsimp only;omega));rintro L ⟨v,i⟩ ⟨c,hi⟩ e;dsimp only at c hi e;unfold ML be;dsimp only;rw[BV];split;rename_i q;have g:w64 (a+i)=a+i:=A6 (by omega) (by omega);have h:w64 (b+i)=b+i:=A6 (by omega) (by omega);have j:w64 (i+1)=i+1:=A6 (by omega) (by omega);have ⟨S,q1⟩:=Gp (l:=v) (i:=a+i) (by omega) (by omega);have ⟨E,y⟩:=Gp (l:=v) (i:=b+i) (by omega) (by omega);have ⟨X,B⟩:=Gp (l:=List.set v (a+i).toNat E) (i:=b+i) (by omega) (by rw[An];omega);simp only[g,h,j,q1,y,B,AB];exact e (_,i+1) ⟨by simp only[An];exact c,by dsimp only;omega⟩ (by omega);exact⟨v,rfl,c⟩
theorem Aaz{b:Int}(I:0<=a)(J:a<m)(O:m<b)(S:b<=l.length)(X:l.length<1099511627776):Ln l.length (Ip cmp l a m b):=by
 unfold Ip;rw[A6 (n:=m-a),A6 (n:=b-m)];refine Lf (λx=>x.1.length=l.length/\0<x.2.1/\x.2.1<=m-a/\0<x.2.2/\x.2.2<=b-m) (λx=>(x.2.1+x.2.2).toNat) (λr:List o=>r.length=l.length) ?_ big (l,m-a,b-m) ⟨rfl,by dsimp only;omega,by dsimp only;omega,by dsimp only;omega⟩ (FM _ (by dsimp only;omega));rintro L ⟨v,i,j⟩ ⟨h,hi,y,H,B⟩ E;dsimp only at h hi y H B E;unfold Oj;dsimp only;have q:w64 (m-i)=m-i:=A6 (by omega) (by omega);have G:w64 (w64 (m+j)-i)=m+j-i:=by rw[A6 (n:=m+j)];exact A6
 by_cases e:i=j;subst e;rw[show (i != i)=false from by simp,brJ];unfold Oi;have ⟨r,g,c⟩:=AHb (cmp:=cmp) (l:=v) (a:=m-i) (b:=m) (n:=i) (by omega) (by omega) (by omega) (by omega) (by omega);dsimp only;rw[q,g,AB];exact⟨r,rfl,c.trans h⟩;rw[show (i != j)=true from by simp[e],CB,BV];split;have ⟨r,g,c⟩:=AHb (cmp:=cmp) (l:=v) (a:=m-i) (b:=m) (n:=j) (by omega) (by omega) (by omega) (by omega) (by omega);rw[q,g,AB,A6 (n:=i-j)];exact E (r,i-j,j) ⟨c.trans h,by dsimp only;omega,by dsimp only;omega,by dsimp only;omega⟩ (by dsimp only;omega);have ⟨r,g,c⟩:=AHb (cmp:=cmp) (l:=v) (a:=m-i) (b:=m+j-i) (n:=i) (by omega) (by omega) (by omega) (by omega) (by omega);rw[q,G,g,AB,A6 (n:=j-i)];exact E (r,i,j-i) ⟨c.trans h,by dsimp only;omega,by dsimp only;omega,by dsimp only;omega⟩ (by dsimp only;omega)
def AAT{o:Type}(k:Nat)(r:List o->Int->Int->Int->AA (List o)):Prop:=
 ∀(l:List o) (a m b:Int),0<=a->a<m->m<b->b<=l.length->l.length<1099511627776->b-a<=2 ^ k->Ln l.length (r l a m b)
theorem ANz{cmp:o->o->AA Int}{r:List o->Int->Int->Int->AA (List o)}(B:AAT k r){b s:Int}(L:0<=a)(O:a<m)(S:m<b)(X:b<=l.length)(Z:l.length<1099511627776)(Y:b-a<=2 ^ (k+1))
 (G:a<=s) (H:s<=(a+b) / 2) (I:s<=m) (J:(a+b) / 2+m-b<=s):Ln l.length (I8 cmp r l a m b s):=by
 have q:w64 (EJ (IntKind.u64.wrap (w64 (a+b))) 1)=(a+b) / 2:=ZY (by omega) (by omega);have y:w64 (w64 ((a+b) / 2+m)-s)=(a+b) / 2+m-s:=by rw[A6 (n:=(a+b) / 2+m)];exact A6
 have E:(2:Int) ^ (k+1)=2*2 ^ k:=by rw[Int.pow_succ];omega
 have c:∀v:List o,v.length=l.length->Ln l.length (HK cmp r a m b s v):=by intro v h;unfold HK JB;rw[q,y,BV];split;rw[AW,BV];split;have ⟨x,j,e⟩:Ln v.length (r v ((a+b) / 2) ((a+b) / 2+m-s) b):=B v ((a+b) / 2) ((a+b) / 2+m-s) b (by omega) (by omega) (by omega) (by omega) (by omega) (by omega);rw[j,AB];exact⟨x,rfl,e.trans h⟩;exact⟨v,rfl,h⟩;rw[AW,CI];exact⟨v,rfl,h⟩
 have g:∀v:List o,v.length=l.length->Ln l.length (HJ cmp r a m b s v):=by intro v h;unfold HJ JA;rw[q,BV];split;rw[AW,BV];split;have ⟨x,j,e⟩:Ln v.length (r v a s ((a+b) / 2)):=B v a s ((a+b) / 2) (by omega) (by omega) (by omega) (by omega) (by omega) (by omega);rw[j,AB,AW];exact c x (e.trans h);rw[AW];exact c v h;rw[AW,brJ];exact c v h
 unfold I8 I9;rw[q,y,BV];split;rw[AW,BV];split;have ⟨x,j,e⟩:=Aaz (cmp:=cmp) (l:=l) (a:=s) (m:=m) (b:=(a+b) / 2+m-s) (by omega) (by omega) (by omega) (by omega) (by omega);rw[j,AB,AW];exact g x e;rw[AW];exact g l rfl;grind[AW,CI]
theorem AK5(g:∀x y,∃c,cmp x y=some c){r:List o->Int->Int->Int->AA (List o)}(hr:AAT k r):AAT (k+1) (GY cmp r):=by
 intro l a m b h0 h1 h2 h3 hl hk;show Ln l.length (GY cmp r l a m b);have e0:w64 (EJ (IntKind.u64.wrap (w64 (a+b))) 1)=(a+b) / 2:=ZY (by omega) (by omega);unfold GY;rw[A6 (n:=m-a)];by_cases c1:m-a=1;rw[show (m-a==1)=true from by simp[c1],CB];refine Lf (λx=>m<=x.1/\x.1<=x.2/\x.2<=b) (λx=>(x.2-x.1).toNat) (λr:List o=>r.length=l.length) ?_ big (m,b) ⟨by dsimp only;omega,by dsimp only;omega⟩ (FM _ (by dsimp only;omega));rintro L ⟨i,j⟩ ⟨hi,X,hj⟩ G;unfold Mz be;dsimp only;rw[BV];split;have eh:w64 (EJ (IntKind.u64.wrap (w64 (i+j))) 1)=(i+j) / 2:=ZY (by omega) (by omega);have e:w64 ((i+j) / 2+1)=(i+j) / 2+1:=A6 (by omega) (by omega);have ⟨E,q1⟩:=Gp (l:=l) (i:=(i+j) / 2) (by omega) (by omega);have ⟨H,B⟩:=Gp (l:=l) (i:=a) (by omega) (by omega);have ⟨c,J⟩:=g E H;simp only[eh,e,q1,B,AB,J];rw[BV];split;exact G ((i+j) / 2+1,j) ⟨by dsimp only;omega,by dsimp only;omega⟩ (by dsimp only;omega);exact G (i,(i+j) / 2) ⟨by dsimp only;omega,by dsimp only;omega⟩ (by dsimp only;omega);rw[AW];unfold Mv;refine Lf (λx=>x.1.length=l.length/\a<=x.2) (λx=>(i-1-x.2).toNat) (λr:List o=>r.length=l.length) ?_ big (l,a) ⟨rfl,by omega⟩ (FM _ (by dsimp only;omega));rintro L' ⟨u,q⟩ ⟨I,Y⟩ h;dsimp only at I Y h;unfold M0 Hn be;dsimp only;rw[A6 (n:=i-1),BV];split;have O:w64 (q+1)=q+1:=A6 (by omega) (by omega);have ⟨E,q1⟩:=Gp (l:=u) (i:=q+1) (by omega) (by omega);have ⟨H,B⟩:=Gp (l:=u) (i:=q) (by omega) (by omega);have ⟨x3,q3⟩:=Gp (l:=List.set u q.toNat E) (i:=q+1) (by omega) (by rw[An];omega);simp only[O,q1,B,q3,AB];exact h (_,q+1) ⟨by simp only[An];exact I,by dsimp only;omega⟩ (by omega);rw[AW];exact⟨u,rfl,I⟩;rw[show (m-a==1)=false from by simp[c1],brJ];unfold Mw;rw[A6 (n:=b-m)];by_cases c2:b-m=1;rw[show (b-m==1)=true from by simp[c2],CB];refine Lf (λx=>a<=x.1/\x.1<=x.2/\x.2<=m) (λx=>(x.2-x.1).toNat) (λr:List o=>r.length=l.length) ?_ big (a,m) ⟨by dsimp only;omega,by dsimp only;omega⟩ (FM _ (by dsimp only;omega));rintro L ⟨i,j⟩ ⟨hi,X,hj⟩ G;unfold M1 be;dsimp only;rw[BV];split;have eh:w64 (EJ (IntKind.u64.wrap (w64 (i+j))) 1)=(i+j) / 2:=ZY (by omega) (by omega);have e:w64 ((i+j) / 2+1)=(i+j) / 2+1:=A6 (by omega) (by omega);have ⟨E,q1⟩:=Gp (l:=l) (i:=(i+j) / 2) (by omega) (by omega);have ⟨H,B⟩:=Gp (l:=l) (i:=m) (by omega) (by omega);have ⟨c,J⟩:=g H E;simp only[eh,e,q1,B,AB,J];cases S:decide (c<0);rw[show (!false)=true from rfl,CB];exact G ((i+j) / 2+1,j) ⟨by dsimp only;omega,by dsimp only;omega⟩ (by dsimp only;omega);rw[show (!true)=false from rfl,CI];exact G (i,(i+j) / 2) ⟨by dsimp only;omega,by dsimp only;omega⟩ (by dsimp only;omega);rw[AW];unfold Mx;refine Lf (λx=>x.1.length=l.length/\x.2<=m/\i<=x.2) (λx=>(x.2-i).toNat) (λr:List o=>r.length=l.length) ?_ big (l,m) ⟨rfl,by dsimp only;omega⟩ (FM _ (by dsimp only;omega));rintro L' ⟨u,q⟩ ⟨I,Y,Z⟩ h;dsimp only at I Y Z h;unfold M3 Hn be;dsimp only;rw[BV];split;have O:w64 (q-1)=q-1:=A6 (by omega) (by omega);have ⟨E,q1⟩:=Gp (l:=u) (i:=q-1) (by omega) (by omega);have ⟨H,B⟩:=Gp (l:=u) (i:=q) (by omega) (by omega);have ⟨x3,q3⟩:=Gp (l:=List.set u q.toNat E) (i:=q-1) (by omega) (by rw[An];omega);simp only[O,q1,B,q3,AB];exact h (_,q-1) ⟨by simp only[An];omega,by dsimp only;omega⟩ (by dsimp only;omega);rw[AW];exact⟨u,rfl,I⟩;rw[show (b-m==1)=false from by simp[c2],brJ];have key:∀s t:Int,a<=s->s<=t->t<=(a+b) / 2->t<=m->(a+b) / 2+m-b<=s->Ln l.length (HI cmp r l a m b (s,t)):=by
  intro s t p1 p2 p3 p4 p5;unfold HI;refine Lf (λx=>a<=x.1/\x.1<=x.2/\x.2<=(a+b) / 2/\x.2<=m/\(a+b) / 2+m-b<=x.1) (λx=>(x.2-x.1).toNat) (λr:List o=>r.length=l.length) ?_ big (s,t) ⟨p1,p2,p3,p4,p5⟩ (FM _ (by omega));rintro L ⟨i,j⟩ ⟨g1,g2,g3,g4,g5⟩ G;unfold MN be;dsimp only;rw[BV];split;have eh:w64 (EJ (IntKind.u64.wrap (w64 (i+j))) 1)=(i+j) / 2:=ZY (by omega) (by omega);have e:w64 ((i+j) / 2+1)=(i+j) / 2+1:=A6 (by omega) (by omega);have ep:w64 (w64 (w64 ((a+b) / 2+m)-1)-(i+j) / 2)=(a+b) / 2+m-1-(i+j) / 2:=by rw[A6 (n:=(a+b) / 2+m),A6 (n:=(a+b) / 2+m-1)];exact A6
  have ⟨E,q1⟩:=Gp (l:=l) (i:=(i+j) / 2) (by omega) (by omega);have ⟨H,B⟩:=Gp (l:=l) (i:=(a+b) / 2+m-1-(i+j) / 2) (by omega) (by omega);have ⟨c,J⟩:=g H E;simp only[e0,eh,e,ep,q1,B,AB,J];cases S:decide (c<0);rw[show (!false)=true from rfl,CB];exact G ((i+j) / 2+1,j) ⟨by dsimp only;omega,by dsimp only;omega,by dsimp only;omega,by dsimp only;omega⟩ (by dsimp only;omega);rw[show (!true)=false from rfl,CI];exact G (i,(i+j) / 2) ⟨by dsimp only;omega,by dsimp only;omega,by dsimp only;omega,by dsimp only;omega⟩ (by dsimp only;omega);rw[AW];exact ANz hr h0 h1 h2 h3 hl hk g1 (by omega) (by omega) g5
 unfold My;rw[e0,BV];split;rw[AW,A6 (n:=(a+b) / 2+m),A6 (n:=(a+b) / 2+m-b)];exact key _ _ (by omega) (by omega) (by omega) (by omega) (by omega);rw[AW];exact key _ _ (by omega) (by omega) (by omega) (by omega) (by omega)
theorem AEZ(g:∀x y,∃c,cmp x y=some c){mrg:List o->Int->Int->Int->AA (List o)}(S:∀(l:List o) (a m b:Int),0<=a->a<m->m<b->b<=l.length->l.length<=40->Ln l.length (mrg l a m b))(Y:l.length<=40):Ln l.length (HT cmp mrg l (l.length:Int)):=by
 unfold HT;have O:∀v:List o,v.length=l.length->Ln l.length (BK (G4 cmp mrg (l.length:Int)) big (v,20)):=by
  intro v X;refine Lf (λx=>x.1.length=l.length/\(x.2=20\/x.2=40)) (λx=>(40-x.2).toNat) (λr:List o=>r.length=l.length) ?_ big (v,20) ⟨X,.inl rfl⟩ (FM _ (by omega));rintro L ⟨u,s⟩ ⟨q,Z⟩ H;unfold G4;dsimp only;rw[BV];split;have E:s=20:=by omega
  subst E;have out:∀w:List o,w.length=l.length->Ln l.length (Ic cmp mrg L 20 w):=by intro w B;unfold Ic;rw[A6];exact H (w,20*2) ⟨B,.inr rfl⟩ (by omega)
  rw[A6 (n:=2*20)];refine Lf (λx=>x.1.length=l.length/\x.2.2=x.2.1+40/\(x.2.1=0\/x.2.1=40)) (λx=>(40-x.2.1).toNat) (λr:List o=>r.length=l.length) ?_ big (u,0,2*20) ⟨q,by dsimp only;omega,.inl rfl⟩ (FM _ (by dsimp only;omega));rintro L' ⟨w,a,b⟩ ⟨B,h,I⟩ G;dsimp only at B h I G;unfold Ol;dsimp only;rw[BV];split;have ⟨x,j,e⟩:=S w a (a+20) b (by omega) (by omega) (by omega) (by omega) (by omega);rw[A6 (n:=a+20),j,AB,A6 (n:=2*20),A6 (n:=b+2*20)];exact G (x,b,b+2*20) ⟨e.trans B,by dsimp only;omega⟩ (by dsimp only;omega);rw[AW];unfold Ok;dsimp only;rw[A6 (n:=a+20),BV];split;have ⟨x,j,e⟩:=S w a (a+20) (l.length:Int) (by omega) (by omega) (by omega) (by omega) (by omega);rw[j,AB,AW];exact out x (e.trans B);rw[AW];exact out w B;exact⟨u,rfl,q⟩
 have key:Ln l.length (BK (G3 cmp mrg (l.length:Int)) big (l,0,20)):=by refine Lf (λx=>x.1.length=l.length/\0<=x.2.1/\x.2.1<=(l.length:Int)/\x.2.2=x.2.1+20) (λx=>(60-x.2.1).toNat) (λr:List o=>r.length=l.length) ?_ big (l,0,20) ⟨rfl,by dsimp only;omega,by dsimp only;omega⟩ (FM _ (by dsimp only;omega));rintro L ⟨u,a,b⟩ ⟨q,I,J,h⟩ H;dsimp only at q I J h H;unfold G3;dsimp only;rw[BV];split;have ⟨x,j,e⟩:=AYD g (l:=u) (a:=a) (b:=b) (by omega) (by omega) (by omega) (by omega);rw[j,AB,A6 (n:=b+20)];exact H (x,b,b+20) ⟨e.trans q,by dsimp only;omega,by dsimp only;omega,rfl⟩ (by dsimp only;omega);rw[AW];unfold Ib;dsimp only;have ⟨x,j,e⟩:=AYD g (l:=u) (a:=a) (b:=(l.length:Int)) (by omega) (by omega) (by omega) (by omega);rw[j,AB];exact O x (e.trans q)
 exact key
theorem uE:∀k,AAT (o:=Ar) k (λl a m b=>(fK k).d (l,a,m,b,(),()))
 |0=>by intro l a m b c e g j B q;grind
 |k+1=>AK5 (λx y=>(SD x y).imp λ_ h=>h.1) (uE k)
theorem ADX{l:List Ar}{b:Int}(c:0<=a)(e:a<m)(g:m<b)(h:b<=l.length)(j:l.length<=40):Ln l.length (AOn l a m b):=
 uE 7 l a m b c e g h (by omega) (by have:(2:Int) ^ 7=128:=rfl;omega)
theorem o8{l:List Ar}(c:l.length<=40):Ln l.length (qU l):=by unfold qU AIM;have ⟨x,e,a⟩:=AEZ (λx y=>(SD x y).imp λ_ h=>h.1) (mrg:=AOn) (λ_ _ _ _=>ADX) c;rw[e,AB];exact⟨x,rfl,a⟩
theorem AK4:∀k,AAT (o:=Bf) k (λl a m b=>(fN k).d (l,a,m,b,(),()))
 |0=>by intro l a m b c e g j B q;grind
 |k+1=>AK5 (λx y=>(PN x y).imp λ_ h=>h.1) (AK4 k)
theorem AL6{l:List Bf}{b:Int}(c:0<=a)(e:a<m)(g:m<b)(h:b<=l.length)(j:l.length<=40):Ln l.length (AOv l a m b):=
 AK4 7 l a m b c e g h (by omega) (by have:(2:Int) ^ 7=128:=rfl;omega)
theorem z7{l:List Bf}(c:l.length<=40):Ln l.length (qh l):=by unfold qh AIQ;have ⟨x,e,a⟩:=AEZ (λx y=>(PN x y).imp λ_ h=>h.1) (mrg:=AOv) (λ_ _ _ _=>AL6) c;rw[e,AB];exact⟨x,rfl,a⟩
theorem fv(f:o->List β)(J:List β->AA u){F:(List β×Int->AA u)->List β×Int->AA u}(c:l.length<=1048576)(m:Nat)(e:∀x,(f x).length<=m){v0:List β}
 (step:∀L i (h:i<l.length) v,v.length<=v0.length+m*i->F L (v,(i:Int))=L (v++f l[i],w64 ((i:Int)+1))) (stop:∀L v,F L (v,(l.length:Int))=J v):BK F big (v0,0)=J (v0++l.flatMap f):=by refine(Dl (n:=l.length) (λi (v:List β)=>(v,(i:Int))) (λi v=>v=v0++(l.take i).flatMap f/\v.length<=v0.length+m*i) (λi v=>J (v0++l.flatMap f)) (by omega) ?_ ⟨by simp,by simp⟩);rintro L i v ⟨g,a⟩ hi j;rcases AV i l.length with h|h;rw[step L i h v a,Bh h];grind[List.take_add_one];grind
theorem JC{o β:Type}(f:o->List β){m:Nat}(a:∀x,(f x).length<=m):∀l:List o,(l.flatMap f).length<=m*l.length
 | []=>by simp|x::l=>by have:=JC f a l;have:=a x;rw[CV,AH,AK,Nat.mul_add];omega
def Hu(r:Ad):List Int:=[r.Cj,r.Room,r.BL,r.Ca,r.CD,r.Rest,r.Cr,r.Da]++r.AZ
def Qv(p:AR):List Int:=[p.Id,p.Ab,w64 (p.Bs+1),p.BL,p.DH,p.Since,p.A3,p.State,p.DK,p.De]
def EC(h:AF):List Int:=
 (([((Hu h.AQ).length:Int)]++Hu h.AQ++[h.Now,h.A3,(h.AG.length:Int)]++h.AG.flatMap Qv)++h.AI.flatMap (λc=>[c.AZ.Et]))++[(h.BM.length:Int)]++h.BM++h.BI.flatMap (λx=>[w64 (x+1)])
def ATO(h:AF):List Int:=if C0 h=true then EC h else []
theorem JX(a:C0 h=true):EG h.AQ=true/\(0<=h.Now/\h.Now<=1000000)/\(1<=h.A3/\h.A3<=1000001)/\h.AG.length<=40/\h.AI.length=h.AQ.AZ.length/\MV h=true/\IS h.BM h.AI.length=true/\Km h.BI h.AI.length=true/\(h.BI.length:Int)=h.AQ.Da/\Ot h=true:=by grind[C0,B6]
theorem V7(e:Bt h)(a:C0 h=true):(EC h).length<=2000000:=by have g:=JX a;have E:=CU g.1;have j:=JC Qv (m:=10) (λ_=>Aj _) h.AG;have q:=JC (λc:Ak=>[c.AZ.Et]) (m:=1) (λ_=>Aj _) h.AI;have y:=JC (λx:Int=>[w64 (x+1)]) (m:=1) (λ_=>Aj _) h.BI;have B:=e.todo;unfold EC Hu;simp only[AH,AK,AT];omega
theorem QO(c:r.AZ.length<=1048576)(a:EG r=true):AIS r=some (Hu r):=by unfold AIS;rw[JM (by omega),AB,a,BW,CB,DX];rfl
theorem U4(c:r.AZ.length<=1048576)(a:EG r=true):rB r=some (Hu r):=by unfold rB;rw[JD (by omega),AB,a,BW,CB,DX];rfl
theorem SZ(r:Ad):(Hu r).length=8+r.AZ.length:=by unfold Hu;simp only[AH,AK,AT]
theorem WJ(a:Bt h)(g:C0 h=true):jD h=some (EC h):=by
 have hlim:=Gk;have j:=JX g;have X:=CU j.1;have E:=a.Cc;have G:=a.EH;have O:=a.todo;have H:=a.Gs;have B:∀v:List Int,v.length<=5000000->YV h v=some (v++[(h.BM.length:Int)]++h.BM++h.BI.flatMap (λx=>[w64 (x+1)])):=by intro v J;unfold YV;rw[DX,D2 (by rw[AH,Cf];omega)];refine fv (l:=h.BI) (λx=>[w64 (x+1)]) some H 1 (λ_=>Aj _) ?_ ?_;grind[jG,CB,BT,AB,D2];intro L q;unfold jG FX;dsimp only;rw[bnJ]
 have y:∀v:List Int,v.length<=3000000->YU h v=some ((v++h.AI.flatMap (λc=>[c.AZ.Et]))++[(h.BM.length:Int)]++h.BM++h.BI.flatMap (λx=>[w64 (x+1)])):=by intro v J;have I:=JC (λc:Ak=>[c.AZ.Et]) (m:=1) (λ_=>Aj _) h.AI;unfold YU;rw[fv (l:=h.AI) (λc=>[c.AZ.Et]) (YV h) G 1 (λ_=>Aj _) ?_ ?_,B _ (by rw[AH];omega)];grind[jE,CB,BT,AB,D2];intro L q;unfold jE;dsimp only;rw[bnJ]
 have I:=JC Qv (m:=10) (λ_=>Aj _) h.AG;have S:=SZ h.AQ;have Y:=a.EI;unfold jD;rw[GV a,AB,g,BW,CB,QO a.EI j.1,AB,DX,D2 (by simp only[AH,Cf,AK,AT];omega)];rw[fv (l:=h.AG) Qv (YU h) E 10 (λ_=>Aj _) ?_ ?_,y _ (by simp only[AH,Cf,AK,AT];omega)];rfl;intro L i hi q e;simp only[AH,Cf,AK,AT]at e;unfold UN;dsimp only;rw[bnT hi,BT hi,AB,DX];rfl;grind[UN,CI,AW]
theorem AL1(a:Bt h)(c:C0 h=true):AIO h=some (EC h):=by have e:=(JX c).1;rw[<-WJ a c];unfold AIO jD;rw[GR a,GV a,U4 a.EI e,QO a.EI e]
theorem AGd(a:Bt h)(c:C0 h=true):ABG h=some (EC h):=by have e:=(JX c).1;rw[<-WJ a c];unfold ABG jD;rw[GR a,GV a,U4 a.EI e,QO a.EI e,AB,c,BW,CB,AB,AB,BW,CB]
def Cu(h:AF)(q:Int):List UInt8:=if C0 h=true/\inB q 0 1000000=true then four ((JR (pL (q::EC h)):Nat):Int)++pL (q::EC h) else []
theorem Z3:∀l:List Int,(pL l).length<=5*l.length
 | []=>by simp[pL]|x::l=>by have:=Z3 l;have:=RQ x;unfold pL at *;rw[CV,AH,AK];omega
theorem JZ(c:Bt h)(q:Int):rA h q=some (Cu h q):=by
 have hslim:QL=4611686018427387904:=rfl;unfold rA Cu;rw[GV c,AB,BW,AW,Db,AB,AW];by_cases a:C0 h=true;have j:=V7 c a;have e:=Z3 (q::EC h);rw[AK]at e;rw[a,CB];unfold jL;rw[BW,WJ c a,AB,DX,List.singleton_append,aY (by rw[AK];omega),AB,AET (by omega),AB];unfold ABF;rw[AB];cases y:inB q 0 1000000 with
 |false=>rfl|true=>rw[CB,DX,AY ⟨rfl,rfl⟩];rfl
 rw[Aa (λg=>a g.1)];rw[Es]at a;rw[a,CI];rfl
theorem Wj(c:Bt h)(q:Int):ABC h q=some (Cu h q):=by
 have hslim:QL=4611686018427387904:=rfl;unfold ABC Cu orE;by_cases a:C0 h=true;have H:=V7 c a;have B:=Z3 (q::EC h);rw[AK]at B;have G:=RQ q;have E:=Z3 (EC h);have y:(EC h).isEmpty=false:=by unfold EC;simp
 have j:pN q++pL (EC h)=pL (q::EC h):=rfl;have e:qg h q=some (if inB q 0 1000000=true then four ((JR (pL (q::EC h)):Nat):Int)++pL (q::EC h) else []):=by
  unfold qg;rw[AGd c a,AB,D2 y,Db,AB,BW];cases I:inB q 0 1000000 with
  |false=>rfl|true=>rw[CB,Lo,AB,Zi (by omega),AB,DX,j,ADJ (by omega),AB,DX];rfl
 grind;rw[Aa (λg=>a g.1)];rw[Es]at a;have e:qg h q=none:=by unfold qg ABG;rw[GR c,AB,a,BW,CI,AWD]
 rw[e];unfold AIN AOo;rw[GR c,AB,a,BW,CI,AB]
section
variable{o:Type}{Q:Int->o->Int->Prop}
end
theorem AVn{t:List Int}(e:n<=4)(h:IS t n=true):t.length<=4:=by
 unfold IS at h;rw[LM]at h;refine Classical.byContradiction λa=>?_;have key:∀i (hi:i<t.length),0<=t[i]/\t[i]<n/\∀j (c:j<i),t[j]'(by omega)≠t[i]:=by grind[Tl,Ch,B6,A6,List.mem_take_iff_getElem]
 have g:=key 0 (by omega);have q:=key 1 (by omega);have y:=key 2 (by omega);have B:=key 3 (by omega);have E:=key 4 (by omega);grind
theorem AMA:(ATO h).length<=500:=by unfold ATO;split;rename_i e;have a:=JX e;have B:=CU a.1;have g:=JC Qv (m:=10) (λ_=>Aj _) h.AG;have j:=JC (λc:Ak=>[c.AZ.Et]) (m:=1) (λ_=>Aj _) h.AI;have q:=JC (λx:Int=>[w64 (x+1)]) (m:=1) (λ_=>Aj _) h.BI;have y:=AVn (t:=h.BM) (n:=h.AI.length) (by omega) a.2.2.2.2.2.2.1;unfold EC Hu;simp only[AH,AK,AT];omega;simp
def SI(n:Int):BO×Bool:=if Fi ⟨n,0,0,n,0⟩=true then (⟨n,0,0,n,0⟩,true) else (⟨0,0,0,0,0⟩,false)
def LF(n:Int):Ak×Bool:=if (SI n).2=true then (⟨(SI n).1,[],⟨List.replicate 9 []⟩⟩,true) else (⟨⟨0,0,0,0,0⟩,[],⟨[]⟩⟩,false)
def E4(r:Ad):AF×Bool:=
 if EG r=true then (⟨r,0,1,[],r.AZ.map (λn=>(LF n).1),[],List.replicate r.Da.toNat (-1)⟩,true) else (⟨⟨[],0,0,0,0,0,0,0,0⟩,0,0,[],[],[],[]⟩,false)
theorem TQ:jW=some ⟨List.replicate 9 []⟩:=by unfold jW;refine(Dl (n:=9) (λi (v:A2)=>((i:Int),v)) (λi v=>v.Av=List.replicate i []) (λ_ _=>some (⟨List.replicate 9 []⟩:A2)) (by omega) ?_ (v:=⟨[]⟩) rfl);rintro L i ⟨s⟩ a hi c;grind[ABM,Rm,BV,D2,lim,Bh,List.replicate_succ',AW]
theorem AGn:AOx=some ⟨List.replicate 9 []⟩:=rfl
theorem tI(a:r.AZ.length<=1048576):Ht r=some r:=by unfold Ht;rw[DX,Az]
theorem AL9(a:r.AZ.length<=1048576):ABS r=some r:=by unfold ABS MI;rw[DX,AB]
theorem ADc(n:Int):AIP n=some (SI n):=by unfold AIP SI;rw[Fo,AB,BW,Be];split<;>rfl
theorem AGm(n:Int):AIU n=some (LF n):=by grind[AIU,LF,ADc,AB,TQ,Be]
theorem nR(q:r.AZ.length<=1048576):rG r=some (E4 r):=by
 unfold rG E4;rw[JM (by omega),AB,BW,tI q,AB,Be];by_cases a:EG r=true;have B:=CU a;rw[AY a,AY a];refine Dl (n:=r.AZ.length) (λi (v:AF)=>((i:Int),v)) (λi v=>v=⟨r,0,1,[],(r.AZ.take i).map (λn=>(LF n).1),[],[]⟩) (λ_ _=>_) (by omega) ?_ (v:=⟨r,0,1,[],[],[],[]⟩) (by simp);rintro L i v c hi g;unfold ABP;dsimp only at g ⊢;rcases AV i r.AZ.length with h|h;rw[bnT h,BT h,AB,AGm,AB,D2 (by rw[c,ADU];simp;unfold lim;omega),Bh h];refine g _ ?_ h;have e:r.AZ.take (i+1)=r.AZ.take i++[r.AZ[i]]:=by rw[Cg,AU h];rfl
 rw[c,e,List.map_append];rfl;obtain rfl:i=r.AZ.length:=by omega
 rw[bnJ,c,Cd];unfold ABN;have ⟨n,E⟩:=AX (show 0<=r.Da by omega);refine Dl (n:=n) (λi (v:AF)=>((i:Int),v)) (λi v=>v=⟨r,0,1,[],r.AZ.map (λn=>(LF n).1),[],List.replicate i (-1)⟩) (λ_ _=>_) (by omega) ?_ (v:=⟨r,0,1,[],r.AZ.map (λn=>(LF n).1),[],[]⟩) rfl;rintro L j w G y g;unfold ABQ ABO;grind[CB,D2,lim,Bh,List.replicate_succ',CI,AW];rw[Aa a,Aa a]
theorem uq(n:Int):E3 (LF n).1:=by unfold LF;split;exact⟨by simp,by simp,by simp⟩;exact⟨by simp,by simp,by simp⟩
theorem Ow(a:r.AZ.length<=1048576):Bt (E4 r).1:=by unfold E4;split;rename_i c;have e:=CU c;refine⟨a,by simp,by simpa using a,?_,by simp,?_⟩;grind[uq];simp;omega;exact⟨by simp,by simp,by simp,by simp,by simp,by simp⟩
def LR:Ai:=⟨⟨⟨[],0,0,0,0,0,0,0,0⟩,0,0,[],[],[],[]⟩,⟨⟨[],0⟩,⟨[],0⟩,⟨[],0⟩⟩,0,[]⟩
def Iq(r:Ad):Ai×Bool:=
 if (E4 r).2=true then (⟨(E4 r).1,⟨⟨[],0⟩,⟨Cu (E4 r).1 0,((Cu (E4 r).1 0).length:Int)⟩,⟨[],0⟩⟩,0,[]⟩,true) else (LR,false)
theorem Fz(h:AF)(q:Int):(Cu h q).length<=2600:=by unfold Cu;split;rename_i c;have a:=AMA (h:=h);unfold ATO at a;grind[Z3,Hg];simp
theorem fD(a:r.AZ.length<=1048576):ABR r=some (Iq r):=by unfold ABR Iq;rw[nR a,AB,BW,JZ (Ow a),AB,Be];split<;>rfl
theorem We(a:r.AZ.length<=1048576):CS (Iq r).1:=by have c:=Fz (E4 r).1 0;unfold Iq;split;exact⟨Ow a,by simp,by dsimp only;omega,by simp,by simp⟩;exact⟨⟨by simp[LR],by simp[LR],by simp[LR],by simp[LR],by simp[LR],by simp[LR]⟩,by simp[LR],by simp[LR],by simp[LR],by simp[LR]⟩
theorem Ut{w pre l:List UInt8}{i:Int}(a:w=pre++(Fm n++l))(hi:i=pre.length)(c:n<=2147483647):gN w i=((n:Int),((pre.length+(Fm n).length:Nat):Int),true):=by subst a;subst hi;have:=JK n;unfold gN;grind[List.length_append,Int.toNat_natCast,List.drop_left,zS,Lr,wS]
theorem wP{w:List UInt8}{i n j:Int}(h:gN w i=(n,j,true)):∃(m:Nat) (l:List UInt8),0<=i/\i<w.length/\w.drop i.toNat=Fm m++l/\n=(m:Int)/\j=i+(Fm m).length/\m<=2147483647:=by
 unfold gN at h;split at h;rename_i hi;cases a:rdN 5 0 0 (w.drop i.toNat) with
 |none=>rw[a]at h;simp[wS]at h|some x=>grind[wS,Prod.mk.injEq,gw]
 simp at h
theorem mN{q:Int}(h:RE q b):frB q b=Fm (frT q b).length++(four ((JR (pN q++b):Nat):Int)++(Fm q.toNat++b))/\frT q b=four ((JR (pN q++b):Nat):Int)++(Fm q.toNat++b):=by
 have hT:=Qn h;have e:pN q=Fm q.toNat:=by unfold pN;rw[AY (by have:=h.1;omega)]
 have a:frT q b=four ((JR (pN q++b):Nat):Int)++(Fm q.toNat++b):=by unfold frT;rw[e]
 refine⟨?_,a⟩;unfold frB;rw[AY h,<-a];have c:pN ((frT q b).length:Int)=Fm (frT q b).length:=by unfold pN;rw[ifP,Ah]
 rw[c]
theorem AKE{q q':Int}{a:List UInt8}(h:RE q b)(j:RE q' a)(Y:frB q b <+: d)(E:frB q' a <+: d):q=q'/\b=a:=by
 obtain⟨r,rfl⟩:=Y;have ⟨r',y⟩:=E;have ⟨L,H⟩:=mN h;have ⟨B,c⟩:=mN j;have hT:=Qn h;have hT':=Qn j;rw[L,B,<-H,<-c,BF,BF]at y;have O:=Ut (w:=Fm (frT q b).length++(frT q b++r)) (pre:=[]) (i:=0) rfl rfl (by omega:(frT q b).length<=2147483647);have I:=Ut (w:=Fm (frT q b).length++(frT q b++r)) (pre:=[]) (i:=0) (l:=frT q' a++r') (by rw[<-y];rfl) rfl (by omega:(frT q' a).length<=2147483647);rw[O]at I;have X:(frT q b).length=(frT q' a).length:=by have:=congrArg Prod.fst I;simp at this;omega
 rw[<-X]at y;have G:=List.append_cancel_left y;have e:=(EM G (by omega)).1;rw[H,c]at e;have g:=(EM e (by rw[Hg,Hg])).2;have S:=Ut (w:=Fm q.toNat++b) (pre:=[]) (i:=0) rfl rfl (by have:=h.1;omega:q.toNat<=2147483647);have J:=Ut (w:=Fm q.toNat++b) (pre:=[]) (i:=0) (l:=a) (by rw[<-g];rfl) rfl (by have:=j.1;omega:q'.toNat<=2147483647);rw[S]at J;have Z:q.toNat=q'.toNat:=by have:=congrArg Prod.fst J;simp at this;omega
 rw[<-Z]at g;have:=h.1;have:=j.1;grind[List.append_cancel_left]
def AC2(d:List UInt8)(i:Int):By×Bool:=
 open Classical in if h:∃x:Int×List UInt8,RE x.1 x.2/\frB x.1 x.2 <+: d then (⟨h.choose.1,h.choose.2,i+(frB h.choose.1 h.choose.2).length⟩,true) else (⟨0,[],0⟩,false)
theorem wJ{q:Int}{i:Int}(h:RE q b)(a:frB q b <+: d):AC2 d i=(⟨q,b,i+(frB q b).length⟩,true):=by
 unfold AC2;have c:∃x:Int×List UInt8,RE x.1 x.2/\frB x.1 x.2 <+: d:=⟨(q,b),h,a⟩
 grind[AKE]
theorem Vz{i:Int}(h:∀q b,RE q b->¬frB q b <+: d):AC2 d i=(⟨0,[],0⟩,false):=by grind[AC2]
theorem P0(d:List UInt8)(i:Int):(∃q b,RE q b/\frB q b <+: d/\AC2 d i=(⟨q,b,i+(frB q b).length⟩,true))\/((∀q b,RE q b->¬frB q b <+: d)/\AC2 d i=(⟨0,[],0⟩,false)):=by grind[RE,frB,wJ,Vz]
def N4(s:List UInt8)(i:Int):By×Bool:=if 0<=i/\i<=s.length then AC2 (s.drop i.toNat) i else (⟨0,[],0⟩,false)
@[simp] theorem N7(a b:Int):du a b=some (if a<b then a else b):=by unfold du;rw[BV];split<;>rfl
theorem AEd{p:List UInt8}(h:p <+: d)(a:p.length<=n):p <+: d.take n:=by grind[List.take_append,List.take_of_length_le]
theorem Vj(b:List UInt8):(b==[])=decide (b=[]):=by cases b<;>rfl
theorem zl(hs:s.length<2 ^ 62)(i:Int):ABJ s i=some (N4 s i):=by
 unfold ABJ N4;rw[gi,AB,BW,BV];by_cases hi:0<=i/\i<=(s.length:Int)
 rotate_left;rw[Aa hi,Aa hi];rw[AY hi,AY hi,N7,AB,A6];generalize hx:(if (s.length:Int)<i+80 then (s.length:Int) else i+80)=x;have O:i<=x/\x<=(s.length:Int):=by split at hx<;>omega
 rw[D2 ⟨hi.1,O⟩];unfold Yc jP jQ;have hW:(s.drop i.toNat).take (x.toNat-i.toNat)=(s.drop i.toNat).take 80:=by split at hx;rw[BH (by rw[BD];omega),BH (by rw[BD];omega)];congr 1;omega
 rw[hW];generalize hd:s.drop i.toNat=d at *;have hdl:d.length=s.length-i.toNat:=by rw[<-hd,BD]
 generalize J:d.take 80=w;have hwl:w.length<=80/\w.length<=d.length:=by rw[<-J,Ag];omega
 rw[Qz (by omega) _ (by omega),AB];have L:w <+: d:=by rw[<-J];exact Dm _ _
 rcases P0 d i with ⟨q,b,c,hp,G⟩|⟨I,G⟩
 ·
  have hl:=Qm c;have ⟨r,j⟩:=AEd (n:=80) hp (by omega);rw[J]at j;have ⟨y,B⟩:=mN c;have hT:=Qn c;have hq:=c.1;have S:gN w 0=(((frT q b).length:Int),(((Fm (frT q b).length).length:Nat):Int),true):=by rw[Ut (w:=w) (i:=0) (pre:=[]) (n:=(frT q b).length) (l:=frT q b++r) (by rw[<-j,y,<-B];simp) (by simp) (by omega)];simp
  have hm:=Lr (n:=(frT q b).length) (by omega);have hfl:(frB q b).length=(Fm (frT q b).length).length+(frT q b).length:=by rw[y,<-B,AH]
  have hwl2:w.length=(frB q b).length+r.length:=by rw[<-j,AH]
  generalize hM:(Fm (frT q b).length).length=M at *;generalize hN:(frT q b).length=N at *;have hN2:N=4+(Fm q.toNat).length+b.length:=by rw[<-hN,B];simp[Hg];omega
  rw[S];rw[BW,CB,A6 (n:=(w.length:Int)-M),BV,ifN,decide_eq_false (by omega),AW,CI,A6 (n:=(M:Int)+4)];have X:gN w ((M:Int)+4)=(q,((M+4+(Fm q.toNat).length:Nat):Int),true):=by rw[Ut (pre:=Fm N++four ((JR (pN q++b):Nat):Int)) (n:=q.toNat) (l:=b++r) (by rw[<-j,y];simp) (by simp[Hg,hM]) (by omega)];simp[Hg,hM];omega
  rw[Qz (by omega) _ (by omega),AB,X];dsimp only;rw[BW,CB,A6 (n:=(M:Int)+N),decide_eq_false (by omega),AW,CI,DX,DX];have hb:((w.drop ((M+4+(Fm q.toNat).length:Nat):Int).toNat).take (((M:Int)+N).toNat-((M+4+(Fm q.toNat).length:Nat):Int).toNat))=b:=by
   have e3:w=(Fm N++four ((JR (pN q++b):Nat):Int)++Fm q.toNat)++(b++r):=by rw[<-j,y];simp
   rw[Ah,e3,C4 (by simp[Hg,hM];omega),Ci (by omega)]
  have hf:((w.drop 0).take (((M:Int)+N).toNat-0))=frB q b:=by rw[CX,<-j,Ci (by omega)]
  rw[hb,hf,Mc,AB];have g:(frB q b != frB q b)=false:=by simp
  have E:(b==[])=false:=by rw[Vj];have:=c.2;cases b<;>simp at this ⊢
  rw[g,brJ,E,CI,G];have hfw:(((Fm N).length:Nat):Int)=M:=by omega
  simp only[AE,BC,and_true,By.mk.injEq,true_and];rw[A6 (n:=i+M),A6];omega
 ·
  rw[G];rcases hg:gN w 0 with ⟨n,m,ok⟩;cases ok with
  |false=>simp only[BW,CI,CB,AW]|true=>
   have ⟨n',l,h1,h2,h3,h4,h5,h6⟩:=wP hg;have hn5:=Lr h6;have hwlen:w.length=(Fm n').length+l.length:=by have:=congrArg List.length h3;simpa using this
   rw[BW,CB,A6 (n:=(w.length:Int)-m),BV];by_cases Y:n>(w.length:Int)-m;rw[AY Y];simp only[CB,AW];rw[Aa Y,AW,BV];by_cases Z:n<5;rw[AY Z];rw[Aa Z,A6 (n:=m+4),Qz (by omega) _ (by omega),AB];rcases H:gN w (m+4) with ⟨q,k,ok⟩;cases ok with
   |false=>simp only[BW,CI,CB,AW]|true=>
    have ⟨q',l',S,X,g3,g4,g5,g6⟩:=wP H;rw[BW,CB,A6 (n:=m+n),AW,BV];by_cases h9:k>m+n;rw[AY h9];rw[Aa h9,DX,DX,Mc,AB,um,CX,Fu];generalize hbb:List.take ((m+n).toNat-k.toNat) (List.drop k.toNat w)=bb;by_cases e:frB q bb=List.take (m+n).toNat w;rw[AY e];exfalso;have g:frB q bb≠[]:=by rw[e];intro h;have:=congrArg List.length h;rw[Ag]at this;simp only[AT]at this;omega
    exact I q bb (APc g) (by rw[e];exact(Dm _ _).trans L);rw[Aa e];simp only[CB,AW]
theorem yM(hs:s.length<2 ^ 62)(i:Int)(hi':i<2 ^ 62):ABL s i=some (N4 s i):=by
 unfold ABL N4 Og;rw[So,AB,AB,A6 (n:=(s.length:Int)-1),BW,BV];by_cases hi:0<=i/\i<=(s.length:Int)
 rotate_left;rw[ifN,Aa hi];rw[AY hi];by_cases hi2:i=(s.length:Int)
 rw[ifN];congr 1;rw[Vz];intro q b E Z;have J:=Qm E;have:=Z.length_le;rw[BD]at this;omega;rw[ifP];simp only[BP,if_false];rw[A6 (n:=i+5)];generalize hx:(if i+5<(s.length:Int) then i+5 else (s.length:Int))=x;have S:i<=x/\x<=(s.length:Int):=by split at hx<;>omega
 rw[D2 ⟨hi.1,S⟩];unfold Yd jU;have hW:(s.drop i.toNat).take (x.toNat-i.toNat)=(s.drop i.toNat).take 5:=by split at hx;congr 1;omega;rw[BH (by rw[BD];omega),BH (by rw[BD];omega)]
 rw[hW];generalize hd:s.drop i.toNat=d at *;have hdl:d.length=s.length-i.toNat:=by rw[<-hd,BD]
 generalize hw:d.take 5=w;have hwl:w.length<=5/\w.length<=d.length:=by rw[<-hw,Ag];omega
 rw[Qp (by omega),AB];have h:∀m:Int,0<=m->i+m<=s.length->s.drop (i+m).toNat=d.drop m.toNat:=by intro m h0 E;rw[<-hd,DD];congr 1;omega
 rcases P0 d i with ⟨q,b,c,hp,H⟩|⟨O,H⟩
 ·
  have J:=Qm c;have ⟨r,y⟩:=hp;have ⟨B,e⟩:=mN c;have hT:=Qn c;have hq:=c.1;have hm:=Lr (n:=(frT q b).length) (by omega);have X:gN w 0=(((frT q b).length:Int),(((Fm (frT q b).length).length:Nat):Int),true):=by rw[Ut (w:=w) (i:=0) (pre:=[]) (n:=(frT q b).length) (l:=(frT q b++r).take (5-(Fm (frT q b).length).length)) (by rw[<-hw,<-y,B,<-e,BF,List.take_append,BH hm];rfl) (by simp) (by omega)];simp
  have hfl:(frB q b).length=(Fm (frT q b).length).length+(frT q b).length:=by rw[B,<-e,AH]
  have hdl2:d.length=(frB q b).length+r.length:=by rw[<-y,AH]
  generalize hM:(Fm (frT q b).length).length=M at *;generalize hN:(frT q b).length=N at *;have hN2:N=4+(Fm q.toNat).length+b.length:=by rw[<-hN,e];simp[Hg];omega
  rw[X];rw[BW,CB,BV,ifN,A6 (n:=(s.length:Int)-i),A6 (n:=(s.length:Int)-i-M),decide_eq_false (by omega),AW,CI];rw[A6 (n:=i+M),A6 (n:=i+M+N),DX,h _ (by omega) (by omega),Ah];have hT2:(d.drop M).take ((i+M+N).toNat-(i+M).toNat)=frT q b:=by rw[<-y,B,<-e,BF,C4 hM,Ci (by omega)]
  rw[hT2];have Y:gN (frT q b) 4=(q,((4+(Fm q.toNat).length:Nat):Int),true):=by rw[Ut (pre:=four ((JR (pN q++b):Nat):Int)) (n:=q.toNat) (l:=b) e (by simp[Hg]) (by omega)];simp[Hg];omega
  rw[Qp (by omega),AB,Y];rw[BW,CB,DX];have hb:((frT q b).drop ((4+(Fm q.toNat).length:Nat):Int).toNat).take ((frT q b).length-((4+(Fm q.toNat).length:Nat):Int).toNat)=b:=by rw[Ah,hN,e,<-BF,C4 (by simp[Hg]),BH (by omega)]
  have hf:((d).take ((i+M+N).toNat-i.toNat))=frB q b:=by rw[<-y,Ci (by omega)]
  rw[hb,Ze,AB];have L:(frB q b==[])=false:=by rw[Vj];cases hh:frB q b with|nil=>rw[hh]at J;simp at J|cons=>rfl
  rw[L,CI,DX,hf,AW];have j:(frB q b != frB q b)=false:=by simp
  rw[j,CI,H];simp only[AE,BC,and_true,By.mk.injEq,true_and];omega
 ·
  rw[H];rcases hg:gN w 0 with ⟨n,m,ok⟩;cases ok with
  |false=>simp only[BW,CI,CB,AW]|true=>
   have ⟨n',l,E,Z,h3,h4,h5,h6⟩:=wP hg;have hn5:=Lr h6;have hwlen:w.length=(Fm n').length+l.length:=by have:=congrArg List.length h3;simpa using this
   rw[BW,CB,BV];by_cases h7:n<6;rw[AY h7];simp only[CB,AW];rw[Aa h7,A6 (n:=(s.length:Int)-i),A6 (n:=(s.length:Int)-i-m),AW,BV];by_cases h8:n>(s.length:Int)-i-m;rw[AY h8];rw[Aa h8,A6 (n:=i+m),A6 (n:=i+m+n),DX,h _ (by omega) (by omega)];generalize ht:(d.drop m.toNat).take ((i+m+n).toNat-(i+m).toNat)=t;have htl:t.length<=s.length:=by rw[<-ht,Ag,BD];omega
   rw[Qp (by omega),AB];rcases I:gN t 4 with ⟨q,k,ok⟩;cases ok with
   |false=>simp only[BW,CI,CB,AW]|true=>
    have ⟨q',l',X,Y,g3,g4,g5,g6⟩:=wP I;have hkl:k<=t.length:=by have:=congrArg List.length g3;rw[BD,AH]at this;omega
    rw[BW,CB,DX,Ze,AB];generalize hbb:List.take (t.length-k.toNat) (List.drop k.toNat t)=bb;rw[Vj,BV];by_cases G:frB q bb=[]
    rw[AY G];simp only[CB,AW];rw[Aa G,DX,AW,um];by_cases g:frB q bb=List.take ((i+m+n).toNat-i.toNat) d;exfalso;exact O q bb (APc G) (by rw[g];exact Dm _ _);rw[Aa g]
theorem sd{i:Int}(h:(N4 s i).2=true):0<=i/\i+7<=(N4 s i).1.Next/\(N4 s i).1.Next<=s.length:=by unfold N4 at h ⊢;split at h;rename_i hi;rw[AY hi];rcases P0 (s.drop i.toNat) i with ⟨q,b,c,j,a⟩|⟨g,a⟩;rw[a];have:=Qm c;have e:=j.length_le;rw[BD]at e;dsimp only;omega;rw[a]at h;simp at h;simp at h
def frs:Nat->List UInt8->Int->List By|0,_,_=>[]|f+1,s,i=>if (N4 s i).2=true then (N4 s i).1::frs f s (N4 s i).1.Next else []
def DW(s:List UInt8):List By:=frs (s.length+1) s 0
theorem wN{s:List UInt8}(q:s.length<=1048576){G:Int->AA (By×Bool)}(hG:∀i:Int,0<=i->i<=s.length->G i=some (N4 s i)){F:(List By×Int->AA (List By))->List By×Int->AA (List By)}
 (hF:∀L acc i,F L (acc,i)=bd (G i) λx=>br (!x.2) (some acc) (gd (acc.length+[x.1].length<=lim) (L (acc++[x.1],x.1.Next)))) :
 ∀(f n:Nat) (acc:List By) (i:Int),0<=i->i<=s.length->s.length<f+i->f<=n->(acc.length:Int)<=i->BK F n (acc,i)=some (acc++frs f s i)
 |0,n,acc,i,a,c,e,g,h=>by omega|f+1,0,acc,i,a,c,e,g,h=>by omega|f+1,n+1,acc,i,a,c,e,g,h=>by
  rw[ED,hF,hG i a c,AB,BW];unfold frs;cases y:(N4 s i).2 with
  |false=>simp|true=>have j:=sd y;rw[CB,DX,AY rfl];rw[wN q hG hF f n _ _ (by omega) j.2.2 (by omega) (by omega) (by rw[AH,AK,AT];omega)];simp
theorem VS(a:s.length<=1048576):rD s=some (DW s):=by unfold rD DW;have:=wN a (G:=ABJ s) (F:=jR s) (λi _ _=>zl (by omega) i) (λL acc i=>by unfold jR;rfl) (s.length+1) big [] 0 (by omega) (by omega) (by omega) (by have:=Pf;omega) (by simp);rw[this];simp
theorem U3(a:s.length<=1048576):rF s=some (DW s):=by unfold rF DW;have:=wN a (G:=ABL s) (F:=jV s) (λi _ _=>yM (by omega) i (by omega)) (λL acc i=>by unfold jV;rfl) (s.length+1) big [] 0 (by omega) (by omega) (by omega) (by have:=Pf;omega) (by simp);rw[this];simp
theorem AKF:∀(f:Nat) (s:List UInt8) (i:Int),0<=i->i<=s.length->((frs f s i).length:Int)<=s.length-i
 |0,s,i,a,h=>by simp[frs];omega|f+1,s,i,a,h=>by unfold frs;split;rename_i e;have c:=sd e;have:=AKF f s (N4 s i).1.Next (by omega) c.2.2;rw[AK];omega;simp;omega
theorem NH(s:List UInt8):(DW s).length<=s.length:=by have:=AKF (s.length+1) s 0 (by omega) (by omega);unfold DW;omega
def Xp(p:Int):Int->List By->Int|r,[]=>r|r,f::l=>if f.Seq<=p then Xp p f.Next l else r
theorem O5(c:x.Log.Data.length<=1048576)(p:Int):AIT x p=some (Xp p 0 (DW x.Log.Data)):=by unfold AIT;rw[VS c,AB];have g:=NH x.Log.Data;generalize DW x.Log.Data=l at *;refine Dl (n:=l.length) (λi (v:Int)=>(v,(i:Int))) (λ_ _=>True) (λi v=>some (Xp p v (l.drop i))) (by omega) ?_ trivial;intro L i v _ hi e;unfold ABK jS CT be;simp only[dec_lt,AW];rcases AV i l.length with h|h;rw[brT h,BT h,AB,AB,AB,AB,BV,Bh h,D4 h];unfold Xp;by_cases a:l[i].Seq<=p;rw[AY a,AY a,e _ trivial h];rw[Aa a,Aa a];rw[brF,CI,A9 h];rfl
theorem yP(c:x.Log.Data.length<=1048576)(p:Int):Pj x p=some (Xp p 0 (DW x.Log.Data)):=by unfold Pj;rw[U3 c,AB];have g:=NH x.Log.Data;generalize DW x.Log.Data=l at *;refine Dl (n:=l.length) (λi (v:Int)=>(v,(i:Int))) (λ_ _=>True) (λi v=>some (Xp p v (l.drop i))) (by omega) ?_ trivial;intro L i v _ hi e;unfold Qf CT be;simp only[dec_lt,AW];rcases AV i l.length with h|h;rw[brT h,BT h,AB,AB,BV,Bh h,D4 h];unfold Xp;by_cases a:l[i].Seq<=p;rw[ifN,AY a,e _ trivial h];rw[ifP,Aa a];rw[brF,A9 h];rfl
theorem AWn(q:Int):frB q []=[]:=by unfold frB;rw[Aa (λh=>by have:=h.2.1;simp at this)]
theorem AEW(n:Int)(q:Bo):ABY n q=some (frB n (Fs q)):=by unfold ABY;rw[Wu,AB,Vj,BV];split;rename_i h;rw[h,AWn];rw[Mc,AB]
theorem AFJ(q:Int)(b:List UInt8):(frB q b).length<=74:=by by_cases h:RE q b;exact(Qm h).2;unfold frB;rw[Aa h];simp
theorem AaB{l:List Ar}(a:l.length<=1048576):pd l=some l:=Q3 (by unfold lim;omega)
theorem AAz{F:(Int×A2->AA A2)->Int×A2->AA A2}(c:DQ w)
 (step:∀L i (h:i<w.Av.length) (v:A2),v.Av.length=i->F L ((i:Int),v)=L (w64 ((i:Int)+1),⟨v.Av++[w.Av[i]]⟩)) (stop:∀L v,F L ((w.Av.length:Int),v)=some v):BK F big (0,⟨[]⟩)=some w:=by
 have e:=c.1;refine Dl (n:=w.Av.length) (λi (v:A2)=>((i:Int),v)) (λi v=>v=⟨w.Av.take i⟩) (λ_ _=>some w) (by omega) ?_ (v:=⟨[]⟩) (by simp);intro L i v a hi g;rcases AV i w.Av.length with h|h;rw[step L i h v (by rw[a];simp;omega),Bh h];grind[List.take_add_one];obtain rfl:i=w.Av.length:=by omega
 rw[stop,a,Cd]
theorem Vn(a:DQ w):jX w=some w:=by have hlim:=Gk;have c:=a.1;have e:=a.2;grind[jX,AAz,Ly,ABU,CB,BT,AB,D2,Rm,CI,AW]
theorem Vm(a:DQ w):ji w=some w:=by have hlim:=Gk;have c:=a.1;have e:=a.2;grind[ji,AAz,Ly,ABZ,CB,BT,AB,D2,Rm,CI,AW]
theorem ALd(a:E3 c):AIW c=some c:=by unfold AIW;rw[AaB a.1,AB,Vn a.2,AB]
theorem ALc(a:E3 c):AIX c=some c:=by unfold AIX Ye;have:=a.1;rw[DX,AB,Vm a.2,AB]
theorem YJ{l:List Int}(a:l.length<=1048576):MI l=some l:=by unfold MI;rw[DX]
theorem AAy{F:(Int×AF->AA AF)->Int×AF->AA AF}(e:Bt h)
 (step:∀L i (hi:i<h.AI.length) (v:AF),v.AI.length=i->F L ((i:Int),v)=L (w64 ((i:Int)+1),{v with AI:=v.AI++[h.AI[i]]})) (stop:∀L v,F L ((h.AI.length:Int),v)=some v):BK F big (0,{h with AI:=[]})=some h:=by
 have g:=e.EH;refine Dl (n:=h.AI.length) (λi (v:AF)=>((i:Int),v)) (λi v=>v={h with AI:=h.AI.take i}) (λ_ _=>some h) (by omega) ?_ (v:={h with AI:=[]}) (by simp);intro L i v c hi j;rcases AV i h.AI.length with a|a;rw[step L i a v (by rw[c];simp;omega),Bh a];grind[List.take_add_one];obtain rfl:i=h.AI.length:=by omega
 rw[stop,c,Cd]
theorem Im(a:Bt h):Pn h=some h:=by
 have hlim:=Gk;have c:=a.EI;have p1:=a.Cc;have p2:=a.todo;have p3:=a.Gs;have p4:=a.EH;have e:0+h.AG.length<=lim:=by omega
 have g:0+h.BM.length<=lim:=by omega
 have j:0+h.BI.length<=lim:=by omega
 unfold Pn;simp only[tI c,AB,D2 e,D2 g,D2 j,AHq,Az,PD,KG,Dh,ac,am,ap,bi,List.foldr,Cm,ABV,Nq,ABW,jY,DO,rH,Ro,bH,PH,PI,rJ,rI,jZ,rL,bI,bK,bJ,bL,rN,rM,rK,JW,rQ,bM,bO,bN,bP,rS,rR,rP,Vu,bQ,bR,rW,rV,rU,ra,bS,rZ,rY,rf,re,rb,rX,rT,rO];refine AAy a ?_ ?_;intro L i hi v q;unfold bU;dsimp only;rw[bnT hi,BT hi,AB,ALd (a.EX _ (Aw hi)),AB,DX];grind[bU,Gg,CI,AW]
theorem H2(a:Bt h):Po h=some h:=by
 have hlim:=Gk;have c:=a.EI;have p1:=a.Cc;have p2:=a.todo;have p3:=a.Gs;have p4:=a.EH;have e:0+h.AG.length<=lim:=by omega
 unfold Po;simp only[AL9 c,AB,D2 e,YJ p2,YJ p3,Cy,Kx,Lc,Ky,Kz,KG,K0,K1,PD,Kb,Nh,OG,Tn,Xq];refine AAy a ?_ ?_;intro L i hi v g;unfold jj;dsimp only;rw[bnT hi,BT hi,AB,ALc (a.EX _ (Aw hi)),AB,DX];grind[jj,Gg,CI,AW]
theorem Ha(a:CS e):Wa e=some e:=by
 have hlim:=Gk;have:=a.laid;have g:0+e.Laid.length<=lim:=by omega
 unfold Wa;simp only[Im a.Dt,AB,D2 g,Cy,Kx,Lc,Ky,Kz,KG,K0,K1,PD,Kb,Nh,OG,Tn,Xq,Az]
theorem AE8(a:CS e):MH e=some e:=by have:=a.laid;unfold MH;rw[H2 a.Dt,AB,DX]
def FL(a:Bp)(s:List UInt8):Bp×Bool:=if Eu a=true/\(a.Data.length:Int)+s.length<=20000 then (⟨a.Data++s,a.Safe⟩,true) else (a,false)
theorem DZ{a:Bp}:Eu a=true↔(a.Data.length:Int)<=20000/\0<=a.Safe/\a.Safe<=a.Data.length:=by grind[Eu,B6]
theorem OE{a:Bp}(c:s.length<=4000):jf a s=some (FL a s):=by grind[QL,jf,jg,FL,Dw,AB,BW,AW,Eu,A6,D2,BV]
theorem ADH{a:Bp}(c:a.Data.length<=1048576)(e:s.length<=4000):RB a s=some (FL a s):=by grind[QL,RB,NC,FL,D2,Dw,AB,AW,CB,DZ,CI]
def IJ(e:Ai)(q:Bo):Ai×Int:=
 if DC e=false then (e,21) else if LD q=false then (e,22) else if e.Seq=1000000 then (e,23) else if e.Laid.length=8\/(FL e.Ac.Log (frB (w64 (e.Seq+1)) (Fs q))).2=false then (e,24)
 else (⟨e.BG,{e.Ac with Log:=(FL e.Ac.Log (frB (w64 (e.Seq+1)) (Fs q))).1},w64 (e.Seq+1),e.Laid++[q]⟩,0)
theorem VT{e:Ai}(a:CS e)(q:Bo):dv e q=some (IJ e q):=by
 have g:=a.laid;have c:=AFJ (w64 (e.Seq+1)) (Fs q);unfold dv IJ;simp only[Ha a,Ed a,oz,AEW,OE (Ax c (by omega):(frB (w64 (e.Seq+1)) (Fs q)).length<=4000),AB,Cy,Kx,Lc,Ky,Kz,KG,K0,K1,PD,Kb,Nh,OG,Tn,Xq,BW,AW];unfold jh;rw[BW,CB,DX];cases DC e with
 |false=>rfl|true=>
  cases LD q with
  |false=>rfl|true=>simp only[CB,Be,beq_iff_eq];grind
theorem DM(h:DC e=true):C0 e.BG=true/\Ek e.Ac=true/\e.Laid.length<=8/\((e.Laid.length:Int)<=e.Seq/\e.Seq<=1000000)/\e.Laid.all LD=true:=by grind[DC,B6]
theorem dg{a:Bp}(c:a.Data.length<=1048576):(FL a s).1.Data.length<=1048576:=by grind[FL]
theorem Zp(a:CS e)(q:Bo):CS (IJ e q).1:=by unfold IJ;split;exact a;rename_i c;rw[FF]at c;have g:=DM c;split;exact a;split;exact a;split;exact a;exact⟨a.Dt,dg a.log,a.even,a.odd,by rw[AH,Cf];omega⟩
end Lv.P
