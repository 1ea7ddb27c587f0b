/- The typed machine is right about the light one. -/
import Derived.Test.YtcmjfplpdjflnaaGreatTAb
import Derived.KernelRfl
noncomputable section
set_option linter.unusedVariables false
set_option linter.unusedSimpArgs false
set_option linter.unusedSectionVars false
open Bool renaming and_eq_true->AF,false_and->Bj,false_eq_true->BM,not_eq_true'->BG
open List.cons renaming injEq->CY
open List renaming drop_left'->Ch,ext_getElem?->FE,getD_eq_getElem?_getD->BO,getElem?_eq_some_iff->AO,getElem?_map->A5,getElem?_set->Di,length_append->AP,length_cons->AI,length_drop->BY,length_map->Aj,length_nil->AR,map_append->Cr,map_cons->AJ,map_drop->CV,map_flatten->Jc,map_map->Dj,map_nil->BW,map_replicate->GU,map_set->HB,map_take->Cj,mem_cons->Ap,mem_cons_of_mem->Av,mem_cons_self->Bc,take_append_drop->Ho,take_left'->Cs
open Nat renaming beq_refl->Lw,le_refl->Ae,lt_succ_of_lt->JA,not_lt->NW,sub_self->Dl
open Option renaming getD_some->Jg,map_some->An
open Option.some renaming injEq->AD
namespace Lv
open Go (IntKind BinOp UnOp)
theorem AFz{γ:Type}{b:Bool}{x y:Option γ}{r:γ}(h:br b x y=some r):(b=true/\x=some r)\/(b=false/\y=some r):=by
 grind[AX3]
theorem Oo{γ:Type}{p:Prop} [Decidable p] {x:Option γ} {r:γ} (h:gd p x=some r):p/\x=some r:=by
 grind[AOj]
theorem Uc{α γ:Type}{o:Option α}{f:α->Option γ}{r:γ}(h:bd o f=some r):∃a,o=some a/\f a=some r:=ob (ACx o f▸h)
theorem Wh(X:List (List T))(i j:Nat)(o:T)(k:Nat):(Ie X i j o)[k]?=if k=i then (X[i]?).map (fun row=>row.set j o) else X[k]?:=by
 grind[Ie,List.getElem?_eq_getElem,List.getElem?_eq_none]
theorem AMp(X:List (List T))(i j y q:Nat)(o t:T)(h:q≠j):Ie (Ie X y q t) i j o=Ie (Ie X i j o) y q t:=by
 apply FE
 grind[Wh,List.set_comm]
theorem AMq(X:List (List T))(i j:Nat)(o t:T):Ie (Ie X i j t) i j o=Ie X i j o:=by
 apply FE;intro k;simp only[Wh];by_cases q:k=i
 .subst q;simp only[if_true];cases X[k]? with|none=>rfl|some row=>simp
 .simp only[AU q]
namespace Y
section
variable{R:List GF}{ρ:Type}
theorem nQ(i j:Nat)(o:T):∀(q:List (Nat×Nat)) (X:List (List T)),(∀p∈q,p.2≠j)->Ie (ME X q) i j o=ME (Ie X i j o) q
 | [],X,_=>rfl|(a,b)::q,X,h=>by
  simp only[ME];rw[nQ i j o q _ (fun p y=>h p (by simp[y])),AMp X i j a b o .top (h (a,b) (by simp))]
theorem AUi{c:C}{xs:List c.D}{i j:Nat}{o:U}{x y:c.D}(q:xs[i]?=some x)(h:ofC c ((cells c x).set j o)=some y):Ie (xs.map (enc c)) i j o.fg=(xs.set i y).map (enc c):=by
 have B:i<xs.length:=(AO.1 q).1;apply FE;intro k;simp only[Wh,A5,Di];by_cases E:k=i
 .subst E;simp only[if_true,q,An,B,AD];rw[ID h,E2,HB]
 grind
theorem M4:∀{ls:List AS} {us:List U} {S:St} {K:St->Option ρ} {r:ρ},G2 S ls us K=some r ->
 ∃S',Lv.G2 (S.fg R) (ls.map (AS.fg R)) (us.map U.fg)=some (S'.fg R)/\BT S S'/\K S'=some r
 | [],[],S,K,r,h=>⟨S,rfl,BT.refl _,h⟩| [],u::us,S,K,r,h=>by simp[G2]at h|l::ls,[],S,K,r,h=>by cases l<;>simp[G2]at h
 |l::ls,o::us,S,K,r,h=>by
  cases l with
  |t x=>
   have h:G2 S ls us K=some r:=h;obtain⟨S',y,B,E⟩:=M4 h;exact⟨S',y,B,E⟩
  |al q sub=>
   cases sub with
   |some p=>simp[G2]at h|none=>
    have h:G2 (S.Bf q (.ow o)) ls us K=some r:=h;obtain⟨S',y,B,E⟩:=M4 h;refine⟨S',?_,(BT.Bf _ _ _).trans B,E⟩;rw[GH]at y;exact y
  |vw s c xs=>
   cases s with
   |old k=>simp[G2]at h|own q p=>
    cases p with
    |none=>simp[G2]at h|some p=>
     obtain⟨i,j⟩:=p;simp only[G2]at h;split at h
     .rename_i c' rows i' Z H I;split at h
      .rename_i Q;obtain⟨rfl,G⟩:=Q;obtain⟨rfl,h⟩:=Oo h;obtain⟨x,Y,h⟩:=Uc h;split at h
       .rename_i x' L;obtain⟨S',y,B,E⟩:=M4 h;refine⟨S',?_,((BT.Bf _ _ _).trans (BT.kill _ _)).trans B,E⟩;have J:∀p∈H,p.2≠Z:=by
         intro p X;have:=List.all_eq_true.1 G p X;intro O;simp[O]at this
        simp only[AJ,AS.fg,Lv.G2,JC,I,An];rw[<-J7 (QE q),GH]at y;rw[<-y];congr 3;simp only[ME];rw[nQ _ _ _ H _ J,AMq,AUi Y L];cases H with
        |nil=>simp only[AS.fg,U.fg,ME]|cons p H=>simp only[AS.fg]
       .cases h
      .cases h
     .cases h
  |_=>simp[G2]at h
theorem AWS(S0 S:Lv.St)(ms:List Md)(e:Lv.Ent)(es:List Lv.Ent)(outs:List (List T)):Lv.FH S0 S (.b::ms) (e::es) outs=match AYR e,outs with
 |some id,o::outs=>(match Lv.get S0.bx id,Lv.get S.bx id with
  |some ls,some j=>if o.length=j.length then Lv.FH S0 { S with bx:=Lv.put S.bx id (o.map (Lv.D6 (Lv.DL ls)))} ms es outs else none
  |_,_=>none)
 |_,_=>none:=by
 obtain⟨sh,cs⟩:=e;cases sh<;>try rfl
 rcases cs with _|⟨l,_|⟨q,ls⟩⟩
 .rfl
 .cases l<;>try rfl
  rename_i id off;cases off<;>cases outs<;>rfl
 .cases l<;>try rfl
  rename_i id off;cases off<;>rfl
theorem AXz{S0 S:St}{c:C}{ks:List PK}{e:En}{es:List En}{outs:List (List U)}{K:St->Option ρ}:FH S0 S (.b c::ks) (e::es) outs K=match bp0 e,outs with
 |some id,o::outs=>(match get S0.bx id,get S.bx id with
  |some ls,some j=>if o.length=j.cs.length then FH S0 (S.NT id (o.map (D6 (DL ls.cs)))) ks es outs K else none|_,_=>none)
 |_,_=>none:=by
 obtain⟨sh,cs⟩:=e;cases sh<;>try rfl
 rcases cs with _|⟨l,_|⟨q,ls⟩⟩
 .rfl
 .cases l<;>try rfl
  rename_i id off;cases off<;>cases outs<;>rfl
 .cases l<;>try rfl
  rename_i id off;cases off<;>rfl
theorem Ms{S0:St}:∀{ks:List PK} {es:List En} {outs:List (List U)} {S:St} {K:St->Option ρ} {r:ρ},FH S0 S ks es outs K=some r ->
 ∃S',Lv.FH (S0.fg R) (S.fg R) (ks.map PK.md) (es.map (En.fg R)) (outs.map fun o=>o.map U.fg)=some (S'.fg R)/\BT S S'/\K S'=some r
 | [],es,[],S,K,r,h=>by
  refine⟨S,?_,BT.refl _,?_⟩
  .cases es<;>rfl
  .cases es<;>exact h
 | [],es,o::outs,S,K,r,h=>by cases es<;>simp[FH]at h
 |k::ks,[],outs,S,K,r,h=>by cases outs<;>simp[FH]at h
 |k::ks,e::es,outs,S,K,r,h=>by
  cases k with
  |b c=>
   rw[AXz]at h;simp only[AJ,PK.md];rw[AWS,ANX];split at h
   .rename_i id o outs' J;rw[J];simp only[AJ,Ol];split at h
    .rename_i ls O L E;rw[L,E];split at h
     .rename_i B;obtain⟨S',j,q,y⟩:=Ms h;refine⟨S',?_,(BT.NT _ _ _).trans q,y⟩;simp only[An,Aj,B,if_true];rw[Sn,O0]at j;rw[NB];exact j
     .cases h
    .cases h
   .cases h
  |m c=>
   cases outs with
   |nil=>simp[FH]at h|cons o outs=>
    have h:G2 S e.cs o (fun S'=>FH S0 S' ks es outs K)=some r:=h;obtain⟨S1,j,q,y⟩:=M4 (R:=R) h;obtain⟨S',G,H,I⟩:=Ms y;refine⟨S',?_,q.trans H,I⟩;simp only[AJ,PK.md,Lv.FH,En.fg,j];exact G
  |v c=>
   have h:FH S0 S ks es outs K=some r:=by cases outs<;>exact h
   obtain⟨S',j,q,y⟩:=Ms h;refine⟨S',?_,q,y⟩;cases outs<;>exact j
  |p c=>
   have h:FH S0 S ks es outs K=some r:=by cases outs<;>exact h
   obtain⟨S',j,q,y⟩:=Ms h;refine⟨S',?_,q,y⟩;cases outs<;>exact j
  |o c=>
   have h:FH S0 S ks es outs K=some r:=by cases outs<;>exact h
   obtain⟨S',j,q,y⟩:=Ms h;refine⟨S',?_,q,y⟩;cases outs<;>exact j
  |f x l=>
   have h:FH S0 S ks es outs K=some r:=by cases outs<;>exact h
   obtain⟨S',j,q,y⟩:=Ms h;refine⟨S',?_,q,y⟩;cases outs<;>exact j
theorem jB{S:St}{d:Nat}{ls:List AS}{K:St->Option ρ}{r:ρ}(h:O3 S d ls K=some r):∃S',Lv.O3 (S.fg R) d (ls.map (AS.fg R))=some (S'.fg R)/\BT S S'/\K S'=some r:=by
 unfold O3 at h;split at h
 .cases h
 .rename_i j;have q:d∉(S.fg R).pin:=Mg.1 j;refine⟨_,?_,((BT.kill _ _).trans (BT.JX _ _ _ _)).trans (BT.NT _ _ _),h⟩;unfold Lv.O3;rw[AU q,Sn,K9,<-J7 (q':=fun l=>Lv.Ec d l||Lv.FO d l) (fun l=>by rw[WL,WK])];rfl
theorem AWR{S:St}{e:En}{k:Nat}(h:ik S e=some k):Lv.ik (S.fg R) (e.fg R)=some k:=by
 have gen:∀(cs:List AS),(if (FI (DL cs) cs).isSome=true then some (DL cs) else none)=some k->(if (Lv.FI (Lv.DL (cs.map (AS.fg R))) (cs.map (AS.fg R))).isSome=true then some (Lv.DL (cs.map (AS.fg R))) else none)=some k:=by
  intro cs h;rw[NB];cases q:FI (DL cs) cs with
  |none=>rw[q]at h;simp at h|some us=>rw[OQ q];rw[q]at h;simpa using h
 obtain⟨sh,cs⟩:=e;cases sh<;>try exact gen cs h
 rcases cs with _|⟨l,_|⟨y,ls⟩⟩
 .exact gen [] h
 .have j:=gen [l];cases l with
  |bp id off=>
   grind[ik,En.fg,AS.fg,Lv.ik,Ol]
  |_=>exact j h
 .have j:=gen (l::y::ls);cases l<;>exact j h
theorem AJU{g:GF}{S0:St}{es:List En}{k lab:Nat}(h:il g.ps S0 es k=some lab):Lv.il g.x (S0.fg R) (es.map (En.fg R)) k=some lab:=by
 unfold il at h;unfold Lv.il;rw[g.ms];simp only[A5];split at h
 .rename_i e B;rw[B];simp only[An];split at h
  .cases h
  .rename_i E;rw[AU]
   .exact AWR h
   .intro j;cases y:g.ps[k]? with
    |none=>rw[y]at j;simp at j|some q=>rw[y]at j;cases q<;>simp[PK.md]at j;exact E _ y
 .cases h
theorem gn:∀(cs:List C) (x:Tu cs),Pl cs x=(Qw cs x).map fun l=>l.map U.fg| [],_=>rfl| [c],x=>congrArg (fun z=>[z]) (E2 c x)|c::j::cs,x=>by simp only[Pl,Qw,AJ,E2,gn (j::cs) x.2]
theorem AWg{d:Nat}{g:GF}{es:List En}{S0 S:St}{x:Tu (g.rk.cs++Kw g.ps)}{K:St->Option ρ}{r:ρ}(h:post d g es S0 S x K=some r) :
 ∃S',Lv.post d g.x (es.map (En.fg R)) (S0.fg R) (S.fg R) g.rk.sh ((Pl _ x).take g.rk.cs.length).flatten ((Pl _ x).drop g.rk.cs.length)=some (S'.fg R)/\BT S S'/\K S'=some r:=by
 unfold post at h;obtain⟨S1,J,G,j⟩:=Ms (R:=R) h;unfold Lv.post;rw[g.ms,gn,<-CV,J,<-Cj,<-Jc];generalize ((Qw (g.rk.cs++Kw g.ps) x).take g.rk.cs.length).flatten=us at j;dsimp only;cases I:g.rk with
 |ptr k c=>
  rw[I]at j;simp only[RK.sh];dsimp only at j;split at j
  .rename_i lab H;rw[AJU H];obtain⟨S2,q,y,B⟩:=jB (R:=R) j;rw[O0]at q;exact⟨S2,q,G.trans y,B⟩
  .cases j
 |vw k c=>
  rw[I]at j;simp only[RK.sh];dsimp only at j;split at j
  .rename_i lab H;rw[AJU H];obtain⟨S2,q,y,B⟩:=aX (R:=R) j;rw[O0]at q;exact⟨S2,q,G.trans y,B⟩
  .cases j
 |ret cs=>
  rw[I]at j;dsimp only at j;obtain⟨S2,q,y,B⟩:=aX (R:=R) j;rw[YU]at q;refine⟨S2,?_,G.trans y,B⟩;simp only[RK.sh];cases E:ACP (cs.map wC) with
  |ptr k=>exfalso;revert E;unfold ACP;split<;>simp|vw k=>exfalso;revert E;unfold ACP;split<;>simp|one=>rw[E]at q;exact q|agg=>rw[E]at q;exact q|tup ns=>rw[E]at q;exact q
theorem vY{d:Nat}{g:GF}{fs:List Nat}{es:List En}{S:St}{K:St->Option ρ}{r:ρ}(hA:Al R fs (fX g.ps))(h:AGF d g fs es S K=some r) :
 ∃S1 vs cs outs S',Lv.pre g.x (es.map (En.fg R)) (S.fg R)=some (S1,vs)/\I8 g.x vs g.rk.sh cs outs/\Lv.post d g.x (es.map (En.fg R)) (S.fg R) S1 g.rk.sh cs outs=some (S'.fg R)/\BT S S'/\K S'=some r:=by
 unfold AGF at h;split at h
 .cases h
 .rename_i H;split at h
  .rename_i S1 a j;obtain⟨x,I,h⟩:=Uc h;obtain⟨q,y⟩:=ANR hA j;obtain⟨S',B,E,G⟩:=AWg (R:=R) h;refine⟨_,_,_,_,S',?_,g.ok a x I,B,y.trans E,G⟩;unfold Lv.pre;rw[g.ms];have:=ve (R:=R) g.ps [] es;rw[BW]at this;rw[this,H,AU (by decide),q]
  .cases h
end
end Y
end Lv
namespace Lv
open Go (IntKind BinOp UnOp)
namespace Y
section
variable{R:List GF}{ρ:Type}
theorem Ej{S:St}{x:YO}{l:AS}(h:S.one x=some l):(S.fg R).one (x.er R)=some (AS.fg R l):=by
 unfold St.one at h;split at h
 .rename_i l' j;cases h;simp only[Lv.St.one,Ke j,En.fg,AJ,BW]
 .cases h
theorem No{S:St}{x:YO}{u:U}(h:S.sc x=some u):(S.fg R).sc (x.er R)=some u.fg:=by
 unfold St.sc AFg at h;split at h
 .rename_i o l' j;cases h;simp only[Lv.St.sc,Ke j,En.fg,AJ,BW,AS.fg,Lv.AFg]
 .cases h
theorem Ro{S:St}{x:YO}{n:Int}(h:S.nat x=some n):(S.fg R).nat (x.er R)=some n:=by
 unfold St.nat at h;split at h
 .rename_i u j;simp only[Lv.St.nat,No j];cases u<;>simp[AZf]at h<;>subst h<;>rfl
 .cases h
theorem AYI{k:Kd}{a b:U}{c:Bool}(h:eqU k a b=some c):eqT k a.fg b.fg=some c:=by
 cases k<;>cases a<;>cases b<;>simp only[eqU]at h<;>first|cases h;done|exact h
theorem AI4:∀{ks:List Kd} {as j:List U} {c:Bool},AAz ks as j=some c->Qk ks (as.map U.fg) (j.map U.fg)=some c
 | [],[],[],c,h=>h| [],[],b::j,c,h=>by simp[AAz]at h| [],a::as,j,c,h=>by cases j<;>simp[AAz]at h
 |k::ks,[],j,c,h=>by cases j<;>simp[AAz]at h
 |k::ks,a::as,[],c,h=>by simp[AAz]at h|k::ks,a::as,b::j,c,h=>by
  simp only[AAz]at h;split at h
  .rename_i x y q B;cases h;simp only[AJ,Qk,AYI q,AI4 B]
  .cases h
theorem ug:∀{ls:List AS} {us:List U},UP ls=some us->Lv.UP (ls.map (AS.fg R))=some (us.map U.fg)
 | [],us,h=>by cases h;rfl
 |l::ls,us,h=>by
  cases l with
  |t x=>
   simp only[UP]at h;split at h
   .rename_i q j;cases h;simp only[AJ,AS.fg,Lv.UP,ug j,An]
   .cases h
  |_=>simp[UP]at h
theorem AOk{cst:Bool}{p:Prop} [Decidable p] {x:Option ρ} {r:ρ} (h:gdc cst p x=some r):p/\x=some r:=by
 cases cst with
 |true=>simp only[gdc]at h;split at h<;>simp_all|false=>exact Oo h
theorem AWK{cst:Bool}{op:BinOp}{k:IntKind}{a b:Int}{K:U->Option ρ}{r:ρ}(h:AYO cst op k a b K=some r):∃u,ZQ op k a b=some (U.fg u)/\K u=some r:=by
 cases op<;>simp only[AYO]at h<;>first
  |exact⟨_,rfl,h⟩|(obtain⟨j,h⟩:=AOk h;exact⟨_,by simp only[ZQ];rw[AU j];rfl,h⟩)
  |cases h
theorem AUm{cst:Bool}{op:BinOp}{k:IntKind}{a b:Int}{K:U->Option ρ}{r:ρ}(h:shU cst op k a b K=some r):∃u,AFh op k a b=some (U.fg u)/\K u=some r:=by
 cases op<;>simp only[shU]at h<;>first
  |cases h;done
  |(obtain⟨j,h⟩:=AOk h;exact⟨_,by simp only[AFh];rw[AU j];rfl,h⟩)
theorem AU4(n:Int):(U.u8 (toB n)).fg=.int .u8 (IntKind.u8.wrap n):=by simp only[U.fg,AM8]
theorem AX4{op:BinOp}{a b:Int}{K:U->Option ρ}{r:ρ}(h:byU op a b K=some r):∃u,ZQ op .u8 a b=some (U.fg u)/\K u=some r/\AWN op=false:=by
 cases op<;>simp only[byU]at h<;>first
  |cases h;done
  |exact⟨_,by rw[AU4];rfl,h,rfl⟩|exact⟨_,rfl,h,rfl⟩
theorem pD{op:BinOp}{k j:IntKind}{a b:Int}:av op (.int k a) (.int j b)=if AWN op=true then AFh op k a b else if k=j then ZQ op k a b else none:=by
 cases op<;>rfl
theorem AVZ{cst:Bool}{op:BinOp}{x y:U}{K:U->Option ρ}{r:ρ}(h:AX0 cst op x y K=some r):∃u,av op x.fg y.fg=some (U.fg u)/\K u=some r:=by
 unfold AX0 at h;split at h
 .rename_i k a E b;split at h
  .rename_i B;obtain⟨u,j,q⟩:=AUm h;exact⟨u,by show av op (.int k a) (.int E b)=_;rw[pD,AX B];exact j,q⟩
  .rename_i B;split at h
   .rename_i H;split at h
    .cases h
    .obtain⟨u,j,q⟩:=AWK h;exact⟨u,by show av op (.int k a) (.int E b)=_;rw[pD,AU B,AX H];exact j,q⟩
   .cases h
 .rename_i k a b;split at h
  .rename_i B;obtain⟨u,j,q⟩:=AUm h;exact⟨u,by show av op (.int k a) (.int .u8 b.toNat)=_;rw[pD,AX B];exact j,q⟩
  .cases h
 .rename_i a b;obtain⟨u,j,q,G⟩:=AX4 h;exact⟨u,by show av op (.int .u8 a.toNat) (.int .u8 b.toNat)=_;rw[pD,AU (by simp[G]),AX rfl];exact j,q⟩
 .rename_i a b;split at h
  .obtain⟨j,h⟩:=Oo h;exact⟨_,by show (if a.length+b.length<=OE then some (T.str (a++b)) else none)=some (U.fg (.str (a++b)));rw[AX j];rfl,h⟩
  .exact⟨_,rfl,h⟩
  .exact⟨_,rfl,h⟩
  .cases h
 .cases h
theorem ADA{op:BinOp}{b:Bool}{K:U->Option ρ}{r:ρ}(h:eqK op b K=some r):∃u,kf op b=some (U.fg u)/\K u=some r:=by
 cases op<;>simp only[eqK]at h<;>first
  |cases h;done
  |exact⟨_,rfl,h⟩
theorem ZS{α β:Type}{f:α->β}{xs:List α}(h:xs.isEmpty=false):∃y ys,xs.map f=y::ys:=by
 cases xs with
 |nil=>simp at h|cons x xs=>exact⟨_,_,rfl⟩
theorem AWW{S:St}{l:AS}{K:Bool->Option ρ}{r:ρ}(h:S.T6 l K=some r):∃b,(S.fg R).T6 (AS.fg R l)=some b/\K b=some r:=by
 unfold St.T6 at h;split at h
 .exact⟨true,rfl,h⟩
 .rename_i s c xs;obtain⟨j,h⟩:=Oo h;obtain⟨y,ys,E⟩:=ZS (f:=enc c) j;exact⟨false,by simp only[AS.fg,E,Lv.St.T6],h⟩
 .rename_i q;simp only[AS.fg,Lv.St.T6,JC];split at h
  .rename_i B;rw[B];exact⟨true,rfl,h⟩
  .rename_i c xs B;rw[B];obtain⟨j,h⟩:=Oo h;obtain⟨y,ys,E⟩:=ZS (f:=enc c) j;exact⟨false,by simp only[An,AS.fg,U.fg,E],h⟩
  .cases h
 .cases h
theorem AX1{S:St}{cst:Bool}{c:Cls}{op:BinOp}{x y:En}{K:U->Option ρ}{r:ρ}(h:S.bin cst c op x y K=some r):∃u,(S.fg R).bin c op (x.fg R) (y.fg R)=some (U.fg u)/\K u=some r:=by
 unfold St.bin at h;split at h
 .split at h
  .exact AVZ h
  .cases h
 .split at h
  .exact ADA h
  .cases h
 .split at h
  .obtain⟨b,j,q⟩:=AWW (R:=R) h;obtain⟨u,B,E⟩:=ADA q;rename_i l;exact⟨u,by show (match (S.fg R).T6 (AS.fg R l) with|some b=>kf op b|none=>none)=_;rw[j];exact B,E⟩
  .cases h
 .split at h
  .split at h
   .rename_i G H j q;split at h
    .rename_i b I;obtain⟨u,B,E⟩:=ADA h;refine⟨u,?_,E⟩;simp only[En.fg,Lv.St.bin,ug j,ug q,AI4 I,B]
    .cases h
   .cases h
  .cases h
theorem AY9{op:UnOp}{x:U}{K:U->Option ρ}{r:ρ}(h:unU op x K=some r):∃u,unT op x.fg=some (U.fg u)/\K u=some r:=by
 unfold unU at h;split at h
 .cases op<;>simp only at h<;>first|cases h;done|exact⟨_,rfl,h⟩
 .cases op<;>simp only at h<;>first|cases h;done|(split at h;cases h;exact⟨_,rfl,h⟩)
 .cases h
theorem ASu(k:IntKind)(n:Int):(mkInt k n).fg=.int k (k.wrap n):=by cases k<;>simp only[mkInt,AU4]<;>rfl
theorem AKp:∀(n:Nat) (x:tD n),TG (.st n)=true->(AZR n x).all flat=true|0,x,_=>rfl|1,x,h=>absurd h (by decide)|2,x,_=>rfl|3,x,_=>rfl|4,x,_=>rfl|5,x,_=>rfl|6,x,h=>absurd h (by decide)|7,x,h=>absurd h (by decide)|8,x,h=>absurd h (by decide)|9,x,_=>rfl|10,x,_=>rfl|11,x,h=>absurd h (by decide)|12,x,h=>absurd h (by decide)|13,x,h=>absurd h (by decide)|14,x,h=>absurd h (by decide)|15,x,_=>rfl|16,x,h=>absurd h (by decide)|17,x,h=>absurd h (by decide)|_+18,x,_=>rfl
theorem AKo{c:C}(h:TG c=true)(x:c.D):(enc c x).all flat=true:=by
 cases c with
 |l c=>cases h
 |m=>cases h
 |st n=>exact AKp n x h|un n=>cases h
 |_=>rfl
theorem IX{c:C}(h:TG c=true)(xs:List c.D):GK (xs.map (enc c))=true:=by
 grind[GK,List.all_map,List.all_eq_true,AKo]
theorem AW0{c:C}{fl:Bool}{S S':St}{l:AS}{ys:List c.D}(h:OH c fl S l=some (S',ys)):Lv.OH c.size fl (S.fg R) (AS.fg R l)=some (S'.fg R,ys.map (enc c))/\BT S S':=by
 unfold OH at h;split at h
 .rename_i s;split at h
  .rename_i xs j;cases h;have y:C.u=c:=by
    simp only[Rw.as]at j;split at j
    .rename_i y;exact y
    .cases j
   subst y;have:=ak j;simp only[AS.fg,U.fg,Lv.OH,C.size,if_true,<-this,Rw.fg];exact⟨rfl,BT.refl _⟩
  .cases h
 .cases h;exact⟨rfl,BT.refl _⟩
 .rename_i s J xs;split at h
  .rename_i G;split at h
   .rename_i I j;cases h;have y:J=c:=by
     simp only[Rw.as]at j;split at j
     .rename_i y;exact y
     .cases j
    subst y;have:=ak j;simp only[AS.fg,Lv.OH,IX G,and_self,if_true,<-this,Rw.fg];exact⟨trivial,BT.refl _⟩
   .cases h
  .cases h
 .rename_i q sub;simp only[AS.fg,Lv.OH,JC];split at h
  .rename_i x j;rw[j];split at h
   .rename_i w H;split at h
    .rename_i I E;have L:eOf c.size x.fg=true:=by
      cases x<;>simp[content]at H<;>subst H<;>simp only[U.fg,eOf];simp only[Rw.sub,Rw.as]at E;split at E
      .rename_i y;subst y;simp
      .cases E
     have B:=ak E;rw[AUs]at B;simp only[An,AS.fg,Th H,L,if_true,B];cases fl with
     |true=>
      simp only[if_true]at h ⊢;split at h
      .rename_i G;cases h;rw[AX (IX G _)];exact⟨rfl,BT.refl _⟩
      .cases h
     |false=>
      simp only[BM,if_false]at h ⊢;cases h;rw[UB];exact⟨rfl,BT.out _ _⟩
    .cases h
   .cases h
  .cases h
 .cases h
theorem AOl{e:Option (Nat×Nat)}{x:Option ρ}{r:ρ}(h:gdo e x=some r):(∀a b,e=some (a,b)->a=b)/\x=some r:=by
 cases e with
 |none=>exact⟨by intros;contradiction,h⟩
 |some p=>
  obtain⟨a,b⟩:=p;obtain⟨j,q⟩:=Oo h
  grind
theorem vR{c:C}{S S':St}{l:AS}{b:U}{n:Nat}{e:Option (Nat×Nat)}(h:QZ c S l=some (S',b,n,e))(Q:∀a b,e=some (a,b)->a=b):Lv.QZ c.size (S.fg R) (AS.fg R l)=some (S'.fg R,b.fg,n)/\BT S S':=by
 unfold QZ at h;split at h
 .cases h;exact⟨rfl,BT.refl _⟩
 .rename_i q sub;simp only[AS.fg,Lv.QZ,JC];split at h
  .rename_i x X;rw[X];split at h
   .rename_i w H;split at h
    .rename_i ys y;cases h;have E:eOf c.size x.fg=true:=by
      cases x<;>simp[content]at H<;>subst H<;>simp only[U.fg,eOf];simp only[Rw.as]at y;split at y
      .rename_i B;subst B;simp
      .cases y
     have I:=ak y;have G:toEnd sub (ys.map (enc c)).length=true:=by
      cases sub with
      |none=>rfl|some p=>
       obtain⟨lo,m⟩:=p;have:=Q _ _ rfl;simp[toEnd,this]
     simp only[An,AS.fg,Th H,I];rw[AX ⟨E,G⟩,UB,Wt];refine⟨?_,BT.out _ _⟩;rw[uf,<-Ym,Aj]
    .cases h
   .cases h
  .cases h
 .rename_i q i j Y xs;split at h
  .rename_i B;subst B;split at h
   .rename_i S1 J;cases h;obtain⟨L,O⟩:=AJf (R:=R) J;simp only[AS.fg,Lv.QZ,if_true,L,U.fg,Aj];exact⟨trivial,O⟩
   .cases h
  .cases h
 .cases h
theorem AFw{c:C}{b u:U}{ys:List c.D}(h:AVQ c b ys=some u):u.fg=AKI c.size b.fg (ys.map (enc c)):=by
 unfold AVQ at h;split at h
 .grind[U.fg,AKI]
 .rename_i j;cases h;cases b<;>simp only[U.fg,AKI];exact(j _ _ rfl).elim
end
end Y
end Lv
namespace Lv
open Go (IntKind BinOp UnOp)
theorem NO{α β:Type}(f:α->β):∀(cs ls:List α) (o:Nat),Dd (ls.map f) o (cs.map f)=(Dd ls o cs).map f
 | [],ls,o=>by cases ls<;>rfl
 |c::cs,ls,o=>by
  simp only[AJ,Dd];rw[<-HB,NO f cs]
theorem jq{α:Type}(t:α):∀(cs ls:List α) (o b:Nat),o<=b->b<o+cs.length->Dd (ls.set b t) o cs=Dd ls o cs
 | [],ls,o,b,q,j=>by simp at j;omega|c::cs,ls,o,b,q,j=>by
  simp only[Dd];by_cases h:b=o
  .subst h;rw[List.set_set]
  .rw[List.set_comm _ _ h];exact jq t cs _ _ _ (by omega) (by simp at j;omega)
namespace Y
section
variable{R:List GF}{ρ:Type}
theorem nV(r:CE)(i:Nat):∀(j:Nat) (us:List U),(I5 r i j us).map (AS.fg R)=Lv.I5 r i j (us.map U.fg)|_,[]=>rfl|j,u::us=>by simp only[I5,AJ,Lv.I5,nW,nV r i (j+1) us]
theorem pB{c:C}{xs:List c.D}{i:Int}{x:c.D}(h:at? xs i=some x):(xs.map (enc c))[i.toNat]?=some (enc c x):=AXy (enc c) h
theorem P9{S:St}{n:Nat}{l:AS}{K:List AS->Option ρ}{r:ρ}(h:S.load n l K=some r):∃ls,(S.fg R).load n (AS.fg R l)=some (ls.map (AS.fg R))/\K ls=some r:=by
 unfold St.load at h;split at h
 .grind[AS.fg,Lv.St.load,Ol,List.length_map,AFu,List.map_take,List.map_drop]
 .rename_i q i j;simp only[AS.fg,Lv.St.load,JC];split at h
  .rename_i c xs G;rw[G];obtain⟨x,B,h⟩:=Uc h;split at h
   .rename_i y;refine⟨_,?_,h⟩;have E:=pB B;simp only[An,AS.fg,U.fg,E,E2,Aj,y,if_true,nV,Cj,CV]
   .cases h
  .cases h
 .rename_i s cs;split at h
  .rename_i y;refine⟨_,?_,h⟩;simp only[AS.fg,Lv.St.load,Aj,y,if_true,AD];rw[<-Cj,Dj,Dj];congr 1;funext u;exact(nW _ _).symm
  .cases h
 .cases h
theorem SH:∀ls:List AS,Lv.He (ls.map (AS.fg R))=He ls
 | []=>rfl|l::ls=>by
  have j:=SH ls;cases l with
  |t x=>cases x<;>first|rfl|exact j
  |und=>rfl|_=>exact j
theorem jM(b o n:Nat)(l:AS):Lv.Hk b o n (AS.fg R l)=Hk b o n l:=by
 grind[Lv.Hk,Hk,KH,Pe,Nat.ble,Nat.le_of_ble_eq_true,decide_eq_false_iff_not,Nat.ble_eq_true_of_le,Nat.blt]
def ACe:List T->List (Nat×Nat)->List T|row,[]=>row|row,(_,b)::hs=>ACe (row.set b .top) hs
theorem ACg:∀(j:List (Nat×Nat)) (row:List T),(ACe row j).length=row.length| [],row=>rfl|(a,b)::j,row=>by simp only[ACe,ACg j,List.length_set]
theorem YD(i:Nat):∀(j:List (Nat×Nat)) (X:List (List T)) (k:Nat),(∀p∈j,p.1=i)->(ME X j)[k]?=if k=i then (X[i]?).map (fun row=>ACe row j) else X[k]?
 | [],X,k,h=>by
  grind[ME,ACe]
 |(a,b)::j,X,k,h=>by
  have q:a=i:=h (a,b) (by simp);subst q;simp only[ME];rw[YD a j _ k (fun p y=>h p (by simp[y]))];simp only[Wh,if_true];split
  .cases X[a]? <;> rfl
  .rfl
theorem Zc(j:Nat)(ts:List T):∀(q:List (Nat×Nat)) (row:List T),(∀p∈q,j<=p.2/\p.2<j+ts.length)->Dd (ACe row q) j ts=Dd row j ts
 | [],row,h=>rfl|(a,b)::q,row,h=>by
  simp only[ACe];rw[Zc j ts q _ (fun p y=>h p (by simp[y]))];have:=h (a,b) (by simp);exact jq _ _ _ _ _ this.1 this.2
theorem iS{i j n:Nat}:∀{q:List (Nat×Nat)},N4 i j n q->(∀p∈q,p.1=i)/\(∀p∈q,j<=p.2/\p.2<j+n)
 | [],_=>⟨by simp,by simp⟩|(a,b)::q,h=>by
  obtain⟨B,E,y⟩:=h;obtain⟨G,H⟩:=iS y
  grind
theorem AUv{n:Nat}{ls:List AS}{S S':St}{ls':List AS}(h:Wu n S ls=some (S',ls')):Lv.Wu n (S.fg R) (ls.map (AS.fg R))=some (S'.fg R,ls'.map (AS.fg R))/\BT S S':=by
 grind[Wu,Lv.Wu,Nat.blt_eq,PO,BT.refl]
theorem AM5{S:St}{n:Nat}{p:AS}{cs:List AS}{K:St->Option ρ}{r:ρ}(h:S.QS n p cs K=some r) :
 ∃S',(S.fg R).QS n (AS.fg R p) (cs.map (AS.fg R))=some (S'.fg R)/\BT S S'/\K S'=some r:=by
 unfold St.QS at h;split at h
 .rename_i id o;split at h
  .rename_i S1 E X;obtain⟨Y,J⟩:=AUv (R:=R) X;split at h
   .cases h
   .rename_i ht;dsimp only at h;split at h
    .rename_i ls hl;split at h
     .rename_i y;refine⟨_,?_,(J.trans (BT.kill _ _)).trans (BT.NT _ _ _),h⟩;simp only[AS.fg,Lv.St.QS,Y,SH,ht,BM,if_false,Aj];rw[J7 (jM id o E.length),Ol,hl];simp only[An,Aj,y,if_true];rw[Sn,LQ (jM id o E.length),NO]
     .cases h
    .cases h
  .cases h
 .rename_i q i j;split at h
  .rename_i S1 us X;obtain⟨Y,J⟩:=K8 (R:=R) X;simp only[AS.fg,Lv.St.QS,Y,JC];split at h
   .rename_i c xs hx;rw[hx];obtain⟨x,L,h⟩:=Uc h;split at h
    .rename_i y;split at h
     .rename_i x' B;refine⟨_,?_,(J.trans (BT.Bf _ _ _)).trans (BT.kill _ _),h⟩;have Z:=pB L;simp only[An,AS.fg,U.fg,Z,E2,Aj,y,if_true,AD];rw[<-J7 (QE q),GH];congr 2;simp only[AS.fg,U.fg];rw[HB,ID B,NO]
     .cases h
    .cases h
   .rename_i c xs I hx;rw[hx];obtain⟨x,L,h⟩:=Uc h;split at h
    .rename_i y;split at h
     .rename_i x' B;obtain⟨hh,h⟩:=@Oo _ _ (aP i.toNat j us.length I) _ _ h;obtain⟨hr,G⟩:=iS hh;refine⟨_,?_,(J.trans (BT.Bf _ _ _)).trans (BT.kill _ _),h⟩;have Z:=pB L;have O:=YD i.toNat I (xs.map (enc c)) i.toNat hr;rw[AX rfl,Z]at O;simp only[An]at O;simp only[An,AS.fg,O,ACg,Nc];have hl2:j+(us.map U.fg).length<=c.size:=by rw[Aj,<-XD c x];exact y
      rw[AX hl2,<-J7 (QE q),GH];congr 3;simp only[AS.fg,U.fg];have h7:Dd (ACe (enc c x) I) j (us.map U.fg)=enc c x':=by
       rw[Zc _ _ _ _ (by rw[Aj];exact G),ID B,E2,NO]
      rw[h7];congr 1;congr 1;apply FE;intro k;have hlt:i.toNat<xs.length:=(OO L).2.2.1;have H:i.toNat<(ME (xs.map (enc c)) I).length:=(AO.1 O).1;rw[Di,A5,Di];by_cases Q:i.toNat=k
      .subst Q;simp only[if_true,hlt,H,An]
      .rw[AU Q,AU Q,YD i.toNat I _ k hr,AU (fun h=>Q h.symm),A5]
     .cases h
    .cases h
   .cases h
  .cases h
 .cases h
def erP(R:List GF)(p:Nat×Nat×YO):Nat×Nat×Opd:=(p.1,p.2.1,p.2.2.er R)
theorem lO{S:St}:∀{ps:List (Nat×Nat×YO)} {ls ls':List AS},LY S ls ps=some ls'->Lv.LY (S.fg R) (ls.map (AS.fg R)) (ps.map (erP R))=some (ls'.map (AS.fg R))
 | [],ls,ls',h=>by cases h;rfl
 |(o,n,x)::ps,ls,ls',h=>by
  simp only[LY]at h;split at h
  .rename_i e q;split at h
   .rename_i j;have:=lO (ps:=ps) h;simp only[AJ,erP,Lv.LY,Ke q,En.fg,Aj,SH];rw[AX j,NO];exact this
   .cases h
  .cases h
def erQ(R:List GF)(p:Nat×YO):Nat×Opd:=(p.1,p.2.er R)
theorem ANY{c:C}{n:Nat}:∀{ps:List (Nat×YO)} {S S':St} {xs j:List c.D},bsK c n S xs ps=some (S',j) ->
 Lv.bsK c.size n (S.fg R) (xs.map (enc c)) (ps.map (erQ R))=some (S'.fg R,j.map (enc c))/\BT S S'
 | [],S,S',xs,j,h=>by cases h;exact⟨rfl,BT.refl _⟩
 |(i,x)::ps,S,S',xs,j,h=>by
  simp only[bsK]at h;split at h
  .rename_i e J;split at h
   .rename_i I;split at h
    .rename_i S1 us q;obtain⟨B,E⟩:=K8 (R:=R) q;split at h
     .rename_i y L;obtain⟨G,H⟩:=ANY (ps:=ps) h;simp only[AJ,erQ,Lv.bsK,Ke J,En.fg,Aj];rw[AX I,B];dsimp only;rw[<-ID L,<-HB];exact⟨G,E.trans H⟩
     .cases h
    .cases h
   .cases h
  .cases h
theorem ANZ{c:C}{n:Nat}{z:List T}:∀{ps:List (Nat×YO)} {S S':St} {ys:List c.D} (pre:List (List T)),bsL c n S ps=some (S',ys)->ABP pre.length n ps=true->pre.length<=n ->
 Lv.bsK c.size n (S.fg R) (pre++List.replicate (n-pre.length) z) (ps.map (erQ R))=some (S'.fg R,pre++ys.map (enc c))/\BT S S'
 | [],S,S',ys,pre,h,j,Q=>by
  cases h;simp only[ABP,beq_iff_eq]at j;simp only[BW,Lv.bsK,j,Dl,List.replicate_zero];exact⟨trivial,BT.refl _⟩
 |(i,x)::ps,S,S',ys,pre,h,j,Q=>by
  simp only[ABP,AF,beq_iff_eq]at j;obtain⟨rfl,j⟩:=j;simp only[bsL]at h;split at h
  .rename_i e O;split at h
   .rename_i L;split at h
    .rename_i S1 us B;obtain⟨E,G⟩:=K8 (R:=R) B;split at h
     .rename_i y S2 Z Y J;cases h;have q:(pre++[enc c y]).length=pre.length+1:=by simp
      obtain⟨H,I⟩:=ANZ (z:=z) (ps:=ps) (pre++[enc c y]) J (by rw[q];exact j) (by rw[q];omega);simp only[AJ,erQ,Lv.bsK,Ke O,En.fg,Aj];rw[AX L,E];dsimp only;rw[<-ID Y];have X:(pre++List.replicate (n-pre.length) z).set pre.length (enc c y)=(pre++[enc c y])++List.replicate (n-(pre++[enc c y]).length) z:=by
       rw[List.set_append_right _ _ (Ae _),Dl,q];have:n-pre.length=(n-(pre.length+1))+1:=by omega
       rw[this,List.replicate_succ];simp
      rw[X];refine⟨?_,G.trans I⟩;simpa[erQ] using H
     .cases h
    .cases h
   .cases h
  .cases h
theorem NG{S:St}{len:Nat}{lo hi:Option YO}{K:Nat->Nat->Option ρ}{r:ρ}(h:range S len lo hi K=some r) :
 ∃a b,(S.fg R).range len (lo.map (YO.er R)) (hi.map (YO.er R))=some (a,b)/\K a b=some r/\∀{α:Type} (xs:List α),xs.length=len->part lo hi xs a b=(xs.drop a).take (b-a):=by
 unfold range at h
 grind[part,Lv.St.range,Lv.St.ASv,Oo,Ro,List.take_of_length_le]
theorem V6:∀(q:List (Nat×Nat)) (X:List (List T)),(ME X q).length=X.length| [],_=>rfl|(i,j)::q,X=>by rw[ME,V6 q];simp[Ie]
theorem Sw{S:St}{c:C}{l:AS}(h:S.wide c l=true)(y:(∃s j xs,l=.vw s j xs)\/(∃q sub,l=.al q sub)\/l=.t .nil):(S.fg R).wide c.size (AS.fg R l)=true:=by
 rcases y with ⟨s,j,xs,rfl⟩|⟨q,sub,rfl⟩|rfl
 .simp only[St.wide,decide_eq_true_eq]at h;subst h;simp[AS.fg,Lv.St.wide]
 .simp only[St.wide]at h;simp only[AS.fg,Lv.St.wide,JC];split at h
  .rename_i x B;rw[B];simp only[An,AS.fg];cases x<;>simp only[U.fg,eOf];simp only[decide_eq_true_eq]at h;subst h;simp
  .grind[AS.fg,eOf]
  .cases h
 .rfl
theorem ALL{off:Nat}{p q:AS}(h:Lo off p=some q):Lv.Lo off (AS.fg R p)=some (AS.fg R q):=by
 cases p<;>simp only[Lo]at h<;>first
  |cases h;done
  |(cases h;simp only[AS.fg,Lv.Lo,CV])
theorem ASd(p:AS):Lv.St.Qe (AS.fg R p)=Qe p:=by cases p<;>rfl
theorem AX7{l:AS}{c:Cap}(h:l.AX5=some c):c.fg=AS.fg R l/\(AS.fg R l).plain=true:=by
 unfold AS.AX5 at h;split at h<;>first|cases h;done|(cases h;exact⟨rfl,rfl⟩)
theorem lJ:∀{es:List En} {cs:List Cap},o7 es=some cs->((es.map (En.fg R)).all fun e=>Lv.ABQ e.sh&&e.cs.length==1&&e.cs.all Lv.AS.plain)=true/\(es.map (En.fg R)).flatMap Lv.Ent.cs=cs.map Cap.fg
 | [],cs,h=>by cases h;exact⟨rfl,rfl⟩
 |e::es,cs,h=>by
  unfold o7 at h;split at h
  .rename_i j;cases j
  .rename_i l y j;cases j;split at h
   .rename_i c q B E;cases h;obtain⟨G,H⟩:=lJ E;obtain⟨I,J⟩:=AX7 (R:=R) B;constructor
    .rw[AJ,List.all_cons,G];simp[En.fg,Lv.ABQ,J]
    .simp only[AJ,List.flatMap_cons,H,En.fg,BW,List.singleton_append,I]
   .cases h
  .cases h
end
end Y
end Lv
namespace Lv
open Go (IntKind BinOp UnOp)
namespace Y
section
variable{R:List GF}{ρ:Type}
def zsC(c:C):List T:=match ACr c with|some z=>enc c z|none=>[]
theorem AFs{c:C}{z:c.D}(h:ACr c=some z):zsC c=enc c z:=by unfold zsC;rw[h]
def YOp.er:YOp R->XOp|.mv d x=>.mv d (x.er R)|.as d x=>.as d (x.er R)|.pick d c a b=>.pick d (c.er R) (a.er R) (b.er R)|.alloc d zs=>.alloc d (zs.map U.fg)|.box d x=>.box d (x.er R)|.build d zs ps=>.build d (zs.map U.fg) (ps.map (erP R))|.CC d n c ps=>.CC d n (zsC c) (ps.map (erQ R))|.ld d n x=>.ld d n (x.er R)|.st n x v=>.st n (x.er R) (v.er R)|.chk d x=>.chk d (x.er R)|.bin d c op x y=>.bin d c op (x.er R) (y.er R)|.un d op x=>.un d op (x.er R)|.cvI d k x=>.cvI d k (x.er R)|.ML d x=>.ML d (x.er R)|.Ny d x=>.Ny d (x.er R)|.MR d n caps=>.MR d (xr R n) (caps.map (YO.er R))|.O1 d c n=>.O1 d (zsC c) (n.er R) (n.er R)|.sub d c x lo hi=>.sub d c.size (x.er R) (lo.map (YO.er R)) (hi.map (YO.er R))|.UN d x lo hi=>.UN d (x.er R) (lo.map (YO.er R)) (hi.map (YO.er R))|.fa d off x=>.fa d off (x.er R)|.fld d off n x=>.fld d off n (x.er R)|.ia d c x i=>.ia d c.size (x.er R) (i.er R)|.ix d x i=>.ix d (x.er R) (i.er R)|.ext d x i=>.ext d (x.er R) i|.call d g _ _ args=>.call d g.x (args.map (YO.er R))|.Dn d x ms args=>.Dn d (x.er R) ms (args.map (YO.er R))|.len d x=>.len d (x.er R)|.lens d x=>.lens d (x.er R)|.app d c fl x y=>.app d c.size fl (x.er R) (y.er R)|.Qr d c x n=>.Qr d (zsC c) (x.er R) (n.er R)|.cpy d c x y=>.cpy d c.size (x.er R) (y.er R)|.mm d m x y=>.mm d m (x.er R) (y.er R)|.mmk d=>.mmk d|.Sy d x k=>.Sy d (x.er R) (k.er R)|.Rm x k v=>.Rm (x.er R) (k.er R) (v.er R)|.S4 d x=>.S4 d (x.er R)|.bad d=>.bad d|.drop ds=>.drop ds|.T7 ns=>.T7 (ns.map fun p=>(p.1,p.2.size))
def Plain(o:YOp R)(S:St)(K:St->Option ρ)(r:ρ):Prop:=∃S',Lv.ev o.er (S.fg R)=some (S'.fg R)/\BT S S'/\K S'=some r
theorem CZ{o:YOp R}{S S1:St}{d:Nat}{sh:Sh}{cs:List AS}{K:St->Option ρ}{r:ρ}(h:G8 S1 d sh cs K=some r)(E:BT S S1)(B:Lv.ev o.er (S.fg R)=(S1.fg R).Ds d ⟨sh,cs.map (AS.fg R)⟩):Plain o S K r:=by
 obtain⟨S',j,q,y⟩:=aX (R:=R) h;exact⟨S',B.trans j,E.trans q,y⟩
variable{S:St}{K:St->Option ρ}{r:ρ}
theorem AJc{d:Nat}{x:YO}(h:ev (.mv d x:YOp R) S K=some r):Plain (.mv d x:YOp R) S K r:=by
 simp only[ev]at h;split at h
 .rename_i e j;exact CZ h (BT.refl _) (by simp only[YOp.er,Lv.ev,Ke j,En.fg])
 .cases h
theorem AS6{d:Nat}{x:YO}(h:ev (.as d x:YOp R) S K=some r):Plain (.as d x:YOp R) S K r:=by
 simp only[ev]at h;split at h
 .rename_i e B;split at h
  .rename_i S1 cs j;obtain⟨q,y⟩:=PO (R:=R) j;exact CZ h y (by simp only[YOp.er,Lv.ev,Ke B,En.fg,q])
  .cases h
 .cases h
theorem ta{d:Nat}{c a b:YO}(h:ev (.pick d c a b:YOp R) S K=some r):Plain (.pick d c a b:YOp R) S K r:=by
 simp only[ev]at h;split at h
 .rename_i t ea eb q y B;rcases AFz h with ⟨rfl,j⟩|⟨rfl,j⟩
  .exact CZ j (BT.refl _) (by simp only[YOp.er,Lv.ev,No q,Ke y,Ke B,U.fg,En.fg,if_true])
  .exact CZ j (BT.refl _) (by simp only[YOp.er,Lv.ev,No q,Ke y,Ke B,U.fg,En.fg,BM,if_false])
 .cases h
theorem jK{d:Nat}{j:List U}(h:ev (.alloc d j:YOp R) S K=some r):Plain (.alloc d j:YOp R) S K r:=by
 simp only[ev]at h;obtain⟨S',q,y,B⟩:=jB (R:=R) h;refine⟨S',?_,y,B⟩;rw[<-q];simp only[YOp.er,Lv.ev,Lv.O3,Dj];rfl
theorem AFF{d:Nat}{x:YO}(h:ev (.box d x:YOp R) S K=some r):Plain (.box d x:YOp R) S K r:=by
 simp only[ev]at h;split at h
 .rename_i e G;split at h
  .rename_i S1 cs j;obtain⟨q,y⟩:=AVe (R:=R) j;split at h
   .cases h
   .rename_i I;obtain⟨S',H,B,E⟩:=jB (R:=R) h;refine⟨S',?_,y.trans B,E⟩;simp only[YOp.er,Lv.ev,Ke G,En.fg,q,SH,Aj]
    grind[LQ,Lv.Ec,Lv.FO,WL,WK,Lv.O3]
  .cases h
 .cases h
theorem jL{d:Nat}{j:List U}{ps:List (Nat×Nat×YO)}(h:ev (.build d j ps:YOp R) S K=some r):Plain (.build d j ps:YOp R) S K r:=by
 simp only[ev]at h;split at h
 .rename_i ls q;have:=lO (R:=R) q;rw[Dj]at this;refine CZ h (BT.refl _) ?_;simp only[YOp.er,Lv.ev,Dj];rw[show (Lv.AS.t∘U.fg)=(AS.fg R∘AS.t) from rfl,this]
 .cases h
theorem Ya{d n:Nat}{c:C}{ps:List (Nat×YO)}(h:ev (.CC d n c ps:YOp R) S K=some r):Plain (.CC d n c ps:YOp R) S K r:=by
 simp only[ev]at h;split at h
 .rename_i z E;split at h
  .rename_i y;split at h
   .rename_i S1 xs j;have q:Lv.bsK c.size n (S.fg R) (rowsOf n (enc c z)) (ps.map (erQ R))=some (S1.fg R,xs.map (enc c))/\BT S S1:=by
     split at j
     .rename_i B;have:=ANZ (R:=R) (z:=enc c z) [] j B (Nat.zero_le _);simpa[rowsOf] using this
     .have:=ANY (R:=R) j;rw[GU]at this;exact this
    refine CZ h q.2 ?_;simp only[YOp.er,Lv.ev,AFs E,Nc];rw[AX y,q.1];rfl
   .cases h
  .cases h
 .cases h
theorem ATA{d:Nat}{n:Option Nat}{x:YO}(h:ev (.ld d n x:YOp R) S K=some r):Plain (.ld d n x:YOp R) S K r:=by
 simp only[ev]at h;split at h
 .rename_i p q;obtain⟨ls,j,h⟩:=P9 (R:=R) h
  grind[CZ,BT.refl,YOp.er,Lv.ev,Ej]
 .cases h
theorem ATB{n:Nat}{x v:YO}(h:ev (.st n x v:YOp R) S K=some r):Plain (.st n x v:YOp R) S K r:=by
 simp only[ev]at h;split at h
 .rename_i p e G E;split at h
  .rename_i B;obtain⟨S',j,q,y⟩:=AM5 (R:=R) h;refine⟨S',?_,q,y⟩;simp only[YOp.er,Lv.ev,Ej G,Ke E,En.fg,Aj];rw[AX B,j]
  .cases h
 .cases h
theorem AFG{d:Nat}{x:YO}(h:ev (.chk d x:YOp R) S K=some r):Plain (.chk d x:YOp R) S K r:=by
 simp only[ev]at h
 grind[CZ,BT.refl,YOp.er,Lv.ev,Ej,ASd]
theorem AFE{d:Nat}{c:Cls}{op:BinOp}{x y:YO}(h:ev (.bin d c op x y:YOp R) S K=some r):Plain (.bin d c op x y:YOp R) S K r:=by
 simp only[ev]at h;split at h
 .rename_i ex ey j q;obtain⟨u,B,h⟩:=AX1 (R:=R) h;exact CZ h (BT.refl _) (by simp only[YOp.er,Lv.ev,Ke j,Ke q,B];rfl)
 .cases h
theorem ATC{d:Nat}{op:UnOp}{x:YO}(h:ev (.un d op x:YOp R) S K=some r):Plain (.un d op x:YOp R) S K r:=by
 simp only[ev]at h;split at h
 .rename_i a j;obtain⟨u,q,h⟩:=AY9 h;exact CZ h (BT.refl _) (by simp only[YOp.er,Lv.ev,No j,q];rfl)
 .cases h
theorem AFI{d:Nat}{k:IntKind}{x:YO}(h:ev (.cvI d k x:YOp R) S K=some r):Plain (.cvI d k x:YOp R) S K r:=by
 simp only[ev]at h
 grind[CZ,BT.refl,YOp.er,Lv.ev,Ro,AS.fg,ASu]
theorem tT{d:Nat}{x:YO}(h:ev (.ML d x:YOp R) S K=some r):Plain (.ML d x:YOp R) S K r:=by
 simp only[ev]at h;split at h
 .rename_i s j;exact CZ h (BT.refl _) (by simp only[YOp.er,Lv.ev,No j,U.fg];rfl)
 .cases h
theorem tQ{d:Nat}{x:YO}(h:ev (.Ny d x:YOp R) S K=some r):Plain (.Ny d x:YOp R) S K r:=by
 simp only[ev]at h;split at h
 .rename_i l y;split at h
  .rename_i w G;split at h
   .rename_i j E;have q:=Oj (R:=R) G;rw[ak E]at q;refine CZ h (BT.refl _) ?_;have B:bytesOf (j.map (enc .u))=some j:=vU j;simp only[YOp.er,Lv.ev,Ej y,q,B];rfl
   .cases h
  .cases h
 .cases h
theorem tW{d n:Nat}{caps:List YO}(h:ev (.MR d n caps:YOp R) S K=some r):Plain (.MR d n caps:YOp R) S K r:=by
 simp only[ev]at h;split at h
 .rename_i es B;split at h
  .rename_i cs y;obtain⟨j,q⟩:=lJ (R:=R) y;refine CZ h (BT.refl _) ?_;simp only[YOp.er,Lv.ev,Yh B];rw[AX j,q];rfl
  .cases h
 .cases h
theorem tX{d:Nat}{c:C}{n:YO}(h:ev (.O1 d c n:YOp R) S K=some r):Plain (.O1 d c n:YOp R) S K r:=by
 simp only[ev]at h;split at h
 .grind[Oo,CZ,BT.refl,YOp.er,Lv.ev,Ro,AFs,Nc,rowsOf,AS.fg,U.fg,List.map_replicate]
 .cases h
theorem te{d:Nat}{x:YO}{lo hi:Option YO}(h:ev (.UN d x lo hi:YOp R) S K=some r):Plain (.UN d x lo hi:YOp R) S K r:=by
 simp only[ev]at h;split at h
 .rename_i s y;obtain⟨a,b,j,h,q⟩:=NG (R:=R) h;rw[q s rfl]at h;exact CZ h (BT.refl _) (by simp only[YOp.er,Lv.ev,No y,U.fg,j];rfl)
 .cases h
theorem AOV{q:CE}{sub:Option (Nat×Nat)}{w:Rw}{c:C}{xs:List c.D}(h:S.elems (.al q sub)=some w)(j:w.as c=some xs):(S.fg R).elems (.al q sub)=some (xs.map (enc c)):=by
 have:=Oj (R:=R) h;rw[ak j]at this;exact this
theorem AFN{d:Nat}{c:C}{x:YO}{lo hi:Option YO}(h:ev (.sub d c x lo hi:YOp R) S K=some r):Plain (.sub d c x lo hi:YOp R) S K r:=by
 simp only[ev]at h;split at h
 .rename_i l G;split at h
  .rename_i H;split at h
   .rename_i q sub;have j:=Sw (R:=R) H (.inr (.inl ⟨_,_,rfl⟩));split at h
    .rename_i w I;split at h
     .rename_i xs J;obtain⟨a,b,B,h,_⟩:=NG (R:=R) h;have E:=AOV (R:=R) I J;have y:=Ej (R:=R) G;simp only[AS.fg]at j y;refine CZ h (BT.refl _) ?_;simp only[YOp.er,Lv.ev,y,j,if_true,E,Aj,B];cases sub with|none=>rfl|some p=>rfl
     .cases h
    .cases h
   .rename_i s L xs;have j:=Sw (R:=R) H (.inl ⟨_,_,_,rfl⟩);obtain⟨a,b,B,h,E⟩:=NG (R:=R) h;rw[E xs rfl]at h;have y:=Ej (R:=R) G;simp only[AS.fg]at j y;refine CZ h (BT.refl _) ?_;simp only[YOp.er,Lv.ev,y,j,if_true,Lv.St.elems,Aj,B,AJ,BW,AS.fg,Cj,CV]
   .obtain⟨a,b,B,h,_⟩:=NG (R:=R) h;have j:=Sw (R:=R) H (.inr (.inr rfl));have y:=Ej (R:=R) G;simp only[AS.fg,U.fg]at j y;refine CZ h (BT.refl _) ?_;simp only[YOp.er,Lv.ev,y,j,if_true,Lv.St.elems,AR,B,AJ,BW,AS.fg,U.fg]
   .cases h
  .cases h
 .cases h
theorem AS7{d off:Nat}{x:YO}(h:ev (.fa d off x:YOp R) S K=some r):Plain (.fa d off x:YOp R) S K r:=by
 simp only[ev]at h;split at h
 .rename_i p j;split at h
  .rename_i q y;exact CZ h (BT.refl _) (by simp only[YOp.er,Lv.ev,Ej j,ALL y];rfl)
  .cases h
 .cases h
theorem AFK{d off:Nat}{n:Option Nat}{x:YO}(h:ev (.fld d off n x:YOp R) S K=some r):Plain (.fld d off n x:YOp R) S K r:=by
 simp only[ev]at h;split at h
 .rename_i cs q;split at h
  .rename_i j;refine CZ h (BT.refl _) ?_;simp only[YOp.er,Lv.ev,Ke q,En.fg,Aj,j,if_true,Cj,CV]
  .cases h
 .cases h
theorem AS8{d:Nat}{c:C}{x i:YO}(h:ev (.ia d c x i:YOp R) S K=some r):Plain (.ia d c x i:YOp R) S K r:=by
 simp only[ev]at h;split at h
 .rename_i l n I J;split at h
  .rename_i O;split at h
   .rename_i q sub;have j:=Sw (R:=R) O (.inr (.inl ⟨_,_,rfl⟩));split at h
    .rename_i H xs X;obtain⟨y,G,h⟩:=Uc h;have L:=Oj (R:=R) X;have E:=Ej (R:=R) I;simp only[AS.fg]at j E L;have B:=OO G;refine CZ h (BT.refl _) ?_;simp only[YOp.er,Lv.ev,E,Ro J,L,Rw.fg,Aj];rw[AX ⟨j,B.1,B.2.1⟩];cases sub with
     |none=>rfl|some p=>
      obtain⟨lo,m⟩:=p;simp only[AJ,BW,AS.fg];congr 5;have:=B.1;omega
    .split at h
     .split at h
      .rename_i H xs Z Y;obtain⟨y,G,h⟩:=Uc h;have E:=Ej (R:=R) I;simp only[AS.fg]at j E;have B:=OO G;refine CZ h (BT.refl _) ?_;simp only[YOp.er,Lv.ev,E,Ro J,Lv.St.elems,JC,Y,An,AS.fg,Lv.content,Lv.I7,V6,Aj];rw[AX ⟨j,B.1,B.2.1⟩];rfl
      .cases h
     .cases h
   .rename_i s H xs;have j:=Sw (R:=R) O (.inl ⟨_,_,_,rfl⟩);obtain⟨y,G,h⟩:=Uc h;have E:=Ej (R:=R) I;simp only[AS.fg]at j E;have B:=OO G;refine CZ h (BT.refl _) ?_;simp only[YOp.er,Lv.ev,E,Ro J,Lv.St.elems,Aj];rw[AX ⟨j,B.1,B.2.1⟩];have Q:(xs.map (enc H)).getD n.toNat []=(cells H y).map U.fg:=by
     rw[BO,pB G,Jg,E2]
    rw[Q];rfl
   .cases h
  .cases h
 .cases h
theorem AS9{d:Nat}{x i:YO}(h:ev (.ix d x i:YOp R) S K=some r):Plain (.ix d x i:YOp R) S K r:=by
 simp only[ev]at h;split at h
 .rename_i s n B q;obtain⟨y,E,h⟩:=Uc h;have j:=OO E;refine CZ h (BT.refl _) ?_;simp only[YOp.er,Lv.ev,No B,U.fg,Ro q];rw[AX ⟨j.1,j.2.1⟩];have:s.getD n.toNat 0=y:=by rw[BO,j.2.2.2.1,Jg]
  rw[this];rfl
 .cases h
theorem AFJ{d:Nat}{x:YO}{i:Nat}(h:ev (.ext d x i:YOp R) S K=some r):Plain (.ext d x i:YOp R) S K r:=by
 simp only[ev]at h;split at h
 .rename_i s;split at h
  .rename_i ns cs v E;split at h
   .rename_i n G;split at h
    .rename_i B;split at h
     .rename_i S1 ls q;obtain⟨j,y⟩:=PO (R:=R) q;refine CZ h y ?_;simp only[YOp.er,YO.er,Lv.ev,Vx,E,An,Ent.fg,G,Aj,B,if_true];rw[Cj,CV,o6]at j;rw[j]
     .cases h
    .cases h
   .cases h
  .cases h
 .cases h
theorem tU{d:Nat}{x:YO}(h:ev (.lens d x:YOp R) S K=some r):Plain (.lens d x:YOp R) S K r:=by
 simp only[ev]at h;split at h
 .rename_i s j;exact CZ h (BT.refl _) (by simp only[YOp.er,Lv.ev,No j,U.fg];rfl)
 .cases h
theorem AFL{d:Nat}{x:YO}(h:ev (.len d x:YOp R) S K=some r):Plain (.len d x:YOp R) S K r:=by
 simp only[ev]at h;split at h
 .rename_i l y;split at h
  .rename_i c xs q;have j:=Oj (R:=R) q;exact CZ h (BT.refl _) (by simp only[YOp.er,Lv.ev,Ej y,j,Rw.fg,Aj];rfl)
  .rename_i q;have j:=Oj (R:=R) q;exact CZ h (BT.refl _) (by simp only[YOp.er,Lv.ev,Ej y,j,Rw.fg,AR];rfl)
  .cases h
 .cases h
theorem AFD{d:Nat}{c:C}{fl:Bool}{x y:YO}(h:ev (.app d c fl x y:YOp R) S K=some r):Plain (.app d c fl x y:YOp R) S K r:=by
 simp only[ev]at h;split at h
 .rename_i lx ly O Q;split at h
  .rename_i S1 ys j;obtain⟨q,B⟩:=AW0 (R:=R) j;split at h
   .rename_i S2 b n e E;obtain⟨J,h⟩:=AOl h;obtain⟨G,H⟩:=vR (R:=R) E J;obtain⟨I,h⟩:=Oo h;split at h
    .rename_i u L;refine CZ h (B.trans H) ?_;simp only[YOp.er,Lv.ev,Ej O,Ej Q,q,G,Aj];rw[AX I,<-AFw L];rfl
    .cases h
   .cases h
  .cases h
 .cases h
theorem tP{d:Nat}{c:C}{x n:YO}(h:ev (.Qr d c x n:YOp R) S K=some r):Plain (.Qr d c x n:YOp R) S K r:=by
 simp only[ev]at h;split at h
 .rename_i lx k z J H L;obtain⟨j,h⟩:=Oo h;split at h
  .rename_i S2 b m e q;obtain⟨G,h⟩:=AOl h;obtain⟨y,B⟩:=vR (R:=R) q G;obtain⟨E,h⟩:=Oo h;split at h
   .rename_i u I;refine CZ h B ?_;simp only[YOp.er,Lv.ev,Ej J,Ro H,AFs L,Nc];rw[AX j]
    try dsimp only
    rw[y]
    try dsimp only
    rw[AX E];have:=AFw I;rw[GU]at this;simp only[rowsOf,<-this,AJ,BW,AS.fg]
   .cases h
  .cases h
 .cases h
theorem AFH{d:Nat}{c:C}{x y:YO}(h:ev (.cpy d c x y:YOp R) S K=some r):Plain (.cpy d c x y:YOp R) S K r:=by
 simp only[ev]at h;split at h
 .rename_i q ly hx hy;split at h
  .rename_i O B w X J;split at h
   .rename_i ys xs hys j;split at h
    .rename_i E;obtain⟨hne,h⟩:=Oo h;have Y:O=c:=by
      simp only[Rw.as]at j;split at j
      .rename_i E;exact E
      .cases j
     subst Y;have Z:B=xs:=by simp only[Rw.as]at j;simpa using j
     subst Z;have Q:=Oj (R:=R) J;rw[ak hys]at Q;have h3:=Ej (R:=R) hx;simp only[AS.fg]at h3;have H:(S.fg R).wide O.size (AS.fg R ly)=true:=by
      refine Sw E.1 ?_;unfold St.elems at J;split at J
      .exact .inr (.inl ⟨_,_,rfl⟩)
      .exact .inl ⟨_,_,_,rfl⟩
      .exact .inr (.inr rfl)
      .cases J
     have G:(B.map (enc O)).isEmpty=false:=by cases B<;>simp_all
     have I:=Ej (R:=R) hy;generalize AS.fg R ly=L at I Q H;refine CZ h ((BT.Bf _ _ _).trans (BT.kill _ _)) ?_;simp only[YOp.er,Lv.ev,h3,I,JC,X,An,AS.fg,U.fg,Q];rw[AX ⟨trivial,H,IX E.2 _,IX E.2 _,G⟩,<-J7 (QE q),GH];simp only[AS.fg,U.fg,Cr,Cj,CV,Aj,AJ,BW]
    .cases h
   .cases h
  .cases h
 .cases h
theorem AJb{d:Nat}{m:Bool}{x y:YO}(h:ev (.mm d m x y:YOp R) S K=some r):Plain (.mm d m x y:YOp R) S K r:=by
 simp only[ev]at h;split at h
 .rename_i k a E b j q;split at h
  .rename_i B;exact CZ h (BT.refl _) (by simp only[YOp.er,Lv.ev,No j,No q,U.fg];rw[AX B];rfl)
  .cases h
 .cases h
theorem i5{x:YO}{q:CE}{ks:List (Int×Int)}(h:S.Oz x=some (q,ks)):(S.fg R).Oz (x.er R)=some (q,ks):=by
 unfold St.Oz at h;split at h
 .rename_i E j;split at h
  .rename_i y B;cases h;have:=Ej (R:=R) j
   grind[AS.fg,Lv.St.Oz,JC,U.fg]
  .cases h
 .cases h
theorem AFM{d:Nat}(h:ev (.mmk d:YOp R) S K=some r):Plain (.mmk d:YOp R) S K r:=by
 simp only[ev]at h;exact CZ h (BT.refl _) (by simp only[YOp.er,Lv.ev];rfl)
theorem tV{d:Nat}{x k:YO}(h:ev (.Sy d x k:YOp R) S K=some r):Plain (.Sy d x k:YOp R) S K r:=by
 simp only[ev]at h;split at h
 .rename_i q ks n j y;exact CZ h (BT.refl _) (by simp only[YOp.er,Lv.ev,i5 j,No y,U.fg];rfl)
 .cases h
theorem tY{d:Nat}{x:YO}(h:ev (.S4 d x:YOp R) S K=some r):Plain (.S4 d x:YOp R) S K r:=by
 simp only[ev]at h;split at h
 .rename_i q ks j;exact CZ h (BT.refl _) (by simp only[YOp.er,Lv.ev,i5 j];rfl)
 .cases h
theorem tZ{x k v:YO}(h:ev (.Rm x k v:YOp R) S K=some r):Plain (.Rm x k v:YOp R) S K r:=by
 simp only[ev]at h;split at h
 .rename_i q ks n m j y B;refine⟨_,?_,(BT.Bf _ _ _).trans (BT.kill _ _),h⟩;simp only[YOp.er,Lv.ev,i5 j,No y,No B,U.fg];rw[<-J7 (QE q),GH];rfl
 .cases h
theorem AI7{o:YOp R}(h:ev o S K=some r):∃S',BT S S'/\K S'=some r/\∀N:Lv.St->Prop,N (S'.fg R)->opK I8 o.er (S.fg R) N:=by
 have pl:Plain o S K r->∃S',BT S S'/\K S'=some r/\∀N:Lv.St->Prop,N (S'.fg R)->opK I8 o.er (S.fg R) N:=fun ⟨S',j,q,y⟩=>⟨S',q,y,fun N hN=>.inl ⟨_,j,hN⟩⟩
 cases o with
 |mv=>exact pl (AJc h)|as=>exact pl (AS6 h)|pick=>exact pl (ta h)|alloc=>exact pl (jK h)|box=>exact pl (AFF h)|build=>exact pl (jL h)|CC=>exact pl (Ya h)|ld=>exact pl (ATA h)|st=>exact pl (ATB h)|chk=>exact pl (AFG h)|bin=>exact pl (AFE h)|un=>exact pl (ATC h)|cvI=>exact pl (AFI h)|ML=>exact pl (tT h)|Ny=>exact pl (tQ h)|MR=>exact pl (tW h)|O1=>exact pl (tX h)|sub=>exact pl (AFN h)|UN=>exact pl (te h)|fa=>exact pl (AS7 h)|fld=>exact pl (AFK h)|ia=>exact pl (AS8 h)|ix=>exact pl (AS9 h)|ext=>exact pl (AFJ h)|len=>exact pl (AFL h)|lens=>exact pl (tU h)|app=>exact pl (AFD h)|Qr=>exact pl (tP h)|cpy=>exact pl (AFH h)|mm=>exact pl (AJb h)|mmk=>exact pl (AFM h)|Sy=>exact pl (tV h)|Rm=>exact pl (tZ h)|S4=>exact pl (tY h)|bad=>simp[ev]at h|drop Q=>exact pl ⟨_,by simp only[YOp.er,Lv.ev,AAu],BT.Hq _ _,h⟩|T7 ns=>exact pl ⟨_,by simp only[YOp.er,Lv.ev,s5],BT.QC _ _,h⟩|call d g fs I args=>
  simp only[ev]at h;split at h
  .rename_i es G;obtain⟨S1,vs,cs,outs,S',j,q,y,B,E⟩:=vY (Al.of I) h;refine⟨S',B,E,fun N hN=>.inr ⟨d,g.x,es.map (En.fg R),S1,vs,_,cs,outs,_,?_,j,q,y,hN⟩⟩;simp only[YOp.er,Lv.FR,Yh G]
  .cases h
 |Dn d x ms args=>
  simp only[ev]at h;split at h
  .rename_i n caps es H G;split at h
   .rename_i g J;split at h
    .rename_i L;obtain⟨S1,vs,cs,outs,S',j,q,y,B,E⟩:=vY (Al.nil _) h;refine⟨S',B,E,fun N hN=>.inr ⟨d,g.x,_,S1,vs,_,cs,outs,_,?_,j,q,y,hN⟩⟩;have O:xr R n=g.x:=by unfold xr;rw[J]
     simp only[YOp.er,Lv.FR,Ej H,Yh G,AS.fg,O];rw[AX (by rw[g.ms,L])];simp only[Cr,Dj,AD,Prod.mk.injEq,true_and,List.append_cancel_left_eq];apply List.map_congr_left;intro c _;simp only[Function.comp,En.fg,AJ,BW,Yx]
    .cases h
   .cases h
  .cases h
end
end Y
end Lv
namespace Lv
open Go (IntKind BinOp UnOp)
namespace Y
section
variable{R:List GF}{ρ:Type}
def Bs.er:Bs R->Qj|.nil=>.nil|.op i g sf o rest=>.op i g sf o.er rest.er|.dr ds rest=>.dr ds rest.er|.nl ns rest=>.nl (ns.map fun p=>(p.1,p.2.size)) rest.er|.both _ a b=>.both a.er b.er
def GN.er:GN R->Mo|.skip=>.skip|.region ops _=>.region (ops.map fun p=>(p.1,p.2.er)) []|.Tm r _=>.Tm r.er []|.seq a b=>.seq a.er b.er|.join _ a b=>.seq a.er b.er|.cond c _ _ t e=>.cond c [] [] t.er e.er|.block id b=>.block id b.er|.loop _ b=>.loop b.er|.exit id=>.exit id|.ret=>.ret|.scope b=>.scope b.er|.or a b=>.or a.er b.er|.dead=>.dead|.AWf _ b=>.loop b.er
theorem AYE(o:YOp R):o.er.gl=o.gl:=by cases o<;>rfl
theorem ju{o:YOp R}{S:St}{K:St->Option ρ}{r:ρ}(h:LU o S K=some r):∃S',Lv.LU o.er (S.fg R)=some (S'.fg R)/\BT S S'/\K S'=some r:=by
 unfold LU at h;unfold Lv.LU;rw[AYE];split at h
 .rename_i d B;obtain⟨S',j,q,y⟩:=aX (R:=R) h;rw[B];exact⟨S',j,q,y⟩
 grind[BT.refl]
theorem AUU{s:Nat}{e x:Ent}:∀{l:List (Nat×Ent)},get l s=some x->e.fg R=x.fg R->fgE R (reE s e l)=fgE R l
 | [],h,_=>rfl|(k,y)::l,h,q=>by
  simp only[get]at h;simp only[reE];cases j:Nat.beq k s with
  |true=>rw[j]at h;cases h;simp only[fgE,AJ,q]
  |false=>
   rw[j]at h;have:=AUU (l:=l) h q
   grind[fgE]
theorem AJC{s:Nat}{e:Ent}:∀{l:List (Nat×Ent)} {k:Nat} {y:Ent},get (reE s e l) k=some y->y=e\/get l k=some y
 | [],k,y,h=>.inr h|(j,x)::l,k,y,h=>by
  simp only[reE]at h;cases B:Nat.beq j s with
  |true=>
   grind[get,Nat.beq]
  |false=>
   rw[B]at h;simp only[get]at h ⊢;cases q:Nat.beq j k with
   |true=>rw[q]at h;exact .inr h|false=>rw[q]at h;exact AJC h
theorem AYU{S:St}{s:Nat}{b:Bool}{v:Nat}(h:get S.tm s=some ⟨.one,[.t (.bool b)],v⟩):(S.lit s b).fg R=S.fg R/\BT S (S.lit s b):=by
 refine⟨?_,by simp[St.lit],fun k e q y=>?_,fun _ _ h _=>h,rfl⟩
 .simp only[St.fg,St.lit];have:=AUU (R:=R) (e:=⟨.one,[.t (.bool b)],S.nv⟩) h rfl;rw[this]
 .rcases AJC q with rfl|j
  .grind
  .exact j
def Gd(R:List GF)(g:Option (Nat×Bool))(o:YOp R)(S:Lv.St)(N:Lv.St->Prop):Prop:=
 ∃b,Lv.wanted S g=some b/\((b=true/\opK I8 o.er S N)\/(b=false/\∃S',Lv.LU o.er S=some S'/\N S'))
theorem oW{S:St}{s:Nat}{w b:Bool}{v:Nat}(h:get S.tm s=some ⟨.one,[.t (.bool b)],v⟩):Lv.wanted (S.fg R) (some (s,w))=some (b==w):=by
 simp only[Lv.wanted,Vx,h];rfl
theorem ACm{S:St}{s:Nat}{w:Bool}{v:Nat}(h:get S.tm s=some ⟨.one,[.und],v⟩):Lv.wanted (S.fg R) (some (s,w))=some false:=by
 simp only[Lv.wanted,Vx,h];rfl
theorem SJ{S:St}{s:Nat}{w b:Bool}{v:Nat}{o:YOp R}{f:Option ρ}{K:St->Option ρ}{r:ρ}{P:Lv.St->(Lv.St->Prop)->Prop}(y:get S.tm s=some ⟨.one,[.t (.bool b)],v⟩)(x:Bool)(G:x=(b==w))
 (h:jO x o (S.lit s b) f K=some r) (H:f=some r->∃S',BT (S.lit s b) S'/\K S'=some r/\∀N:Lv.St->Prop,N (S'.fg R)->P ((S.lit s b).fg R) N) :
 ∃S',BT S S'/\K S'=some r/\∀N:Lv.St->Prop,N (S'.fg R)->∃b,Lv.wanted (S.fg R) (some (s,w))=some b/\((b=true/\P (S.fg R) N)\/(b=false/\∃S',Lv.LU o.er (S.fg R)=some S'/\N S')):=by
 obtain⟨I,E⟩:=AYU (R:=R) y;cases x with
 |true=>
  obtain⟨S',j,q,B⟩:=H h;refine⟨S',E.trans j,q,fun N hN=>⟨_,oW y,.inl ⟨G.symm,?_⟩⟩⟩
  grind
 |false=>
  obtain⟨S',j,q,B⟩:=ju (R:=R) h;refine⟨S',E.trans q,B,fun N hN=>⟨_,oW y,.inr ⟨G.symm,_,?_,hN⟩⟩⟩
  rwa[I]at j
theorem AYJ{g:Option (Nat×Bool)}{o:YOp R}{S:St}{K:St->Option ρ}{r:ρ}(h:evg g o S K=some r) :
 ∃S',BT S S'/\K S'=some r/\∀N:Lv.St->Prop,N (S'.fg R)->Gd R g o (S.fg R) N:=by
 unfold evg at h;split at h
 .obtain⟨S',y,B,E⟩:=AI7 h;exact⟨S',y,B,fun N hN=>⟨true,rfl,.inl ⟨rfl,E N hN⟩⟩⟩
 .rename_i s w;split at h
  .rename_i b v j;rcases AFz h with ⟨rfl,q⟩|⟨rfl,q⟩
   .exact SJ (P:=opK I8 o.er) j w (by cases w<;>rfl) q fun G=>AI7 G
   .exact SJ (P:=opK I8 o.er) j (!w) (by cases w<;>rfl) q fun G=>AI7 G
  .rename_i v j;obtain⟨S',y,B,E⟩:=ju (R:=R) h;exact⟨S',B,E,fun N hN=>⟨false,ACm j,.inr ⟨rfl,_,y,hN⟩⟩⟩
  .cases h
theorem AOa:∀{ops:List (Option (Nat×Bool)×YOp R)} {S:St} {K:St->Option ρ} {r:ρ},evs ops S K=some r ->
 ∃S',BT S S'/\K S'=some r/\∀N:Lv.St->Prop,N (S'.fg R)->AFP I8 (ops.map fun p=>(p.1,p.2.er)) (S.fg R) N
 | [],S,K,r,h=>⟨S,BT.refl _,h,fun N hN=>hN⟩|(g,o)::ops,S,K,r,h=>by
  have j:evg g o S (fun S'=>evs ops S' K)=some r:=by
   grind[evs,Eg]
  obtain⟨S1,q,y,B⟩:=AYJ j;obtain⟨S2,E,G,H⟩:=AOa y;exact⟨S2,q.trans E,G,fun N hN=>B _ (H N hN)⟩
theorem AZ8(o:YOp R):o.er.wr=o.wr.map (YO.er R):=by cases o<;>rfl
theorem W9(l:AS):∀(ks:List PK) (es:List En),Lv.JU (AS.fg R l) (ks.map PK.md) (es.map (En.fg R))=JU l ks es
 | [],es=>by cases es<;>rfl
 |k::ks,[]=>rfl|k::ks,e::es=>by
  simp only[AJ,Lv.JU,JU,oZ,En.fg,List.all_map,Function.comp_def,AMt,W9 l ks es]
theorem AWE{S:St}{l:AS}(h:S.M5 l=true):(S.fg R).M5 (AS.fg R l)=true:=by
 unfold St.M5 at h;split at h
 .simp only[AS.fg,Lv.St.M5,Ol,Option.isSome_map];exact h
 .rfl
 .rename_i s cs;cases cs<;>simp_all[AS.fg,Lv.St.M5]
 .grind[AS.fg,Lv.St.M5,JC,AWO]
 .rfl
 .rfl
 .cases h
theorem vZ{o:YOp R}{S:Lv.St}(j:∀d g fs y args,o≠.call d g fs y args)(q:∀d x ms args,o≠.Dn d x ms args):Lv.FR o.er S=none:=by
 cases o<;>first|rfl|(exact(j _ _ _ _ _ rfl).elim)|(exact(q _ _ _ _ rfl).elim)
theorem AUf{o:YOp R}{S:St}{l:AS}(h:TS o S l=true):Lv.TS o.er (S.fg R) (AS.fg R l)=true:=by
 unfold TS at h;simp only[AF]at h;obtain⟨X,q⟩:=h;unfold Lv.TS;rw[AWE X,Bool.true_and];have E:(AS.fg R l).By=l.By:=KH l;have gen:(∀d g fs Q args,o≠.call d g fs Q args)->(∀d x ms args,o≠.Dn d x ms args) ->
  (match o.wr with|some y=>(match S.one y with|some lt=>l.By.isNone||!(match l.By with|some r=>isR lt.By r|none=>lt.By.isNone)|none=>false)|none=>true)=true ->
  (match Lv.FR o.er (S.fg R) with
  |some (_,f,es)=>Lv.JU (AS.fg R l) (EJ f) es|none=>match o.er.wr with
   |some y=>(match (S.fg R).one y with|some lt=>(AS.fg R l).By.isNone||decide ((AS.fg R l).By≠lt.By)|none=>true)
   |none=>true)=true:=by
  intro n1 n2 h;rw[vZ n1 n2,AZ8];cases hy:o.wr with
  |none=>rfl|some y=>
   rw[hy]at h;dsimp only at h;cases B:S.one y with
   |none=>rw[B]at h;cases h
   |some lt=>
    rw[B]at h;dsimp only at h ⊢;simp only[An,Ej B];rw[E,KH,decide_not,<-AUb];exact h
 cases o with
 |st n x v=>
  dsimp only at q;have H:Lv.names (AS.fg R l)=names l:=jA l;generalize AS.fg R l=L at H E ⊢;cases B:S.one x with
  |none=>rw[B]at q;cases q
  |some lp=>
   rw[B]at q;have G:=Ej (R:=R) B;simp only[YOp.er,G];cases lp with
   |bp id o=>
    dsimp only at q;show (!(Lv.names L).contains id)=true;rw[H,List.contains_eq_mem,<-Se];exact q
   |ep r0 i j=>
    dsimp only at q;show decide (L.By≠some r0)=true;rw[E];rw[YJ]at q;simpa using q
   |_=>cases q
 |call d g fs Q args=>
  dsimp only at q;cases J:S.rds args with
  |none=>rw[J]at q;cases q
  |some es=>
   rw[J]at q;have G:=W9 (R:=R) l g.ps es;generalize AS.fg R l=L at G ⊢;simp only[YOp.er,Lv.FR,Yh J,g.ms];rw[G];exact q
 |Dn d x ms args=>
  dsimp only at q;split at q
  .rename_i n caps es H Y;split at q
   .rename_i g Z;split at q
    .rename_i h7;have hx:xr R n=g.x:=by unfold xr;rw[Z]
     have I:=W9 (R:=R) l g.ps (es++caps.map fun l=>⟨.one,[l.leaf]⟩);rw[Cr,Dj]at I;rw[show (En.fg R∘fun l=>(⟨.one,[l.leaf]⟩:En))=((fun l=>(⟨Sh.one,[l]⟩:Lv.Ent))∘Cap.fg) from by funext c;simp only[Function.comp,En.fg,AJ,BW,Yx],<-Dj]at I;have O:=Ej (R:=R) H;simp only[AS.fg,hx]at O;generalize AS.fg R l=L at I ⊢;simp only[YOp.er,Lv.FR,O,Yh Y];rw[AX (by rw[g.ms,h7])];dsimp only;rw[g.ms,I];exact q
    .cases q
   .cases q
  .cases q
 |_=>exact gen (by intros;simp) (by intros;simp) q
theorem ACH{o:YOp R}{S:St}:∀{sf:List Nat},JK o S sf=true->Lv.JK o.er (S.fg R) sf=true
 | [],h=>rfl|s::sf,h=>by
  simp only[JK,AF]at h;obtain⟨j,q⟩:=h;simp only[Lv.JK,AF];refine⟨?_,ACH q⟩;split at j
  .rename_i l y;have:=Ej (R:=R) y
   grind[YO.er,AUf]
  .cases j
theorem qN:∀{a b:List (Option Nat)},AKd a b=true->a=b
 | [],[],_=>rfl|none::r,none::r',h=>by simp only[AKd]at h;rw[qN h]|some a::r,some b::r',h=>by simp only[AKd,AF]at h;rw[beq_true h.1,qN h.2]| [],_::_,h=>by cases h
 |none::_,[],h=>by cases h
 |some _::_,[],h=>by cases h
 |none::_,some _::_,h=>by cases h
 |some _::_,none::_,h=>by cases h
theorem AV7{a b:Sh}(h:AYH a b=true):a=b:=by
 cases a<;>cases b<;>first|rfl|(cases h;done)|(simp only[AYH]at h;first|rw[qN h]|rw[beq_true h])
theorem AAy:∀{a b:Option (Nat×Nat)},AI3 a b=true->a=b
 |none,none,_=>rfl|some (a,b),some (j,q),h=>by simp only[AI3,AF]at h;rw[beq_true h.1,beq_true h.2]|none,some _,h=>by cases h
 |some _,none,h=>by cases h
theorem Yj:∀{a b:CE},CE.is a b=true->a=b
 |.tmp s c,.tmp q j,h=>by
  grind[CE.is,beq_true]
 |.cell s c,.cell q j,h=>by
  simp only[CE.is]at h
  grind[beq_true]
 |.tmp _ _,.cell _ _,h=>by cases h
 |.cell _ _,.tmp _ _,h=>by cases h
theorem AAx{a b:Src}(h:AI2 a b=true):a=b:=by
 cases a<;>cases b<;>simp only[AI2,AF]at h<;>first|(cases h;done)|rw[Yj h.1,AAy h.2]|rw[beq_true h]
theorem AI1:∀{a b:List (Nat×Nat)},AV6 a b=true->a=b
 | [],[],_=>rfl|(a,b)::r,(j,q)::r',h=>by simp only[AV6,AF]at h;rw[beq_true h.1.1,beq_true h.1.2,AI1 h.2]| [],_::_,h=>by cases h
 |_::_,[],h=>by cases h
theorem RZ{γ:Type}{b:Bool}{x:Option γ}{r:γ}(h:ifB b x=some r):b=true/\x=some r:=by
 grind
theorem ACv{x y:U}{X:Option ρ}{r:ρ}(h:agU x y X=some r):x=y/\X=some r:=by
 cases x<;>cases y<;>simp only[agU]at h<;>first|(cases h;done)|exact⟨rfl,h⟩|skip
 .grind[RO]
 .grind[RO]
 .obtain⟨rfl,j⟩:=RO h;exact⟨rfl,j⟩
 .obtain⟨rfl,j⟩:=RO h;exact⟨rfl,j⟩
 .grind[RO]
 grind[RO]
theorem AFt:∀{x y:List U} {X:Option ρ} {r:ρ},AXr x y X=some r->x=y/\X=some r
 | [],[],X,r,h=>⟨rfl,h⟩|a::x,b::y,X,r,h=>by
  obtain⟨rfl,j⟩:=ACv h;obtain⟨rfl,q⟩:=AFt j;exact⟨rfl,q⟩
 | [],_::_,_,_,h=>by cases h
 |_::_,[],_,_,h=>by cases h
theorem ANJ{c j:C}{xs:List c.D}{ys:List j.D}{X:Option ρ}{r:ρ}(h:(if h:j=c then eqv xs (h▸ys) X else none)=some r):(⟨c,xs⟩:(c:C)×List c.D)=⟨j,ys⟩/\X=some r:=by
 grind[RO]
theorem AVM:∀{x y:AS} {X:Option ρ} {r:ρ},AZF x y X=some r->x=y/\X=some r
 |.t x,.t y,X,r,h=>by obtain⟨rfl,q⟩:=ACv h;exact⟨rfl,q⟩
 |.und,.und,X,r,h=>⟨rfl,h⟩|.ow x,.ow y,X,r,h=>by obtain⟨rfl,q⟩:=ACv h;exact⟨rfl,q⟩
 |.owh c xs Y,.owh I ys L,X,r,h=>by
  obtain⟨q,G⟩:=RZ h;obtain⟨E,B⟩:=ANJ G;cases E;rw[AI1 q];exact⟨rfl,B⟩
 |.al O s,.al r' H,X,r,h=>by
  obtain⟨q,h⟩:=RZ h
  grind[Yj,AAy]
 |.ep O i j,.ep r' Z j',X,r,h=>by
  obtain⟨q,h⟩:=RZ h
  grind[RO,Yj,beq_true]
 |.vw s c xs,.vw H I ys,X,r,h=>by
  obtain⟨q,G⟩:=RZ h;obtain⟨E,B⟩:=ANJ G;cases E;rw[AAx q];exact⟨rfl,B⟩
 |.vp s cs,.vp H J,X,r,h=>by
  obtain⟨q,h⟩:=RZ h;obtain⟨rfl,B⟩:=AFt h;rw[AAx q];exact⟨rfl,B⟩
 |.bp a o,.bp Q o',X,r,h=>by
  obtain⟨q,h⟩:=RZ h
  grind[beq_true]
 |.fn _ _,.fn _ _,_,_,h=>by cases h
 |.t _,.und,_,_,h=>by cases h
 |.t _,.ow _,_,_,h=>by cases h
 |.t _,.owh _ _ _,_,_,h=>by cases h
 |.t _,.al _ _,_,_,h=>by cases h
 |.t _,.ep _ _ _,_,_,h=>by cases h
 |.t _,.vw _ _ _,_,_,h=>by cases h
 |.t _,.vp _ _,_,_,h=>by cases h
 |.t _,.bp _ _,_,_,h=>by cases h
 |.t _,.fn _ _,_,_,h=>by cases h
 |.und,.t _,_,_,h=>by cases h
 |.und,.ow _,_,_,h=>by cases h
 |.und,.owh _ _ _,_,_,h=>by cases h
 |.und,.al _ _,_,_,h=>by cases h
 |.und,.ep _ _ _,_,_,h=>by cases h
 |.und,.vw _ _ _,_,_,h=>by cases h
 |.und,.vp _ _,_,_,h=>by cases h
 |.und,.bp _ _,_,_,h=>by cases h
 |.und,.fn _ _,_,_,h=>by cases h
 |.ow _,.t _,_,_,h=>by cases h
 |.ow _,.und,_,_,h=>by cases h
 |.ow _,.owh _ _ _,_,_,h=>by cases h
 |.ow _,.al _ _,_,_,h=>by cases h
 |.ow _,.ep _ _ _,_,_,h=>by cases h
 |.ow _,.vw _ _ _,_,_,h=>by cases h
 |.ow _,.vp _ _,_,_,h=>by cases h
 |.ow _,.bp _ _,_,_,h=>by cases h
 |.ow _,.fn _ _,_,_,h=>by cases h
 |.owh _ _ _,.t _,_,_,h=>by cases h
 |.owh _ _ _,.und,_,_,h=>by cases h
 |.owh _ _ _,.ow _,_,_,h=>by cases h
 |.owh _ _ _,.al _ _,_,_,h=>by cases h
 |.owh _ _ _,.ep _ _ _,_,_,h=>by cases h
 |.owh _ _ _,.vw _ _ _,_,_,h=>by cases h
 |.owh _ _ _,.vp _ _,_,_,h=>by cases h
 |.owh _ _ _,.bp _ _,_,_,h=>by cases h
 |.owh _ _ _,.fn _ _,_,_,h=>by cases h
 |.al _ _,.t _,_,_,h=>by cases h
 |.al _ _,.und,_,_,h=>by cases h
 |.al _ _,.ow _,_,_,h=>by cases h
 |.al _ _,.owh _ _ _,_,_,h=>by cases h
 |.al _ _,.ep _ _ _,_,_,h=>by cases h
 |.al _ _,.vw _ _ _,_,_,h=>by cases h
 |.al _ _,.vp _ _,_,_,h=>by cases h
 |.al _ _,.bp _ _,_,_,h=>by cases h
 |.al _ _,.fn _ _,_,_,h=>by cases h
 |.ep _ _ _,.t _,_,_,h=>by cases h
 |.ep _ _ _,.und,_,_,h=>by cases h
 |.ep _ _ _,.ow _,_,_,h=>by cases h
 |.ep _ _ _,.owh _ _ _,_,_,h=>by cases h
 |.ep _ _ _,.al _ _,_,_,h=>by cases h
 |.ep _ _ _,.vw _ _ _,_,_,h=>by cases h
 |.ep _ _ _,.vp _ _,_,_,h=>by cases h
 |.ep _ _ _,.bp _ _,_,_,h=>by cases h
 |.ep _ _ _,.fn _ _,_,_,h=>by cases h
 |.vw _ _ _,.t _,_,_,h=>by cases h
 |.vw _ _ _,.und,_,_,h=>by cases h
 |.vw _ _ _,.ow _,_,_,h=>by cases h
 |.vw _ _ _,.owh _ _ _,_,_,h=>by cases h
 |.vw _ _ _,.al _ _,_,_,h=>by cases h
 |.vw _ _ _,.ep _ _ _,_,_,h=>by cases h
 |.vw _ _ _,.vp _ _,_,_,h=>by cases h
 |.vw _ _ _,.bp _ _,_,_,h=>by cases h
 |.vw _ _ _,.fn _ _,_,_,h=>by cases h
 |.vp _ _,.t _,_,_,h=>by cases h
 |.vp _ _,.und,_,_,h=>by cases h
 |.vp _ _,.ow _,_,_,h=>by cases h
 |.vp _ _,.owh _ _ _,_,_,h=>by cases h
 |.vp _ _,.al _ _,_,_,h=>by cases h
 |.vp _ _,.ep _ _ _,_,_,h=>by cases h
 |.vp _ _,.vw _ _ _,_,_,h=>by cases h
 |.vp _ _,.bp _ _,_,_,h=>by cases h
 |.vp _ _,.fn _ _,_,_,h=>by cases h
 |.bp _ _,.t _,_,_,h=>by cases h
 |.bp _ _,.und,_,_,h=>by cases h
 |.bp _ _,.ow _,_,_,h=>by cases h
 |.bp _ _,.owh _ _ _,_,_,h=>by cases h
 |.bp _ _,.al _ _,_,_,h=>by cases h
 |.bp _ _,.ep _ _ _,_,_,h=>by cases h
 |.bp _ _,.vw _ _ _,_,_,h=>by cases h
 |.bp _ _,.vp _ _,_,_,h=>by cases h
 |.bp _ _,.fn _ _,_,_,h=>by cases h
 |.fn _ _,.t _,_,_,h=>by cases h
 |.fn _ _,.und,_,_,h=>by cases h
 |.fn _ _,.ow _,_,_,h=>by cases h
 |.fn _ _,.owh _ _ _,_,_,h=>by cases h
 |.fn _ _,.al _ _,_,_,h=>by cases h
 |.fn _ _,.ep _ _ _,_,_,h=>by cases h
 |.fn _ _,.vw _ _ _,_,_,h=>by cases h
 |.fn _ _,.vp _ _,_,_,h=>by cases h
 |.fn _ _,.bp _ _,_,_,h=>by cases h
theorem oz:∀{x y:List AS} {X:Option ρ} {r:ρ},AVN x y X=some r->x=y/\X=some r
 | [],[],X,r,h=>⟨rfl,h⟩|a::x,b::y,X,r,h=>by
  obtain⟨rfl,j⟩:=AVM h;obtain⟨rfl,q⟩:=oz j;exact⟨rfl,q⟩
 | [],_::_,_,_,h=>by cases h
 |_::_,[],_,_,h=>by cases h
theorem Zz{a b:Nat}(h:Nat.blt a b=true):a<b:=by simp[Nat.blt]at h;omega
theorem ACu{v:Nat}{P:Nat->Ent->Prop}(hP:∀k e q,P k e->P k q->e=q):∀{x y:List (Nat×Ent)} {X:Option ρ} {r:ρ},(∀k e,(k,e)∈x->e.ver<v->P k e)->(∀k e,(k,e)∈y->e.ver<v->P k e)->agE v x y X=some r->fgE R x=fgE R y/\X=some r
 | [],[],X,r,_,_,h=>⟨rfl,h⟩|(k,e)::x,(Q,q)::y,X,r,H,I,h=>by
  simp only[agE]at h;split at h
  .rename_i O;have:=beq_true O;subst this;split at h
   .rename_i G;simp only[AF]at G;have:=hP k e q (H k e (Bc ..) (Zz G.1)) (I k q (Bc ..) (Zz G.2));subst this;obtain⟨B,E⟩:=ACu hP (fun k e j=>H k e (Av _ j)) (fun k e j=>I k e (Av _ j)) h;exact⟨by unfold fgE at B ⊢;rw[AJ,AJ,B],E⟩
   .obtain⟨J,h⟩:=RZ h;obtain⟨L,h⟩:=oz h;obtain⟨B,E⟩:=ACu hP (fun k e j=>H k e (Av _ j)) (fun k e j=>I k e (Av _ j)) h;exact⟨by unfold fgE at B ⊢;rw[AJ,AJ,B];simp only[Ent.fg,AV7 J,L],E⟩
  .cases h
 | [],_::_,_,_,_,_,h=>by cases h
 |_::_,[],_,_,_,_,h=>by cases h
theorem ACt{v:Nat}{P:Nat->Bx->Prop}(hP:∀k e q,P k e->P k q->e=q):∀{x y:List (Nat×Bx)} {X:Option ρ} {r:ρ},(∀k e,(k,e)∈x->e.ver<v->P k e)->(∀k e,(k,e)∈y->e.ver<v->P k e)->agB v x y X=some r->fgB R x=fgB R y/\X=some r
 | [],[],X,r,_,_,h=>⟨rfl,h⟩|(k,e)::x,(O,q)::y,X,r,H,I,h=>by
  simp only[agB]at h;split at h
  .rename_i L;have:=beq_true L;subst this;split at h
   .rename_i G;simp only[AF]at G;have:=hP k e q (H k e (Bc ..) (Zz G.1)) (I k q (Bc ..) (Zz G.2));subst this;obtain⟨B,E⟩:=ACt hP (fun k e j=>H k e (Av _ j)) (fun k e j=>I k e (Av _ j)) h;exact⟨by unfold fgB at B ⊢;rw[AJ,AJ,B],E⟩
   .obtain⟨J,h⟩:=oz h;obtain⟨B,E⟩:=ACt hP (fun k e j=>H k e (Av _ j)) (fun k e j=>I k e (Av _ j)) h;exact⟨by unfold fgB at B ⊢;rw[AJ,AJ,B,J],E⟩
  .cases h
 | [],_::_,_,_,_,_,h=>by cases h
 |_::_,[],_,_,_,_,h=>by cases h
theorem ABR{α:Type}{k:Nat}{e:α}:∀{l:List (Nat×α)},(k,e)∈l->ZR k l=true
 |(j,x)::l,h=>by
  simp only[ZR];cases q:Nat.beq j k with
  |true=>rfl|false=>
   rcases Ap.1 h with h|h
   .cases h;rw[Lw]at q;cases q
   .exact ABR h
theorem O4{α:Type}{k:Nat}{e:α}:∀{l:List (Nat×α)},jF l=true->(k,e)∈l->get l k=some e
 |(j,x)::l,q,h=>by
  simp only[jF,AF,BG]at q;simp only[get];rcases Ap.1 h with h|h
  .cases h;rw[Lw]
  .cases y:Nat.beq j k with
   |true=>rw[beq_true y,ABR h]at q;cases q.1
   |false=>exact O4 q.2 h
theorem AXq{S A B:St}{X:Option ρ}{r:ρ}(hA:BT S A)(hB:BT S B)(h:agS S.nv A B X=some r):A.fg R=B.fg R/\X=some r:=by
 obtain⟨E,h⟩:=RZ h;simp only[AF]at E;obtain⟨⟨⟨J,L⟩,O⟩,Q⟩:=E;obtain⟨H,h⟩:=ACu (R:=R) (P:=fun k e=>get S.tm k=some e) (fun k e G h y=>by rw[h]at y;exact Option.some.inj y) (fun k e j q=>hA.tm k e (O4 J j) q) (fun k e j q=>hB.tm k e (O4 L j) q) h;obtain⟨I,h⟩:=ACt (R:=R) (P:=fun k e=>get S.bx k=some e) (fun k e G h y=>by rw[h]at y;exact Option.some.inj y) (fun k e j q=>hA.bx k e (O4 O j) q) (fun k e j q=>hB.bx k e (O4 Q j) q) h;exact⟨by simp only[St.fg,H,I,hA.pin,hB.pin],h⟩
theorem XZ:∀{x:Bs R} {S:St} {K:St->Option ρ} {r:ρ},evr x S K=some r ->
 ∃S',BT S S'/\K S'=some r/\∀N:Lv.St->Prop,N (S'.fg R)->runK I8 x.er (S.fg R) N
 |.nil,S,K,r,h=>⟨S,BT.refl _,h,fun N hN=>hN⟩|.dr ds x,S,K,r,h=>by
  obtain⟨S',q,j,y⟩:=XZ (x:=x) h;refine⟨S',(BT.Hq _ _).trans q,j,fun N hN=>?_⟩;have:=y N hN;rw[AAu]at this;exact this
 |.nl ns x,S,K,r,h=>by
  obtain⟨S',q,j,y⟩:=XZ (x:=x) h;refine⟨S',(BT.QC _ _).trans q,j,fun N hN=>?_⟩;have:=y N hN;rw[s5]at this;exact this
 |.both n a b,S,K,r,h=>by
  have h:evr a S (fun A=>evr b S fun B=>agS S.nv A B (K A))=some r:=by
   cases n with
   |zero=>exact h|succ n=>simpa only[evr,AFv] using h
  obtain⟨A,I,J,a3⟩:=XZ (x:=a) (K:=fun A=>evr b S fun B=>agS S.nv A B (K A)) h;obtain⟨B,L,O,Q⟩:=XZ (x:=b) (K:=fun B=>agS S.nv A B (K A)) J;obtain⟨e,j⟩:=AXq (R:=R) I L O;exact⟨A,I,j,fun N hN=>⟨a3 N hN,Q N (e▸hN)⟩⟩
 |.op i g sf o x,S,K,r,h=>by
  have safe:∀{S:St},(if JK o S sf=true then ev o S fun S'=>S'.FV fun S'=>evr x S' K else none)=some r ->
   ∃S',BT S S'/\evr x S' K=some r/\∀N:Lv.St->Prop,N (S'.fg R)->(Lv.JK o.er (S.fg R) sf=true/\opK I8 o.er (S.fg R) N):=by
   intro S h;split at h
   .rename_i hs;obtain⟨S',q,j,y⟩:=AI7 h;rw[Eg]at j;exact⟨S',q,j,fun N hN=>⟨ACH hs,y N hN⟩⟩
   .cases h
  have key:∃S',BT S S'/\evr x S' K=some r/\∀N:Lv.St->Prop,N (S'.fg R)->∃b,Lv.wanted (S.fg R) g=some b/\((b=true/\Lv.JK o.er (S.fg R) sf=true/\opK I8 o.er (S.fg R) N)\/(b=false/\∃S',Lv.LU o.er (S.fg R)=some S'/\N S')):=by
   simp only[evr,AYM]at h;split at h
   .obtain⟨S',q,j,y⟩:=safe h;exact⟨S',q,j,fun N hN=>⟨true,rfl,.inl ⟨rfl,y N hN⟩⟩⟩
   .rename_i s w;split at h
    .rename_i b v E;rcases AFz h with ⟨rfl,G⟩|⟨rfl,G⟩
     .refine SJ (K:=fun S'=>evr x S' K) (P:=fun S N=>Lv.JK o.er S sf=true/\opK I8 o.er S N) E w (by cases w<;>rfl) (f:=if JK o (S.lit s true) sf=true then ev o (S.lit s true) fun S'=>S'.FV fun S'=>evr x S' K else none) ?_ fun H=>safe H
      simpa only[Eg] using G
     .refine SJ (K:=fun S'=>evr x S' K) (P:=fun S N=>Lv.JK o.er S sf=true/\opK I8 o.er S N) E (!w) (by cases w<;>rfl) (f:=if JK o (S.lit s false) sf=true then ev o (S.lit s false) fun S'=>S'.FV fun S'=>evr x S' K else none) ?_ fun H=>safe H
      simpa only[Eg] using G
    .rename_i v E;simp only[Eg]at h;obtain⟨S',q,j,y⟩:=ju (R:=R) h;exact⟨S',j,y,fun N hN=>⟨false,ACm E,.inr ⟨rfl,_,q,hN⟩⟩⟩
    .cases h
  obtain⟨S1,q,j,y⟩:=key;obtain⟨S2,X,Y,Z⟩:=XZ (x:=x) j;exact⟨S2,q.trans X,Y,fun N hN=>y _ (Z N hN)⟩
end
end Y
end Lv
namespace Lv
open Go (IntKind BinOp UnOp)
namespace Y
section
variable{R:List GF}{ρ:Type}
theorem ASo{s:Option Src}{l:AS}{x:U}(h:ASn s l=some x):ASm s x=l:=by
 unfold ASn at h;split at h
 .cases h
 .cases h
 .cases h
 .rename_i j q y;cases h;cases s<;>cases x<;>first|rfl|(exact(j _ _ rfl).elim)|(exact(q rfl).elim)|(exact(y _ rfl).elim)
 .split at h
  .cases h;rfl
  .cases h
 .split at h
  .cases h;rfl
  .cases h
 .split at h
  .cases h
  .split at h
   .rename_i B;subst B;cases h;rfl
   .cases h
 .cases h
theorem nY{s:Option Src}:∀{ls:List AS} {us:List U},sk s ls=some us->us.map (ASm s)=ls
 | [],us,h=>by cases h;rfl
 |l::ls,us,h=>by
  simp only[sk]at h;split at h
  .rename_i x xs j q;cases h;rw[AJ,ASo j,nY q]
  .cases h
theorem AXm{a:AL}{ls:List AS}{x:a.D}(h:a.un ls=some x):a.leaf x=ls:=by
 cases a with
 |val c s=>
  simp only[AL.un]at h;split at h
  .rename_i us q;simp only[AL.leaf];rw[YZ h,nY q]
  .cases h
 |num k=>
  simp only[AL.un]at h;split at h
  .split at h
   .rename_i j;subst j;cases h;rfl
   .cases h
  .cases h
 |al r=>
  simp only[AL.un]at h;split at h
  .split at h
   .rename_i j;subst j;rfl
   .cases h
  .cases h
theorem uh:∀{as:List AL} {ls:List AS} {x:TA as},AW8 as ls=some x->Rk as x=ls
 | [],ls,x,h=>by
  cases ls with
  |nil=>rfl|cons l ls=>cases h
 | [a],ls,x,h=>AXm h|a::j::as,ls,x,h=>by
  simp only[AW8]at h;split at h
  .rename_i y z q B;cases h;show a.leaf y++Rk (j::as) z=ls;rw[AXm q,uh B,Ho]
  .cases h
theorem Kt{b:Bool}{k:Nat}:∀{c:Cut} {ls:List AS},NR b k c=false->look b k (seg c ls)=none
 | [],ls,h=>rfl|(j,d,sh,as)::c,ls,h=>by
  simp only[NR]at h;simp only[seg,look];split at h
  .cases h
  .exact Kt h
theorem Xd{S:St}{k:Nat}:∀{c:Cut} {ls:List AS},Ps S c=some ls->NR false k c=true->∃e,get S.tm k=some e/\look false k (seg c ls)=some (e.sh,e.cs)
 | [],ls,h,j=>by cases j
 |(false,d,sh,as)::c,ls,h,j=>by
  simp only[Ps]at h;split at h
  .rename_i e ls' B y;split at h
   .rename_i q;cases h;simp only[NR]at j;simp only[seg,look];split at j
    .rename_i E;have H:d=k:=by simpa[Pe] using E
     subst H;refine⟨e,B,?_⟩;rw[Cs q.2,Wj q.1]
    .rename_i E;rw[Ch q.2];exact Xd y j
   .cases h
  .cases h
 |(true,d,sh,as)::c,ls,h,j=>by
  simp only[Ps]at h;split at h
  .rename_i e ls' B y;split at h
   .rename_i q;cases h;have G:((true:Bool)==false)=false:=rfl;simp only[NR,G,Bj]at j;simp only[seg,look,G,Bj];rw[Ch q];exact Xd y j
   .cases h
  .cases h
theorem Xc{S:St}{k:Nat}:∀{c:Cut} {ls:List AS},Ps S c=some ls->NR true k c=true->∃e sh,get S.bx k=some e/\look true k (seg c ls)=some (sh,e.cs)
 | [],ls,h,j=>by cases j
 |(true,d,sh,as)::c,ls,h,j=>by
  simp only[Ps]at h;split at h
  .rename_i e ls' B y;split at h
   .rename_i q;cases h;simp only[NR]at j;simp only[seg,look];split at j
    .rename_i E;have H:d=k:=by simpa[Pe] using E
     subst H;refine⟨e,sh,B,?_⟩;rw[Cs q]
    .rename_i E;rw[Ch q];exact Xc y j
   .cases h
  .cases h
 |(false,d,sh,as)::c,ls,h,j=>by
  simp only[Ps]at h;split at h
  .rename_i e ls' B y;split at h
   .rename_i q;cases h;have G:((false:Bool)==true)=false:=rfl;simp only[NR,G,Bj]at j;simp only[seg,look,G,Bj];rw[Ch q.2];exact Xc y j
   .cases h
  .cases h
theorem AJq{q:List (Bool×Nat×Sh×List AS)}{a:List (Nat×Ent)}{v:Nat}:∀{l:List (Nat×Ent)},(∀k e,(k,e)∈l->look false k q=some (e.sh,e.cs)\/(look false k q=none/\get a k=some e))->fgE R (jf q a v l)=fgE R l
 | [],_=>rfl|(k,e)::l,h=>by
  have y:=AJq (v:=v) (l:=l) (fun k e E=>h k e (Av _ E));simp only[fgE,jf,AJ]at y ⊢;rw[y];rcases h k e (by simp) with j|⟨j,B⟩
  .rw[j];rfl
  .rw[j,B]
theorem AJp{q:List (Bool×Nat×Sh×List AS)}{a:List (Nat×Bx)}{v:Nat}:∀{l:List (Nat×Bx)},(∀k e,(k,e)∈l->(∃sh,look true k q=some (sh,e.cs))\/(look true k q=none/\get a k=some e))->fgB R (je q a v l)=fgB R l
 | [],_=>rfl|(k,e)::l,h=>by
  have y:=AJp (v:=v) (l:=l) (fun k e E=>h k e (Av _ E));simp only[fgB,je,AJ]at y ⊢;rw[y];rcases h k e (by simp) with ⟨sh,j⟩|⟨j,B⟩
  .rw[j]
  .rw[j,B]
theorem YN{α:Type}{k:Nat}{e:α}:∀{l:List (Nat×α)},(k,e)∈l->ZR k l=true
 |(j,x)::l,h=>by
  simp only[ZR];cases q:Nat.beq j k with
  |true=>rfl|false=>
   rcases Ap.1 h with h|h
   .cases h;exact(beq_false q rfl).elim
   .exact YN h
theorem oF{c:Cut}{a:List (Nat×Ent)}:∀{l:List (Nat×Ent)} {k:Nat} {e:Ent},AJv c a l=true->(k,e)∈l->get l k=some e/\(NR false k c=true\/(NR false k c=false/\∃y,get a k=some y/\e.ver=y.ver))
 |(j,x)::l,k,e,h,q=>by
  simp only[AJv,AF,BG]at h;obtain⟨⟨E,G⟩,B⟩:=h;rcases Ap.1 q with q|q
  .grind[Prod.mk.injEq,get,Nat.beq,Pe,NR,beq_true]
  .obtain⟨H,I⟩:=oF B q
   grind[get,Nat.beq,beq_true,YN]
theorem oE{c:Cut}{a:List (Nat×Bx)}:∀{l:List (Nat×Bx)} {k:Nat} {e:Bx},AJu c a l=true->(k,e)∈l->get l k=some e/\(NR true k c=true\/(NR true k c=false/\∃y,get a k=some y/\e.ver=y.ver))
 |(j,x)::l,k,e,h,q=>by
  simp only[AJu,AF,BG]at h;obtain⟨⟨E,G⟩,B⟩:=h;rcases Ap.1 q with q|q
  .grind[Prod.mk.injEq,get,Nat.beq,Pe,NR,beq_true]
  .obtain⟨H,I⟩:=oE B q
   grind[get,Nat.beq,beq_true,YN]
theorem ANV{a b:Nat}(h:Nat.blt a b=true):a<b:=Nat.le_of_ble_eq_true h
theorem AJ8{v:Nat}:∀{l:List (Nat×Ent)} {k:Nat} {e:Ent},wfE v l=true->get l k=some e->e.ver<v
 |(j,x)::l,k,e,h,q=>by
  simp only[wfE,AF]at h;simp only[get]at q;split at q
  .cases q;exact ANV h.1
  .exact AJ8 h.2 q
theorem AJ7{v:Nat}:∀{l:List (Nat×Bx)} {k:Nat} {e:Bx},wfB v l=true->get l k=some e->e.ver<v
 |(j,x)::l,k,e,h,q=>by
  simp only[wfB,AF]at h;simp only[get]at q;split at q
  .cases q;exact ANV h.1
  .exact AJ7 h.2 q
structure Ee(c:Cut)(S S':St):Prop where
 tm:∀k e,NR false k c=false->get S'.tm k=some e->e.ver<S.nv->get S.tm k=some e
 bx:∀k e,NR true k c=false->get S'.bx k=some e->e.ver<S.nv->get S.bx k=some e
 pin:S'.pin=S.pin
theorem Ee.of{c:Cut}{S S':St}(h:BT S S'):Ee c S S':=⟨fun k e _=>h.tm k e,fun k e _=>h.bx k e,h.pin⟩
theorem qP{c:Cut}{S S':St}{x:TA c.as}(h:c.fit S S'=some x)(H:Ee c S S') :
 (c.st S S' x).fg R=S'.fg R /\
 (∀k e,(k,e)∈S'.tm->look false k (seg c (Rk c.as x))=some (e.sh,e.cs)\/(look false k (seg c (Rk c.as x))=none/\get S.tm k=some e)) /\
 (∀k e,(k,e)∈S'.bx->(∃sh,look true k (seg c (Rk c.as x))=some (sh,e.cs))\/(look true k (seg c (Rk c.as x))=none/\get S.bx k=some e)):=by
 unfold Cut.fit at h;split at h
 .rename_i Q;obtain⟨w1,Y,s1,X⟩:=Q;split at h
  .rename_i ls J;rw[uh h];have hE:∀k e,(k,e)∈S'.tm->look false k (seg c ls)=some (e.sh,e.cs)\/(look false k (seg c ls)=none/\get S.tm k=some e):=by
    intro k e I;obtain⟨q,j⟩:=oF s1 I;rcases j with j|⟨j,L,B,E⟩
    .obtain⟨O,y,G⟩:=Xd J j;rw[q]at y;cases y;exact .inl G
    .exact .inr ⟨Kt j,H.tm k e j q (by rw[E];exact AJ8 w1 B)⟩
   have hB:∀k e,(k,e)∈S'.bx->(∃sh,look true k (seg c ls)=some (sh,e.cs))\/(look true k (seg c ls)=none/\get S.bx k=some e):=by
    intro k e I;obtain⟨q,j⟩:=oE X I;rcases j with j|⟨j,L,B,E⟩
    .obtain⟨O,sh,y,G⟩:=Xc J j;rw[q]at y;cases y;exact .inl ⟨sh,G⟩
    .exact .inr ⟨Kt j,H.bx k e j q (by rw[E];exact AJ7 Y B)⟩
   refine⟨?_,hE,hB⟩;simp only[St.fg,Cut.st,uh h];rw[AJq hE,AJp hB,H.pin]
  .cases h
 .cases h
theorem oA{q:List (Bool×Nat×Sh×List AS)}{a:List (Nat×Ent)}{v:Nat}:∀{l l':List (Nat×Ent)},NL l l'=true->(∀k e,(k,e)∈l'->look false k q=some (e.sh,e.cs)\/(look false k q=none/\get a k=some e))->jf q a v l=jf q a v l'
 | [],[],_,_=>rfl| [],_::_,h,_=>by cases h
 |_::_,[],h,_=>by cases h
 |(k,e)::l,(I,G)::l',h,B=>by
  simp only[NL,AF]at h;obtain⟨j,y⟩:=h;have:=beq_true j;subst this;have H:=oA (v:=v) y (fun k e E=>B k e (Av _ E))
  grind[jf]
theorem n9{q:List (Bool×Nat×Sh×List AS)}{a:List (Nat×Bx)}{v:Nat}:∀{l l':List (Nat×Bx)},NL l l'=true->(∀k e,(k,e)∈l'->(∃sh,look true k q=some (sh,e.cs))\/(look true k q=none/\get a k=some e))->je q a v l=je q a v l'
 | [],[],_,_=>rfl| [],_::_,h,_=>by cases h
 |_::_,[],h,_=>by cases h
 |(k,e)::l,(I,G)::l',h,B=>by
  simp only[NL,AF]at h;obtain⟨j,y⟩:=h;have:=beq_true j;subst this;have H:=n9 (v:=v) y (fun k e E=>B k e (Av _ E))
  grind[je]
theorem iB{q:List (Bool×Nat×Sh×List AS)}{a:List (Nat×Ent)}{v k:Nat}(G:look false k q=none):∀{l:List (Nat×Ent)} {y:Ent},get (jf q a v l) k=some y->∃e,get l k=some e/\y=(match get a k with|some B=>B|none=>e)
 |(j,x)::l,y,h=>by
  simp only[jf,get]at h ⊢;cases E:Nat.beq j k with
  |true=>
   grind[beq_true,Option.some.inj]
  |false=>rw[E]at h;exact iB G h
theorem iA{q:List (Bool×Nat×Sh×List AS)}{a:List (Nat×Bx)}{v k:Nat}(G:look true k q=none):∀{l:List (Nat×Bx)} {y:Bx},get (je q a v l) k=some y->∃e,get l k=some e/\y=(match get a k with|some B=>B|none=>e)
 |(j,x)::l,y,h=>by
  simp only[je,get]at h ⊢;cases E:Nat.beq j k with
  |true=>
   grind[beq_true,Option.some.inj]
  |false=>rw[E]at h;exact iA G h
theorem Ee.round{c:Cut}{S S':St}{x:TA c.as}(h:BT (c.st S S x) S'):Ee c S S':=by
 refine⟨fun k e G E j=>?_,fun k e G E j=>?_,h.pin⟩
 .have q:=h.tm k e E (JA j);obtain⟨H,y,B⟩:=iB (Kt G) q
  grind
 .have q:=h.bx k e E (JA j);obtain⟨H,y,B⟩:=iA (Kt G) q;rw[y]at B;subst B;exact y
theorem nE{c:Cut}{S S':St}{y:TA c.as}(h:c.fit S S'=some y)(j:Ee c S S')(q:NL S.tm S'.tm=true)(B:NL S.bx S'.bx=true):(c.st S S y).fg R=S'.fg R:=by
 obtain⟨E,G,H⟩:=qP (R:=R) h j
 grind[St.fg,Cut.st,oA,n9]
theorem YR{b:Bool}{k:Nat}:∀{c:Cut} {ls:List AS},NR b k c=true->∃p,look b k (seg c ls)=some p
 |(j,d,sh,as)::c,ls,h=>by
  simp only[NR]at h;simp only[seg,look];split at h
  .exact⟨_,rfl⟩
  .exact YR h
theorem ACA{q:List (Bool×Nat×Sh×List AS)}{a:List (Nat×Ent)}{v k:Nat}{p:Sh×List AS}(E:look false k q=some p):∀{l:List (Nat×Ent)} {y:Ent},get (jf q a v l) k=some y->v<=y.ver
 |(j,z)::l,y,h=>by
  simp only[jf,get]at h;cases B:Nat.beq j k with
  |true=>
   grind[beq_true]
  |false=>rw[B]at h;exact ACA E h
theorem AB9{q:List (Bool×Nat×Sh×List AS)}{a:List (Nat×Bx)}{v k:Nat}{p:Sh×List AS}(E:look true k q=some p):∀{l:List (Nat×Bx)} {y:Bx},get (je q a v l) k=some y->v<=y.ver
 |(j,z)::l,y,h=>by
  simp only[je,get]at h;cases B:Nat.beq j k with
  |true=>
   grind[beq_true]
  |false=>rw[B]at h;exact AB9 E h
theorem BT.st{c:Cut}{S S':St}{x:TA c.as}(I:BT S S'):BT S (c.st S S' x):=by
 refine⟨by simp[Cut.st],fun k e B E=>?_,fun k e B E=>?_,rfl⟩
 .cases j:NR false k c with
  |false=>
   obtain⟨J,G,q⟩:=iB (Kt j) B;cases y:get S.tm k with
   |some L=>rw[y]at q;subst q;rfl|none=>
    rw[y]at q;subst q;have:=I.tm k _ G E;rw[y]at this;cases this
  |true=>
   obtain⟨p,H⟩:=YR (ls:=Rk c.as x) j;exact absurd E (NW.2 (ACA H B))
 .cases j:NR true k c with
  |false=>
   obtain⟨J,G,q⟩:=iA (Kt j) B;cases y:get S.bx k with
   |some L=>rw[y]at q;subst q;rfl|none=>
    rw[y]at q;subst q;have:=I.bx k _ G E;rw[y]at this;cases this
  |true=>
   obtain⟨p,H⟩:=YR (ls:=Rk c.as x) j;exact absurd E (NW.2 (AB9 H B))
theorem D3:∀{x:GN R} {S:St} {K:Ex->St->Option ρ} {r:ρ} {Q:Ex->Lv.St->Prop},G7 x S K=some r->(∀e S',BT S S'->K e S'=some r->Q e (S'.fg R))->wp I8 x.er (S.fg R) Q
 |.skip,S,K,r,Q,h,hQ=>hQ _ _ (BT.refl _) h|.region ops E4,S,K,r,Q,h,hQ=>by
  obtain⟨S',O,E,H⟩:=AOa (show evs ops S _=some r from h);rw[Eg]at E;refine H _ ⟨S'.clo 6 (S'.pin++E4),?_⟩;rw[<-Ud];exact hQ _ _ (O.trans (BT.clean _ _)) E
 |.Tm x E4,S,K,r,Q,h,hQ=>by
  obtain⟨S',O,E,H⟩:=XZ (show evr x S _=some r from h);rw[Eg]at E;refine H _ ⟨S'.clo 6 (S'.pin++E4),?_⟩;rw[<-Ud];exact hQ _ _ (O.trans (BT.clean _ _)) E
 |.seq a b,S,K,r,Q,h,hQ=>by
  refine D3 (x:=a) (show G7 a S _=some r from h) fun e S' q j=>?_
  cases e with
  |n=>exact D3 (x:=b) j fun e S2 B E=>hQ _ _ (q.trans B) E|x i=>exact hQ _ _ q j|r=>exact hQ _ _ q j
 |.join c a b,S,K,r,Q,h,hQ=>by
  refine D3 (x:=a) (show G7 a S _=some r from h) fun e S' q j=>?_
  cases e with
  |n=>
   dsimp only at j ⊢;split at j
   .rename_i x hx;have j:(c.st S S' x).FV (fun S=>G7 b S K)=some r:=by rw[<-ASf (fun x=>(c.st S S' x).FV fun S=>G7 b S K) x];exact j
    rw[Eg]at j;obtain⟨H,_,_⟩:=qP (R:=R) hx (Ee.of q);rw[<-H];refine D3 (x:=b) j fun e S2 B E=>hQ _ _ ?_ E
    exact(BT.st q).trans B
   .cases j
  |x i=>exact hQ _ _ q j|r=>exact hQ _ _ q j
 |.cond c kt ke t e,S,K,r,Q,h,hQ=>by
  simp only[G7]at h;split at h
  .rename_i b hb;have X:=No (R:=R) hb;simp only[YO.er,U.fg]at X;rcases AFz h with ⟨rfl,j⟩|⟨rfl,j⟩
   .rw[Eg]at j;refine⟨true,X,S.clo 6 (S.pin++kt),?_⟩;rw[AX rfl,<-Ud];exact D3 (x:=t) j fun e S2 B E=>hQ _ _ ((BT.clean _ _).trans B) E
   .rw[Eg]at j;refine⟨false,X,S.clo 6 (S.pin++ke),?_⟩;rw[AU (by simp),<-Ud];exact D3 (x:=e) j fun e S2 B E=>hQ _ _ ((BT.clean _ _).trans B) E
  .cases h
 |.block id b,S,K,r,Q,h,hQ=>by
  refine D3 (x:=b) (show G7 b S _=some r from h) fun e S' q j=>?_
  cases e with
  |n=>exact hQ _ _ q j|x i=>
   dsimp only at j ⊢;split at j
   .rename_i hi;rw[AX hi];exact hQ _ _ q j
   .rename_i hi;rw[AU hi];exact hQ _ _ q j
  |r=>exact hQ _ _ q j
 |.loop c b,S,K,r,Q,h,hQ=>by
  simp only[G7]at h;split at h
  .rename_i x0 J;have key:∀(n:Nat) (x:TA c.as),A3 (fun L x=>(c.st S S x).FV fun S1=>G7 b S1 fun e S'=>match e with
    |.n=>if NL S.tm S'.tm=true/\NL S.bx S'.bx=true then (match c.fit S S' with|some y=>L y|none=>none) else none
    |.x i=>K (.x i) S'|.r=>K .r S') n x=some r->AJW (wp I8 b.er) n ((c.st S S x).fg R) Q:=by
    intro n
    induction n with
    |zero=>intro x h;rw[AJX]at h;cases h
    |succ n Z=>
     intro x h;rw[Dh]at h;rw[Eg]at h;refine D3 (x:=b) h fun e S' q j=>?_
     have hS:BT S (c.st S S x):=BT.st (BT.refl S);cases e with
     |n=>
      dsimp only at j ⊢;split at j
      .rename_i G;split at j
       .rename_i y Y;rw[<-nE Y (Ee.round q) G.1 G.2];exact Z y j
       .cases j
      .cases j
     |x i=>exact hQ _ _ (hS.trans q) j|r=>exact hQ _ _ (hS.trans q) j
   refine⟨big,?_⟩;obtain⟨H,_,_⟩:=qP (R:=R) J (Ee.of (BT.refl S));rw[<-H];exact key big x0 h
  .cases h
 |.exit id,S,K,r,Q,h,hQ=>hQ _ _ (BT.refl _) h|.ret,S,K,r,Q,h,hQ=>hQ _ _ (BT.refl _) h|.scope b,S,K,r,Q,h,hQ=>D3 (x:=b) (show G7 b S K=some r from h) hQ|.or a b,S,K,r,Q,h,hQ=>(AYl (show orX (G7 a S K) (G7 b S K)=some r from h)).elim (fun h=>.inl (D3 (x:=a) h hQ)) fun h=>.inr (D3 (x:=b) h hQ)|.dead,S,K,r,Q,h,hQ=>by cases h
 |.AWf c b,S00,K,r,Q,h,hQ=>by
  refine⟨big+1,?_⟩;refine D3 (x:=b) (show G7 b S00 _=some r from h) fun e S I h=>?_
  cases e with
  |n=>
   dsimp only at h ⊢;split at h
   .rename_i x0 J;have key:∀(n:Nat) (x:TA c.as),A3 (fun L x=>(c.st S S x).FV fun S1=>G7 b S1 fun e S'=>match e with
     |.n=>if NL S.tm S'.tm=true/\NL S.bx S'.bx=true then (match c.fit S S' with|some y=>L y|none=>none) else none
     |.x i=>K (.x i) S'|.r=>K .r S') n x=some r->AJW (wp I8 b.er) n ((c.st S S x).fg R) Q:=by
     intro n
     induction n with
     |zero=>intro x h;rw[AJX]at h;cases h
     |succ n Z=>
      intro x h;rw[Dh]at h;rw[Eg]at h;refine D3 (x:=b) h fun e S' q j=>?_
      have hS:BT S (c.st S S x):=BT.st (BT.refl S);cases e with
      |n=>
       dsimp only at j ⊢;split at j
       .rename_i G;split at j
        .rename_i y Y;rw[<-nE Y (Ee.round q) G.1 G.2];exact Z y j
        .cases j
       .cases j
      |x i=>exact hQ _ _ (I.trans (hS.trans q)) j|r=>exact hQ _ _ (I.trans (hS.trans q)) j
    obtain⟨H,_,_⟩:=qP (R:=R) J (Ee.of (BT.refl S));rw[<-H];exact key big x0 h
   .cases h
  |x i=>exact hQ _ _ I h|r=>exact hQ _ _ I h
end
end Y
end Lv
namespace Lv
open Go (IntKind BinOp UnOp)
namespace Y
section
variable{R:List GF}{ρ:Type}
def AZZ:C->Bool|.st _=>true|.un _=>true|_=>false
def va:List (Bool×C)->Bool| []=>true|(true,_)::r=>va r|(false,c)::r=>(!AZZ c&&decide (c≠.m))&&va r
def ABt:List PK->Bool| []=>true|.f _ l::r=>va l&&ABt r|_::r=>ABt r
theorem pI(i:Nat):∀(l:List (Bool×C)) (x:oe l),va l=true->Lv.Nx i (Qv l x)=some ((Nx i l x).map Cap.fg)
 | [],x,h=>rfl|(true,c)::l,x,h=>by
  have j:=pI i l x.2 h;simp only[Qv,Lv.Nx,Nx,AJ,Cap.fg];rw[j,E2];rfl
 |(false,c)::l,x,h=>by
  simp only[va,AF,BG,decide_eq_true_eq]at h;have j:=pI i l x.2 h.2;cases c with
  |st n=>cases h.1.1
  |un n=>cases h.1.1
  |m=>exact(h.1.2 rfl).elim|_=>
   simp only[Qv,enc,Lv.Nx,Nx,cells,AJ,j];rfl
theorem AUk(c:C)(x:c.D):Fp (shC c) (enc c x).length=true:=by
 rw[Nc];cases c<;>rfl
theorem NA:∀(ks:List PK) (i:Nat) (fs:List Nat) (a:A ks) (S:St),ABt ks=true->fs.map (fun n=>(R[n]?).map GF.x)=(fX ks).map some ->
 Lv.initK i (ks.map PK.md) (aVs ks a) (S.fg R)=some ((initK i fs ks a S).fg R)
 | [],i,fs,a,S,_,_=>rfl|k::ks,i,fs,a,S,B,y=>by
  obtain⟨j,E⟩:=a;cases k with
  |v c=>
   have hE:enc c j=(cells c j).map U.fg:=E2 c j;have q:=NA ks (i+1) fs E (S.JX i (shC c) ((cells c j).map (D6 i))) B y;rw[K9,O0,<-hE]at q;exact q
  |p c=>
   have hE:enc c j=(cells c j).map U.fg:=E2 c j;have q:=NA ks (i+1) fs E (S.JX i .one [.vp (.old i) (cells c j)]) B y;rw[K9]at q;simp only[AJ,BW,AS.fg]at q;rw[<-hE]at q;exact q
  |b c=>
   have hE:enc c j=(cells c j).map U.fg:=E2 c j;have q:=NA ks (i+1) fs E (let S1:=(S.JX i .one [.bp i 0]).NT i ((cells c j).map (D6 i));⟨S1.tm,S1.bx,i::S1.pin,S1.nv⟩) B y;have e:(let S1:=(S.JX i .one [.bp i 0]).NT i ((cells c j).map (D6 i));(⟨S1.tm,S1.bx,i::S1.pin,S1.nv⟩:St)).fg R={ S.fg R with tm:=Lv.put (S.fg R).tm i ⟨.one,[.bp i 0]⟩,bx:=Lv.put (S.fg R).bx i ((enc c j).map (Lv.D6 i)),pin:=i::(S.fg R).pin}:=by
    have G:=Sn (R:=R) (S.JX i .one [.bp i 0]) i ((cells c j).map (D6 i));rw[K9,O0,<-hE]at G;have H:=congrArg Lv.St.tm G;have I:=congrArg Lv.St.bx G;simp only[St.fg]at H I ⊢;rw[H,I];rfl
   rw[e]at q;exact q
  |o c=>
   have hE:enc c j=(cells c j).map U.fg:=E2 c j;have q:=NA ks (i+1) fs E (S.JX i (shC c) ((cells c j).map JJ)) B y;rw[K9,YU,<-hE]at q;exact q
  |m c=>
   have hE:enc c j=(cells c j).map U.fg:=E2 c j;have q:=NA ks (i+1) fs E (let S1:=S.JX i (shC c) ((cells c j).map JJ);⟨S1.tm,S1.bx,i::S1.pin,S1.nv⟩) B y;have e:(let S1:=S.JX i (shC c) ((cells c j).map JJ);(⟨S1.tm,S1.bx,i::S1.pin,S1.nv⟩:St)).fg R={ S.fg R with tm:=Lv.put (S.fg R).tm i ⟨shC c,(enc c j).map Lv.JJ⟩,pin:=i::(S.fg R).pin}:=by
    have G:=K9 (R:=R) S i (shC c) ((cells c j).map JJ);rw[YU,<-hE]at G;have H:=congrArg Lv.St.tm G;simp only[St.fg]at H ⊢;rw[H];rfl
   rw[e]at q;have O:Fp (shC c) (enc c j).length=true:=AUk c j;show (if Fp (shC c) (enc c j).length=true then _ else none)=_;rw[AX O];exact q
  |f x l=>
   simp only[ABt,AF]at B;cases fs with
   |nil=>simp[fX]at y|cons n fs=>
    simp only[fX,AJ,CY]at y;have Q:xr R n=x:=by
     unfold xr;cases J:R[n]? with
     |none=>rw[J]at y;simp at y|some g=>rw[J]at y;simpa using y.1
    have q:=NA ks (i+1) fs E (S.JX i .one [.fn n (Nx i l j)]) B.2 y.2;rw[K9]at q;have L:Lv.Nx i (Qv l j)=some ((Nx i l j).map Cap.fg):=pI i l j B.1;show (match Lv.Nx i (Qv l j) with|some ls=>Lv.initK (i+1) _ _ _|none=>none)=_;rw[L];simp only[AJ,BW,AS.fg,Q]at q;exact q
theorem MT:∀{rs:List Hy} {S:St} {K:List (Option Nat)->List AS->Option ρ} {r:ρ},LS rs S K=some r->∃ns ls,Lv.LS rs (S.fg R)=some (ns,ls.map (AS.fg R))/\K ns ls=some r
 | [],S,K,r,h=>⟨[],[],rfl,h⟩|.tmp t::rs,S,K,r,h=>by
  simp only[LS]at h;split at h
  .rename_i e y;split at h
   .rename_i E;obtain⟨ns,ls,j,q⟩:=MT h;refine⟨_,_,?_,q⟩;have:=Ke (R:=R) y;simp only[YO.er]at this;simp only[Lv.LS,this,j,En.fg,Aj,E,if_true,Cr];rfl
   .cases h
  .cases h
 |.cell t n::rs,S,K,r,h=>by
  simp only[LS]at h;split at h
  .rename_i id o y;obtain⟨ls',j,h⟩:=P9 (R:=R) h;obtain⟨ns,ls,q,B⟩:=MT h;refine⟨_,_,?_,B⟩;have:=Ej (R:=R) y;simp only[YO.er,AS.fg]at this j;simp only[Lv.LS,this,j,q,Cr]
  .cases h
 |.bx _::rs,S,K,r,h=>by cases h
 |.vw _ _::rs,S,K,r,h=>by cases h
 |.un _ _::rs,S,K,r,h=>by cases h
theorem ni:∀{ls:List AS},ND ls=true->Lv.ND (ls.map (AS.fg R))=true
 | [],_=>rfl|l::ls,h=>by
  simp only[ND,AF]at h;simp only[AJ,Lv.ND,AF];refine⟨?_,ni h.2⟩;have j:=h.1
  grind[AS.fg,ic]
theorem AWt{rk:RK}{rs:List Hy}{S:St}{K:St->List U->Option ρ}{r:ρ}(h:Zq rk rs S K=some r):∃S' us,Lv.Zq rs (S.fg R)=some (S'.fg R,rk.sh,us.map U.fg)/\K S' us=some r:=by
 unfold Zq at h;split at h
 .rename_i k c t;split at h
  .rename_i id y;have j:=Ej (R:=R) y;simp only[YO.er,AS.fg]at j;split at h
   .rename_i ls Y;split at h
    .cases h
    .rename_i L;split at h
     .rename_i E;split at h
      .rename_i us G;subst E;refine⟨S,us,?_,h⟩;have O:id∉(S.fg R).pin:=fun X=>L (mem_iff.2 X)
       simp only[Lv.Zq,j,Ol,Y,An,NB,OQ G];rw[AU O];rfl
      .cases h
     .cases h
   .cases h
  .cases h
 .rename_i k c t k';split at h
  .rename_i E;subst E;split at h
   .rename_i k'' c' xs y;have j:=Ej (R:=R) y;simp only[YO.er,AS.fg]at j;split at h
    .rename_i E;subst E;exact⟨S,_,by simp only[Lv.Zq,j,if_true];rfl,h⟩
    .cases h
   .rename_i q sub y;have j:=Ej (R:=R) y;simp only[YO.er,AS.fg]at j;split at h
    .rename_i x Z;refine⟨_,_,?_,h⟩;simp only[Lv.Zq,j,JC,Z,An,AS.fg,UB,AJ,BW,Wt];rfl
    .cases h
   .cases h
  .cases h
 .rename_i n c cs t n' r' rs;split at h
  .rename_i J;subst J;split at h
   .rename_i id o y;have B:=Ej (R:=R) y;obtain⟨ls',Q,h⟩:=P9 (R:=R) h;simp only[YO.er,AS.fg]at B Q;split at h
    .rename_i L;obtain⟨ns,ls,j,h⟩:=MT (R:=R) h;split at h
     .rename_i I;split at h
      .rename_i S' us G;obtain⟨H,_⟩:=K8 (R:=R) G;refine⟨S',_,?_,h⟩;simp only[Lv.Zq,B,Q];rw[AX (ni L),j];dsimp only;rw[H,I];simp only[Cr,GU];rfl
      .cases h
     .cases h
    .cases h
   .cases h
  .cases h
 .rename_i cs;obtain⟨ns,ls,j,h⟩:=MT (R:=R) h;split at h
  .rename_i I;split at h
   .rename_i S' us G;obtain⟨H,_⟩:=K8 (R:=R) G;refine⟨S',us,?_,h⟩;have:Lv.Zq rs (S.fg R)=match Lv.LS rs (S.fg R) with
     |some (ns,ls)=>(match Lv.DX (S.fg R) ls with|some (S',cs)=>some (S',ACP ns,cs)|none=>none)
     |none=>none:=by
     rcases rs with _|⟨a,_|⟨b,rs⟩⟩
     .rfl
     .cases a<;>first|rfl|(simp[Lv.LS]at j)
     .cases a<;>first|rfl|(simp[Lv.LS]at j)
    rw[this,j];dsimp only;rw[H,I];rfl
   .cases h
  .cases h
 .cases h
theorem AYn{l:AS}{u:U}(h:owT l=some u):Lv.owT (AS.fg R l)=some u.fg:=by
 cases l with
 |ow x=>cases h;rfl
 |t x=>
  grind[owT,AS.fg,Lv.owT,ic]
 |_=>cases h
theorem AJe:∀{ls:List AS} {us:List U},Zp ls=some us->Lv.Zp (ls.map (AS.fg R))=some (us.map U.fg)/\us.length=ls.length
 | [],us,h=>by cases h;exact⟨rfl,rfl⟩
 |l::ls,us,h=>by
  simp only[Zp]at h;split at h
  .rename_i x xs j q;cases h;obtain⟨y,B⟩:=AJe q;simp only[AJ,Lv.Zp,AYn j,y,AI,B];exact⟨trivial,trivial⟩
  .cases h
theorem au{k:Nat}:∀{ls:List AS} {us:List U},FI k ls=some us->us.length=ls.length
 | [],us,h=>by cases h;rfl
 |l::ls,us,h=>by
  simp only[FI]at h;split at h
  .rename_i x xs q j;cases h;simp only[AI,au j]
  .cases h
def chunks:List C->List U->List (List U)| [],_=>[]|c::cs,us=>us.take c.size::chunks cs (us.drop c.size)
theorem bC:∀(cs:List C) (us:List U),(chunks cs us).length=cs.length| [],_=>rfl|c::cs,us=>by simp only[chunks,AI,bC cs]
theorem Yy:∀(cs:List C) (us:List U),us.length=TT cs->(chunks cs us).flatten=us
 | [],us,h=>by cases us with|nil=>rfl|cons u us=>cases h
 |c::cs,us,h=>by
  simp only[TT]at h;simp only[chunks,List.flatten_cons];rw[Yy cs _ (by rw[BY];omega),Ho]
theorem bB:∀(cs j:List C) (us os:List U),us.length=TT cs->chunks (cs++j) (us++os)=chunks cs us++chunks j os
 | [],j,us,os,h=>by cases us with|nil=>rfl|cons u us=>cases h
 |c::cs,j,us,os,h=>by
  simp only[TT]at h;simp only[List.cons_append,chunks];rw[List.take_append_of_le_length (by omega),List.drop_append_of_le_length (by omega),bB cs j _ os (by rw[BY];omega)]
theorem jJ:∀{cs:List C} {us:List U} {x:Tu cs},ofT cs us=some x->Pl cs x=(chunks cs us).map (List.map U.fg)
 | [],us,x,h=>rfl| [c],us,x,h=>by
  have j:ofC c us=some x:=h;show [enc c x]=_;rw[ID j];simp only[chunks,AJ,BW];rw[List.take_of_length_le (by rw[AWX j];exact Ae _)]
 |c::q::cs,us,x,h=>by
  simp only[ofT]at h;split at h
  .rename_i a b y B;cases h;show enc c a::Pl (q::cs) b=_;rw[ID y,jJ B];rfl
  .cases h
theorem Ky{S:St}:∀{ks:List PK} {i:Nat} {os:List U},Ep i ks S=some os->Lv.Ep i (ks.map PK.md) (S.fg R)=some ((chunks (Kw ks) os).map (List.map U.fg))/\os.length=TT (Kw ks)
 | [],i,os,h=>by cases h;exact⟨rfl,rfl⟩
 |.b c::ks,i,os,h=>by
  simp only[Ep]at h;split at h
  .rename_i ls J B E;obtain⟨G,H⟩:=Ky (ks:=ks) E;split at h
   .rename_i q;split at h
    .rename_i us y;cases h;have j:us.length=c.size:=by rw[au y,q.2]
     have I:i∈(S.fg R).pin:=mem_iff.1 q.1;refine⟨?_,by simp only[AP,Kw,TT,j,H]⟩;simp only[AJ,PK.md,Lv.Ep,Ol,B,An,G,Kw,chunks];rw[AX I,OQ y,Cs j,Ch j];rfl
    .cases h
   .cases h
  .cases h
 |.m c::ks,i,os,h=>by
  simp only[Ep]at h;split at h
  .rename_i e J B E;obtain⟨G,H⟩:=Ky (ks:=ks) E;split at h
   .rename_i q;split at h
    .rename_i us y;cases h;obtain⟨L,O⟩:=AJe (R:=R) y;have j:us.length=c.size:=by rw[O,q.2.2]
     have I:i∈(S.fg R).pin:=mem_iff.1 q.1;refine⟨?_,by simp only[AP,Kw,TT,j,H]⟩;simp only[AJ,PK.md,Lv.Ep,Vx,B,An,G,Kw,chunks,Ent.fg,Aj];rw[AX ⟨I,q.2.1⟩,L,Cs j,Ch j];rfl
    .cases h
   .cases h
  .cases h
 |.v c::ks,i,os,h=>Ky (ks:=ks) h|.p c::ks,i,os,h=>Ky (ks:=ks) h|.o c::ks,i,os,h=>Ky (ks:=ks) h|.f x l::ks,i,os,h=>Ky (ks:=ks) h
theorem AAw:∀(cs:List C) (x:Tu cs),(Pl cs x).map List.length=cs.map C.size
 | [],x=>rfl| [c],x=>congrArg (fun n=>[n]) (Nc c x)|c::j::cs,x=>by
  obtain⟨a,b⟩:=x;show (enc c a).length::(Pl (j::cs) b).map List.length=_;rw[AAw (j::cs) b,Nc];rfl
theorem Kx:∀(ks:List PK) (a:A ks) (os:List (List T)),os.map List.length=(Kw ks).map C.size->Lv.GD (ks.map PK.md) (aVs ks a) os=true
 | [],a,[],h=>rfl| [],a,o::os,h=>by cases h
 |.b c::ks,a,[],h=>by cases h
 |.b c::ks,a,o::os,h=>by
  obtain⟨j,q⟩:=a;simp only[Kw,AJ,CY]at h;have y:(enc c j).length=c.size:=Nc c j;show (o.length==(enc c j).length&&Lv.GD (ks.map PK.md) (aVs ks q) os)=true;rw[y,h.1,Kx ks q os h.2];simp
 |.m c::ks,a,[],h=>by cases h
 |.m c::ks,a,o::os,h=>by
  simp only[Kw,AJ,CY]at h;exact Kx ks a.2 os h.2
 |.v c::ks,a,os,h=>Kx ks a.2 os h|.p c::ks,a,os,h=>Kx ks a.2 os h|.o c::ks,a,os,h=>Kx ks a.2 os h|.f x l::ks,a,os,h=>Kx ks a.2 os h
end
def YF.er(f:YF):CF:=.mk (f.ps.map PK.md) f.rs f.body.er
theorem ADJ{f:YF}{S:St}{r:Tu (f.rk.cs++Kw f.ps)}(h:fin f.ps f.rk f.rs S=some r) :
 Lv.fin (f.ps.map PK.md) f.rs (S.fg f.R) f.rk.sh ((Pl _ r).take f.rk.cs.length).flatten ((Pl _ r).drop f.rk.cs.length):=by
 unfold fin at h;obtain⟨S',us,B,h⟩:=AWt (R:=f.R) h;split at h
 .rename_i os G;split at h
  .rename_i y;obtain⟨E,H⟩:=Ky (R:=f.R) G;have q:=jJ h;rw[bB _ _ _ _ y,Cr]at q;have j:((chunks f.rk.cs us).map (List.map U.fg)).length=f.rk.cs.length:=by rw[Aj,bC]
   rw[q,Cs j,Ch j];refine⟨S'.fg f.R,?_,E⟩;rw[B,<-Jc,Yy _ _ y]
  .cases h
 .cases h
theorem YF.sound{f:YF}(q:ABt f.ps=true)(j:f.fs.map (fun n=>(f.R[n]?).map GF.x)=(fX f.ps).map some){a:A f.ps}{r:Tu (f.rk.cs++Kw f.ps)}(h:f.run a=some r) :
 I8 f.er (aVs f.ps a) f.rk.sh ((Pl _ r).take f.rk.cs.length).flatten ((Pl _ r).drop f.rk.cs.length):=by
 unfold YF.run at h;rw[Eg]at h;refine .intro ⟨_,NA (R:=f.R) f.ps 0 f.fs a ⟨[],[],[],0⟩ q j,?_,?_⟩
 .grind[D3,ADJ]
 grind[Kx,AAw,Kw,List.map_drop,List.drop_left',List.length_map]
def YF.gf(f:YF)(hp:ABt f.ps=true)(hf:f.fs.map (fun n=>(f.R[n]?).map GF.x)=(fX f.ps).map some)(d:A f.ps->Option (Tu (f.rk.cs++Kw f.ps)))(hd:∀a,f.run a=d a):GF:=
 ⟨f.er,f.ps,f.rk,d,rfl,fun a r h=>YF.sound hp hf ((hd a).trans h)⟩
end Y
end Lv
namespace Lv
open Y
open Go
def kq(c:C)(xs:List c.D)(i:Int)(ys:List c.D):Option (List c.D):=
 if 0<=i/\i.toNat<=xs.length/\ys≠[]/\xs.length+ys.length<=lim then some (xs.take i.toNat++ys++xs.drop i.toNat) else none
theorem ASb{c:C}(q:TG c=true)(xs:List c.D)(i:Int)(ys:List c.D)(r:List c.D)(h:kq c xs i ys=some r) :
 I8 (.Ll (2*c.size) [.o,.v,.v]) [.o .one (enc (.l c) xs),.v .one (enc .i i),.v .one (enc (.l c) ys)] .one (enc (.l c) r) []:=by
 unfold kq at h;split at h
 .rename_i j;cases h;intro Rn hRn;refine hRn _ _ _ _ _ ?_;show S8 (2*c.size) _ _ _ _;unfold S8;refine⟨by omega,?_⟩;rw[AX (by omega)];refine⟨_,xs.map (enc c),_,ys.map (enc c),i,rfl,rfl,?_,rfl,?_,IX q _,IX q _,j.1,by simpa using j.2.1,by simpa using j.2.2.1,by simpa using j.2.2.2,rfl,?_,rfl⟩
  .simp[eOf]
  .simp[eOf]
  .show [T.sl c.size ((xs.take i.toNat++ys++xs.drop i.toNat).map (enc c))]=_;simp[Cj,CV]
 .cases h
def AYN(c:C)(hf:TG c=true):GF:=
 ⟨.Ll (2*c.size) [.o,.v,.v],[.o (.l c),.v .i,.v (.l c)],.ret [.l c],fun a=>kq c a.1 a.2.1 a.2.2.1,rfl,fun a r h=>ASb hf _ _ _ r h⟩
def AAs(c:C)(xs:List c.D)(i j:Int):Option (List c.D):=
 if 0<=i/\i<j/\j<=xs.length then some (xs.take i.toNat++xs.drop j.toNat) else none
theorem AOP{c:C}(E:TG c=true)(y:decide (0<c.size)=true)(xs:List c.D)(i j:Int)(r:List c.D)(h:AAs c xs i j=some r) :
 I8 (.Ll (2*c.size+1) [.o,.v,.v]) [.o .one (enc (.l c) xs),.v .one (enc .i i),.v .one (enc .i j)] .one (enc (.l c) r) []:=by
 unfold AAs at h;split at h
 .rename_i q;cases h;intro Rn hRn;refine hRn _ _ _ _ _ ?_;show S8 (2*c.size+1) _ _ _ _;unfold S8;have B:(2*c.size+1) / 2=c.size:=by omega
  have y:=of_decide_eq_true y;refine⟨by omega,?_⟩;rw[AU (by omega),B];refine⟨xs.map (enc c),i,j,rfl,IX E _,q.1,q.2.1,by simpa using q.2.2,rfl,?_,rfl⟩;show [T.sl c.size ((xs.take i.toNat++xs.drop j.toNat).map (enc c))]=_;simp[Cj,CV]
 .cases h
def AYC(c:C)(hf:TG c=true)(hs:decide (0<c.size)=true):GF:=
 ⟨.Ll (2*c.size+1) [.o,.v,.v],[.o (.l c),.v .i,.v .i],.ret [.l c],fun a=>AAs c a.1 a.2.1 a.2.2.1,rfl,fun a r h=>AOP hf hs _ _ _ r h⟩
structure vE(ps:List PK)(rk:RK) where
 x:CF
 d:A ps->Option (Tu (rk.cs++Kw ps))
 ms:EJ x=ps.map PK.md
 ok:∀a r,d a=some r->I8 x (aVs ps a) rk.sh ((Pl _ r).take rk.cs.length).flatten ((Pl _ r).drop rk.cs.length)
def vE.gf{ps:List PK}{rk:RK}(r:vE ps rk):GF:=⟨r.x,ps,rk,r.d,r.ms,r.ok⟩
def vE.of(g:GF):vE g.ps g.rk:=⟨g.x,g.d,g.ms,g.ok⟩
def vE.nil(ps:List PK)(rk:RK):vE ps rk:=⟨.Ll 1 (ps.map PK.md),fun _=>none,rfl,fun _ _ h=>by cases h⟩
end Lv
namespace Lv
open Go (IntKind BinOp UnOp)
section
variable{a b c d e f g h:Type}
def Bm(k:a->h)(x:a×b):h:=k x.1
def Aq(k:a->b->h)(x:a×b×c):h:=k x.1 x.2.1
def GI(k:a->b->c->h)(x:a×b×c×d):h:=k x.1 x.2.1 x.2.2.1
def UQ(k:a->b->c->d->h)(x:a×b×c×d×e):h:=k x.1 x.2.1 x.2.2.1 x.2.2.2.1
def AVD(k:a->b->c->d->e->h)(x:a×b×c×d×e×f):h:=k x.1 x.2.1 x.2.2.1 x.2.2.2.1 x.2.2.2.2.1
def AFp(k:a->b->c->d->e->f->h)(x:a×b×c×d×e×f×g):h:=k x.1 x.2.1 x.2.2.1 x.2.2.2.1 x.2.2.2.2.1 x.2.2.2.2.2.1
end
namespace Y
def YF.EF(f:YF)(d:A f.ps->Option (Tu (f.rk.cs++Kw f.ps)))(hd:∀a,f.run a=d a:=by intro a;kernel_rfl)(hp:ABt f.ps=true:=by rfl)(hf:f.fs.map (fun n=>(f.R[n]?).map GF.x)=(fX f.ps).map some:=by rfl):GF:=f.gf hp hf d hd
end Y
def OI{γ:Type}(x y:Bl)(X:Option γ):Option γ:=eqv x.Data y.Data (eqv x.Safe y.Safe X)
theorem LW{γ:Type}(x:Bl)(X:Option γ):OI x x X=X:=by unfold OI;simp only[Ce]
def QU{γ:Type}(x y:Bz)(X:Option γ):Option γ:=eqv x.Code y.Code (eqv x.Ids y.Ids X)
theorem uk{γ:Type}(x:Bz)(X:Option γ):QU x x X=X:=by unfold QU;simp only[Ce]
def ur{γ:Type}(x y:DN)(X:Option γ):Option γ:=eqv x.Rl y.Rl (eqv x.at_ y.at_ (eqv x.vQ y.vQ X))
theorem uu{γ:Type}(x:DN)(X:Option γ):ur x x X=X:=by unfold ur;simp only[Ce]
def AJ3{γ:Type}(x y:PX)(X:Option γ):Option γ:=eqv x.b_ y.b_ (eqv x.i_ y.i_ (eqv x.h_ y.h_ X))
theorem uw{γ:Type}(x:PX)(X:Option γ):AJ3 x x X=X:=by unfold AJ3;simp only[Ce]
def ui{γ:Type}(x y:Af)(X:Option γ):Option γ:=eqv x.Level y.Level (eqv x.Az y.Az (eqv x.Id y.Id (eqv x.BA y.BA X)))
theorem uj{γ:Type}(x:Af)(X:Option γ):ui x x X=X:=by unfold ui;simp only[Ce]
def AXn{γ:Type}(x y:Bp)(X:Option γ):Option γ:=eqv x.Kind y.Kind (eqv x.Id y.Id (eqv x.AY y.AY (eqv x.Bi y.Bi (eqv x.BA y.BA (eqv x.Co y.Co X)))))
theorem QV{γ:Type}(x:Bp)(X:Option γ):AXn x x X=X:=by unfold AXn;simp only[Ce]
def um{γ:Type}(x y:Bk)(X:Option γ):Option γ:=eqv x.Log.Data y.Log.Data (eqv x.Log.Safe y.Log.Safe (eqv x.EZ.Data y.EZ.Data (eqv x.EZ.Safe y.EZ.Safe (eqv x.Odd.Data y.Odd.Data (eqv x.Odd.Safe y.Odd.Safe X)))))
theorem MX{γ:Type}(x:Bk)(X:Option γ):um x x X=X:=by unfold um;simp only[Ce]
def CU{γ:Type}(x y:Aa)(X:Option γ):Option γ:=eqv x.AW y.AW (eqv x.Cb y.Cb (eqv x.Room y.Room (eqv x.BA y.BA (eqv x.CG y.CG (eqv x.B1 y.B1 (eqv x.Rest y.Rest (eqv x.Ca y.Ca (eqv x.Cx y.Cx X))))))))
theorem KL{γ:Type}(x:Aa)(X:Option γ):CU x x X=X:=by unfold CU;simp only[Ce]
def KK{γ:Type}(x y:AN)(X:Option γ):Option γ:=eqv x.Id y.Id (eqv x.AY y.AY (eqv x.Bi y.Bi (eqv x.BA y.BA (eqv x.Co y.Co (eqv x.Since y.Since (eqv x.Az y.Az (eqv x.State y.State (eqv x.Cq y.Cq (eqv x.DH y.DH X)))))))))
theorem Fq{γ:Type}(x:AN)(X:Option γ):KK x x X=X:=by unfold KK;simp only[Ce]
def JR{γ:Type}(x y:AE)(X:Option γ):Option γ:=eqv x.AQ.AW y.AQ.AW (eqv x.AQ.Cb y.AQ.Cb (eqv x.AQ.Room y.AQ.Room (eqv x.AQ.BA y.AQ.BA (eqv x.AQ.CG y.AQ.CG (eqv x.AQ.B1 y.AQ.B1 (eqv x.AQ.Rest y.AQ.Rest (eqv x.AQ.Ca y.AQ.Ca (eqv x.AQ.Cx y.AQ.Cx (eqv x.Now y.Now (eqv x.Az y.Az (eqv x.AG y.AG (eqv x.AH y.AH (eqv x.BF y.BF (eqv x.BC y.BC X))))))))))))))
theorem Hm{γ:Type}(x:AE)(X:Option γ):JR x x X=X:=by unfold JR;simp only[Ce]
def kP{γ:Type}(x y:A7)(X:Option γ):Option γ:=eqv x.A2.AQ.AW y.A2.AQ.AW (eqv x.A2.AQ.Cb y.A2.AQ.Cb (eqv x.A2.AQ.Room y.A2.AQ.Room (eqv x.A2.AQ.BA y.A2.AQ.BA (eqv x.A2.AQ.CG y.A2.AQ.CG (eqv x.A2.AQ.B1 y.A2.AQ.B1 (eqv x.A2.AQ.Rest y.A2.AQ.Rest (eqv x.A2.AQ.Ca y.A2.AQ.Ca (eqv x.A2.AQ.Cx y.A2.AQ.Cx (eqv x.A2.Now y.A2.Now (eqv x.A2.Az y.A2.Az (eqv x.A2.AG y.A2.AG (eqv x.A2.AH y.A2.AH (eqv x.A2.BF y.A2.BF (eqv x.A2.BC y.A2.BC (eqv x.Bg.Log.Data y.Bg.Log.Data (eqv x.Bg.Log.Safe y.Bg.Log.Safe (eqv x.Bg.EZ.Data y.Bg.EZ.Data (eqv x.Bg.EZ.Safe y.Bg.EZ.Safe (eqv x.Bg.Odd.Data y.Bg.Odd.Data (eqv x.Bg.Odd.Safe y.Bg.Odd.Safe (eqv x.Seq y.Seq (eqv x.Laid y.Laid X))))))))))))))))))))))
theorem JM{γ:Type}(x:A7)(X:Option γ):kP x x X=X:=by unfold kP;simp only[Ce]
def uo{γ:Type}(x y:Bu)(X:Option γ):Option γ:=eqv x.Ac.A2.AQ.AW y.Ac.A2.AQ.AW (eqv x.Ac.A2.AQ.Cb y.Ac.A2.AQ.Cb (eqv x.Ac.A2.AQ.Room y.Ac.A2.AQ.Room (eqv x.Ac.A2.AQ.BA y.Ac.A2.AQ.BA (eqv x.Ac.A2.AQ.CG y.Ac.A2.AQ.CG (eqv x.Ac.A2.AQ.B1 y.Ac.A2.AQ.B1 (eqv x.Ac.A2.AQ.Rest y.Ac.A2.AQ.Rest (eqv x.Ac.A2.AQ.Ca y.Ac.A2.AQ.Ca (eqv x.Ac.A2.AQ.Cx y.Ac.A2.AQ.Cx (eqv x.Ac.A2.Now y.Ac.A2.Now (eqv x.Ac.A2.Az y.Ac.A2.Az (eqv x.Ac.A2.AG y.Ac.A2.AG (eqv x.Ac.A2.AH y.Ac.A2.AH (eqv x.Ac.A2.BF y.Ac.A2.BF (eqv x.Ac.A2.BC y.Ac.A2.BC (eqv x.Ac.Bg.Log.Data y.Ac.Bg.Log.Data (eqv x.Ac.Bg.Log.Safe y.Ac.Bg.Log.Safe (eqv x.Ac.Bg.EZ.Data y.Ac.Bg.EZ.Data (eqv x.Ac.Bg.EZ.Safe y.Ac.Bg.EZ.Safe (eqv x.Ac.Bg.Odd.Data y.Ac.Bg.Odd.Data (eqv x.Ac.Bg.Odd.Safe y.Ac.Bg.Odd.Safe (eqv x.Ac.Seq y.Ac.Seq (eqv x.Ac.Laid y.Ac.Laid (eqv x.GL y.GL (eqv x.Cy y.Cy (eqv x.G0 y.G0 X)))))))))))))))))))))))))
theorem uq{γ:Type}(x:Bu)(X:Option γ):uo x x X=X:=by unfold uo;simp only[Ce]
def EB:List U:=[.nil,.int .i64 0,.int .i64 0,.int .i64 0,.int .i64 0,.int .i64 0,.int .i64 0,.int .i64 0,.int .i64 0,.int .i64 0,.int .i64 0,.nil,.nil,.nil,.nil]
def AXC:List U:=[.int .i64 0,.int .i64 0,.int .i64 0,.int .i64 0,.int .i64 0,.int .i64 0,.int .i64 0,.int .i64 0,.int .i64 0,.int .i64 0]
def AXB:List U:=[.int .i64 0,.int .i64 0,.int .i64 0,.int .i64 0,.int .i64 0,.nil,.nil]
def ev2{α0 α1 γ:Type}(a0:α0)(a1:α1)(X:Option γ):Option γ:=eqv a0 a0 (eqv a1 a1 X)
theorem Ki{α0 α1 γ:Type}(a0:α0)(j:α1)(X:Option γ):ev2 a0 j X=X:=by unfold ev2;simp only[Ce]
def ev3{α0 α1 α2 γ:Type}(a0:α0)(a1:α1)(a2:α2)(X:Option γ):Option γ:=eqv a0 a0 (eqv a1 a1 (eqv a2 a2 X))
theorem Kj{α0 α1 α2 γ:Type}(a0:α0)(j:α1)(q:α2)(X:Option γ):ev3 a0 j q X=X:=by unfold ev3;simp only[Ce]
def ev4{α0 α1 α2 α3 γ:Type}(a0:α0)(a1:α1)(a2:α2)(a3:α3)(X:Option γ):Option γ:=eqv a0 a0 (eqv a1 a1 (eqv a2 a2 (eqv a3 a3 X)))
theorem Kk{α0 α1 α2 α3 γ:Type}(a0:α0)(j:α1)(q:α2)(a3:α3)(X:Option γ):ev4 a0 j q a3 X=X:=by unfold ev4;simp only[Ce]
def ev5{α0 α1 α2 α3 α4 γ:Type}(a0:α0)(a1:α1)(a2:α2)(a3:α3)(a4:α4)(X:Option γ):Option γ:=eqv a0 a0 (eqv a1 a1 (eqv a2 a2 (eqv a3 a3 (eqv a4 a4 X))))
theorem Kl{α0 α1 α2 α3 α4 γ:Type}(a0:α0)(j:α1)(q:α2)(a3:α3)(a4:α4)(X:Option γ):ev5 a0 j q a3 a4 X=X:=by unfold ev5;simp only[Ce]
def ev6{α0 α1 α2 α3 α4 α5 γ:Type}(a0:α0)(a1:α1)(a2:α2)(a3:α3)(a4:α4)(a5:α5)(X:Option γ):Option γ:=eqv a0 a0 (eqv a1 a1 (eqv a2 a2 (eqv a3 a3 (eqv a4 a4 (eqv a5 a5 X)))))
theorem J4{α0 α1 α2 α3 α4 α5 γ:Type}(a0:α0)(j:α1)(q:α2)(a3:α3)(a4:α4)(y:α5)(X:Option γ):ev6 a0 j q a3 a4 y X=X:=by unfold ev6;simp only[Ce]
def ev7{α0 α1 α2 α3 α4 α5 α6 γ:Type}(a0:α0)(a1:α1)(a2:α2)(a3:α3)(a4:α4)(a5:α5)(a6:α6)(X:Option γ):Option γ:=eqv a0 a0 (eqv a1 a1 (eqv a2 a2 (eqv a3 a3 (eqv a4 a4 (eqv a5 a5 (eqv a6 a6 X))))))
theorem Km{α0 α1 α2 α3 α4 α5 α6 γ:Type}(a0:α0)(j:α1)(q:α2)(a3:α3)(a4:α4)(y:α5)(B:α6)(X:Option γ):ev7 a0 j q a3 a4 y B X=X:=by unfold ev7;simp only[Ce]
def ev8{α0 α1 α2 α3 α4 α5 α6 α7 γ:Type}(a0:α0)(a1:α1)(a2:α2)(a3:α3)(a4:α4)(a5:α5)(a6:α6)(a7:α7)(X:Option γ):Option γ:=eqv a0 a0 (eqv a1 a1 (eqv a2 a2 (eqv a3 a3 (eqv a4 a4 (eqv a5 a5 (eqv a6 a6 (eqv a7 a7 X)))))))
theorem Kn{α0 α1 α2 α3 α4 α5 α6 α7 γ:Type}(a0:α0)(j:α1)(q:α2)(a3:α3)(a4:α4)(y:α5)(B:α6)(E:α7)(X:Option γ):ev8 a0 j q a3 a4 y B E X=X:=by unfold ev8;simp only[Ce]
def orE{ρ:Type}(a b:Option ρ):Option ρ:=match a with|some r=>some r|none=>b
def GF.orE(g:GF)(d d2:A g.ps->Option (Tu (g.rk.cs++Kw g.ps)))(hd:∀a,d a=Lv.orE (g.d a) (d2 a))
 (hk:∀a r,d2 a=some r->I8 g.x (aVs g.ps a) g.rk.sh ((Pl _ r).take g.rk.cs.length).flatten ((Pl _ r).drop g.rk.cs.length)):GF:=
 ⟨g.x,g.ps,g.rk,d,g.ms,fun a r h=>by
  rw[hd]at h;unfold Lv.orE at h;split at h
  .rename_i r' h';cases h;exact g.ok a _ h'
  .exact hk a r h⟩
namespace Y
section
variable{R:List GF}
def qn(l:List (YOp R)):List (Option (Nat×Bool)×YOp R):=l.map fun o=>(none,o)
def qf(g:Nat)(l:List (YOp R)):List (Option (Nat×Bool)×YOp R):=l.map fun o=>(some (g,false),o)
def qt(g:Nat)(l:List (YOp R)):List (Option (Nat×Bool)×YOp R):=l.map fun o=>(some (g,true),o)
def qr(l:List (List (Option (Nat×Bool)×YOp R)))(E4:List Nat):GN R:=.region l.flatten E4
def q1(l:List (YOp R))(E4:List Nat):GN R:=.region (qn l) E4
def qdl(r:Bs R):Nat->List (Option (Nat×Bool)×YOp R)->Bs R|_,[]=>r|i,o::l=>.op i o.1 [] o.2 (qdl r (i+1) l)
def qd(i:Nat)(l:List (List (Option (Nat×Bool)×YOp R)))(r:Bs R):Bs R:=qdl r i l.flatten
def qm(d s:Nat):YOp R:=.mv d (.tmp s)
def qa(d s:Nat):YOp R:=.as d (.tmp s)
def qo(d o s:Nat):YOp R:=.fa d o (.tmp s)
def ql(d s:Nat):YOp R:=.ld d none (.tmp s)
def qL(d n s:Nat):YOp R:=.ld d (some n) (.tmp s)
def qb(d:Nat)(o:BinOp)(x y:Nat):YOp R:=.bin d .num o (.tmp x) (.tmp y)
def qi(d:Nat)(o:BinOp)(x:Nat)(n:Int):YOp R:=.bin d .num o (.tmp x) (.k (.int .i64 n))
def qx(d s:Nat):YOp R:=.un d .not (.tmp s)
def qp(d c x:Nat):YOp R:=.pick d (.tmp c) (.k (.bool true)) (.tmp x)
def qq(d c x:Nat):YOp R:=.pick d (.tmp c) (.tmp x) (.k (.bool false))
def qc(d:Nat)(g:GF)(hf:([]:List Nat).map (fun n=>(R[n]?).map GF.x)=(fX g.ps).map some)(l:List Nat):YOp R:=.call d g [] hf (l.map .tmp)
def qz(d s:Nat):YOp R:=.len d (.tmp s)
def qe(d:Nat)(c:C)(x i:Nat):YOp R:=.ia d c (.tmp x) (.tmp i)
def qk(d:Nat)(n:Int):YOp R:=.mv d (.k (.int .i64 n))
def qK(d:Nat)(n:Int):YOp R:=.as d (.k (.int .i64 n))
def qB(d:Nat)(b:Bool):YOp R:=.as d (.k (.bool b))
def qw(n x v:Nat):YOp R:=.st n (.tmp x) (.tmp v)
def qu(d s:Nat):YOp R:=.box d (.tmp s)
def qj(n:Int):YO:=.k (.int .i64 n)
instance (n:Nat):OfNat YO n:=⟨.tmp n⟩
def kpF:Nat->Nat->Nat->List Nat
 |0,_,_=>[]|f+1,i,n=>match Nat.beq n 0 with|true=>[]|false=>match Nat.testBit n 0 with|true=>i::kpF f (i+1) (n / 2)|false=>kpF f (i+1) (n / 2)
def wU:Nat->List (Nat->Nat->YOp R)->List (YOp R)|_,[]=>[]|0,f::l=>f 0 0::wU 1 l|k+1,f::l=>f (k+1) k::wU (k+2) l
def wn(d:Nat)(l:List (Nat->Nat->YOp R)):List (Option (Nat×Bool)×YOp R):=qn (wU d l)
def wf(g d:Nat)(l:List (Nat->Nat->YOp R)):List (Option (Nat×Bool)×YOp R):=qf g (wU d l)
def wt(g d:Nat)(l:List (Nat->Nat->YOp R)):List (Option (Nat×Bool)×YOp R):=qt g (wU d l)
def w1(d:Nat)(l:List (Nat->Nat->YOp R))(E4:List Nat):GN R:=q1 (wU d l) E4
def sw(d:Nat)(l:List (Nat->Nat->YOp R))(E4:List Nat)(b:GN R):GN R:=.seq (q1 (wU d l) E4) b
def sq(l:List (YOp R))(E4:List Nat)(b:GN R):GN R:=.seq (q1 l E4) b
def sr(l:List (List (Option (Nat×Bool)×YOp R)))(E4:List Nat)(b:GN R):GN R:=.seq (qr l E4) b
def wm(s d _p:Nat):YOp R:=.mv d (.tmp s)
def wM(d p:Nat):YOp R:=.mv d (.tmp p)
def wo(o s d _p:Nat):YOp R:=.fa d o (.tmp s)
def wO(o d p:Nat):YOp R:=.fa d o (.tmp p)
def wl(s d _p:Nat):YOp R:=.ld d none (.tmp s)
def wL(d p:Nat):YOp R:=.ld d none (.tmp p)
def wk(n s d _p:Nat):YOp R:=.ld d (some n) (.tmp s)
def wK(n d p:Nat):YOp R:=.ld d (some n) (.tmp p)
def wz(s d _p:Nat):YOp R:=.len d (.tmp s)
def wZ(d p:Nat):YOp R:=.len d (.tmp p)
def wx(s d _p:Nat):YOp R:=.un d .not (.tmp s)
def wX(d p:Nat):YOp R:=.un d .not (.tmp p)
def wb(o:BinOp)(x y d _p:Nat):YOp R:=.bin d .num o (.tmp x) (.tmp y)
def wB(o:BinOp)(x d p:Nat):YOp R:=.bin d .num o (.tmp x) (.tmp p)
def wi(o:BinOp)(x:Nat)(n:Int)(d _p:Nat):YOp R:=.bin d .num o (.tmp x) (.k (.int .i64 n))
def wI(o:BinOp)(n:Int)(d p:Nat):YOp R:=.bin d .num o (.tmp p) (.k (.int .i64 n))
def wr(c x d _p:Nat):YOp R:=.pick d (.tmp c) (.k (.bool true)) (.tmp x)
def wR(c d p:Nat):YOp R:=.pick d (.tmp c) (.k (.bool true)) (.tmp p)
def wq(c x d _p:Nat):YOp R:=.pick d (.tmp c) (.tmp x) (.k (.bool false))
def wQ(c d p:Nat):YOp R:=.pick d (.tmp c) (.tmp p) (.k (.bool false))
def we(c:C)(x i d _p:Nat):YOp R:=.ia d c (.tmp x) (.tmp i)
def wE(c:C)(x d p:Nat):YOp R:=.ia d c (.tmp x) (.tmp p)
def wc(g:GF)(hf:([]:List Nat).map (fun n=>(R[n]?).map GF.x)=(fX g.ps).map some)(l:List YO)(d _p:Nat):YOp R:=.call d g [] hf l
def wY(g:GF)(hf:([]:List Nat).map (fun n=>(R[n]?).map GF.x)=(fX g.ps).map some)(d p:Nat):YOp R:=.call d g [] hf [.tmp p]
def wj(n:Int)(d _p:Nat):YOp R:=.mv d (.k (.int .i64 n))
def wh(f:Nat->YOp R)(d _p:Nat):YOp R:=f d
def Kp(n:Nat):List Nat:=kpF 300 0 n
def cv(n:Nat)(c:C):Bool×Nat×Sh×List AL:=(false,n,.one,[.val c none])
def ca(n:Nat)(c:C):Bool×Nat×Sh×List AL:=(false,n,.agg,[.val c none])
def cx(n:Nat)(c:C):Bool×Nat×Sh×List AL:=(true,n,.one,[.val c none])
def cn(c:Nat)(ke:List Nat)(t:GN R):GN R:=.cond c [] ke t .skip
def ce(c:Nat)(kt ke:List Nat)(id:Nat):GN R:=.cond c kt ke .skip (.exit id)
def bl(id:Nat)(c:Cut)(b:GN R):GN R:=.block id (.loop c b)
end
end Y
end Lv
namespace Lv
open Go
section
variable{A:Nat->Nat->List Md->Prop}{P:Program}
def fnd(n:Nat)(ms:List Md):List (Nat×CF)->Option CF
 | []=>none|p::r=>match Nat.beq p.1 n&&decide (EJ p.2=ms) with|true=>some p.2|false=>fnd n ms r
theorem qQ {n ms x}:∀{r:List (Nat×CF)},fnd n ms r=some x->(n,x)∈r
 | [],h=>by cases h
 |(k,y)::r,h=>by
  unfold fnd at h;split at h
  .rename_i j;cases h;rw[AF]at j;have q:k=n:=Nat.eq_of_beq_eq_true j.1;subst q;exact Bc
  .exact Av _ (qQ h)
theorem Mt.at{r:List (Nat×CF)} {n x} (h:∀p∈r,Mt A P p.1 p.2) (e:fnd n (EJ x) r=some x):Mt A P n x:=h _ (qQ e)
def caO(P:Program)(p:Nat×CF):List (Nat×CF):=match P.funcs[p.1]? with|some fn=>AGE fn p.2|none=>[]
def okO(P:Program)(p:Nat×CF):Bool:=match P.funcs[p.1]? with|some fn=>AWY P fn p.2|none=>false
def okM(P:Program):List (Nat×CF)->Bool| []=>true|p::l=>okO P p&&okM P l
def caM(P:Program):List (Nat×CF)->List (List (Nat×CF))| []=>[]|p::l=>caO P p::caM P l
def ex1(r:List (Nat×CF))(q:Nat×CF):Nat×CF:=match fnd q.1 (EJ q.2) r with|some x=>(q.1,x)|none=>(q.1+1,q.2)
def exM(P:Program):List (Nat×CF)->List (Nat×CF)->List (List (Nat×CF))| [],_=>[]|p::l,r=>(caO P p).map (ex1 r)::exM P l (p::r)
theorem AJY{α:Type}{f:α->α}:∀{l:List α},l=l.map f->∀x∈l,x=f x
 |a::l,h,x,j=>by
  injection h with q y;rcases Ap.1 j with rfl|j
  .exact q
  .exact AJY y x j
theorem Mt.s:∀{l r:List (Nat×CF)},(∀p∈r,Mt A P p.1 p.2)->okM P l=true->caM P l=exM P l r->∀p∈l.reverseAux r,Mt A P p.1 p.2
 | [],_,h,_,_=>h|p::l,r,h,G,J=>by
  unfold okM at G;unfold caM exM at J;rw[AF]at G;obtain⟨y,L⟩:=G;injection J with j B;refine Mt.s (l:=l) (r:=p::r) (fun q H=>?_) L B;rcases Ap.1 H with rfl|H
  .unfold okO at y;unfold caO at j;cases E:P.funcs[q.1]? with
   |none=>simp[E]at y|some fn=>
    simp only[E]at y j;refine Mt.by E y rfl fun t O=>?_
    have e:=AJY j t O;unfold ex1 at e;cases I:fnd t.1 (EJ t.2) r with
    |none=>
     rw[I]at e;have:=congrArg Prod.fst e;simp at this
    |some x=>
     rw[I]at e;rw[e];exact h _ (qQ I)
  .exact h q H
def lX(l:List (Nat×GF)):List (Nat×CF):=l.map fun p=>(p.1,p.2.x)
end
end Lv
