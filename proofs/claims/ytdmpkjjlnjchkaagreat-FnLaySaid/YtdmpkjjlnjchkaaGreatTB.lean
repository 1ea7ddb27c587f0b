/- The typed machine is right about the light one. -/
import Derived.Test.YtdmpkjjlnjchkaaGreatTA
import Derived.KernelRfl
noncomputable section
set_option linter.unusedVariables false
set_option linter.unusedSimpArgs false
set_option linter.unusedSectionVars false
open Bool renaming and_eq_true->AF,false_and->Bv,false_eq_true->BV,not_eq_true'->BR
open List.cons renaming injEq->Co
open List renaming drop_left'->Cy,ext_getElem?->Fc,getD_eq_getElem?_getD->BW,getElem?_eq_some_iff->AS,getElem?_map->BE,getElem?_set->D5,length_append->AM,length_cons->AH,length_drop->BT,length_map->Aj,length_nil->AN,map_append->C4,map_cons->AJ,map_drop->Ck,map_flatten->LA,map_map->D6,map_nil->Bf,map_replicate->HD,map_set->Hv,map_take->Cz,mem_cons->Ag,mem_cons_of_mem->A3,mem_cons_self->Bm,take_append_drop->Ir,take_left'->C5
open Nat renaming beq_refl->Ot,le_refl->Af,lt_succ_of_lt->KS,not_lt->RL,sub_self->D8
open Option renaming getD_some->LG,map_some->As
open Option.some renaming injEq->AE
namespace Lv
open Go (IntKind BinOp UnOp)
theorem AP7{γ:Type}{b:Bool}{x y:Option γ}{r:γ}(h:br b x y=some r):(b=true/\x=some r)\/(b=false/\y=some r):=by
 grind[Afa]
theorem T6{γ:Type}{p:Prop} [Decidable p] {x:Option γ} {r:γ} (h:gd p x=some r):p/\x=some r:=by
 grind[AY4]
theorem eF{α γ:Type}{o:Option α}{f:α->Option γ}{r:γ}(h:bd o f=some r):∃a,o=some a/\f a=some r:=ob (ANO o f▸h)
theorem jY(X:List (List T))(i j:Nat)(o:T)(k:Nat):(Ju X i j o)[k]?=if k=i then (X[i]?).map (fun row=>row.set j o) else X[k]?:=by
 grind[Ju,List.getElem?_eq_getElem,List.getElem?_eq_none]
theorem AW2(X:List (List T))(i j y q:Nat)(o t:T)(h:q≠j):Ju (Ju X y q t) i j o=Ju (Ju X i j o) y q t:=by
 apply Fc
 grind[jY,List.set_comm]
theorem AW3(X:List (List T))(i j:Nat)(o t:T):Ju (Ju X i j t) i j o=Ju X i j o:=by
 apply Fc;intro k;simp only[jY];by_cases q:k=i
 .subst q;simp only[if_true];cases X[k]? with|none=>rfl|some row=>simp
 .simp only[if_neg q]
namespace Y
section
variable{R:List GF}{ρ:Type}
theorem ACT(i j:Nat)(o:T):∀(q:List (Nat×Nat)) (X:List (List T)),(∀p∈q,p.2≠j)->Ju (O2 X q) i j o=O2 (Ju X i j o) q
 | [],X,_=>rfl|(a,b)::q,X,h=>by
  simp only[O2];rw[ACT i j o q _ (fun p y=>h p (by simp[y])),AW2 X i j a b o .top (h (a,b) (by simp))]
theorem AcH{c:C}{xs:List c.D}{i j:Nat}{o:U}{x y:c.D}(q:xs[i]?=some x)(h:ofC c ((cells c x).set j o)=some y):Ju (xs.map (enc c)) i j o.fg=(xs.set i y).map (enc c):=by
 have B:i<xs.length:=(AS.1 q).1;apply Fc;intro k;simp only[jY,BE,D5];by_cases E:k=i
 .subst E;simp only[if_true,q,As,B,AE];rw[JK h,FX,Hv]
 grind
theorem P4:∀{ls:List AU} {us:List U} {S:St} {K:St->Option ρ} {r:ρ},Hk S ls us K=some r ->
 ∃S',Lv.Hk (S.fg R) (ls.map (AU.fg R)) (us.map U.fg)=some (S'.fg R)/\Bg S S'/\K S'=some r
 | [],[],S,K,r,h=>⟨S,rfl,Bg.refl _,h⟩| [],u::us,S,K,r,h=>by simp[Hk]at h|l::ls,[],S,K,r,h=>by cases l<;>simp[Hk]at h
 |l::ls,o::us,S,K,r,h=>by
  cases l with
  |t x=>
   have h:Hk S ls us K=some r:=h;obtain⟨S',y,B,E⟩:=P4 h;exact⟨S',y,B,E⟩
  |al q sub=>
   cases sub with
   |some p=>simp[Hk]at h|none=>
    have h:Hk (S.B3 q (.ow o)) ls us K=some r:=h;obtain⟨S',y,B,E⟩:=P4 h;refine⟨S',?_,(Bg.B3 _ _ _).trans B,E⟩;rw[He]at y;exact y
  |vw s c xs=>
   cases s with
   |old k=>simp[Hk]at h|own q p=>
    cases p with
    |none=>simp[Hk]at h|some p=>
     obtain⟨i,j⟩:=p;simp only[Hk]at h;split at h
     .rename_i c' rows i' Z H I;split at h
      .rename_i Q;obtain⟨rfl,G⟩:=Q;obtain⟨rfl,h⟩:=T6 h;obtain⟨x,Y,h⟩:=eF h;split at h
       .rename_i x' L;obtain⟨S',y,B,E⟩:=P4 h;refine⟨S',?_,((Bg.B3 _ _ _).trans (Bg.kill _ _)).trans B,E⟩;have J:∀p∈H,p.2≠Z:=by
         intro p X;have:=List.all_eq_true.1 G p X;intro O;simp[O]at this
        simp only[AJ,AU.fg,Lv.Hk,LX,I,As];rw[<-Lr (Vy q),He]at y;rw[<-y];congr 3;simp only[O2];rw[ACT _ _ _ H _ J,AW3,AcH Y L];cases H with
        |nil=>simp only[AU.fg,U.fg,O2]|cons p H=>simp only[AU.fg]
       .cases h
      .cases h
     .cases h
  |_=>simp[Hk]at h
theorem AeD(S0 S:Lv.St)(ms:List Md)(e:Lv.Ent)(es:List Lv.Ent)(outs:List (List T)):Lv.Fh S0 S (.b::ms) (e::es) outs=match Af7 e,outs with
 |some id,o::outs=>(match Lv.get S0.bx id,Lv.get S.bx id with
  |some ls,some j=>if o.length=j.length then Lv.Fh S0 { S with bx:=Lv.put S.bx id (o.map (Lv.ER (Lv.DY ls)))} ms es outs else none
  |_,_=>none)
 |_,_=>none:=by
 obtain⟨sh,cs⟩:=e;cases sh<;>try rfl
 rcases cs with _|⟨l,_|⟨q,ls⟩⟩
 .rfl
 .cases l<;>try rfl
  rename_i id off;cases off<;>cases outs<;>rfl
 .cases l<;>try rfl
  rename_i id off;cases off<;>rfl
theorem AfV{S0 S:St}{c:C}{ks:List PK}{e:En}{es:List En}{outs:List (List U)}{K:St->Option ρ}:Fh S0 S (.b c::ks) (e::es) outs K=match bp0 e,outs with
 |some id,o::outs=>(match get S0.bx id,get S.bx id with
  |some ls,some j=>if o.length=j.cs.length then Fh S0 (S.RE id (o.map (ER (DY ls.cs)))) ks es outs K else none|_,_=>none)
 |_,_=>none:=by
 obtain⟨sh,cs⟩:=e;cases sh<;>try rfl
 rcases cs with _|⟨l,_|⟨q,ls⟩⟩
 .rfl
 .cases l<;>try rfl
  rename_i id off;cases off<;>cases outs<;>rfl
 .cases l<;>try rfl
  rename_i id off;cases off<;>rfl
theorem Pp{S0:St}:∀{ks:List PK} {es:List En} {outs:List (List U)} {S:St} {K:St->Option ρ} {r:ρ},Fh S0 S ks es outs K=some r ->
 ∃S',Lv.Fh (S0.fg R) (S.fg R) (ks.map PK.md) (es.map (En.fg R)) (outs.map fun o=>o.map U.fg)=some (S'.fg R)/\Bg S S'/\K S'=some r
 | [],es,[],S,K,r,h=>by
  refine⟨S,?_,Bg.refl _,?_⟩
  .cases es<;>rfl
  .cases es<;>exact h
 | [],es,o::outs,S,K,r,h=>by cases es<;>simp[Fh]at h
 |k::ks,[],outs,S,K,r,h=>by cases outs<;>simp[Fh]at h
 |k::ks,e::es,outs,S,K,r,h=>by
  cases k with
  |b c=>
   rw[AfV]at h;simp only[AJ,PK.md];rw[AeD,AXy];split at h
   .rename_i id o outs' J;rw[J];simp only[AJ,T2];split at h
    .rename_i ls O L E;rw[L,E];split at h
     .rename_i B;obtain⟨S',j,q,y⟩:=Pp h;refine⟨S',?_,(Bg.RE _ _ _).trans q,y⟩;simp only[As,Aj,B,if_true];rw[aq,UH]at j;rw[Qh];exact j
     .cases h
    .cases h
   .cases h
  |m c=>
   cases outs with
   |nil=>simp[Fh]at h|cons o outs=>
    have h:Hk S e.cs o (fun S'=>Fh S0 S' ks es outs K)=some r:=h;obtain⟨S1,j,q,y⟩:=P4 (R:=R) h;obtain⟨S',G,H,I⟩:=Pp y;refine⟨S',?_,q.trans H,I⟩;simp only[AJ,PK.md,Lv.Fh,En.fg,j];exact G
  |v c=>
   have h:Fh S0 S ks es outs K=some r:=by cases outs<;>exact h
   obtain⟨S',j,q,y⟩:=Pp h;refine⟨S',?_,q,y⟩;cases outs<;>exact j
  |p c=>
   have h:Fh S0 S ks es outs K=some r:=by cases outs<;>exact h
   obtain⟨S',j,q,y⟩:=Pp h;refine⟨S',?_,q,y⟩;cases outs<;>exact j
  |o c=>
   have h:Fh S0 S ks es outs K=some r:=by cases outs<;>exact h
   obtain⟨S',j,q,y⟩:=Pp h;refine⟨S',?_,q,y⟩;cases outs<;>exact j
  |f x l=>
   have h:Fh S0 S ks es outs K=some r:=by cases outs<;>exact h
   obtain⟨S',j,q,y⟩:=Pp h;refine⟨S',?_,q,y⟩;cases outs<;>exact j
theorem yW{S:St}{d:Nat}{ls:List AU}{K:St->Option ρ}{r:ρ}(h:UL S d ls K=some r):∃S',Lv.UL (S.fg R) d (ls.map (AU.fg R))=some (S'.fg R)/\Bg S S'/\K S'=some r:=by
 unfold UL at h;split at h
 .cases h
 .rename_i j;have q:d∉(S.fg R).pin:=Pb.1 j;refine⟨_,?_,((Bg.kill _ _).trans (Bg.K5 _ _ _ _)).trans (Bg.RE _ _ _),h⟩;unfold Lv.UL;rw[if_neg q,aq,NP,<-Lr (q':=fun l=>Lv.E4 d l||Lv.Fp d l) (fun l=>by rw[jD,jC])];rfl
theorem AeB{S:St}{e:En}{k:Nat}(h:yF S e=some k):Lv.yF (S.fg R) (e.fg R)=some k:=by
 have gen:∀(cs:List AU),(if (Fi (DY cs) cs).isSome=true then some (DY cs) else none)=some k->(if (Lv.Fi (Lv.DY (cs.map (AU.fg R))) (cs.map (AU.fg R))).isSome=true then some (Lv.DY (cs.map (AU.fg R))) else none)=some k:=by
  intro cs h;rw[Qh];cases q:Fi (DY cs) cs with
  |none=>rw[q]at h;simp at h|some us=>rw[TV q];rw[q]at h;simpa using h
 obtain⟨sh,cs⟩:=e;cases sh<;>try exact gen cs h
 rcases cs with _|⟨l,_|⟨y,ls⟩⟩
 .exact gen [] h
 .have j:=gen [l];cases l with
  |bp id off=>
   grind[yF,En.fg,AU.fg,Lv.yF,T2]
  |_=>exact j h
 .have j:=gen (l::y::ls);cases l<;>exact j h
theorem ATs{g:GF}{S0:St}{es:List En}{k lab:Nat}(h:yG g.ps S0 es k=some lab):Lv.yG g.x (S0.fg R) (es.map (En.fg R)) k=some lab:=by
 unfold yG at h;unfold Lv.yG;rw[g.ms];simp only[BE];split at h
 .rename_i e B;rw[B];simp only[As];split at h
  .cases h
  .rename_i E;rw[if_neg]
   .exact AeB h
   .intro j;cases y:g.ps[k]? with
    |none=>rw[y]at j;simp at j|some q=>rw[y]at j;cases q<;>simp[PK.md]at j;exact E _ y
 .cases h
theorem wu:∀(cs:List C) (x:Tu cs),U5 cs x=(Ww cs x).map fun l=>l.map U.fg| [],_=>rfl| [c],x=>congrArg (fun z=>[z]) (FX c x)|c::j::cs,x=>by simp only[U5,Ww,AJ,FX,wu (j::cs) x.2]
theorem AeP{d:Nat}{g:GF}{es:List En}{S0 S:St}{x:Tu (g.rk.cs++NA g.ps)}{K:St->Option ρ}{r:ρ}(h:post d g es S0 S x K=some r) :
 ∃S',Lv.post d g.x (es.map (En.fg R)) (S0.fg R) (S.fg R) g.rk.sh ((U5 _ x).take g.rk.cs.length).flatten ((U5 _ x).drop g.rk.cs.length)=some (S'.fg R)/\Bg S S'/\K S'=some r:=by
 unfold post at h;obtain⟨S1,J,G,j⟩:=Pp (R:=R) h;unfold Lv.post;rw[g.ms,wu,<-Ck,J,<-Cz,<-LA];generalize ((Ww (g.rk.cs++NA g.ps) x).take g.rk.cs.length).flatten=us at j;dsimp only;cases I:g.rk with
 |ptr k c=>
  rw[I]at j;simp only[RK.sh];dsimp only at j;split at j
  .rename_i lab H;rw[ATs H];obtain⟨S2,q,y,B⟩:=yW (R:=R) j;rw[UH]at q;exact⟨S2,q,G.trans y,B⟩
  .cases j
 |vw k c=>
  rw[I]at j;simp only[RK.sh];dsimp only at j;split at j
  .rename_i lab H;rw[ATs H];obtain⟨S2,q,y,B⟩:=pH (R:=R) j;rw[UH]at q;exact⟨S2,q,G.trans y,B⟩
  .cases j
 |ret cs=>
  rw[I]at j;dsimp only at j;obtain⟨S2,q,y,B⟩:=pH (R:=R) j;rw[mL]at q;refine⟨S2,?_,G.trans y,B⟩;simp only[RK.sh];cases E:AMi (cs.map wC) with
  |ptr k=>exfalso;revert E;unfold AMi;split<;>simp|vw k=>exfalso;revert E;unfold AMi;split<;>simp|one=>rw[E]at q;exact q|agg=>rw[E]at q;exact q|tup ns=>rw[E]at q;exact q
theorem AG2{d:Nat}{g:GF}{fs:List Nat}{es:List En}{S:St}{K:St->Option ρ}{r:ρ}(hA:Al R fs (fX g.ps))(h:AQL d g fs es S K=some r) :
 ∃S1 vs cs outs S',Lv.pre g.x (es.map (En.fg R)) (S.fg R)=some (S1,vs)/\IM g.x vs g.rk.sh cs outs/\Lv.post d g.x (es.map (En.fg R)) (S.fg R) S1 g.rk.sh cs outs=some (S'.fg R)/\Bg S S'/\K S'=some r:=by
 unfold AQL at h;split at h
 .cases h
 .rename_i H;split at h
  .rename_i S1 a j;obtain⟨x,I,h⟩:=eF h;obtain⟨q,y⟩:=AXs hA j;obtain⟨S',B,E,G⟩:=AeP (R:=R) h;refine⟨_,_,_,_,S',?_,g.ok a x I,B,y.trans E,G⟩;unfold Lv.pre;rw[g.ms];have:=AG6 (R:=R) g.ps [] es;rw[Bf]at this;rw[this,H,if_neg (by decide),q]
  .cases h
end
end Y
end Lv
namespace Lv
open Go (IntKind BinOp UnOp)
namespace Y
section
variable{R:List GF}{ρ:Type}
theorem FH{S:St}{x:YO}{l:AU}(h:S.one x=some l):(S.fg R).one (x.er R)=some (AU.fg R l):=by
 unfold St.one at h;split at h
 .rename_i l' j;cases h;simp only[Lv.St.one,Mb j,En.fg,AJ,Bf]
 .cases h
theorem Rg{S:St}{x:YO}{u:U}(h:S.sc x=some u):(S.fg R).sc (x.er R)=some u.fg:=by
 unfold St.sc APa at h;split at h
 .rename_i o l' j;cases h;simp only[Lv.St.sc,Mb j,En.fg,AJ,Bf,AU.fg,Lv.APa]
 .cases h
theorem Zi{S:St}{x:YO}{n:Int}(h:S.nat x=some n):(S.fg R).nat (x.er R)=some n:=by
 unfold St.nat at h;split at h
 .rename_i u j;simp only[Lv.St.nat,Rg j];cases u<;>simp[AhG]at h<;>subst h<;>rfl
 .cases h
theorem Afw{k:Kd}{a b:U}{c:Bool}(h:eqU k a b=some c):eqT k a.fg b.fg=some c:=by
 cases k<;>cases a<;>cases b<;>simp only[eqU]at h<;>first|cases h;done|exact h
theorem AS3:∀{ks:List Kd} {as j:List U} {c:Bool},ALQ ks as j=some c->Wj ks (as.map U.fg) (j.map U.fg)=some c
 | [],[],[],c,h=>h| [],[],b::j,c,h=>by simp[ALQ]at h| [],a::as,j,c,h=>by cases j<;>simp[ALQ]at h
 |k::ks,[],j,c,h=>by cases j<;>simp[ALQ]at h
 |k::ks,a::as,[],c,h=>by simp[ALQ]at h|k::ks,a::as,b::j,c,h=>by
  simp only[ALQ]at h;split at h
  .rename_i x y q B;cases h;simp only[AJ,Wj,Afw q,AS3 B]
  .cases h
theorem AGS:∀{ls:List AU} {us:List U},dp ls=some us->Lv.dp (ls.map (AU.fg R))=some (us.map U.fg)
 | [],us,h=>by cases h;rfl
 |l::ls,us,h=>by
  cases l with
  |t x=>
   simp only[dp]at h;split at h
   .rename_i q j;cases h;simp only[AJ,AU.fg,Lv.dp,AGS j,As]
   .cases h
  |_=>simp[dp]at h
theorem AY5{cst:Bool}{p:Prop} [Decidable p] {x:Option ρ} {r:ρ} (h:gdc cst p x=some r):p/\x=some r:=by
 cases cst with
 |true=>simp only[gdc]at h;split at h<;>simp_all|false=>exact T6 h
theorem Ad4{cst:Bool}{op:BinOp}{k:IntKind}{a b:Int}{K:U->Option ρ}{r:ρ}(h:Af2 cst op k a b K=some r):∃u,nd op k a b=some (U.fg u)/\K u=some r:=by
 cases op<;>simp only[Af2]at h<;>first
  |exact⟨_,rfl,h⟩|(obtain⟨j,h⟩:=AY5 h;exact⟨_,by simp only[nd];rw[if_neg j];rfl,h⟩)
  |cases h
theorem AcL{cst:Bool}{op:BinOp}{k:IntKind}{a b:Int}{K:U->Option ρ}{r:ρ}(h:shU cst op k a b K=some r):∃u,APb op k a b=some (U.fg u)/\K u=some r:=by
 cases op<;>simp only[shU]at h<;>first
  |cases h;done
  |(obtain⟨j,h⟩:=AY5 h;exact⟨_,by simp only[APb];rw[if_neg j];rfl,h⟩)
theorem Aco(n:Int):(U.u8 (toB n)).fg=.int .u8 (IntKind.u8.wrap n):=by simp only[U.fg,AXS]
theorem Afb{op:BinOp}{a b:Int}{K:U->Option ρ}{r:ρ}(h:byU op a b K=some r):∃u,nd op .u8 a b=some (U.fg u)/\K u=some r/\Ad7 op=false:=by
 cases op<;>simp only[byU]at h<;>first
  |cases h;done
  |exact⟨_,by rw[Aco];rfl,h,rfl⟩|exact⟨_,rfl,h,rfl⟩
theorem ADd{op:BinOp}{k j:IntKind}{a b:Int}:pX op (.int k a) (.int j b)=if Ad7 op=true then APb op k a b else if k=j then nd op k a b else none:=by
 cases op<;>rfl
theorem AdK{cst:Bool}{op:BinOp}{x y:U}{K:U->Option ρ}{r:ρ}(h:AfW cst op x y K=some r):∃u,pX op x.fg y.fg=some (U.fg u)/\K u=some r:=by
 unfold AfW at h;split at h
 .rename_i k a E b;split at h
  .rename_i B;obtain⟨u,j,q⟩:=AcL h;exact⟨u,by show pX op (.int k a) (.int E b)=_;rw[ADd,if_pos B];exact j,q⟩
  .rename_i B;split at h
   .rename_i H;split at h
    .cases h
    .obtain⟨u,j,q⟩:=Ad4 h;exact⟨u,by show pX op (.int k a) (.int E b)=_;rw[ADd,if_neg B,if_pos H];exact j,q⟩
   .cases h
 .rename_i k a b;split at h
  .rename_i B;obtain⟨u,j,q⟩:=AcL h;exact⟨u,by show pX op (.int k a) (.int .u8 b.toNat)=_;rw[ADd,if_pos B];exact j,q⟩
  .cases h
 .rename_i a b;obtain⟨u,j,q,G⟩:=Afb h;exact⟨u,by show pX op (.int .u8 a.toNat) (.int .u8 b.toNat)=_;rw[ADd,if_neg (by simp[G]),if_pos rfl];exact j,q⟩
 .rename_i a b;split at h
  .obtain⟨j,h⟩:=T6 h;exact⟨_,by show (if a.length+b.length<=On then some (T.str (a++b)) else none)=some (U.fg (.str (a++b)));rw[if_pos j];rfl,h⟩
  .exact⟨_,rfl,h⟩
  .exact⟨_,rfl,h⟩
  .cases h
 .cases h
theorem ANX{op:BinOp}{b:Bool}{K:U->Option ρ}{r:ρ}(h:eqK op b K=some r):∃u,AAB op b=some (U.fg u)/\K u=some r:=by
 cases op<;>simp only[eqK]at h<;>first
  |cases h;done
  |exact⟨_,rfl,h⟩
theorem nh{α β:Type}{f:α->β}{xs:List α}(h:xs.isEmpty=false):∃y ys,xs.map f=y::ys:=by
 cases xs with
 |nil=>simp at h|cons x xs=>exact⟨_,_,rfl⟩
theorem AeH{S:St}{l:AU}{K:Bool->Option ρ}{r:ρ}(h:S.dR l K=some r):∃b,(S.fg R).dR (AU.fg R l)=some b/\K b=some r:=by
 unfold St.dR at h;split at h
 .exact⟨true,rfl,h⟩
 .rename_i s c xs;obtain⟨j,h⟩:=T6 h;obtain⟨y,ys,E⟩:=nh (f:=enc c) j;exact⟨false,by simp only[AU.fg,E,Lv.St.dR],h⟩
 .rename_i q;simp only[AU.fg,Lv.St.dR,LX];split at h
  .rename_i B;rw[B];exact⟨true,rfl,h⟩
  .rename_i c xs B;rw[B];obtain⟨j,h⟩:=T6 h;obtain⟨y,ys,E⟩:=nh (f:=enc c) j;exact⟨false,by simp only[As,AU.fg,U.fg,E],h⟩
  .cases h
 .cases h
theorem AfX{S:St}{cst:Bool}{c:Cls}{op:BinOp}{x y:En}{K:U->Option ρ}{r:ρ}(h:S.bin cst c op x y K=some r):∃u,(S.fg R).bin c op (x.fg R) (y.fg R)=some (U.fg u)/\K u=some r:=by
 unfold St.bin at h;split at h
 .split at h
  .exact AdK h
  .cases h
 .split at h
  .exact ANX h
  .cases h
 .split at h
  .obtain⟨b,j,q⟩:=AeH (R:=R) h;obtain⟨u,B,E⟩:=ANX q;rename_i l;exact⟨u,by show (match (S.fg R).dR (AU.fg R l) with|some b=>AAB op b|none=>none)=_;rw[j];exact B,E⟩
  .cases h
 .split at h
  .split at h
   .rename_i G H j q;split at h
    .rename_i b I;obtain⟨u,B,E⟩:=ANX h;refine⟨u,?_,E⟩;simp only[En.fg,Lv.St.bin,AGS j,AGS q,AS3 I,B]
    .cases h
   .cases h
  .cases h
theorem Agl{op:UnOp}{x:U}{K:U->Option ρ}{r:ρ}(h:unU op x K=some r):∃u,unT op x.fg=some (U.fg u)/\K u=some r:=by
 unfold unU at h;split at h
 .cases op<;>simp only at h<;>first|cases h;done|exact⟨_,rfl,h⟩
 .cases op<;>simp only at h<;>first|cases h;done|(split at h;cases h;exact⟨_,rfl,h⟩)
 .cases h
theorem AaR(k:IntKind)(n:Int):(mkInt k n).fg=.int k (k.wrap n):=by cases k<;>simp only[mkInt,Aco]<;>rfl
theorem AU7:∀(n:Nat) (x:tD n),bX (.st n)=true->(Ag3 n x).all flat=true|0,x,_=>rfl|1,x,h=>absurd h (by decide)|2,x,_=>rfl|3,x,_=>rfl|4,x,_=>rfl|5,x,_=>rfl|6,x,h=>absurd h (by decide)|7,x,h=>absurd h (by decide)|8,x,h=>absurd h (by decide)|9,x,_=>rfl|10,x,_=>rfl|11,x,h=>absurd h (by decide)|12,x,h=>absurd h (by decide)|13,x,h=>absurd h (by decide)|14,x,h=>absurd h (by decide)|15,x,_=>rfl|16,x,h=>absurd h (by decide)|17,x,h=>absurd h (by decide)|_+18,x,_=>rfl
theorem AU6{c:C}(h:bX c=true)(x:c.D):(enc c x).all flat=true:=by
 cases c with
 |l c=>cases h
 |m=>cases h
 |st n=>exact AU7 n x h|un n=>cases h
 |_=>rfl
theorem Jg{c:C}(h:bX c=true)(xs:List c.D):G5 (xs.map (enc c))=true:=by
 grind[G5,List.all_map,List.all_eq_true,AU6]
theorem Aei{c:C}{fl:Bool}{S S':St}{l:AU}{ys:List c.D}(h:TM c fl S l=some (S',ys)):Lv.TM c.size fl (S.fg R) (AU.fg R l)=some (S'.fg R,ys.map (enc c))/\Bg S S':=by
 unfold TM at h;split at h
 .rename_i s;split at h
  .rename_i xs j;cases h;have y:C.u=c:=by
    simp only[Rw.as]at j;split at j
    .rename_i y;exact y
    .cases j
   subst y;have:=pS j;simp only[AU.fg,U.fg,Lv.TM,C.size,if_true,<-this,Rw.fg];exact⟨rfl,Bg.refl _⟩
  .cases h
 .cases h;exact⟨rfl,Bg.refl _⟩
 .rename_i s J xs;split at h
  .rename_i G;split at h
   .rename_i I j;cases h;have y:J=c:=by
     simp only[Rw.as]at j;split at j
     .rename_i y;exact y
     .cases j
    subst y;have:=pS j;simp only[AU.fg,Lv.TM,Jg G,and_self,if_true,<-this,Rw.fg];exact⟨trivial,Bg.refl _⟩
   .cases h
  .cases h
 .rename_i q sub;simp only[AU.fg,Lv.TM,LX];split at h
  .rename_i x j;rw[j];split at h
   .rename_i w H;split at h
    .rename_i I E;have L:eOf c.size x.fg=true:=by
      cases x<;>simp[content]at H<;>subst H<;>simp only[U.fg,eOf];simp only[Rw.sub,Rw.as]at E;split at E
      .rename_i y;subst y;simp
      .cases E
     have B:=pS E;rw[AcS]at B;simp only[As,AU.fg,cL H,L,if_true,B];cases fl with
     |true=>
      simp only[if_true]at h ⊢;split at h
      .rename_i G;cases h;rw[if_pos (Jg G _)];exact⟨rfl,Bg.refl _⟩
      .cases h
     |false=>
      simp only[BV,if_false]at h ⊢;cases h;rw[mT];exact⟨rfl,Bg.out _ _⟩
    .cases h
   .cases h
  .cases h
 .cases h
theorem AY6{e:Option (Nat×Nat)}{x:Option ρ}{r:ρ}(h:gdo e x=some r):(∀a b,e=some (a,b)->a=b)/\x=some r:=by
 cases e with
 |none=>exact⟨by intros;contradiction,h⟩
 |some p=>
  obtain⟨a,b⟩:=p;obtain⟨j,q⟩:=T6 h
  grind
theorem AGt{c:C}{S S':St}{l:AU}{b:U}{n:Nat}{e:Option (Nat×Nat)}(h:WQ c S l=some (S',b,n,e))(Q:∀a b,e=some (a,b)->a=b):Lv.WQ c.size (S.fg R) (AU.fg R l)=some (S'.fg R,b.fg,n)/\Bg S S':=by
 unfold WQ at h;split at h
 .cases h;exact⟨rfl,Bg.refl _⟩
 .rename_i q sub;simp only[AU.fg,Lv.WQ,LX];split at h
  .rename_i x X;rw[X];split at h
   .rename_i w H;split at h
    .rename_i ys y;cases h;have E:eOf c.size x.fg=true:=by
      cases x<;>simp[content]at H<;>subst H<;>simp only[U.fg,eOf];simp only[Rw.as]at y;split at y
      .rename_i B;subst B;simp
      .cases y
     have I:=pS y;have G:toEnd sub (ys.map (enc c)).length=true:=by
      cases sub with
      |none=>rfl|some p=>
       obtain⟨lo,m⟩:=p;have:=Q _ _ rfl;simp[toEnd,this]
     simp only[As,AU.fg,cL H,I];rw[if_pos ⟨E,G⟩,mT,jl];refine⟨?_,Bg.out _ _⟩;rw[AGR,<-mg,Aj]
    .cases h
   .cases h
  .cases h
 .rename_i q i j Y xs;split at h
  .rename_i B;subst B;split at h
   .rename_i S1 J;cases h;obtain⟨L,O⟩:=AT2 (R:=R) J;simp only[AU.fg,Lv.WQ,if_true,L,U.fg,Aj];exact⟨trivial,O⟩
   .cases h
  .cases h
 .cases h
theorem AP4{c:C}{b u:U}{ys:List c.D}(h:AdB c b ys=some u):u.fg=AUh c.size b.fg (ys.map (enc c)):=by
 unfold AdB at h;split at h
 .grind[U.fg,AUh]
 .rename_i j;cases h;cases b<;>simp only[U.fg,AUh];exact(j _ _ rfl).elim
end
end Y
end Lv
namespace Lv
open Go (IntKind BinOp UnOp)
theorem Q5{α β:Type}(f:α->β):∀(cs ls:List α) (o:Nat),Dt (ls.map f) o (cs.map f)=(Dt ls o cs).map f
 | [],ls,o=>by cases ls<;>rfl
 |c::cs,ls,o=>by
  simp only[AJ,Dt];rw[<-Hv,Q5 f cs]
theorem zH{α:Type}(t:α):∀(cs ls:List α) (o b:Nat),o<=b->b<o+cs.length->Dt (ls.set b t) o cs=Dt ls o cs
 | [],ls,o,b,q,j=>by simp at j;omega|c::cs,ls,o,b,q,j=>by
  simp only[Dt];by_cases h:b=o
  .subst h;rw[List.set_set]
  .rw[List.set_comm _ _ h];exact zH t cs _ _ _ (by omega) (by simp at j;omega)
namespace Y
section
variable{R:List GF}{ρ:Type}
theorem ACY(r:CV)(i:Nat):∀(j:Nat) (us:List U),(KN r i j us).map (AU.fg R)=Lv.KN r i j (us.map U.fg)|_,[]=>rfl|j,u::us=>by simp only[KN,AJ,Lv.KN,ACZ,ACY r i (j+1) us]
theorem ADa{c:C}{xs:List c.D}{i:Int}{x:c.D}(h:at? xs i=some x):(xs.map (enc c))[i.toNat]?=some (enc c x):=AfU (enc c) h
theorem Vo{S:St}{n:Nat}{l:AU}{K:List AU->Option ρ}{r:ρ}(h:S.load n l K=some r):∃ls,(S.fg R).load n (AU.fg R l)=some (ls.map (AU.fg R))/\K ls=some r:=by
 unfold St.load at h;split at h
 .grind[AU.fg,Lv.St.load,T2,List.length_map,AP2,List.map_take,List.map_drop]
 .rename_i q i j;simp only[AU.fg,Lv.St.load,LX];split at h
  .rename_i c xs G;rw[G];obtain⟨x,B,h⟩:=eF h;split at h
   .rename_i y;refine⟨_,?_,h⟩;have E:=ADa B;simp only[As,AU.fg,U.fg,E,FX,Aj,y,if_true,ACY,Cz,Ck]
   .cases h
  .cases h
 .rename_i s cs;split at h
  .rename_i y;refine⟨_,?_,h⟩;simp only[AU.fg,Lv.St.load,Aj,y,if_true,AE];rw[<-Cz,D6,D6];congr 1;funext u;exact(ACZ _ _).symm
  .cases h
 .cases h
theorem aE:∀ls:List AU,Lv.IX (ls.map (AU.fg R))=IX ls
 | []=>rfl|l::ls=>by
  have j:=aE ls;cases l with
  |t x=>cases x<;>first|rfl|exact j
  |und=>rfl|_=>exact j
theorem yj(b o n:Nat)(l:AU):Lv.Im b o n (AU.fg R l)=Im b o n l:=by
 grind[Lv.Im,Im,MD,Uy,Nat.ble,Nat.le_of_ble_eq_true,decide_eq_false_iff_not,Nat.ble_eq_true_of_le,Nat.blt]
def AM4:List T->List (Nat×Nat)->List T|row,[]=>row|row,(_,b)::hs=>AM4 (row.set b .top) hs
theorem AM6:∀(j:List (Nat×Nat)) (row:List T),(AM4 row j).length=row.length| [],row=>rfl|(a,b)::j,row=>by simp only[AM4,AM6 j,List.length_set]
theorem lh(i:Nat):∀(j:List (Nat×Nat)) (X:List (List T)) (k:Nat),(∀p∈j,p.1=i)->(O2 X j)[k]?=if k=i then (X[i]?).map (fun row=>AM4 row j) else X[k]?
 | [],X,k,h=>by
  grind[O2,AM4]
 |(a,b)::j,X,k,h=>by
  have q:a=i:=h (a,b) (by simp);subst q;simp only[O2];rw[lh a j _ k (fun p y=>h p (by simp[y]))];simp only[jY,if_true];split
  .cases X[a]? <;> rfl
  .rfl
theorem ny(j:Nat)(ts:List T):∀(q:List (Nat×Nat)) (row:List T),(∀p∈q,j<=p.2/\p.2<j+ts.length)->Dt (AM4 row q) j ts=Dt row j ts
 | [],row,h=>rfl|(a,b)::q,row,h=>by
  simp only[AM4];rw[ny j ts q _ (fun p y=>h p (by simp[y]))];have:=h (a,b) (by simp);exact zH _ _ _ _ _ this.1 this.2
theorem xm{i j n:Nat}:∀{q:List (Nat×Nat)},Od i j n q->(∀p∈q,p.1=i)/\(∀p∈q,j<=p.2/\p.2<j+n)
 | [],_=>⟨by simp,by simp⟩|(a,b)::q,h=>by
  obtain⟨B,E,y⟩:=h;obtain⟨G,H⟩:=xm y
  grind
theorem Aca{n:Nat}{ls:List AU}{S S':St}{ls':List AU}(h:jo n S ls=some (S',ls')):Lv.jo n (S.fg R) (ls.map (AU.fg R))=some (S'.fg R,ls'.map (AU.fg R))/\Bg S S':=by
 grind[jo,Lv.jo,Nat.blt_eq,Uk,Bg.refl]
theorem AXH{S:St}{n:Nat}{p:AU}{cs:List AU}{K:St->Option ρ}{r:ρ}(h:S.WG n p cs K=some r) :
 ∃S',(S.fg R).WG n (AU.fg R p) (cs.map (AU.fg R))=some (S'.fg R)/\Bg S S'/\K S'=some r:=by
 unfold St.WG at h;split at h
 .rename_i id o;split at h
  .rename_i S1 E X;obtain⟨Y,J⟩:=Aca (R:=R) X;split at h
   .cases h
   .rename_i ht;dsimp only at h;split at h
    .rename_i ls hl;split at h
     .rename_i y;refine⟨_,?_,(J.trans (Bg.kill _ _)).trans (Bg.RE _ _ _),h⟩;simp only[AU.fg,Lv.St.WG,Y,aE,ht,BV,if_false,Aj];rw[Lr (yj id o E.length),T2,hl];simp only[As,Aj,y,if_true];rw[aq,Nr (yj id o E.length),Q5]
     .cases h
    .cases h
  .cases h
 .rename_i q i j;split at h
  .rename_i S1 us X;obtain⟨Y,J⟩:=NO (R:=R) X;simp only[AU.fg,Lv.St.WG,Y,LX];split at h
   .rename_i c xs hx;rw[hx];obtain⟨x,L,h⟩:=eF h;split at h
    .rename_i y;split at h
     .rename_i x' B;refine⟨_,?_,(J.trans (Bg.B3 _ _ _)).trans (Bg.kill _ _),h⟩;have Z:=ADa L;simp only[As,AU.fg,U.fg,Z,FX,Aj,y,if_true,AE];rw[<-Lr (Vy q),He];congr 2;simp only[AU.fg,U.fg];rw[Hv,JK B,Q5]
     .cases h
    .cases h
   .rename_i c xs I hx;rw[hx];obtain⟨x,L,h⟩:=eF h;split at h
    .rename_i y;split at h
     .rename_i x' B;obtain⟨hh,h⟩:=@T6 _ _ (pA i.toNat j us.length I) _ _ h;obtain⟨hr,G⟩:=xm hh;refine⟨_,?_,(J.trans (Bg.B3 _ _ _)).trans (Bg.kill _ _),h⟩;have Z:=ADa L;have O:=lh i.toNat I (xs.map (enc c)) i.toNat hr;rw[if_pos rfl,Z]at O;simp only[As]at O;simp only[As,AU.fg,O,AM6,RS];have hl2:j+(us.map U.fg).length<=c.size:=by rw[Aj,<-kF c x];exact y
      rw[if_pos hl2,<-Lr (Vy q),He];congr 3;simp only[AU.fg,U.fg];have h7:Dt (AM4 (enc c x) I) j (us.map U.fg)=enc c x':=by
       rw[ny _ _ _ _ (by rw[Aj];exact G),JK B,FX,Q5]
      rw[h7];congr 1;congr 1;apply Fc;intro k;have hlt:i.toNat<xs.length:=(TT L).2.2.1;have H:i.toNat<(O2 (xs.map (enc c)) I).length:=(AS.1 O).1;rw[D5,BE,D5];by_cases Q:i.toNat=k
      .subst Q;simp only[if_true,hlt,H,As]
      .rw[if_neg Q,if_neg Q,lh i.toNat I _ k hr,if_neg (fun h=>Q h.symm),BE]
     .cases h
    .cases h
   .cases h
  .cases h
 .cases h
def erP(R:List GF)(p:Nat×Nat×YO):Nat×Nat×Opd:=(p.1,p.2.1,p.2.2.er R)
theorem AAc{S:St}:∀{ps:List (Nat×Nat×YO)} {ls ls':List AU},N9 S ls ps=some ls'->Lv.N9 (S.fg R) (ls.map (AU.fg R)) (ps.map (erP R))=some (ls'.map (AU.fg R))
 | [],ls,ls',h=>by cases h;rfl
 |(o,n,x)::ps,ls,ls',h=>by
  simp only[N9]at h;split at h
  .rename_i e q;split at h
   .rename_i j;have:=AAc (ps:=ps) h;simp only[AJ,erP,Lv.N9,Mb q,En.fg,Aj,aE];rw[if_pos j,Q5];exact this
   .cases h
  .cases h
def erQ(R:List GF)(p:Nat×YO):Nat×Opd:=(p.1,p.2.er R)
theorem AXz{c:C}{n:Nat}:∀{ps:List (Nat×YO)} {S S':St} {xs j:List c.D},bsK c n S xs ps=some (S',j) ->
 Lv.bsK c.size n (S.fg R) (xs.map (enc c)) (ps.map (erQ R))=some (S'.fg R,j.map (enc c))/\Bg S S'
 | [],S,S',xs,j,h=>by cases h;exact⟨rfl,Bg.refl _⟩
 |(i,x)::ps,S,S',xs,j,h=>by
  simp only[bsK]at h;split at h
  .rename_i e J;split at h
   .rename_i I;split at h
    .rename_i S1 us q;obtain⟨B,E⟩:=NO (R:=R) q;split at h
     .rename_i y L;obtain⟨G,H⟩:=AXz (ps:=ps) h;simp only[AJ,erQ,Lv.bsK,Mb J,En.fg,Aj];rw[if_pos I,B];dsimp only;rw[<-JK L,<-Hv];exact⟨G,E.trans H⟩
     .cases h
    .cases h
   .cases h
  .cases h
theorem AX0{c:C}{n:Nat}{z:List T}:∀{ps:List (Nat×YO)} {S S':St} {ys:List c.D} (pre:List (List T)),bsL c n S ps=some (S',ys)->ALn pre.length n ps=true->pre.length<=n ->
 Lv.bsK c.size n (S.fg R) (pre++List.replicate (n-pre.length) z) (ps.map (erQ R))=some (S'.fg R,pre++ys.map (enc c))/\Bg S S'
 | [],S,S',ys,pre,h,j,Q=>by
  cases h;simp only[ALn,beq_iff_eq]at j;simp only[Bf,Lv.bsK,j,D8,List.replicate_zero];exact⟨trivial,Bg.refl _⟩
 |(i,x)::ps,S,S',ys,pre,h,j,Q=>by
  simp only[ALn,AF,beq_iff_eq]at j;obtain⟨rfl,j⟩:=j;simp only[bsL]at h;split at h
  .rename_i e O;split at h
   .rename_i L;split at h
    .rename_i S1 us B;obtain⟨E,G⟩:=NO (R:=R) B;split at h
     .rename_i y S2 Z Y J;cases h;have q:(pre++[enc c y]).length=pre.length+1:=by simp
      obtain⟨H,I⟩:=AX0 (z:=z) (ps:=ps) (pre++[enc c y]) J (by rw[q];exact j) (by rw[q];omega);simp only[AJ,erQ,Lv.bsK,Mb O,En.fg,Aj];rw[if_pos L,E];dsimp only;rw[<-JK Y];have X:(pre++List.replicate (n-pre.length) z).set pre.length (enc c y)=(pre++[enc c y])++List.replicate (n-(pre++[enc c y]).length) z:=by
       rw[List.set_append_right _ _ (Af _),D8,q];have:n-pre.length=(n-(pre.length+1))+1:=by omega
       rw[this,List.replicate_succ];simp
      rw[X];refine⟨?_,G.trans I⟩;simpa[erQ] using H
     .cases h
    .cases h
   .cases h
  .cases h
theorem Qo{S:St}{len:Nat}{lo hi:Option YO}{K:Nat->Nat->Option ρ}{r:ρ}(h:range S len lo hi K=some r) :
 ∃a b,(S.fg R).range len (lo.map (YO.er R)) (hi.map (YO.er R))=some (a,b)/\K a b=some r/\∀{α:Type} (xs:List α),xs.length=len->part lo hi xs a b=(xs.drop a).take (b-a):=by
 unfold range at h
 grind[part,Lv.St.range,Lv.St.AaS,T6,Zi,List.take_of_length_le]
theorem ie:∀(q:List (Nat×Nat)) (X:List (List T)),(O2 X q).length=X.length| [],_=>rfl|(i,j)::q,X=>by rw[O2,ie q];simp[Ju]
theorem bC{S:St}{c:C}{l:AU}(h:S.wide c l=true)(y:(∃s j xs,l=.vw s j xs)\/(∃q sub,l=.al q sub)\/l=.t .nil):(S.fg R).wide c.size (AU.fg R l)=true:=by
 rcases y with ⟨s,j,xs,rfl⟩|⟨q,sub,rfl⟩|rfl
 .simp only[St.wide,decide_eq_true_eq]at h;subst h;simp[AU.fg,Lv.St.wide]
 .simp only[St.wide]at h;simp only[AU.fg,Lv.St.wide,LX];split at h
  .rename_i x B;rw[B];simp only[As,AU.fg];cases x<;>simp only[U.fg,eOf];simp only[decide_eq_true_eq]at h;subst h;simp
  .grind[AU.fg,eOf]
  .cases h
 .rfl
theorem AVb{off:Nat}{p q:AU}(h:Ok off p=some q):Lv.Ok off (AU.fg R p)=some (AU.fg R q):=by
 cases p<;>simp only[Ok]at h<;>first
  |cases h;done
  |(cases h;simp only[AU.fg,Lv.Ok,Ck])
theorem AaA(p:AU):Lv.St.Wc (AU.fg R p)=Wc p:=by cases p<;>rfl
theorem Afe{l:AU}{c:Cap}(h:l.Afc=some c):c.fg=AU.fg R l/\(AU.fg R l).plain=true:=by
 unfold AU.Afc at h;split at h<;>first|cases h;done|(cases h;exact⟨rfl,rfl⟩)
theorem AAX:∀{es:List En} {cs:List Cap},ADW es=some cs->((es.map (En.fg R)).all fun e=>Lv.ALo e.sh&&e.cs.length==1&&e.cs.all Lv.AU.plain)=true/\(es.map (En.fg R)).flatMap Lv.Ent.cs=cs.map Cap.fg
 | [],cs,h=>by cases h;exact⟨rfl,rfl⟩
 |e::es,cs,h=>by
  unfold ADW at h;split at h
  .rename_i j;cases j
  .rename_i l y j;cases j;split at h
   .rename_i c q B E;cases h;obtain⟨G,H⟩:=AAX E;obtain⟨I,J⟩:=Afe (R:=R) B;constructor
    .rw[AJ,List.all_cons,G];simp[En.fg,Lv.ALo,J]
    .simp only[AJ,List.flatMap_cons,H,En.fg,Bf,List.singleton_append,I]
   .cases h
  .cases h
end
end Y
end Lv
namespace Lv
open Go (IntKind BinOp UnOp)
namespace Y
section
variable{R:List GF}{ρ:Type}
def zsC(c:C):List T:=match ANG c with|some z=>enc c z|none=>[]
theorem AP0{c:C}{z:c.D}(h:ANG c=some z):zsC c=enc c z:=by unfold zsC;rw[h]
def YOp.er:YOp R->XOp|.mv d x=>.mv d (x.er R)|.as d x=>.as d (x.er R)|.pick d c a b=>.pick d (c.er R) (a.er R) (b.er R)|.alloc d zs=>.alloc d (zs.map U.fg)|.box d x=>.box d (x.er R)|.build d zs ps=>.build d (zs.map U.fg) (ps.map (erP R))|.B7 d n c ps=>.B7 d n (zsC c) (ps.map (erQ R))|.ld d n x=>.ld d n (x.er R)|.st n x v=>.st n (x.er R) (v.er R)|.chk d x=>.chk d (x.er R)|.bin d c op x y=>.bin d c op (x.er R) (y.er R)|.un d op x=>.un d op (x.er R)|.cvI d k x=>.cvI d k (x.er R)|.OB d x=>.OB d (x.er R)|.Ru d x=>.Ru d (x.er R)|.PF d n caps=>.PF d (xr R n) (caps.map (YO.er R))|.Nt d c n=>.Nt d (zsC c) (n.er R) (n.er R)|.sub d c x lo hi=>.sub d c.size (x.er R) (lo.map (YO.er R)) (hi.map (YO.er R))|.dk d x lo hi=>.dk d (x.er R) (lo.map (YO.er R)) (hi.map (YO.er R))|.fa d off x=>.fa d off (x.er R)|.fld d off n x=>.fld d off n (x.er R)|.ia d c x i=>.ia d c.size (x.er R) (i.er R)|.ix d x i=>.ix d (x.er R) (i.er R)|.ext d x i=>.ext d (x.er R) i|.call d g _ _ args=>.call d g.x (args.map (YO.er R))|.D1 d x ms args=>.D1 d (x.er R) ms (args.map (YO.er R))|.len d x=>.len d (x.er R)|.lens d x=>.lens d (x.er R)|.app d c fl x y=>.app d c.size fl (x.er R) (y.er R)|.Wr d c x n=>.Wr d (zsC c) (x.er R) (n.er R)|.cpy d c x y=>.cpy d c.size (x.er R) (y.er R)|.mm d m x y=>.mm d m (x.er R) (y.er R)|.mmk d=>.mmk d|.bF d x k=>.bF d (x.er R) (k.er R)|.Zg x k v=>.Zg (x.er R) (k.er R) (v.er R)|.bG d x=>.bG d (x.er R)|.bad d=>.bad d|.drop ds=>.drop ds|.Zk ns=>.Zk (ns.map fun p=>(p.1,p.2.size))
def Plain(o:YOp R)(S:St)(K:St->Option ρ)(r:ρ):Prop:=∃S',Lv.ev o.er (S.fg R)=some (S'.fg R)/\Bg S S'/\K S'=some r
theorem Cq{o:YOp R}{S S1:St}{d:Nat}{sh:Sh}{cs:List AU}{K:St->Option ρ}{r:ρ}(h:Hs S1 d sh cs K=some r)(E:Bg S S1)(B:Lv.ev o.er (S.fg R)=(S1.fg R).ED d ⟨sh,cs.map (AU.fg R)⟩):Plain o S K r:=by
 obtain⟨S',j,q,y⟩:=pH (R:=R) h;exact⟨S',B.trans j,E.trans q,y⟩
variable{S:St}{K:St->Option ρ}{r:ρ}
theorem Aai{d:Nat}{x:YO}(h:ev (.mv d x:YOp R) S K=some r):Plain (.mv d x:YOp R) S K r:=by
 simp only[ev]at h;split at h
 .rename_i e j;exact Cq h (Bg.refl _) (by simp only[YOp.er,Lv.ev,Mb j,En.fg])
 .cases h
theorem Aad{d:Nat}{x:YO}(h:ev (.as d x:YOp R) S K=some r):Plain (.as d x:YOp R) S K r:=by
 simp only[ev]at h;split at h
 .rename_i e B;split at h
  .rename_i S1 cs j;obtain⟨q,y⟩:=Uk (R:=R) j;exact Cq h y (by simp only[YOp.er,Lv.ev,Mb B,En.fg,q])
  .cases h
 .cases h
theorem AFj{d:Nat}{c a b:YO}(h:ev (.pick d c a b:YOp R) S K=some r):Plain (.pick d c a b:YOp R) S K r:=by
 simp only[ev]at h;split at h
 .rename_i t ea eb q y B;rcases AP7 h with ⟨rfl,j⟩|⟨rfl,j⟩
  .exact Cq j (Bg.refl _) (by simp only[YOp.er,Lv.ev,Rg q,Mb y,Mb B,U.fg,En.fg,if_true])
  .exact Cq j (Bg.refl _) (by simp only[YOp.er,Lv.ev,Rg q,Mb y,Mb B,U.fg,En.fg,BV,if_false])
 .cases h
theorem yh{d:Nat}{j:List U}(h:ev (.alloc d j:YOp R) S K=some r):Plain (.alloc d j:YOp R) S K r:=by
 simp only[ev]at h;obtain⟨S',q,y,B⟩:=yW (R:=R) h;refine⟨S',?_,y,B⟩;rw[<-q];simp only[YOp.er,Lv.ev,Lv.UL,D6];rfl
theorem AO5{d:Nat}{x:YO}(h:ev (.box d x:YOp R) S K=some r):Plain (.box d x:YOp R) S K r:=by
 simp only[ev]at h;split at h
 .rename_i e G;split at h
  .rename_i S1 cs j;obtain⟨q,y⟩:=AdP (R:=R) j;split at h
   .cases h
   .rename_i I;obtain⟨S',H,B,E⟩:=yW (R:=R) h;refine⟨S',?_,y.trans B,E⟩;simp only[YOp.er,Lv.ev,Mb G,En.fg,q,aE,Aj]
    grind[Nr,Lv.E4,Lv.Fp,jD,jC,Lv.UL]
  .cases h
 .cases h
theorem yi{d:Nat}{j:List U}{ps:List (Nat×Nat×YO)}(h:ev (.build d j ps:YOp R) S K=some r):Plain (.build d j ps:YOp R) S K r:=by
 simp only[ev]at h;split at h
 .rename_i ls q;have:=AAc (R:=R) q;rw[D6]at this;refine Cq h (Bg.refl _) ?_;simp only[YOp.er,Lv.ev,D6];rw[show (Lv.AU.t∘U.fg)=(AU.fg R∘AU.t) from rfl,this]
 .cases h
theorem mQ{d n:Nat}{c:C}{ps:List (Nat×YO)}(h:ev (.B7 d n c ps:YOp R) S K=some r):Plain (.B7 d n c ps:YOp R) S K r:=by
 simp only[ev]at h;split at h
 .rename_i z E;split at h
  .rename_i y;split at h
   .rename_i S1 xs j;have q:Lv.bsK c.size n (S.fg R) (rowsOf n (enc c z)) (ps.map (erQ R))=some (S1.fg R,xs.map (enc c))/\Bg S S1:=by
     split at j
     .rename_i B;have:=AX0 (R:=R) (z:=enc c z) [] j B (Nat.zero_le _);simpa[rowsOf] using this
     .have:=AXz (R:=R) j;rw[HD]at this;exact this
    refine Cq h q.2 ?_;simp only[YOp.er,Lv.ev,AP0 E,RS];rw[if_pos y,q.1];rfl
   .cases h
  .cases h
 .cases h
theorem Aah{d:Nat}{n:Option Nat}{x:YO}(h:ev (.ld d n x:YOp R) S K=some r):Plain (.ld d n x:YOp R) S K r:=by
 simp only[ev]at h;split at h
 .rename_i p q;obtain⟨ls,j,h⟩:=Vo (R:=R) h
  grind[Cq,Bg.refl,YOp.er,Lv.ev,FH]
 .cases h
theorem Aaj{n:Nat}{x v:YO}(h:ev (.st n x v:YOp R) S K=some r):Plain (.st n x v:YOp R) S K r:=by
 simp only[ev]at h;split at h
 .rename_i p e G E;split at h
  .rename_i B;obtain⟨S',j,q,y⟩:=AXH (R:=R) h;refine⟨S',?_,q,y⟩;simp only[YOp.er,Lv.ev,FH G,Mb E,En.fg,Aj];rw[if_pos B,j]
  .cases h
 .cases h
theorem AO6{d:Nat}{x:YO}(h:ev (.chk d x:YOp R) S K=some r):Plain (.chk d x:YOp R) S K r:=by
 simp only[ev]at h
 grind[Cq,Bg.refl,YOp.er,Lv.ev,FH,AaA]
theorem AO4{d:Nat}{c:Cls}{op:BinOp}{x y:YO}(h:ev (.bin d c op x y:YOp R) S K=some r):Plain (.bin d c op x y:YOp R) S K r:=by
 simp only[ev]at h;split at h
 .rename_i ex ey j q;obtain⟨u,B,h⟩:=AfX (R:=R) h;exact Cq h (Bg.refl _) (by simp only[YOp.er,Lv.ev,Mb j,Mb q,B];rfl)
 .cases h
theorem Aak{d:Nat}{op:UnOp}{x:YO}(h:ev (.un d op x:YOp R) S K=some r):Plain (.un d op x:YOp R) S K r:=by
 simp only[ev]at h;split at h
 .rename_i a j;obtain⟨u,q,h⟩:=Agl h;exact Cq h (Bg.refl _) (by simp only[YOp.er,Lv.ev,Rg j,q];rfl)
 .cases h
theorem AO8{d:Nat}{k:IntKind}{x:YO}(h:ev (.cvI d k x:YOp R) S K=some r):Plain (.cvI d k x:YOp R) S K r:=by
 simp only[ev]at h
 grind[Cq,Bg.refl,YOp.er,Lv.ev,Zi,AU.fg,AaR]
theorem AFc{d:Nat}{x:YO}(h:ev (.OB d x:YOp R) S K=some r):Plain (.OB d x:YOp R) S K r:=by
 simp only[ev]at h;split at h
 .rename_i s j;exact Cq h (Bg.refl _) (by simp only[YOp.er,Lv.ev,Rg j,U.fg];rfl)
 .cases h
theorem AFb{d:Nat}{x:YO}(h:ev (.Ru d x:YOp R) S K=some r):Plain (.Ru d x:YOp R) S K r:=by
 simp only[ev]at h;split at h
 .rename_i l y;split at h
  .rename_i w G;split at h
   .rename_i j E;have q:=T1 (R:=R) G;rw[pS E]at q;refine Cq h (Bg.refl _) ?_;have B:bytesOf (j.map (enc .u))=some j:=AGw j;simp only[YOp.er,Lv.ev,FH y,q,B];rfl
   .cases h
  .cases h
 .cases h
theorem AFf{d n:Nat}{caps:List YO}(h:ev (.PF d n caps:YOp R) S K=some r):Plain (.PF d n caps:YOp R) S K r:=by
 simp only[ev]at h;split at h
 .rename_i es B;split at h
  .rename_i cs y;obtain⟨j,q⟩:=AAX (R:=R) y;refine Cq h (Bg.refl _) ?_;simp only[YOp.er,Lv.ev,ma B];rw[if_pos j,q];rfl
  .cases h
 .cases h
theorem AFg{d:Nat}{c:C}{n:YO}(h:ev (.Nt d c n:YOp R) S K=some r):Plain (.Nt d c n:YOp R) S K r:=by
 simp only[ev]at h;split at h
 .grind[T6,Cq,Bg.refl,YOp.er,Lv.ev,Zi,AP0,RS,rowsOf,AU.fg,U.fg,List.map_replicate]
 .cases h
theorem AFk{d:Nat}{x:YO}{lo hi:Option YO}(h:ev (.dk d x lo hi:YOp R) S K=some r):Plain (.dk d x lo hi:YOp R) S K r:=by
 simp only[ev]at h;split at h
 .rename_i s y;obtain⟨a,b,j,h,q⟩:=Qo (R:=R) h;rw[q s rfl]at h;exact Cq h (Bg.refl _) (by simp only[YOp.er,Lv.ev,Rg y,U.fg,j];rfl)
 .cases h
theorem AYt{q:CV}{sub:Option (Nat×Nat)}{w:Rw}{c:C}{xs:List c.D}(h:S.elems (.al q sub)=some w)(j:w.as c=some xs):(S.fg R).elems (.al q sub)=some (xs.map (enc c)):=by
 have:=T1 (R:=R) h;rw[pS j]at this;exact this
theorem APD{d:Nat}{c:C}{x:YO}{lo hi:Option YO}(h:ev (.sub d c x lo hi:YOp R) S K=some r):Plain (.sub d c x lo hi:YOp R) S K r:=by
 simp only[ev]at h;split at h
 .rename_i l G;split at h
  .rename_i H;split at h
   .rename_i q sub;have j:=bC (R:=R) H (.inr (.inl ⟨_,_,rfl⟩));split at h
    .rename_i w I;split at h
     .rename_i xs J;obtain⟨a,b,B,h,_⟩:=Qo (R:=R) h;have E:=AYt (R:=R) I J;have y:=FH (R:=R) G;simp only[AU.fg]at j y;refine Cq h (Bg.refl _) ?_;simp only[YOp.er,Lv.ev,y,j,if_true,E,Aj,B];cases sub with|none=>rfl|some p=>rfl
     .cases h
    .cases h
   .rename_i s L xs;have j:=bC (R:=R) H (.inl ⟨_,_,_,rfl⟩);obtain⟨a,b,B,h,E⟩:=Qo (R:=R) h;rw[E xs rfl]at h;have y:=FH (R:=R) G;simp only[AU.fg]at j y;refine Cq h (Bg.refl _) ?_;simp only[YOp.er,Lv.ev,y,j,if_true,Lv.St.elems,Aj,B,AJ,Bf,AU.fg,Cz,Ck]
   .obtain⟨a,b,B,h,_⟩:=Qo (R:=R) h;have j:=bC (R:=R) H (.inr (.inr rfl));have y:=FH (R:=R) G;simp only[AU.fg,U.fg]at j y;refine Cq h (Bg.refl _) ?_;simp only[YOp.er,Lv.ev,y,j,if_true,Lv.St.elems,AN,B,AJ,Bf,AU.fg,U.fg]
   .cases h
  .cases h
 .cases h
theorem Aae{d off:Nat}{x:YO}(h:ev (.fa d off x:YOp R) S K=some r):Plain (.fa d off x:YOp R) S K r:=by
 simp only[ev]at h;split at h
 .rename_i p j;split at h
  .rename_i q y;exact Cq h (Bg.refl _) (by simp only[YOp.er,Lv.ev,FH j,AVb y];rfl)
  .cases h
 .cases h
theorem APA{d off:Nat}{n:Option Nat}{x:YO}(h:ev (.fld d off n x:YOp R) S K=some r):Plain (.fld d off n x:YOp R) S K r:=by
 simp only[ev]at h;split at h
 .rename_i cs q;split at h
  .rename_i j;refine Cq h (Bg.refl _) ?_;simp only[YOp.er,Lv.ev,Mb q,En.fg,Aj,j,if_true,Cz,Ck]
  .cases h
 .cases h
theorem Aaf{d:Nat}{c:C}{x i:YO}(h:ev (.ia d c x i:YOp R) S K=some r):Plain (.ia d c x i:YOp R) S K r:=by
 simp only[ev]at h;split at h
 .rename_i l n I J;split at h
  .rename_i O;split at h
   .rename_i q sub;have j:=bC (R:=R) O (.inr (.inl ⟨_,_,rfl⟩));split at h
    .rename_i H xs X;obtain⟨y,G,h⟩:=eF h;have L:=T1 (R:=R) X;have E:=FH (R:=R) I;simp only[AU.fg]at j E L;have B:=TT G;refine Cq h (Bg.refl _) ?_;simp only[YOp.er,Lv.ev,E,Zi J,L,Rw.fg,Aj];rw[if_pos ⟨j,B.1,B.2.1⟩];cases sub with
     |none=>rfl|some p=>
      obtain⟨lo,m⟩:=p;simp only[AJ,Bf,AU.fg];congr 5;have:=B.1;omega
    .split at h
     .split at h
      .rename_i H xs Z Y;obtain⟨y,G,h⟩:=eF h;have E:=FH (R:=R) I;simp only[AU.fg]at j E;have B:=TT G;refine Cq h (Bg.refl _) ?_;simp only[YOp.er,Lv.ev,E,Zi J,Lv.St.elems,LX,Y,As,AU.fg,Lv.content,Lv.KQ,ie,Aj];rw[if_pos ⟨j,B.1,B.2.1⟩];rfl
      .cases h
     .cases h
   .rename_i s H xs;have j:=bC (R:=R) O (.inl ⟨_,_,_,rfl⟩);obtain⟨y,G,h⟩:=eF h;have E:=FH (R:=R) I;simp only[AU.fg]at j E;have B:=TT G;refine Cq h (Bg.refl _) ?_;simp only[YOp.er,Lv.ev,E,Zi J,Lv.St.elems,Aj];rw[if_pos ⟨j,B.1,B.2.1⟩];have Q:(xs.map (enc H)).getD n.toNat []=(cells H y).map U.fg:=by
     rw[BW,ADa G,LG,FX]
    rw[Q];rfl
   .cases h
  .cases h
 .cases h
theorem Aag{d:Nat}{x i:YO}(h:ev (.ix d x i:YOp R) S K=some r):Plain (.ix d x i:YOp R) S K r:=by
 simp only[ev]at h;split at h
 .rename_i s n B q;obtain⟨y,E,h⟩:=eF h;have j:=TT E;refine Cq h (Bg.refl _) ?_;simp only[YOp.er,Lv.ev,Rg B,U.fg,Zi q];rw[if_pos ⟨j.1,j.2.1⟩];have:s.getD n.toNat 0=y:=by rw[BW,j.2.2.2.1,LG]
  rw[this];rfl
 .cases h
theorem AO9{d:Nat}{x:YO}{i:Nat}(h:ev (.ext d x i:YOp R) S K=some r):Plain (.ext d x i:YOp R) S K r:=by
 simp only[ev]at h;split at h
 .rename_i s;split at h
  .rename_i ns cs v E;split at h
   .rename_i n G;split at h
    .rename_i B;split at h
     .rename_i S1 ls q;obtain⟨j,y⟩:=Uk (R:=R) q;refine Cq h y ?_;simp only[YOp.er,YO.er,Lv.ev,iT,E,As,Ent.fg,G,Aj,B,if_true];rw[Cz,Ck,ADV]at j;rw[j]
     .cases h
    .cases h
   .cases h
  .cases h
 .cases h
theorem AFd{d:Nat}{x:YO}(h:ev (.lens d x:YOp R) S K=some r):Plain (.lens d x:YOp R) S K r:=by
 simp only[ev]at h;split at h
 .rename_i s j;exact Cq h (Bg.refl _) (by simp only[YOp.er,Lv.ev,Rg j,U.fg];rfl)
 .cases h
theorem APB{d:Nat}{x:YO}(h:ev (.len d x:YOp R) S K=some r):Plain (.len d x:YOp R) S K r:=by
 simp only[ev]at h;split at h
 .rename_i l y;split at h
  .rename_i c xs q;have j:=T1 (R:=R) q;exact Cq h (Bg.refl _) (by simp only[YOp.er,Lv.ev,FH y,j,Rw.fg,Aj];rfl)
  .rename_i q;have j:=T1 (R:=R) q;exact Cq h (Bg.refl _) (by simp only[YOp.er,Lv.ev,FH y,j,Rw.fg,AN];rfl)
  .cases h
 .cases h
theorem AO3{d:Nat}{c:C}{fl:Bool}{x y:YO}(h:ev (.app d c fl x y:YOp R) S K=some r):Plain (.app d c fl x y:YOp R) S K r:=by
 simp only[ev]at h;split at h
 .rename_i lx ly O Q;split at h
  .rename_i S1 ys j;obtain⟨q,B⟩:=Aei (R:=R) j;split at h
   .rename_i S2 b n e E;obtain⟨J,h⟩:=AY6 h;obtain⟨G,H⟩:=AGt (R:=R) E J;obtain⟨I,h⟩:=T6 h;split at h
    .rename_i u L;refine Cq h (B.trans H) ?_;simp only[YOp.er,Lv.ev,FH O,FH Q,q,G,Aj];rw[if_pos I,<-AP4 L];rfl
    .cases h
   .cases h
  .cases h
 .cases h
theorem AFa{d:Nat}{c:C}{x n:YO}(h:ev (.Wr d c x n:YOp R) S K=some r):Plain (.Wr d c x n:YOp R) S K r:=by
 simp only[ev]at h;split at h
 .rename_i lx k z J H L;obtain⟨j,h⟩:=T6 h;split at h
  .rename_i S2 b m e q;obtain⟨G,h⟩:=AY6 h;obtain⟨y,B⟩:=AGt (R:=R) q G;obtain⟨E,h⟩:=T6 h;split at h
   .rename_i u I;refine Cq h B ?_;simp only[YOp.er,Lv.ev,FH J,Zi H,AP0 L,RS];rw[if_pos j]
    try dsimp only
    rw[y]
    try dsimp only
    rw[if_pos E];have:=AP4 I;rw[HD]at this;simp only[rowsOf,<-this,AJ,Bf,AU.fg]
   .cases h
  .cases h
 .cases h
theorem AO7{d:Nat}{c:C}{x y:YO}(h:ev (.cpy d c x y:YOp R) S K=some r):Plain (.cpy d c x y:YOp R) S K r:=by
 simp only[ev]at h;split at h
 .rename_i q ly hx hy;split at h
  .rename_i O B w X J;split at h
   .rename_i ys xs hys j;split at h
    .rename_i E;obtain⟨hne,h⟩:=T6 h;have Y:O=c:=by
      simp only[Rw.as]at j;split at j
      .rename_i E;exact E
      .cases j
     subst Y;have Z:B=xs:=by simp only[Rw.as]at j;simpa using j
     subst Z;have Q:=T1 (R:=R) J;rw[pS hys]at Q;have h3:=FH (R:=R) hx;simp only[AU.fg]at h3;have H:(S.fg R).wide O.size (AU.fg R ly)=true:=by
      refine bC E.1 ?_;unfold St.elems at J;split at J
      .exact .inr (.inl ⟨_,_,rfl⟩)
      .exact .inl ⟨_,_,_,rfl⟩
      .exact .inr (.inr rfl)
      .cases J
     have G:(B.map (enc O)).isEmpty=false:=by cases B<;>simp_all
     have I:=FH (R:=R) hy;generalize AU.fg R ly=L at I Q H;refine Cq h ((Bg.B3 _ _ _).trans (Bg.kill _ _)) ?_;simp only[YOp.er,Lv.ev,h3,I,LX,X,As,AU.fg,U.fg,Q];rw[if_pos ⟨trivial,H,Jg E.2 _,Jg E.2 _,G⟩,<-Lr (Vy q),He];simp only[AU.fg,U.fg,C4,Cz,Ck,Aj,AJ,Bf]
    .cases h
   .cases h
  .cases h
 .cases h
theorem ATz{d:Nat}{m:Bool}{x y:YO}(h:ev (.mm d m x y:YOp R) S K=some r):Plain (.mm d m x y:YOp R) S K r:=by
 simp only[ev]at h;split at h
 .rename_i k a E b j q;split at h
  .rename_i B;exact Cq h (Bg.refl _) (by simp only[YOp.er,Lv.ev,Rg j,Rg q,U.fg];rw[if_pos B];rfl)
  .cases h
 .cases h
theorem yR{x:YO}{q:CV}{ks:List (Int×Int)}(h:S.UG x=some (q,ks)):(S.fg R).UG (x.er R)=some (q,ks):=by
 unfold St.UG at h;split at h
 .rename_i E j;split at h
  .rename_i y B;cases h;have:=FH (R:=R) j
   grind[AU.fg,Lv.St.UG,LX,U.fg]
  .cases h
 .cases h
theorem APC{d:Nat}(h:ev (.mmk d:YOp R) S K=some r):Plain (.mmk d:YOp R) S K r:=by
 simp only[ev]at h;exact Cq h (Bg.refl _) (by simp only[YOp.er,Lv.ev];rfl)
theorem AFe{d:Nat}{x k:YO}(h:ev (.bF d x k:YOp R) S K=some r):Plain (.bF d x k:YOp R) S K r:=by
 simp only[ev]at h;split at h
 .rename_i q ks n j y;exact Cq h (Bg.refl _) (by simp only[YOp.er,Lv.ev,yR j,Rg y,U.fg];rfl)
 .cases h
theorem AFh{d:Nat}{x:YO}(h:ev (.bG d x:YOp R) S K=some r):Plain (.bG d x:YOp R) S K r:=by
 simp only[ev]at h;split at h
 .rename_i q ks j;exact Cq h (Bg.refl _) (by simp only[YOp.er,Lv.ev,yR j];rfl)
 .cases h
theorem AFi{x k v:YO}(h:ev (.Zg x k v:YOp R) S K=some r):Plain (.Zg x k v:YOp R) S K r:=by
 simp only[ev]at h;split at h
 .rename_i q ks n m j y B;refine⟨_,?_,(Bg.B3 _ _ _).trans (Bg.kill _ _),h⟩;simp only[YOp.er,Lv.ev,yR j,Rg y,Rg B,U.fg];rw[<-Lr (Vy q),He];rfl
 .cases h
theorem AS5{o:YOp R}(h:ev o S K=some r):∃S',Bg S S'/\K S'=some r/\∀N:Lv.St->Prop,N (S'.fg R)->opK IM o.er (S.fg R) N:=by
 have pl:Plain o S K r->∃S',Bg S S'/\K S'=some r/\∀N:Lv.St->Prop,N (S'.fg R)->opK IM o.er (S.fg R) N:=fun ⟨S',j,q,y⟩=>⟨S',q,y,fun N hN=>.inl ⟨_,j,hN⟩⟩
 cases o with
 |mv=>exact pl (Aai h)|as=>exact pl (Aad h)|pick=>exact pl (AFj h)|alloc=>exact pl (yh h)|box=>exact pl (AO5 h)|build=>exact pl (yi h)|B7=>exact pl (mQ h)|ld=>exact pl (Aah h)|st=>exact pl (Aaj h)|chk=>exact pl (AO6 h)|bin=>exact pl (AO4 h)|un=>exact pl (Aak h)|cvI=>exact pl (AO8 h)|OB=>exact pl (AFc h)|Ru=>exact pl (AFb h)|PF=>exact pl (AFf h)|Nt=>exact pl (AFg h)|sub=>exact pl (APD h)|dk=>exact pl (AFk h)|fa=>exact pl (Aae h)|fld=>exact pl (APA h)|ia=>exact pl (Aaf h)|ix=>exact pl (Aag h)|ext=>exact pl (AO9 h)|len=>exact pl (APB h)|lens=>exact pl (AFd h)|app=>exact pl (AO3 h)|Wr=>exact pl (AFa h)|cpy=>exact pl (AO7 h)|mm=>exact pl (ATz h)|mmk=>exact pl (APC h)|bF=>exact pl (AFe h)|Zg=>exact pl (AFi h)|bG=>exact pl (AFh h)|bad=>simp[ev]at h|drop Q=>exact pl ⟨_,by simp only[YOp.er,Lv.ev,ALM],Bg.Iw _ _,h⟩|Zk ns=>exact pl ⟨_,by simp only[YOp.er,Lv.ev,AFK],Bg.Vv _ _,h⟩|call d g fs I args=>
  simp only[ev]at h;split at h
  .rename_i es G;obtain⟨S1,vs,cs,outs,S',j,q,y,B,E⟩:=AG2 (Al.of I) h;refine⟨S',B,E,fun N hN=>.inr ⟨d,g.x,es.map (En.fg R),S1,vs,_,cs,outs,_,?_,j,q,y,hN⟩⟩;simp only[YOp.er,Lv.Fv,ma G]
  .cases h
 |D1 d x ms args=>
  simp only[ev]at h;split at h
  .rename_i n caps es H G;split at h
   .rename_i g J;split at h
    .rename_i L;obtain⟨S1,vs,cs,outs,S',j,q,y,B,E⟩:=AG2 (Al.nil _) h;refine⟨S',B,E,fun N hN=>.inr ⟨d,g.x,_,S1,vs,_,cs,outs,_,?_,j,q,y,hN⟩⟩;have O:xr R n=g.x:=by unfold xr;rw[J]
     simp only[YOp.er,Lv.Fv,FH H,ma G,AU.fg,O];rw[if_pos (by rw[g.ms,L])];simp only[C4,D6,AE,Prod.mk.injEq,true_and,List.append_cancel_left_eq];apply List.map_congr_left;intro c _;simp only[Function.comp,En.fg,AJ,Bf,m7]
    .cases h
   .cases h
  .cases h
end
end Y
end Lv
namespace Lv
open Go (IntKind BinOp UnOp)
namespace Y
section
variable{R:List GF}{ρ:Type}
def B2.er:B2 R->Wi|.nil=>.nil|.op i g sf o rest=>.op i g sf o.er rest.er|.dr ds rest=>.dr ds rest.er|.nl ns rest=>.nl (ns.map fun p=>(p.1,p.2.size)) rest.er|.both _ a b=>.both a.er b.er
def G7.er:G7 R->Pl|.skip=>.skip|.region ops _=>.region (ops.map fun p=>(p.1,p.2.er)) []|.RD r _=>.RD r.er []|.seq a b=>.seq a.er b.er|.join _ a b=>.seq a.er b.er|.cond c _ _ t e=>.cond c [] [] t.er e.er|.block id b=>.block id b.er|.loop _ b=>.loop b.er|.exit id=>.exit id|.ret=>.ret|.scope b=>.scope b.er|.or a b=>.or a.er b.er|.dead=>.dead|.AeO _ b=>.loop b.er
theorem Aft(o:YOp R):o.er.wa=o.wa:=by cases o<;>rfl
theorem zK{o:YOp R}{S:St}{K:St->Option ρ}{r:ρ}(h:N4 o S K=some r):∃S',Lv.N4 o.er (S.fg R)=some (S'.fg R)/\Bg S S'/\K S'=some r:=by
 unfold N4 at h;unfold Lv.N4;rw[Aft];split at h
 .rename_i d B;obtain⟨S',j,q,y⟩:=pH (R:=R) h;rw[B];exact⟨S',j,q,y⟩
 grind[Bg.refl]
theorem Ab4{s:Nat}{e x:Ent}:∀{l:List (Nat×Ent)},get l s=some x->e.fg R=x.fg R->fgE R (reE s e l)=fgE R l
 | [],h,_=>rfl|(k,y)::l,h,q=>by
  simp only[get]at h;simp only[reE];cases j:Nat.beq k s with
  |true=>rw[j]at h;cases h;simp only[fgE,AJ,q]
  |false=>
   rw[j]at h;have:=Ab4 (l:=l) h q
   grind[fgE]
theorem AS9{s:Nat}{e:Ent}:∀{l:List (Nat×Ent)} {k:Nat} {y:Ent},get (reE s e l) k=some y->y=e\/get l k=some y
 | [],k,y,h=>.inr h|(j,x)::l,k,y,h=>by
  simp only[reE]at h;cases B:Nat.beq j s with
  |true=>
   grind[get,Nat.beq]
  |false=>
   rw[B]at h;simp only[get]at h ⊢;cases q:Nat.beq j k with
   |true=>rw[q]at h;exact .inr h|false=>rw[q]at h;exact AS9 h
theorem AgB{S:St}{s:Nat}{b:Bool}{v:Nat}(h:get S.tm s=some ⟨.one,[.t (.bool b)],v⟩):(S.lit s b).fg R=S.fg R/\Bg S (S.lit s b):=by
 refine⟨?_,by simp[St.lit],fun k e q y=>?_,fun _ _ h _=>h,rfl⟩
 .simp only[St.fg,St.lit];have:=Ab4 (R:=R) (e:=⟨.one,[.t (.bool b)],S.nv⟩) h rfl;rw[this]
 .rcases AS9 q with rfl|j
  .grind
  .exact j
def Gd(R:List GF)(g:Option (Nat×Bool))(o:YOp R)(S:Lv.St)(N:Lv.St->Prop):Prop:=
 ∃b,Lv.wanted S g=some b/\((b=true/\opK IM o.er S N)\/(b=false/\∃S',Lv.N4 o.er S=some S'/\N S'))
theorem ADL{S:St}{s:Nat}{w b:Bool}{v:Nat}(h:get S.tm s=some ⟨.one,[.t (.bool b)],v⟩):Lv.wanted (S.fg R) (some (s,w))=some (b==w):=by
 simp only[Lv.wanted,iT,h];rfl
theorem ANC{S:St}{s:Nat}{w:Bool}{v:Nat}(h:get S.tm s=some ⟨.one,[.und],v⟩):Lv.wanted (S.fg R) (some (s,w))=some false:=by
 simp only[Lv.wanted,iT,h];rfl
theorem aF{S:St}{s:Nat}{w b:Bool}{v:Nat}{o:YOp R}{f:Option ρ}{K:St->Option ρ}{r:ρ}{P:Lv.St->(Lv.St->Prop)->Prop}(y:get S.tm s=some ⟨.one,[.t (.bool b)],v⟩)(x:Bool)(G:x=(b==w))
 (h:yl x o (S.lit s b) f K=some r) (H:f=some r->∃S',Bg (S.lit s b) S'/\K S'=some r/\∀N:Lv.St->Prop,N (S'.fg R)->P ((S.lit s b).fg R) N) :
 ∃S',Bg S S'/\K S'=some r/\∀N:Lv.St->Prop,N (S'.fg R)->∃b,Lv.wanted (S.fg R) (some (s,w))=some b/\((b=true/\P (S.fg R) N)\/(b=false/\∃S',Lv.N4 o.er (S.fg R)=some S'/\N S')):=by
 obtain⟨I,E⟩:=AgB (R:=R) y;cases x with
 |true=>
  obtain⟨S',j,q,B⟩:=H h;refine⟨S',E.trans j,q,fun N hN=>⟨_,ADL y,.inl ⟨G.symm,?_⟩⟩⟩
  grind
 |false=>
  obtain⟨S',j,q,B⟩:=zK (R:=R) h;refine⟨S',E.trans q,B,fun N hN=>⟨_,ADL y,.inr ⟨G.symm,_,?_,hN⟩⟩⟩
  rwa[I]at j
theorem Afx{g:Option (Nat×Bool)}{o:YOp R}{S:St}{K:St->Option ρ}{r:ρ}(h:evg g o S K=some r) :
 ∃S',Bg S S'/\K S'=some r/\∀N:Lv.St->Prop,N (S'.fg R)->Gd R g o (S.fg R) N:=by
 unfold evg at h;split at h
 .obtain⟨S',y,B,E⟩:=AS5 h;exact⟨S',y,B,fun N hN=>⟨true,rfl,.inl ⟨rfl,E N hN⟩⟩⟩
 .rename_i s w;split at h
  .rename_i b v j;rcases AP7 h with ⟨rfl,q⟩|⟨rfl,q⟩
   .exact aF (P:=opK IM o.er) j w (by cases w<;>rfl) q fun G=>AS5 G
   .exact aF (P:=opK IM o.er) j (!w) (by cases w<;>rfl) q fun G=>AS5 G
  .rename_i v j;obtain⟨S',y,B,E⟩:=zK (R:=R) h;exact⟨S',B,E,fun N hN=>⟨false,ANC j,.inr ⟨rfl,_,y,hN⟩⟩⟩
  .cases h
theorem AYx:∀{ops:List (Option (Nat×Bool)×YOp R)} {S:St} {K:St->Option ρ} {r:ρ},evs ops S K=some r ->
 ∃S',Bg S S'/\K S'=some r/\∀N:Lv.St->Prop,N (S'.fg R)->APF IM (ops.map fun p=>(p.1,p.2.er)) (S.fg R) N
 | [],S,K,r,h=>⟨S,Bg.refl _,h,fun N hN=>hN⟩|(g,o)::ops,S,K,r,h=>by
  have j:evg g o S (fun S'=>evs ops S' K)=some r:=by
   grind[evs,FE]
  obtain⟨S1,q,y,B⟩:=Afx j;obtain⟨S2,E,G,H⟩:=AYx y;exact⟨S2,q.trans E,G,fun N hN=>B _ (H N hN)⟩
theorem AhX(o:YOp R):o.er.wr=o.wr.map (YO.er R):=by cases o<;>rfl
theorem j9(l:AU):∀(ks:List PK) (es:List En),Lv.Kn (AU.fg R l) (ks.map PK.md) (es.map (En.fg R))=Kn l ks es
 | [],es=>by cases es<;>rfl
 |k::ks,[]=>rfl|k::ks,e::es=>by
  simp only[AJ,Lv.Kn,Kn,ADO,En.fg,List.all_map,Function.comp_def,AW6,j9 l ks es]
theorem Ady{S:St}{l:AU}(h:S.P5 l=true):(S.fg R).P5 (AU.fg R l)=true:=by
 unfold St.P5 at h;split at h
 .simp only[AU.fg,Lv.St.P5,T2,Option.isSome_map];exact h
 .rfl
 .rename_i s cs;cases cs<;>simp_all[AU.fg,Lv.St.P5]
 .grind[AU.fg,Lv.St.P5,LX,Ad8]
 .rfl
 .rfl
 .cases h
theorem AG3{o:YOp R}{S:Lv.St}(j:∀d g fs y args,o≠.call d g fs y args)(q:∀d x ms args,o≠.D1 d x ms args):Lv.Fv o.er S=none:=by
 cases o<;>first|rfl|(exact(j _ _ _ _ _ rfl).elim)|(exact(q _ _ _ _ rfl).elim)
theorem AcE{o:YOp R}{S:St}{l:AU}(h:bu o S l=true):Lv.bu o.er (S.fg R) (AU.fg R l)=true:=by
 unfold bu at h;simp only[AF]at h;obtain⟨X,q⟩:=h;unfold Lv.bu;rw[Ady X,Bool.true_and];have E:(AU.fg R l).CA=l.CA:=MD l;have gen:(∀d g fs Q args,o≠.call d g fs Q args)->(∀d x ms args,o≠.D1 d x ms args) ->
  (match o.wr with|some y=>(match S.one y with|some lt=>l.CA.isNone||!(match l.CA with|some r=>isR lt.CA r|none=>lt.CA.isNone)|none=>false)|none=>true)=true ->
  (match Lv.Fv o.er (S.fg R) with
  |some (_,f,es)=>Lv.Kn (AU.fg R l) (Ek f) es|none=>match o.er.wr with
   |some y=>(match (S.fg R).one y with|some lt=>(AU.fg R l).CA.isNone||decide ((AU.fg R l).CA≠lt.CA)|none=>true)
   |none=>true)=true:=by
  intro n1 n2 h;rw[AG3 n1 n2,AhX];cases hy:o.wr with
  |none=>rfl|some y=>
   rw[hy]at h;dsimp only at h;cases B:S.one y with
   |none=>rw[B]at h;cases h
   |some lt=>
    rw[B]at h;dsimp only at h ⊢;simp only[As,FH B];rw[E,MD,decide_not,<-AcB];exact h
 cases o with
 |st n x v=>
  dsimp only at q;have H:Lv.names (AU.fg R l)=names l:=yV l;generalize AU.fg R l=L at H E ⊢;cases B:S.one x with
  |none=>rw[B]at q;cases q
  |some lp=>
   rw[B]at q;have G:=FH (R:=R) B;simp only[YOp.er,G];cases lp with
   |bp id o=>
    dsimp only at q;show (!(Lv.names L).contains id)=true;rw[H,List.contains_eq_mem,<-aZ];exact q
   |ep r0 i j=>
    dsimp only at q;show decide (L.CA≠some r0)=true;rw[E];rw[lq]at q;simpa using q
   |_=>cases q
 |call d g fs Q args=>
  dsimp only at q;cases J:S.rds args with
  |none=>rw[J]at q;cases q
  |some es=>
   rw[J]at q;have G:=j9 (R:=R) l g.ps es;generalize AU.fg R l=L at G ⊢;simp only[YOp.er,Lv.Fv,ma J,g.ms];rw[G];exact q
 |D1 d x ms args=>
  dsimp only at q;split at q
  .rename_i n caps es H Y;split at q
   .rename_i g Z;split at q
    .rename_i h7;have hx:xr R n=g.x:=by unfold xr;rw[Z]
     have I:=j9 (R:=R) l g.ps (es++caps.map fun l=>⟨.one,[l.leaf]⟩);rw[C4,D6]at I;rw[show (En.fg R∘fun l=>(⟨.one,[l.leaf]⟩:En))=((fun l=>(⟨Sh.one,[l]⟩:Lv.Ent))∘Cap.fg) from by funext c;simp only[Function.comp,En.fg,AJ,Bf,m7],<-D6]at I;have O:=FH (R:=R) H;simp only[AU.fg,hx]at O;generalize AU.fg R l=L at I ⊢;simp only[YOp.er,Lv.Fv,O,ma Y];rw[if_pos (by rw[g.ms,h7])];dsimp only;rw[g.ms,I];exact q
    .cases q
   .cases q
  .cases q
 |_=>exact gen (by intros;simp) (by intros;simp) q
theorem AMc{o:YOp R}{S:St}:∀{sf:List Nat},Ke o S sf=true->Lv.Ke o.er (S.fg R) sf=true
 | [],h=>rfl|s::sf,h=>by
  simp only[Ke,AF]at h;obtain⟨j,q⟩:=h;simp only[Lv.Ke,AF];refine⟨?_,AMc q⟩;split at j
  .rename_i l y;have:=FH (R:=R) y
   grind[YO.er,AcE]
  .cases j
theorem ADu:∀{a b:List (Option Nat)},AUw a b=true->a=b
 | [],[],_=>rfl|none::r,none::j,h=>by simp only[AUw]at h;rw[ADu h]|some a::r,some b::j,h=>by simp only[AUw,AF]at h;rw[beq_true h.1,ADu h.2]| [],_::_,h=>by cases h
 |none::_,[],h=>by cases h
 |some _::_,[],h=>by cases h
 |none::_,some _::_,h=>by cases h
 |some _::_,none::_,h=>by cases h
theorem Adr{a b:Sh}(h:Afv a b=true):a=b:=by
 cases a<;>cases b<;>first|rfl|(cases h;done)|(simp only[Afv]at h;first|rw[ADu h]|rw[beq_true h])
theorem ALP:∀{a b:Option (Nat×Nat)},AS2 a b=true->a=b
 |none,none,_=>rfl|some (a,b),some (j,q),h=>by simp only[AS2,AF]at h;rw[beq_true h.1,beq_true h.2]|none,some _,h=>by cases h
 |some _,none,h=>by cases h
theorem mc:∀{a b:CV},CV.is a b=true->a=b
 |.tmp s c,.tmp q j,h=>by
  grind[CV.is,beq_true]
 |.cell s c,.cell q j,h=>by
  simp only[CV.is]at h
  grind[beq_true]
 |.tmp _ _,.cell _ _,h=>by cases h
 |.cell _ _,.tmp _ _,h=>by cases h
theorem ALO{a b:Src}(h:AS1 a b=true):a=b:=by
 cases a<;>cases b<;>simp only[AS1,AF]at h<;>first|(cases h;done)|rw[mc h.1,ALP h.2]|rw[beq_true h]
theorem AS0:∀{a b:List (Nat×Nat)},Adq a b=true->a=b
 | [],[],_=>rfl|(a,b)::r,(j,q)::y,h=>by simp only[Adq,AF]at h;rw[beq_true h.1.1,beq_true h.1.2,AS0 h.2]| [],_::_,h=>by cases h
 |_::_,[],h=>by cases h
theorem ZL{γ:Type}{b:Bool}{x:Option γ}{r:γ}(h:ifB b x=some r):b=true/\x=some r:=by
 grind
theorem ANM{x y:U}{X:Option ρ}{r:ρ}(h:agU x y X=some r):x=y/\X=some r:=by
 cases x<;>cases y<;>simp only[agU]at h<;>first|(cases h;done)|exact⟨rfl,h⟩|skip
 .grind[Xf]
 .grind[Xf]
 .obtain⟨rfl,j⟩:=Xf h;exact⟨rfl,j⟩
 .obtain⟨rfl,j⟩:=Xf h;exact⟨rfl,j⟩
 .grind[Xf]
 grind[Xf]
theorem AP1:∀{x y:List U} {X:Option ρ} {r:ρ},AfO x y X=some r->x=y/\X=some r
 | [],[],X,r,h=>⟨rfl,h⟩|a::x,b::y,X,r,h=>by
  obtain⟨rfl,j⟩:=ANM h;obtain⟨rfl,q⟩:=AP1 j;exact⟨rfl,q⟩
 | [],_::_,_,_,h=>by cases h
 |_::_,[],_,_,h=>by cases h
theorem AXj{c j:C}{xs:List c.D}{ys:List j.D}{X:Option ρ}{r:ρ}(h:(if h:j=c then eqv xs (h▸ys) X else none)=some r):(⟨c,xs⟩:(c:C)×List c.D)=⟨j,ys⟩/\X=some r:=by
 grind[Xf]
theorem Ac7:∀{x y:AU} {X:Option ρ} {r:ρ},Agr x y X=some r->x=y/\X=some r
 |.t x,.t y,X,r,h=>by obtain⟨rfl,q⟩:=ANM h;exact⟨rfl,q⟩
 |.und,.und,X,r,h=>⟨rfl,h⟩|.ow x,.ow y,X,r,h=>by obtain⟨rfl,q⟩:=ANM h;exact⟨rfl,q⟩
 |.owh c xs Z,.owh I ys L,X,r,h=>by
  obtain⟨q,G⟩:=ZL h;obtain⟨E,B⟩:=AXj G;cases E;rw[AS0 q];exact⟨rfl,B⟩
 |.al Q s,.al O H,X,r,h=>by
  obtain⟨q,h⟩:=ZL h
  grind[mc,ALP]
 |.ep Q i j,.ep O i' j',X,r,h=>by
  obtain⟨q,h⟩:=ZL h
  grind[Xf,mc,beq_true]
 |.vw s c xs,.vw H I ys,X,r,h=>by
  obtain⟨q,G⟩:=ZL h;obtain⟨E,B⟩:=AXj G;cases E;rw[ALO q];exact⟨rfl,B⟩
 |.vp s cs,.vp H J,X,r,h=>by
  obtain⟨q,h⟩:=ZL h;obtain⟨rfl,B⟩:=AP1 h;rw[ALO q];exact⟨rfl,B⟩
 |.bp a o,.bp Y o',X,r,h=>by
  obtain⟨q,h⟩:=ZL h
  grind[beq_true]
 |.fn _ _,.fn _ _,_,_,h=>by cases h
 |.t _,.und,_,_,h=>by cases h
 |.t _,.ow _,_,_,h=>by cases h
 |.t _,.owh _ _ _,_,_,h=>by cases h
 |.t _,.al _ _,_,_,h=>by cases h
 |.t _,.ep _ _ _,_,_,h=>by cases h
 |.t _,.vw _ _ _,_,_,h=>by cases h
 |.t _,.vp _ _,_,_,h=>by cases h
 |.t _,.bp _ _,_,_,h=>by cases h
 |.t _,.fn _ _,_,_,h=>by cases h
 |.und,.t _,_,_,h=>by cases h
 |.und,.ow _,_,_,h=>by cases h
 |.und,.owh _ _ _,_,_,h=>by cases h
 |.und,.al _ _,_,_,h=>by cases h
 |.und,.ep _ _ _,_,_,h=>by cases h
 |.und,.vw _ _ _,_,_,h=>by cases h
 |.und,.vp _ _,_,_,h=>by cases h
 |.und,.bp _ _,_,_,h=>by cases h
 |.und,.fn _ _,_,_,h=>by cases h
 |.ow _,.t _,_,_,h=>by cases h
 |.ow _,.und,_,_,h=>by cases h
 |.ow _,.owh _ _ _,_,_,h=>by cases h
 |.ow _,.al _ _,_,_,h=>by cases h
 |.ow _,.ep _ _ _,_,_,h=>by cases h
 |.ow _,.vw _ _ _,_,_,h=>by cases h
 |.ow _,.vp _ _,_,_,h=>by cases h
 |.ow _,.bp _ _,_,_,h=>by cases h
 |.ow _,.fn _ _,_,_,h=>by cases h
 |.owh _ _ _,.t _,_,_,h=>by cases h
 |.owh _ _ _,.und,_,_,h=>by cases h
 |.owh _ _ _,.ow _,_,_,h=>by cases h
 |.owh _ _ _,.al _ _,_,_,h=>by cases h
 |.owh _ _ _,.ep _ _ _,_,_,h=>by cases h
 |.owh _ _ _,.vw _ _ _,_,_,h=>by cases h
 |.owh _ _ _,.vp _ _,_,_,h=>by cases h
 |.owh _ _ _,.bp _ _,_,_,h=>by cases h
 |.owh _ _ _,.fn _ _,_,_,h=>by cases h
 |.al _ _,.t _,_,_,h=>by cases h
 |.al _ _,.und,_,_,h=>by cases h
 |.al _ _,.ow _,_,_,h=>by cases h
 |.al _ _,.owh _ _ _,_,_,h=>by cases h
 |.al _ _,.ep _ _ _,_,_,h=>by cases h
 |.al _ _,.vw _ _ _,_,_,h=>by cases h
 |.al _ _,.vp _ _,_,_,h=>by cases h
 |.al _ _,.bp _ _,_,_,h=>by cases h
 |.al _ _,.fn _ _,_,_,h=>by cases h
 |.ep _ _ _,.t _,_,_,h=>by cases h
 |.ep _ _ _,.und,_,_,h=>by cases h
 |.ep _ _ _,.ow _,_,_,h=>by cases h
 |.ep _ _ _,.owh _ _ _,_,_,h=>by cases h
 |.ep _ _ _,.al _ _,_,_,h=>by cases h
 |.ep _ _ _,.vw _ _ _,_,_,h=>by cases h
 |.ep _ _ _,.vp _ _,_,_,h=>by cases h
 |.ep _ _ _,.bp _ _,_,_,h=>by cases h
 |.ep _ _ _,.fn _ _,_,_,h=>by cases h
 |.vw _ _ _,.t _,_,_,h=>by cases h
 |.vw _ _ _,.und,_,_,h=>by cases h
 |.vw _ _ _,.ow _,_,_,h=>by cases h
 |.vw _ _ _,.owh _ _ _,_,_,h=>by cases h
 |.vw _ _ _,.al _ _,_,_,h=>by cases h
 |.vw _ _ _,.ep _ _ _,_,_,h=>by cases h
 |.vw _ _ _,.vp _ _,_,_,h=>by cases h
 |.vw _ _ _,.bp _ _,_,_,h=>by cases h
 |.vw _ _ _,.fn _ _,_,_,h=>by cases h
 |.vp _ _,.t _,_,_,h=>by cases h
 |.vp _ _,.und,_,_,h=>by cases h
 |.vp _ _,.ow _,_,_,h=>by cases h
 |.vp _ _,.owh _ _ _,_,_,h=>by cases h
 |.vp _ _,.al _ _,_,_,h=>by cases h
 |.vp _ _,.ep _ _ _,_,_,h=>by cases h
 |.vp _ _,.vw _ _ _,_,_,h=>by cases h
 |.vp _ _,.bp _ _,_,_,h=>by cases h
 |.vp _ _,.fn _ _,_,_,h=>by cases h
 |.bp _ _,.t _,_,_,h=>by cases h
 |.bp _ _,.und,_,_,h=>by cases h
 |.bp _ _,.ow _,_,_,h=>by cases h
 |.bp _ _,.owh _ _ _,_,_,h=>by cases h
 |.bp _ _,.al _ _,_,_,h=>by cases h
 |.bp _ _,.ep _ _ _,_,_,h=>by cases h
 |.bp _ _,.vw _ _ _,_,_,h=>by cases h
 |.bp _ _,.vp _ _,_,_,h=>by cases h
 |.bp _ _,.fn _ _,_,_,h=>by cases h
 |.fn _ _,.t _,_,_,h=>by cases h
 |.fn _ _,.und,_,_,h=>by cases h
 |.fn _ _,.ow _,_,_,h=>by cases h
 |.fn _ _,.owh _ _ _,_,_,h=>by cases h
 |.fn _ _,.al _ _,_,_,h=>by cases h
 |.fn _ _,.ep _ _ _,_,_,h=>by cases h
 |.fn _ _,.vw _ _ _,_,_,h=>by cases h
 |.fn _ _,.vp _ _,_,_,h=>by cases h
 |.fn _ _,.bp _ _,_,_,h=>by cases h
theorem ADU:∀{x y:List AU} {X:Option ρ} {r:ρ},Ac8 x y X=some r->x=y/\X=some r
 | [],[],X,r,h=>⟨rfl,h⟩|a::x,b::y,X,r,h=>by
  obtain⟨rfl,j⟩:=Ac7 h;obtain⟨rfl,q⟩:=ADU j;exact⟨rfl,q⟩
 | [],_::_,_,_,h=>by cases h
 |_::_,[],_,_,h=>by cases h
theorem oV{a b:Nat}(h:Nat.blt a b=true):a<b:=by simp[Nat.blt]at h;omega
theorem ANL{v:Nat}{P:Nat->Ent->Prop}(hP:∀k e q,P k e->P k q->e=q):∀{x y:List (Nat×Ent)} {X:Option ρ} {r:ρ},(∀k e,(k,e)∈x->e.ver<v->P k e)->(∀k e,(k,e)∈y->e.ver<v->P k e)->agE v x y X=some r->fgE R x=fgE R y/\X=some r
 | [],[],X,r,_,_,h=>⟨rfl,h⟩|(k,e)::x,(Q,q)::y,X,r,H,I,h=>by
  simp only[agE]at h;split at h
  .rename_i O;have:=beq_true O;subst this;split at h
   .rename_i G;simp only[AF]at G;have:=hP k e q (H k e (Bm ..) (oV G.1)) (I k q (Bm ..) (oV G.2));subst this;obtain⟨B,E⟩:=ANL hP (fun k e j=>H k e (A3 _ j)) (fun k e j=>I k e (A3 _ j)) h;exact⟨by unfold fgE at B ⊢;rw[AJ,AJ,B],E⟩
   .obtain⟨J,h⟩:=ZL h;obtain⟨L,h⟩:=ADU h;obtain⟨B,E⟩:=ANL hP (fun k e j=>H k e (A3 _ j)) (fun k e j=>I k e (A3 _ j)) h;exact⟨by unfold fgE at B ⊢;rw[AJ,AJ,B];simp only[Ent.fg,Adr J,L],E⟩
  .cases h
 | [],_::_,_,_,_,_,h=>by cases h
 |_::_,[],_,_,_,_,h=>by cases h
theorem ANK{v:Nat}{P:Nat->Bx->Prop}(hP:∀k e q,P k e->P k q->e=q):∀{x y:List (Nat×Bx)} {X:Option ρ} {r:ρ},(∀k e,(k,e)∈x->e.ver<v->P k e)->(∀k e,(k,e)∈y->e.ver<v->P k e)->agB v x y X=some r->fgB R x=fgB R y/\X=some r
 | [],[],X,r,_,_,h=>⟨rfl,h⟩|(k,e)::x,(O,q)::y,X,r,H,I,h=>by
  simp only[agB]at h;split at h
  .rename_i L;have:=beq_true L;subst this;split at h
   .rename_i G;simp only[AF]at G;have:=hP k e q (H k e (Bm ..) (oV G.1)) (I k q (Bm ..) (oV G.2));subst this;obtain⟨B,E⟩:=ANK hP (fun k e j=>H k e (A3 _ j)) (fun k e j=>I k e (A3 _ j)) h;exact⟨by unfold fgB at B ⊢;rw[AJ,AJ,B],E⟩
   .obtain⟨J,h⟩:=ADU h;obtain⟨B,E⟩:=ANK hP (fun k e j=>H k e (A3 _ j)) (fun k e j=>I k e (A3 _ j)) h;exact⟨by unfold fgB at B ⊢;rw[AJ,AJ,B,J],E⟩
  .cases h
 | [],_::_,_,_,_,_,h=>by cases h
 |_::_,[],_,_,_,_,h=>by cases h
theorem ALp{α:Type}{k:Nat}{e:α}:∀{l:List (Nat×α)},(k,e)∈l->ng k l=true
 |(j,x)::l,h=>by
  simp only[ng];cases q:Nat.beq j k with
  |true=>rfl|false=>
   rcases Ag.1 h with h|h
   .cases h;rw[Ot]at q;cases q
   .exact ALp h
theorem UM{α:Type}{k:Nat}{e:α}:∀{l:List (Nat×α)},ya l=true->(k,e)∈l->get l k=some e
 |(j,x)::l,q,h=>by
  simp only[ya,AF,BR]at q;simp only[get];rcases Ag.1 h with h|h
  .cases h;rw[Ot]
  .cases y:Nat.beq j k with
   |true=>rw[beq_true y,ALp h]at q;cases q.1
   |false=>exact UM q.2 h
theorem AfN{S A B:St}{X:Option ρ}{r:ρ}(hA:Bg S A)(hB:Bg S B)(h:agS S.nv A B X=some r):A.fg R=B.fg R/\X=some r:=by
 obtain⟨E,h⟩:=ZL h;simp only[AF]at E;obtain⟨⟨⟨J,L⟩,O⟩,Q⟩:=E;obtain⟨H,h⟩:=ANL (R:=R) (P:=fun k e=>get S.tm k=some e) (fun k e G h y=>by rw[h]at y;exact Option.some.inj y) (fun k e j q=>hA.tm k e (UM J j) q) (fun k e j q=>hB.tm k e (UM L j) q) h;obtain⟨I,h⟩:=ANK (R:=R) (P:=fun k e=>get S.bx k=some e) (fun k e G h y=>by rw[h]at y;exact Option.some.inj y) (fun k e j q=>hA.bx k e (UM O j) q) (fun k e j q=>hB.bx k e (UM Q j) q) h;exact⟨by simp only[St.fg,H,I,hA.pin,hB.pin],h⟩
theorem kj:∀{x:B2 R} {S:St} {K:St->Option ρ} {r:ρ},evr x S K=some r ->
 ∃S',Bg S S'/\K S'=some r/\∀N:Lv.St->Prop,N (S'.fg R)->runK IM x.er (S.fg R) N
 |.nil,S,K,r,h=>⟨S,Bg.refl _,h,fun N hN=>hN⟩|.dr ds x,S,K,r,h=>by
  obtain⟨S',q,j,y⟩:=kj (x:=x) h;refine⟨S',(Bg.Iw _ _).trans q,j,fun N hN=>?_⟩;have:=y N hN;rw[ALM]at this;exact this
 |.nl ns x,S,K,r,h=>by
  obtain⟨S',q,j,y⟩:=kj (x:=x) h;refine⟨S',(Bg.Vv _ _).trans q,j,fun N hN=>?_⟩;have:=y N hN;rw[AFK]at this;exact this
 |.both n a b,S,K,r,h=>by
  have h:evr a S (fun A=>evr b S fun B=>agS S.nv A B (K A))=some r:=by
   cases n with
   |zero=>exact h|succ n=>simpa only[evr,AP3] using h
  obtain⟨A,I,J,a3⟩:=kj (x:=a) (K:=fun A=>evr b S fun B=>agS S.nv A B (K A)) h;obtain⟨B,L,O,Q⟩:=kj (x:=b) (K:=fun B=>agS S.nv A B (K A)) J;obtain⟨e,j⟩:=AfN (R:=R) I L O;exact⟨A,I,j,fun N hN=>⟨a3 N hN,Q N (e▸hN)⟩⟩
 |.op i g sf o x,S,K,r,h=>by
  have safe:∀{S:St},(if Ke o S sf=true then ev o S fun S'=>S'.Fx fun S'=>evr x S' K else none)=some r ->
   ∃S',Bg S S'/\evr x S' K=some r/\∀N:Lv.St->Prop,N (S'.fg R)->(Lv.Ke o.er (S.fg R) sf=true/\opK IM o.er (S.fg R) N):=by
   intro S h;split at h
   .rename_i hs;obtain⟨S',q,j,y⟩:=AS5 h;rw[FE]at j;exact⟨S',q,j,fun N hN=>⟨AMc hs,y N hN⟩⟩
   .cases h
  have key:∃S',Bg S S'/\evr x S' K=some r/\∀N:Lv.St->Prop,N (S'.fg R)->∃b,Lv.wanted (S.fg R) g=some b/\((b=true/\Lv.Ke o.er (S.fg R) sf=true/\opK IM o.er (S.fg R) N)\/(b=false/\∃S',Lv.N4 o.er (S.fg R)=some S'/\N S')):=by
   simp only[evr,Af0]at h;split at h
   .obtain⟨S',q,j,y⟩:=safe h;exact⟨S',q,j,fun N hN=>⟨true,rfl,.inl ⟨rfl,y N hN⟩⟩⟩
   .rename_i s w;split at h
    .rename_i b v E;rcases AP7 h with ⟨rfl,G⟩|⟨rfl,G⟩
     .refine aF (K:=fun S'=>evr x S' K) (P:=fun S N=>Lv.Ke o.er S sf=true/\opK IM o.er S N) E w (by cases w<;>rfl) (f:=if Ke o (S.lit s true) sf=true then ev o (S.lit s true) fun S'=>S'.Fx fun S'=>evr x S' K else none) ?_ fun H=>safe H
      simpa only[FE] using G
     .refine aF (K:=fun S'=>evr x S' K) (P:=fun S N=>Lv.Ke o.er S sf=true/\opK IM o.er S N) E (!w) (by cases w<;>rfl) (f:=if Ke o (S.lit s false) sf=true then ev o (S.lit s false) fun S'=>S'.Fx fun S'=>evr x S' K else none) ?_ fun H=>safe H
      simpa only[FE] using G
    .rename_i v E;simp only[FE]at h;obtain⟨S',q,j,y⟩:=zK (R:=R) h;exact⟨S',j,y,fun N hN=>⟨false,ANC E,.inr ⟨rfl,_,q,hN⟩⟩⟩
    .cases h
  obtain⟨S1,q,j,y⟩:=key;obtain⟨S2,X,Y,Z⟩:=kj (x:=x) j;exact⟨S2,q.trans X,Y,fun N hN=>y _ (Z N hN)⟩
end
end Y
end Lv
namespace Lv
open Go (IntKind BinOp UnOp)
namespace Y
section
variable{R:List GF}{ρ:Type}
theorem AaL{s:Option Src}{l:AU}{x:U}(h:AaK s l=some x):AaJ s x=l:=by
 unfold AaK at h;split at h
 .cases h
 .cases h
 .cases h
 .rename_i j q y;cases h;cases s<;>cases x<;>first|rfl|(exact(j _ _ rfl).elim)|(exact(q rfl).elim)|(exact(y _ rfl).elim)
 .split at h
  .cases h;rfl
  .cases h
 .split at h
  .cases h;rfl
  .cases h
 .split at h
  .cases h
  .split at h
   .rename_i B;subst B;cases h;rfl
   .cases h
 .cases h
theorem ACb{s:Option Src}:∀{ls:List AU} {us:List U},AFC s ls=some us->us.map (AaJ s)=ls
 | [],us,h=>by cases h;rfl
 |l::ls,us,h=>by
  simp only[AFC]at h;split at h
  .rename_i x xs j q;cases h;rw[AJ,AaL j,ACb q]
  .cases h
theorem AfJ{a:AL}{ls:List AU}{x:a.D}(h:a.un ls=some x):a.leaf x=ls:=by
 cases a with
 |val c s=>
  simp only[AL.un]at h;split at h
  .rename_i us q;simp only[AL.leaf];rw[mP h,ACb q]
  .cases h
 |num k=>
  simp only[AL.un]at h;split at h
  .split at h
   .rename_i j;subst j;cases h;rfl
   .cases h
  .cases h
 |al r=>
  simp only[AL.un]at h;split at h
  .split at h
   .rename_i j;subst j;rfl
   .cases h
  .cases h
theorem AGT:∀{as:List AL} {ls:List AU} {x:TA as},Aes as ls=some x->ZZ as x=ls
 | [],ls,x,h=>by
  cases ls with
  |nil=>rfl|cons l ls=>cases h
 | [a],ls,x,h=>AfJ h|a::j::as,ls,x,h=>by
  simp only[Aes]at h;split at h
  .rename_i y z q B;cases h;show a.leaf y++ZZ (j::as) z=ls;rw[AfJ q,AGT B,Ir]
  .cases h
theorem M1{b:Bool}{k:Nat}:∀{c:Cut} {ls:List AU},RB b k c=false->look b k (seg c ls)=none
 | [],ls,h=>rfl|(j,d,sh,as)::c,ls,h=>by
  simp only[RB]at h;simp only[seg,look];split at h
  .cases h
  .exact M1 h
theorem ku{S:St}{k:Nat}:∀{c:Cut} {ls:List AU},VB S c=some ls->RB false k c=true->∃e,get S.tm k=some e/\look false k (seg c ls)=some (e.sh,e.cs)
 | [],ls,h,j=>by cases j
 |(false,d,sh,as)::c,ls,h,j=>by
  simp only[VB]at h;split at h
  .rename_i e ls' B y;split at h
   .rename_i q;cases h;simp only[RB]at j;simp only[seg,look];split at j
    .rename_i E;have H:d=k:=by simpa[Uy] using E
     subst H;refine⟨e,B,?_⟩;rw[C5 q.2,ja q.1]
    .rename_i E;rw[Cy q.2];exact ku y j
   .cases h
  .cases h
 |(true,d,sh,as)::c,ls,h,j=>by
  simp only[VB]at h;split at h
  .rename_i e ls' B y;split at h
   .rename_i q;cases h;have G:((true:Bool)==false)=false:=rfl;simp only[RB,G,Bv]at j;simp only[seg,look,G,Bv];rw[Cy q];exact ku y j
   .cases h
  .cases h
theorem kr{S:St}{k:Nat}:∀{c:Cut} {ls:List AU},VB S c=some ls->RB true k c=true->∃e sh,get S.bx k=some e/\look true k (seg c ls)=some (sh,e.cs)
 | [],ls,h,j=>by cases j
 |(true,d,sh,as)::c,ls,h,j=>by
  simp only[VB]at h;split at h
  .rename_i e ls' B y;split at h
   .rename_i q;cases h;simp only[RB]at j;simp only[seg,look];split at j
    .rename_i E;have H:d=k:=by simpa[Uy] using E
     subst H;refine⟨e,sh,B,?_⟩;rw[C5 q]
    .rename_i E;rw[Cy q];exact kr y j
   .cases h
  .cases h
 |(false,d,sh,as)::c,ls,h,j=>by
  simp only[VB]at h;split at h
  .rename_i e ls' B y;split at h
   .rename_i q;cases h;have G:((false:Bool)==true)=false:=rfl;simp only[RB,G,Bv]at j;simp only[seg,look,G,Bv];rw[Cy q.2];exact kr y j
   .cases h
  .cases h
theorem AUD{q:List (Bool×Nat×Sh×List AU)}{a:List (Nat×Ent)}{v:Nat}:∀{l:List (Nat×Ent)},(∀k e,(k,e)∈l->look false k q=some (e.sh,e.cs)\/(look false k q=none/\get a k=some e))->fgE R (y6 q a v l)=fgE R l
 | [],_=>rfl|(k,e)::l,h=>by
  have y:=AUD (v:=v) (l:=l) (fun k e E=>h k e (A3 _ E));simp only[fgE,y6,AJ]at y ⊢;rw[y];rcases h k e (by simp) with j|⟨j,B⟩
  .rw[j];rfl
  .rw[j,B]
theorem AUC{q:List (Bool×Nat×Sh×List AU)}{a:List (Nat×Bx)}{v:Nat}:∀{l:List (Nat×Bx)},(∀k e,(k,e)∈l->(∃sh,look true k q=some (sh,e.cs))\/(look true k q=none/\get a k=some e))->fgB R (y5 q a v l)=fgB R l
 | [],_=>rfl|(k,e)::l,h=>by
  have y:=AUC (v:=v) (l:=l) (fun k e E=>h k e (A3 _ E));simp only[fgB,y5,AJ]at y ⊢;rw[y];rcases h k e (by simp) with ⟨sh,j⟩|⟨j,B⟩
  .rw[j]
  .rw[j,B]
theorem mB{α:Type}{k:Nat}{e:α}:∀{l:List (Nat×α)},(k,e)∈l->ng k l=true
 |(j,x)::l,h=>by
  simp only[ng];cases q:Nat.beq j k with
  |true=>rfl|false=>
   rcases Ag.1 h with h|h
   .cases h;exact(beq_false q rfl).elim
   .exact mB h
theorem AC0{c:Cut}{a:List (Nat×Ent)}:∀{l:List (Nat×Ent)} {k:Nat} {e:Ent},AUI c a l=true->(k,e)∈l->get l k=some e/\(RB false k c=true\/(RB false k c=false/\∃y,get a k=some y/\e.ver=y.ver))
 |(j,x)::l,k,e,h,q=>by
  simp only[AUI,AF,BR]at h;obtain⟨⟨E,G⟩,B⟩:=h;rcases Ag.1 q with q|q
  .grind[Prod.mk.injEq,get,Nat.beq,Uy,RB,beq_true]
  .obtain⟨H,I⟩:=AC0 B q
   grind[get,Nat.beq,beq_true,mB]
theorem ACz{c:Cut}{a:List (Nat×Bx)}:∀{l:List (Nat×Bx)} {k:Nat} {e:Bx},AUH c a l=true->(k,e)∈l->get l k=some e/\(RB true k c=true\/(RB true k c=false/\∃y,get a k=some y/\e.ver=y.ver))
 |(j,x)::l,k,e,h,q=>by
  simp only[AUH,AF,BR]at h;obtain⟨⟨E,G⟩,B⟩:=h;rcases Ag.1 q with q|q
  .grind[Prod.mk.injEq,get,Nat.beq,Uy,RB,beq_true]
  .obtain⟨H,I⟩:=ACz B q
   grind[get,Nat.beq,beq_true,mB]
theorem AXw{a b:Nat}(h:Nat.blt a b=true):a<b:=Nat.le_of_ble_eq_true h
theorem AUW{v:Nat}:∀{l:List (Nat×Ent)} {k:Nat} {e:Ent},wfE v l=true->get l k=some e->e.ver<v
 |(j,x)::l,k,e,h,q=>by
  simp only[wfE,AF]at h;simp only[get]at q;split at q
  .cases q;exact AXw h.1
  .exact AUW h.2 q
theorem AUV{v:Nat}:∀{l:List (Nat×Bx)} {k:Nat} {e:Bx},wfB v l=true->get l k=some e->e.ver<v
 |(j,x)::l,k,e,h,q=>by
  simp only[wfB,AF]at h;simp only[get]at q;split at q
  .cases q;exact AXw h.1
  .exact AUV h.2 q
structure EH(c:Cut)(S S':St):Prop where
 tm:∀k e,RB false k c=false->get S'.tm k=some e->e.ver<S.nv->get S.tm k=some e
 bx:∀k e,RB true k c=false->get S'.bx k=some e->e.ver<S.nv->get S.bx k=some e
 pin:S'.pin=S.pin
theorem EH.of{c:Cut}{S S':St}(h:Bg S S'):EH c S S':=⟨fun k e _=>h.tm k e,fun k e _=>h.bx k e,h.pin⟩
theorem ADv{c:Cut}{S S':St}{x:TA c.as}(h:c.fit S S'=some x)(H:EH c S S') :
 (c.st S S' x).fg R=S'.fg R /\
 (∀k e,(k,e)∈S'.tm->look false k (seg c (ZZ c.as x))=some (e.sh,e.cs)\/(look false k (seg c (ZZ c.as x))=none/\get S.tm k=some e)) /\
 (∀k e,(k,e)∈S'.bx->(∃sh,look true k (seg c (ZZ c.as x))=some (sh,e.cs))\/(look true k (seg c (ZZ c.as x))=none/\get S.bx k=some e)):=by
 unfold Cut.fit at h;split at h
 .rename_i Q;obtain⟨w1,Y,s1,X⟩:=Q;split at h
  .rename_i ls J;rw[AGT h];have hE:∀k e,(k,e)∈S'.tm->look false k (seg c ls)=some (e.sh,e.cs)\/(look false k (seg c ls)=none/\get S.tm k=some e):=by
    intro k e I;obtain⟨q,j⟩:=AC0 s1 I;rcases j with j|⟨j,L,B,E⟩
    .obtain⟨O,y,G⟩:=ku J j;rw[q]at y;cases y;exact .inl G
    .exact .inr ⟨M1 j,H.tm k e j q (by rw[E];exact AUW w1 B)⟩
   have hB:∀k e,(k,e)∈S'.bx->(∃sh,look true k (seg c ls)=some (sh,e.cs))\/(look true k (seg c ls)=none/\get S.bx k=some e):=by
    intro k e I;obtain⟨q,j⟩:=ACz X I;rcases j with j|⟨j,L,B,E⟩
    .obtain⟨O,sh,y,G⟩:=kr J j;rw[q]at y;cases y;exact .inl ⟨sh,G⟩
    .exact .inr ⟨M1 j,H.bx k e j q (by rw[E];exact AUV Y B)⟩
   refine⟨?_,hE,hB⟩;simp only[St.fg,Cut.st,AGT h];rw[AUD hE,AUC hB,H.pin]
  .cases h
 .cases h
theorem ACv{q:List (Bool×Nat×Sh×List AU)}{a:List (Nat×Ent)}{v:Nat}:∀{l l':List (Nat×Ent)},Q2 l l'=true->(∀k e,(k,e)∈l'->look false k q=some (e.sh,e.cs)\/(look false k q=none/\get a k=some e))->y6 q a v l=y6 q a v l'
 | [],[],_,_=>rfl| [],_::_,h,_=>by cases h
 |_::_,[],h,_=>by cases h
 |(k,e)::l,(I,G)::l',h,B=>by
  simp only[Q2,AF]at h;obtain⟨j,y⟩:=h;have:=beq_true j;subst this;have H:=ACv (v:=v) y (fun k e E=>B k e (A3 _ E))
  grind[y6]
theorem ACu{q:List (Bool×Nat×Sh×List AU)}{a:List (Nat×Bx)}{v:Nat}:∀{l l':List (Nat×Bx)},Q2 l l'=true->(∀k e,(k,e)∈l'->(∃sh,look true k q=some (sh,e.cs))\/(look true k q=none/\get a k=some e))->y5 q a v l=y5 q a v l'
 | [],[],_,_=>rfl| [],_::_,h,_=>by cases h
 |_::_,[],h,_=>by cases h
 |(k,e)::l,(I,G)::l',h,B=>by
  simp only[Q2,AF]at h;obtain⟨j,y⟩:=h;have:=beq_true j;subst this;have H:=ACu (v:=v) y (fun k e E=>B k e (A3 _ E))
  grind[y5]
theorem xD{q:List (Bool×Nat×Sh×List AU)}{a:List (Nat×Ent)}{v k:Nat}(G:look false k q=none):∀{l:List (Nat×Ent)} {y:Ent},get (y6 q a v l) k=some y->∃e,get l k=some e/\y=(match get a k with|some B=>B|none=>e)
 |(j,x)::l,y,h=>by
  simp only[y6,get]at h ⊢;cases E:Nat.beq j k with
  |true=>
   grind[beq_true,Option.some.inj]
  |false=>rw[E]at h;exact xD G h
theorem xC{q:List (Bool×Nat×Sh×List AU)}{a:List (Nat×Bx)}{v k:Nat}(G:look true k q=none):∀{l:List (Nat×Bx)} {y:Bx},get (y5 q a v l) k=some y->∃e,get l k=some e/\y=(match get a k with|some B=>B|none=>e)
 |(j,x)::l,y,h=>by
  simp only[y5,get]at h ⊢;cases E:Nat.beq j k with
  |true=>
   grind[beq_true,Option.some.inj]
  |false=>rw[E]at h;exact xC G h
theorem EH.round{c:Cut}{S S':St}{x:TA c.as}(h:Bg (c.st S S x) S'):EH c S S':=by
 refine⟨fun k e G E j=>?_,fun k e G E j=>?_,h.pin⟩
 .have q:=h.tm k e E (KS j);obtain⟨H,y,B⟩:=xD (M1 G) q
  grind
 .have q:=h.bx k e E (KS j);obtain⟨H,y,B⟩:=xC (M1 G) q;rw[y]at B;subst B;exact y
theorem ACC{c:Cut}{S S':St}{y:TA c.as}(h:c.fit S S'=some y)(j:EH c S S')(q:Q2 S.tm S'.tm=true)(B:Q2 S.bx S'.bx=true):(c.st S S y).fg R=S'.fg R:=by
 obtain⟨E,G,H⟩:=ADv (R:=R) h j
 grind[St.fg,Cut.st,ACv,ACu]
theorem mI{b:Bool}{k:Nat}:∀{c:Cut} {ls:List AU},RB b k c=true->∃p,look b k (seg c ls)=some p
 |(j,d,sh,as)::c,ls,h=>by
  simp only[RB]at h;simp only[seg,look];split at h
  .exact⟨_,rfl⟩
  .exact mI h
theorem AMV{q:List (Bool×Nat×Sh×List AU)}{a:List (Nat×Ent)}{v k:Nat}{p:Sh×List AU}(E:look false k q=some p):∀{l:List (Nat×Ent)} {y:Ent},get (y6 q a v l) k=some y->v<=y.ver
 |(j,z)::l,y,h=>by
  simp only[y6,get]at h;cases B:Nat.beq j k with
  |true=>
   grind[beq_true]
  |false=>rw[B]at h;exact AMV E h
theorem AMU{q:List (Bool×Nat×Sh×List AU)}{a:List (Nat×Bx)}{v k:Nat}{p:Sh×List AU}(E:look true k q=some p):∀{l:List (Nat×Bx)} {y:Bx},get (y5 q a v l) k=some y->v<=y.ver
 |(j,z)::l,y,h=>by
  simp only[y5,get]at h;cases B:Nat.beq j k with
  |true=>
   grind[beq_true]
  |false=>rw[B]at h;exact AMU E h
theorem Bg.st{c:Cut}{S S':St}{x:TA c.as}(I:Bg S S'):Bg S (c.st S S' x):=by
 refine⟨by simp[Cut.st],fun k e B E=>?_,fun k e B E=>?_,rfl⟩
 .cases j:RB false k c with
  |false=>
   obtain⟨J,G,q⟩:=xD (M1 j) B;cases y:get S.tm k with
   |some L=>rw[y]at q;subst q;rfl|none=>
    rw[y]at q;subst q;have:=I.tm k _ G E;rw[y]at this;cases this
  |true=>
   obtain⟨p,H⟩:=mI (ls:=ZZ c.as x) j;exact absurd E (RL.2 (AMV H B))
 .cases j:RB true k c with
  |false=>
   obtain⟨J,G,q⟩:=xC (M1 j) B;cases y:get S.bx k with
   |some L=>rw[y]at q;subst q;rfl|none=>
    rw[y]at q;subst q;have:=I.bx k _ G E;rw[y]at this;cases this
  |true=>
   obtain⟨p,H⟩:=mI (ls:=ZZ c.as x) j;exact absurd E (RL.2 (AMU H B))
theorem EO:∀{x:G7 R} {S:St} {K:Ex->St->Option ρ} {r:ρ} {Q:Ex->Lv.St->Prop},Hq x S K=some r->(∀e S',Bg S S'->K e S'=some r->Q e (S'.fg R))->wp IM x.er (S.fg R) Q
 |.skip,S,K,r,Q,h,hQ=>hQ _ _ (Bg.refl _) h|.region ops Fo,S,K,r,Q,h,hQ=>by
  obtain⟨S',O,E,H⟩:=AYx (show evs ops S _=some r from h);rw[FE]at E;refine H _ ⟨S'.clo 6 (S'.pin++Fo),?_⟩;rw[<-eK];exact hQ _ _ (O.trans (Bg.clean _ _)) E
 |.RD x Fo,S,K,r,Q,h,hQ=>by
  obtain⟨S',O,E,H⟩:=kj (show evr x S _=some r from h);rw[FE]at E;refine H _ ⟨S'.clo 6 (S'.pin++Fo),?_⟩;rw[<-eK];exact hQ _ _ (O.trans (Bg.clean _ _)) E
 |.seq a b,S,K,r,Q,h,hQ=>by
  refine EO (x:=a) (show Hq a S _=some r from h) fun e S' q j=>?_
  cases e with
  |n=>exact EO (x:=b) j fun e S2 B E=>hQ _ _ (q.trans B) E|x i=>exact hQ _ _ q j|r=>exact hQ _ _ q j
 |.join c a b,S,K,r,Q,h,hQ=>by
  refine EO (x:=a) (show Hq a S _=some r from h) fun e S' q j=>?_
  cases e with
  |n=>
   dsimp only at j ⊢;split at j
   .rename_i x hx;have j:(c.st S S' x).Fx (fun S=>Hq b S K)=some r:=by rw[<-AaC (fun x=>(c.st S S' x).Fx fun S=>Hq b S K) x];exact j
    rw[FE]at j;obtain⟨H,_,_⟩:=ADv (R:=R) hx (EH.of q);rw[<-H];refine EO (x:=b) j fun e S2 B E=>hQ _ _ ?_ E
    exact(Bg.st q).trans B
   .cases j
  |x i=>exact hQ _ _ q j|r=>exact hQ _ _ q j
 |.cond c kt ke t e,S,K,r,Q,h,hQ=>by
  simp only[Hq]at h;split at h
  .rename_i b hb;have X:=Rg (R:=R) hb;simp only[YO.er,U.fg]at X;rcases AP7 h with ⟨rfl,j⟩|⟨rfl,j⟩
   .rw[FE]at j;refine⟨true,X,S.clo 6 (S.pin++kt),?_⟩;rw[if_pos rfl,<-eK];exact EO (x:=t) j fun e S2 B E=>hQ _ _ ((Bg.clean _ _).trans B) E
   .rw[FE]at j;refine⟨false,X,S.clo 6 (S.pin++ke),?_⟩;rw[if_neg (by simp),<-eK];exact EO (x:=e) j fun e S2 B E=>hQ _ _ ((Bg.clean _ _).trans B) E
  .cases h
 |.block id b,S,K,r,Q,h,hQ=>by
  refine EO (x:=b) (show Hq b S _=some r from h) fun e S' q j=>?_
  cases e with
  |n=>exact hQ _ _ q j|x i=>
   dsimp only at j ⊢;split at j
   .rename_i hi;rw[if_pos hi];exact hQ _ _ q j
   .rename_i hi;rw[if_neg hi];exact hQ _ _ q j
  |r=>exact hQ _ _ q j
 |.loop c b,S,K,r,Q,h,hQ=>by
  simp only[Hq]at h;split at h
  .rename_i x0 J;have key:∀(n:Nat) (x:TA c.as),A4 (fun L x=>(c.st S S x).Fx fun S1=>Hq b S1 fun e S'=>match e with
    |.n=>if Q2 S.tm S'.tm=true/\Q2 S.bx S'.bx=true then (match c.fit S S' with|some y=>L y|none=>none) else none
    |.x i=>K (.x i) S'|.r=>K .r S') n x=some r->ATu (wp IM b.er) n ((c.st S S x).fg R) Q:=by
    intro n
    induction n with
    |zero=>intro x h;rw[ATv]at h;cases h
    |succ n Z=>
     intro x h;rw[EV]at h;rw[FE]at h;refine EO (x:=b) h fun e S' q j=>?_
     have hS:Bg S (c.st S S x):=Bg.st (Bg.refl S);cases e with
     |n=>
      dsimp only at j ⊢;split at j
      .rename_i G;split at j
       .rename_i y Y;rw[<-ACC Y (EH.round q) G.1 G.2];exact Z y j
       .cases j
      .cases j
     |x i=>exact hQ _ _ (hS.trans q) j|r=>exact hQ _ _ (hS.trans q) j
   refine⟨big,?_⟩;obtain⟨H,_,_⟩:=ADv (R:=R) J (EH.of (Bg.refl S));rw[<-H];exact key big x0 h
  .cases h
 |.exit id,S,K,r,Q,h,hQ=>hQ _ _ (Bg.refl _) h|.ret,S,K,r,Q,h,hQ=>hQ _ _ (Bg.refl _) h|.scope b,S,K,r,Q,h,hQ=>EO (x:=b) (show Hq b S K=some r from h) hQ|.or a b,S,K,r,Q,h,hQ=>(AgK (show orX (Hq a S K) (Hq b S K)=some r from h)).elim (fun h=>.inl (EO (x:=a) h hQ)) fun h=>.inr (EO (x:=b) h hQ)|.dead,S,K,r,Q,h,hQ=>by cases h
 |.AeO c b,S00,K,r,Q,h,hQ=>by
  refine⟨big+1,?_⟩;refine EO (x:=b) (show Hq b S00 _=some r from h) fun e S I h=>?_
  cases e with
  |n=>
   dsimp only at h ⊢;split at h
   .rename_i x0 J;have key:∀(n:Nat) (x:TA c.as),A4 (fun L x=>(c.st S S x).Fx fun S1=>Hq b S1 fun e S'=>match e with
     |.n=>if Q2 S.tm S'.tm=true/\Q2 S.bx S'.bx=true then (match c.fit S S' with|some y=>L y|none=>none) else none
     |.x i=>K (.x i) S'|.r=>K .r S') n x=some r->ATu (wp IM b.er) n ((c.st S S x).fg R) Q:=by
     intro n
     induction n with
     |zero=>intro x h;rw[ATv]at h;cases h
     |succ n Z=>
      intro x h;rw[EV]at h;rw[FE]at h;refine EO (x:=b) h fun e S' q j=>?_
      have hS:Bg S (c.st S S x):=Bg.st (Bg.refl S);cases e with
      |n=>
       dsimp only at j ⊢;split at j
       .rename_i G;split at j
        .rename_i y Y;rw[<-ACC Y (EH.round q) G.1 G.2];exact Z y j
        .cases j
       .cases j
      |x i=>exact hQ _ _ (I.trans (hS.trans q)) j|r=>exact hQ _ _ (I.trans (hS.trans q)) j
    obtain⟨H,_,_⟩:=ADv (R:=R) J (EH.of (Bg.refl S));rw[<-H];exact key big x0 h
   .cases h
  |x i=>exact hQ _ _ I h|r=>exact hQ _ _ I h
end
end Y
end Lv
namespace Lv
open Go (IntKind BinOp UnOp)
namespace Y
section
variable{R:List GF}{ρ:Type}
def AhC:C->Bool|.st _=>true|.un _=>true|_=>false
def AG4:List (Bool×C)->Bool| []=>true|(true,_)::r=>AG4 r|(false,c)::r=>(!AhC c&&decide (c≠.m))&&AG4 r
def AME:List PK->Bool| []=>true|.f _ l::r=>AG4 l&&AME r|_::r=>AME r
theorem ADh(i:Nat):∀(l:List (Bool×C)) (x:ADP l),AG4 l=true->Lv.Rt i (Wv l x)=some ((Rt i l x).map Cap.fg)
 | [],x,h=>rfl|(true,c)::l,x,h=>by
  have j:=ADh i l x.2 h;simp only[Wv,Lv.Rt,Rt,AJ,Cap.fg];rw[j,FX];rfl
 |(false,c)::l,x,h=>by
  simp only[AG4,AF,BR,decide_eq_true_eq]at h;have j:=ADh i l x.2 h.2;cases c with
  |st n=>cases h.1.1
  |un n=>cases h.1.1
  |m=>exact(h.1.2 rfl).elim|_=>
   simp only[Wv,enc,Lv.Rt,Rt,cells,AJ,j];rfl
theorem AcJ(c:C)(x:c.D):GV (shC c) (enc c x).length=true:=by
 rw[RS];cases c<;>rfl
theorem Qg:∀(ks:List PK) (i:Nat) (fs:List Nat) (a:A ks) (S:St),AME ks=true->fs.map (fun n=>(R[n]?).map GF.x)=(fX ks).map some ->
 Lv.initK i (ks.map PK.md) (aVs ks a) (S.fg R)=some ((initK i fs ks a S).fg R)
 | [],i,fs,a,S,_,_=>rfl|k::ks,i,fs,a,S,B,y=>by
  obtain⟨j,E⟩:=a;cases k with
  |v c=>
   have hE:enc c j=(cells c j).map U.fg:=FX c j;have q:=Qg ks (i+1) fs E (S.K5 i (shC c) ((cells c j).map (ER i))) B y;rw[NP,UH,<-hE]at q;exact q
  |p c=>
   have hE:enc c j=(cells c j).map U.fg:=FX c j;have q:=Qg ks (i+1) fs E (S.K5 i .one [.vp (.old i) (cells c j)]) B y;rw[NP]at q;simp only[AJ,Bf,AU.fg]at q;rw[<-hE]at q;exact q
  |b c=>
   have hE:enc c j=(cells c j).map U.fg:=FX c j;have q:=Qg ks (i+1) fs E (let S1:=(S.K5 i .one [.bp i 0]).RE i ((cells c j).map (ER i));⟨S1.tm,S1.bx,i::S1.pin,S1.nv⟩) B y;have e:(let S1:=(S.K5 i .one [.bp i 0]).RE i ((cells c j).map (ER i));(⟨S1.tm,S1.bx,i::S1.pin,S1.nv⟩:St)).fg R={ S.fg R with tm:=Lv.put (S.fg R).tm i ⟨.one,[.bp i 0]⟩,bx:=Lv.put (S.fg R).bx i ((enc c j).map (Lv.ER i)),pin:=i::(S.fg R).pin}:=by
    have G:=aq (R:=R) (S.K5 i .one [.bp i 0]) i ((cells c j).map (ER i));rw[NP,UH,<-hE]at G;have H:=congrArg Lv.St.tm G;have I:=congrArg Lv.St.bx G;simp only[St.fg]at H I ⊢;rw[H,I];rfl
   rw[e]at q;exact q
  |o c=>
   have hE:enc c j=(cells c j).map U.fg:=FX c j;have q:=Qg ks (i+1) fs E (S.K5 i (shC c) ((cells c j).map Kb)) B y;rw[NP,mL,<-hE]at q;exact q
  |m c=>
   have hE:enc c j=(cells c j).map U.fg:=FX c j;have q:=Qg ks (i+1) fs E (let S1:=S.K5 i (shC c) ((cells c j).map Kb);⟨S1.tm,S1.bx,i::S1.pin,S1.nv⟩) B y;have e:(let S1:=S.K5 i (shC c) ((cells c j).map Kb);(⟨S1.tm,S1.bx,i::S1.pin,S1.nv⟩:St)).fg R={ S.fg R with tm:=Lv.put (S.fg R).tm i ⟨shC c,(enc c j).map Lv.Kb⟩,pin:=i::(S.fg R).pin}:=by
    have G:=NP (R:=R) S i (shC c) ((cells c j).map Kb);rw[mL,<-hE]at G;have H:=congrArg Lv.St.tm G;simp only[St.fg]at H ⊢;rw[H];rfl
   rw[e]at q;have O:GV (shC c) (enc c j).length=true:=AcJ c j;show (if GV (shC c) (enc c j).length=true then _ else none)=_;rw[if_pos O];exact q
  |f x l=>
   simp only[AME,AF]at B;cases fs with
   |nil=>simp[fX]at y|cons n fs=>
    simp only[fX,AJ,Co]at y;have Q:xr R n=x:=by
     unfold xr;cases J:R[n]? with
     |none=>rw[J]at y;simp at y|some g=>rw[J]at y;simpa using y.1
    have q:=Qg ks (i+1) fs E (S.K5 i .one [.fn n (Rt i l j)]) B.2 y.2;rw[NP]at q;have L:Lv.Rt i (Wv l j)=some ((Rt i l j).map Cap.fg):=ADh i l j B.1;show (match Lv.Rt i (Wv l j) with|some ls=>Lv.initK (i+1) _ _ _|none=>none)=_;rw[L];simp only[AJ,Bf,AU.fg,Q]at q;exact q
theorem PI:∀{rs:List G6} {S:St} {K:List (Option Nat)->List AU->Option ρ} {r:ρ},N3 rs S K=some r->∃ns ls,Lv.N3 rs (S.fg R)=some (ns,ls.map (AU.fg R))/\K ns ls=some r
 | [],S,K,r,h=>⟨[],[],rfl,h⟩|.tmp t::rs,S,K,r,h=>by
  simp only[N3]at h;split at h
  .rename_i e y;split at h
   .rename_i E;obtain⟨ns,ls,j,q⟩:=PI h;refine⟨_,_,?_,q⟩;have:=Mb (R:=R) y;simp only[YO.er]at this;simp only[Lv.N3,this,j,En.fg,Aj,E,if_true,C4];rfl
   .cases h
  .cases h
 |.cell t n::rs,S,K,r,h=>by
  simp only[N3]at h;split at h
  .rename_i id o y;obtain⟨ls',j,h⟩:=Vo (R:=R) h;obtain⟨ns,ls,q,B⟩:=PI h;refine⟨_,_,?_,B⟩;have:=FH (R:=R) y;simp only[YO.er,AU.fg]at this j;simp only[Lv.N3,this,j,q,C4]
  .cases h
 |.bx _::rs,S,K,r,h=>by cases h
 |.vw _ _::rs,S,K,r,h=>by cases h
 |.un _ _::rs,S,K,r,h=>by cases h
theorem ACi:∀{ls:List AU},Qm ls=true->Lv.Qm (ls.map (AU.fg R))=true
 | [],_=>rfl|l::ls,h=>by
  simp only[Qm,AF]at h;simp only[AJ,Lv.Qm,AF];refine⟨?_,ACi h.2⟩;have j:=h.1
  grind[AU.fg,yB]
theorem Aeb{rk:RK}{rs:List G6}{S:St}{K:St->List U->Option ρ}{r:ρ}(h:oO rk rs S K=some r):∃S' us,Lv.oO rs (S.fg R)=some (S'.fg R,rk.sh,us.map U.fg)/\K S' us=some r:=by
 unfold oO at h;split at h
 .rename_i k c t;split at h
  .rename_i id y;have j:=FH (R:=R) y;simp only[YO.er,AU.fg]at j;split at h
   .rename_i ls Y;split at h
    .cases h
    .rename_i L;split at h
     .rename_i E;split at h
      .rename_i us G;subst E;refine⟨S,us,?_,h⟩;have O:id∉(S.fg R).pin:=fun X=>L (mem_iff.2 X)
       simp only[Lv.oO,j,T2,Y,As,Qh,TV G];rw[if_neg O];rfl
      .cases h
     .cases h
   .cases h
  .cases h
 .rename_i k c t k';split at h
  .rename_i E;subst E;split at h
   .rename_i k'' c' xs y;have j:=FH (R:=R) y;simp only[YO.er,AU.fg]at j;split at h
    .rename_i E;subst E;exact⟨S,_,by simp only[Lv.oO,j,if_true];rfl,h⟩
    .cases h
   .rename_i q sub y;have j:=FH (R:=R) y;simp only[YO.er,AU.fg]at j;split at h
    .rename_i x Z;refine⟨_,_,?_,h⟩;simp only[Lv.oO,j,LX,Z,As,AU.fg,mT,AJ,Bf,jl];rfl
    .cases h
   .cases h
  .cases h
 .rename_i n c cs t n' r' rs;split at h
  .rename_i J;subst J;split at h
   .rename_i id o y;have B:=FH (R:=R) y;obtain⟨ls',Q,h⟩:=Vo (R:=R) h;simp only[YO.er,AU.fg]at B Q;split at h
    .rename_i L;obtain⟨ns,ls,j,h⟩:=PI (R:=R) h;split at h
     .rename_i I;split at h
      .rename_i S' us G;obtain⟨H,_⟩:=NO (R:=R) G;refine⟨S',_,?_,h⟩;simp only[Lv.oO,B,Q];rw[if_pos (ACi L),j];dsimp only;rw[H,I];simp only[C4,HD];rfl
      .cases h
     .cases h
    .cases h
   .cases h
  .cases h
 .rename_i cs;obtain⟨ns,ls,j,h⟩:=PI (R:=R) h;split at h
  .rename_i I;split at h
   .rename_i S' us G;obtain⟨H,_⟩:=NO (R:=R) G;refine⟨S',us,?_,h⟩;have:Lv.oO rs (S.fg R)=match Lv.N3 rs (S.fg R) with
     |some (ns,ls)=>(match Lv.Dm (S.fg R) ls with|some (S',cs)=>some (S',AMi ns,cs)|none=>none)
     |none=>none:=by
     rcases rs with _|⟨a,_|⟨b,rs⟩⟩
     .rfl
     .cases a<;>first|rfl|(simp[Lv.N3]at j)
     .cases a<;>first|rfl|(simp[Lv.N3]at j)
    rw[this,j];dsimp only;rw[H,I];rfl
   .cases h
  .cases h
 .cases h
theorem AgM{l:AU}{u:U}(h:owT l=some u):Lv.owT (AU.fg R l)=some u.fg:=by
 cases l with
 |ow x=>cases h;rfl
 |t x=>
  grind[owT,AU.fg,Lv.owT,yB]
 |_=>cases h
theorem AT1:∀{ls:List AU} {us:List U},oN ls=some us->Lv.oN (ls.map (AU.fg R))=some (us.map U.fg)/\us.length=ls.length
 | [],us,h=>by cases h;exact⟨rfl,rfl⟩
 |l::ls,us,h=>by
  simp only[oN]at h;split at h
  .rename_i x xs j q;cases h;obtain⟨y,B⟩:=AT1 q;simp only[AJ,Lv.oN,AgM j,y,AH,B];exact⟨trivial,trivial⟩
  .cases h
theorem pW{k:Nat}:∀{ls:List AU} {us:List U},Fi k ls=some us->us.length=ls.length
 | [],us,h=>by cases h;rfl
 |l::ls,us,h=>by
  simp only[Fi]at h;split at h
  .rename_i x xs q j;cases h;simp only[AH,pW j]
  .cases h
def chunks:List C->List U->List (List U)| [],_=>[]|c::cs,us=>us.take c.size::chunks cs (us.drop c.size)
theorem pe:∀(cs:List C) (us:List U),(chunks cs us).length=cs.length| [],_=>rfl|c::cs,us=>by simp only[chunks,AH,pe cs]
theorem m8:∀(cs:List C) (us:List U),us.length=bw cs->(chunks cs us).flatten=us
 | [],us,h=>by cases us with|nil=>rfl|cons u us=>cases h
 |c::cs,us,h=>by
  simp only[bw]at h;simp only[chunks,List.flatten_cons];rw[m8 cs _ (by rw[BT];omega),Ir]
theorem pd:∀(cs j:List C) (us os:List U),us.length=bw cs->chunks (cs++j) (us++os)=chunks cs us++chunks j os
 | [],j,us,os,h=>by cases us with|nil=>rfl|cons u us=>cases h
 |c::cs,j,us,os,h=>by
  simp only[bw]at h;simp only[List.cons_append,chunks];rw[List.take_append_of_le_length (by omega),List.drop_append_of_le_length (by omega),pd cs j _ os (by rw[BT];omega)]
theorem yf:∀{cs:List C} {us:List U} {x:Tu cs},ofT cs us=some x->U5 cs x=(chunks cs us).map (List.map U.fg)
 | [],us,x,h=>rfl| [c],us,x,h=>by
  have j:ofC c us=some x:=h;show [enc c x]=_;rw[JK j];simp only[chunks,AJ,Bf];rw[List.take_of_length_le (by rw[AeI j];exact Af _)]
 |c::q::cs,us,x,h=>by
  simp only[ofT]at h;split at h
  .rename_i a b y B;cases h;show enc c a::U5 (q::cs) b=_;rw[JK y,yf B];rfl
  .cases h
theorem NC{S:St}:∀{ks:List PK} {i:Nat} {os:List U},FP i ks S=some os->Lv.FP i (ks.map PK.md) (S.fg R)=some ((chunks (NA ks) os).map (List.map U.fg))/\os.length=bw (NA ks)
 | [],i,os,h=>by cases h;exact⟨rfl,rfl⟩
 |.b c::ks,i,os,h=>by
  simp only[FP]at h;split at h
  .rename_i ls J B E;obtain⟨G,H⟩:=NC (ks:=ks) E;split at h
   .rename_i q;split at h
    .rename_i us y;cases h;have j:us.length=c.size:=by rw[pW y,q.2]
     have I:i∈(S.fg R).pin:=mem_iff.1 q.1;refine⟨?_,by simp only[AM,NA,bw,j,H]⟩;simp only[AJ,PK.md,Lv.FP,T2,B,As,G,NA,chunks];rw[if_pos I,TV y,C5 j,Cy j];rfl
    .cases h
   .cases h
  .cases h
 |.m c::ks,i,os,h=>by
  simp only[FP]at h;split at h
  .rename_i e J B E;obtain⟨G,H⟩:=NC (ks:=ks) E;split at h
   .rename_i q;split at h
    .rename_i us y;cases h;obtain⟨L,O⟩:=AT1 (R:=R) y;have j:us.length=c.size:=by rw[O,q.2.2]
     have I:i∈(S.fg R).pin:=mem_iff.1 q.1;refine⟨?_,by simp only[AM,NA,bw,j,H]⟩;simp only[AJ,PK.md,Lv.FP,iT,B,As,G,NA,chunks,Ent.fg,Aj];rw[if_pos ⟨I,q.2.1⟩,L,C5 j,Cy j];rfl
    .cases h
   .cases h
  .cases h
 |.v c::ks,i,os,h=>NC (ks:=ks) h|.p c::ks,i,os,h=>NC (ks:=ks) h|.o c::ks,i,os,h=>NC (ks:=ks) h|.f x l::ks,i,os,h=>NC (ks:=ks) h
theorem ALN:∀(cs:List C) (x:Tu cs),(U5 cs x).map List.length=cs.map C.size
 | [],x=>rfl| [c],x=>congrArg (fun n=>[n]) (RS c x)|c::j::cs,x=>by
  obtain⟨a,b⟩:=x;show (enc c a).length::(U5 (j::cs) b).map List.length=_;rw[ALN (j::cs) b,RS];rfl
theorem NB:∀(ks:List PK) (a:A ks) (os:List (List T)),os.map List.length=(NA ks).map C.size->Lv.Gx (ks.map PK.md) (aVs ks a) os=true
 | [],a,[],h=>rfl| [],a,o::os,h=>by cases h
 |.b c::ks,a,[],h=>by cases h
 |.b c::ks,a,o::os,h=>by
  obtain⟨j,q⟩:=a;simp only[NA,AJ,Co]at h;have y:(enc c j).length=c.size:=RS c j;show (o.length==(enc c j).length&&Lv.Gx (ks.map PK.md) (aVs ks q) os)=true;rw[y,h.1,NB ks q os h.2];simp
 |.m c::ks,a,[],h=>by cases h
 |.m c::ks,a,o::os,h=>by
  simp only[NA,AJ,Co]at h;exact NB ks a.2 os h.2
 |.v c::ks,a,os,h=>NB ks a.2 os h|.p c::ks,a,os,h=>NB ks a.2 os h|.o c::ks,a,os,h=>NB ks a.2 os h|.f x l::ks,a,os,h=>NB ks a.2 os h
end
def YF.er(f:YF):Aq:=.mk (f.ps.map PK.md) f.rs f.body.er
theorem ANf{f:YF}{S:St}{r:Tu (f.rk.cs++NA f.ps)}(h:fin f.ps f.rk f.rs S=some r) :
 Lv.fin (f.ps.map PK.md) f.rs (S.fg f.R) f.rk.sh ((U5 _ r).take f.rk.cs.length).flatten ((U5 _ r).drop f.rk.cs.length):=by
 unfold fin at h;obtain⟨S',us,B,h⟩:=Aeb (R:=f.R) h;split at h
 .rename_i os G;split at h
  .rename_i y;obtain⟨E,H⟩:=NC (R:=f.R) G;have q:=yf h;rw[pd _ _ _ _ y,C4]at q;have j:((chunks f.rk.cs us).map (List.map U.fg)).length=f.rk.cs.length:=by rw[Aj,pe]
   rw[q,C5 j,Cy j];refine⟨S'.fg f.R,?_,E⟩;rw[B,<-LA,m8 _ _ y]
  .cases h
 .cases h
theorem YF.sound{f:YF}(q:AME f.ps=true)(j:f.fs.map (fun n=>(f.R[n]?).map GF.x)=(fX f.ps).map some){a:A f.ps}{r:Tu (f.rk.cs++NA f.ps)}(h:f.run a=some r) :
 IM f.er (aVs f.ps a) f.rk.sh ((U5 _ r).take f.rk.cs.length).flatten ((U5 _ r).drop f.rk.cs.length):=by
 unfold YF.run at h;rw[FE]at h;refine .intro ⟨_,Qg (R:=f.R) f.ps 0 f.fs a ⟨[],[],[],0⟩ q j,?_,?_⟩
 .grind[EO,ANf]
 grind[NB,ALN,NA,List.map_drop,List.drop_left',List.length_map]
def YF.gf(f:YF)(hp:AME f.ps=true)(hf:f.fs.map (fun n=>(f.R[n]?).map GF.x)=(fX f.ps).map some)(d:A f.ps->Option (Tu (f.rk.cs++NA f.ps)))(hd:∀a,f.run a=d a):GF:=
 ⟨f.er,f.ps,f.rk,d,rfl,fun a r h=>YF.sound hp hf ((hd a).trans h)⟩
end Y
end Lv
namespace Lv
open Y
open Go
def AAH(c:C)(xs:List c.D)(i:Int)(ys:List c.D):Option (List c.D):=
 if 0<=i/\i.toNat<=xs.length/\ys≠[]/\xs.length+ys.length<=lim then some (xs.take i.toNat++ys++xs.drop i.toNat) else none
theorem AZ8{c:C}(q:bX c=true)(xs:List c.D)(i:Int)(ys:List c.D)(r:List c.D)(h:AAH c xs i ys=some r) :
 IM (.Dw (2*c.size) [.o,.v,.v]) [.o .one (enc (.l c) xs),.v .one (enc .i i),.v .one (enc (.l c) ys)] .one (enc (.l c) r) []:=by
 unfold AAH at h;split at h
 .rename_i j;cases h;intro Rn hRn;refine hRn _ _ _ _ _ ?_;show bO (2*c.size) _ _ _ _;unfold bO;refine⟨by omega,?_⟩;rw[if_pos (by omega)];refine⟨_,xs.map (enc c),_,ys.map (enc c),i,rfl,rfl,?_,rfl,?_,Jg q _,Jg q _,j.1,by simpa using j.2.1,by simpa using j.2.2.1,by simpa using j.2.2.2,rfl,?_,rfl⟩
  .simp[eOf]
  .simp[eOf]
  .show [T.sl c.size ((xs.take i.toNat++ys++xs.drop i.toNat).map (enc c))]=_;simp[Cz,Ck]
 .cases h
def Af1(c:C)(hf:bX c=true):GF:=
 ⟨.Dw (2*c.size) [.o,.v,.v],[.o (.l c),.v .i,.v (.l c)],.ret [.l c],fun a=>AAH c a.1 a.2.1 a.2.2.1,rfl,fun a r h=>AZ8 hf _ _ _ r h⟩
def ALK(c:C)(xs:List c.D)(i j:Int):Option (List c.D):=
 if 0<=i/\i<j/\j<=xs.length then some (xs.take i.toNat++xs.drop j.toNat) else none
theorem AYq{c:C}(E:bX c=true)(y:decide (0<c.size)=true)(xs:List c.D)(i j:Int)(r:List c.D)(h:ALK c xs i j=some r) :
 IM (.Dw (2*c.size+1) [.o,.v,.v]) [.o .one (enc (.l c) xs),.v .one (enc .i i),.v .one (enc .i j)] .one (enc (.l c) r) []:=by
 unfold ALK at h;split at h
 .rename_i q;cases h;intro Rn hRn;refine hRn _ _ _ _ _ ?_;show bO (2*c.size+1) _ _ _ _;unfold bO;have B:(2*c.size+1) / 2=c.size:=by omega
  have y:=of_decide_eq_true y;refine⟨by omega,?_⟩;rw[if_neg (by omega),B];refine⟨xs.map (enc c),i,j,rfl,Jg E _,q.1,q.2.1,by simpa using q.2.2,rfl,?_,rfl⟩;show [T.sl c.size ((xs.take i.toNat++xs.drop j.toNat).map (enc c))]=_;simp[Cz,Ck]
 .cases h
def Afr(c:C)(hf:bX c=true)(hs:decide (0<c.size)=true):GF:=
 ⟨.Dw (2*c.size+1) [.o,.v,.v],[.o (.l c),.v .i,.v .i],.ret [.l c],fun a=>ALK c a.1 a.2.1 a.2.2.1,rfl,fun a r h=>AYq hf hs _ _ _ r h⟩
structure AGh(ps:List PK)(rk:RK) where
 x:Aq
 d:A ps->Option (Tu (rk.cs++NA ps))
 ms:Ek x=ps.map PK.md
 ok:∀a r,d a=some r->IM x (aVs ps a) rk.sh ((U5 _ r).take rk.cs.length).flatten ((U5 _ r).drop rk.cs.length)
def AGh.gf{ps:List PK}{rk:RK}(r:AGh ps rk):GF:=⟨r.x,ps,rk,r.d,r.ms,r.ok⟩
def AGh.of(g:GF):AGh g.ps g.rk:=⟨g.x,g.d,g.ms,g.ok⟩
def AGh.nil(ps:List PK)(rk:RK):AGh ps rk:=⟨.Dw 1 (ps.map PK.md),fun _=>none,rfl,fun _ _ h=>by cases h⟩
end Lv
namespace Lv
open Go (IntKind BinOp UnOp)
section
variable{a b c d e f g h:Type}
def BL(k:a->h)(x:a×b):h:=k x.1
def Ah(k:a->b->h)(x:a×b×c):h:=k x.1 x.2.1
def GX(k:a->b->c->h)(x:a×b×c×d):h:=k x.1 x.2.1 x.2.2.1
def dq(k:a->b->c->d->h)(x:a×b×c×d×e):h:=k x.1 x.2.1 x.2.2.1 x.2.2.2.1
def APw(k:a->b->c->d->e->h)(x:a×b×c×d×e×f):h:=k x.1 x.2.1 x.2.2.1 x.2.2.2.1 x.2.2.2.2.1
def APx(k:a->b->c->d->e->f->h)(x:a×b×c×d×e×f×g):h:=k x.1 x.2.1 x.2.2.1 x.2.2.2.1 x.2.2.2.2.1 x.2.2.2.2.2.1
end
namespace Y
def YF.D2(f:YF)(d:A f.ps->Option (Tu (f.rk.cs++NA f.ps)))(hd:∀a,f.run a=d a:=by intro a;kernel_rfl)(hp:AME f.ps=true:=by rfl)(hf:f.fs.map (fun n=>(f.R[n]?).map GF.x)=(fX f.ps).map some:=by rfl):GF:=f.gf hp hf d hd
end Y
def TN{γ:Type}(x y:Bu)(X:Option γ):Option γ:=eqv x.Data y.Data (eqv x.Safe y.Safe X)
theorem N7{γ:Type}(x:Bu)(X:Option γ):TN x x X=X:=by unfold TN;simp only[Cw]
def Cg{γ:Type}(x y:CE)(X:Option γ):Option γ:=eqv x.Code y.Code (eqv x.Ids y.Ids X)
theorem WJ{γ:Type}(x:CE)(X:Option γ):Cg x x X=X:=by unfold Cg;simp only[Cw]
def AGX{γ:Type}(x y:Db)(X:Option γ):Option γ:=eqv x.Za y.Za (eqv x.at_ y.at_ (eqv x.AGs y.AGs X))
theorem AGY{γ:Type}(x:Db)(X:Option γ):AGX x x X=X:=by unfold AGX;simp only[Cw]
def JM{γ:Type}(x y:AX)(X:Option γ):Option γ:=eqv x.b_ y.b_ (eqv x.i_ y.i_ (eqv x.h_ y.h_ X))
theorem MH{γ:Type}(x:AX)(X:Option γ):JM x x X=X:=by unfold JM;simp only[Cw]
def AGU{γ:Type}(x y:Ad)(X:Option γ):Option γ:=eqv x.Level y.Level (eqv x.Ap y.Ap (eqv x.Id y.Id (eqv x.A2 y.A2 X)))
theorem AGV{γ:Type}(x:Ad)(X:Option γ):AGU x x X=X:=by unfold AGU;simp only[Cw]
def AfK{γ:Type}(x y:BX)(X:Option γ):Option γ:=eqv x.Kind y.Kind (eqv x.Id y.Id (eqv x.Aa y.Aa (eqv x.Bl y.Bl (eqv x.A2 y.A2 (eqv x.Cj y.Cj X)))))
theorem WK{γ:Type}(x:BX)(X:Option γ):AfK x x X=X:=by unfold AfK;simp only[Cw]
def AGW{γ:Type}(x y:Bb)(X:Option γ):Option γ:=eqv x.Log.Data y.Log.Data (eqv x.Log.Safe y.Log.Safe (eqv x.Dl.Data y.Dl.Data (eqv x.Dl.Safe y.Dl.Safe (eqv x.Odd.Data y.Odd.Data (eqv x.Odd.Safe y.Odd.Safe X)))))
theorem PS{γ:Type}(x:Bb)(X:Option γ):AGW x x X=X:=by unfold AGW;simp only[Cw]
def Ci{γ:Type}(x y:AZ)(X:Option γ):Option γ:=eqv x.AV y.AV (eqv x.CJ y.CJ (eqv x.Room y.Room (eqv x.A2 y.A2 (eqv x.CB y.CB (eqv x.Bq y.Bq (eqv x.Rest y.Rest (eqv x.CL y.CL (eqv x.Cs y.Cs X))))))))
theorem MG{γ:Type}(x:AZ)(X:Option γ):Ci x x X=X:=by unfold Ci;simp only[Cw]
def MF{γ:Type}(x y:AK)(X:Option γ):Option γ:=eqv x.Id y.Id (eqv x.Aa y.Aa (eqv x.Bl y.Bl (eqv x.A2 y.A2 (eqv x.Cj y.Cj (eqv x.Since y.Since (eqv x.Ap y.Ap (eqv x.State y.State (eqv x.Cf y.Cf (eqv x.Cu y.Cu X)))))))))
theorem Ej{γ:Type}(x:AK)(X:Option γ):MF x x X=X:=by unfold MF;simp only[Cw]
def NS{γ:Type}(x y:AD)(X:Option γ):Option γ:=eqv x.AO.AV y.AO.AV (eqv x.AO.CJ y.AO.CJ (eqv x.AO.Room y.AO.Room (eqv x.AO.A2 y.AO.A2 (eqv x.AO.CB y.AO.CB (eqv x.AO.Bq y.AO.Bq (eqv x.AO.Rest y.AO.Rest (eqv x.AO.CL y.AO.CL (eqv x.AO.Cs y.AO.Cs (eqv x.Now y.Now (eqv x.Ap y.Ap (eqv x.AG y.AG (eqv x.AI y.AI (eqv x.BC y.BC (eqv x.A8 y.A8 X))))))))))))))
theorem J6{γ:Type}(x:AD)(X:Option γ):NS x x X=X:=by unfold NS;simp only[Cw]
def CX{γ:Type}(x y:Ae)(X:Option γ):Option γ:=eqv x.BD.AO.AV y.BD.AO.AV (eqv x.BD.AO.CJ y.BD.AO.CJ (eqv x.BD.AO.Room y.BD.AO.Room (eqv x.BD.AO.A2 y.BD.AO.A2 (eqv x.BD.AO.CB y.BD.AO.CB (eqv x.BD.AO.Bq y.BD.AO.Bq (eqv x.BD.AO.Rest y.BD.AO.Rest (eqv x.BD.AO.CL y.BD.AO.CL (eqv x.BD.AO.Cs y.BD.AO.Cs (eqv x.BD.Now y.BD.Now (eqv x.BD.Ap y.BD.Ap (eqv x.BD.AG y.BD.AG (eqv x.BD.AI y.BD.AI (eqv x.BD.BC y.BD.BC (eqv x.BD.A8 y.BD.A8 (eqv x.BO.Log.Data y.BO.Log.Data (eqv x.BO.Log.Safe y.BO.Log.Safe (eqv x.BO.Dl.Data y.BO.Dl.Data (eqv x.BO.Dl.Safe y.BO.Dl.Safe (eqv x.BO.Odd.Data y.BO.Odd.Data (eqv x.BO.Odd.Safe y.BO.Odd.Safe (eqv x.Seq y.Seq (eqv x.Laid y.Laid X))))))))))))))))))))))
theorem I1{γ:Type}(x:Ae)(X:Option γ):CX x x X=X:=by unfold CX;simp only[Cw]
def EW:List U:=[.nil,.int .i64 0,.int .i64 0,.int .i64 0,.int .i64 0,.int .i64 0,.int .i64 0,.int .i64 0,.int .i64 0,.int .i64 0,.int .i64 0,.nil,.nil,.nil,.nil]
def HW:List U:=[.int .i64 0,.int .i64 0,.int .i64 0,.int .i64 0,.int .i64 0,.int .i64 0,.int .i64 0,.int .i64 0,.int .i64 0,.int .i64 0]
def Kh:List U:=[.int .i64 0,.int .i64 0,.int .i64 0,.int .i64 0,.int .i64 0,.int .i64 0]
def AUY:List U:=[.int .i64 0,.int .i64 0,.int .i64 0,.int .i64 0,.int .i64 0,.nil,.nil]
def ev2{α0 α1 γ:Type}(a0:α0)(a1:α1)(X:Option γ):Option γ:=eqv a0 a0 (eqv a1 a1 X)
theorem Ja{α0 α1 γ:Type}(a0:α0)(j:α1)(X:Option γ):ev2 a0 j X=X:=by unfold ev2;simp only[Cw]
def ev3{α0 α1 α2 γ:Type}(a0:α0)(a1:α1)(a2:α2)(X:Option γ):Option γ:=eqv a0 a0 (eqv a1 a1 (eqv a2 a2 X))
theorem Jb{α0 α1 α2 γ:Type}(a0:α0)(j:α1)(q:α2)(X:Option γ):ev3 a0 j q X=X:=by unfold ev3;simp only[Cw]
def ev4{α0 α1 α2 α3 γ:Type}(a0:α0)(a1:α1)(a2:α2)(a3:α3)(X:Option γ):Option γ:=eqv a0 a0 (eqv a1 a1 (eqv a2 a2 (eqv a3 a3 X)))
theorem Jc{α0 α1 α2 α3 γ:Type}(a0:α0)(j:α1)(q:α2)(a3:α3)(X:Option γ):ev4 a0 j q a3 X=X:=by unfold ev4;simp only[Cw]
def ev5{α0 α1 α2 α3 α4 γ:Type}(a0:α0)(a1:α1)(a2:α2)(a3:α3)(a4:α4)(X:Option γ):Option γ:=eqv a0 a0 (eqv a1 a1 (eqv a2 a2 (eqv a3 a3 (eqv a4 a4 X))))
theorem Jd{α0 α1 α2 α3 α4 γ:Type}(a0:α0)(j:α1)(q:α2)(a3:α3)(a4:α4)(X:Option γ):ev5 a0 j q a3 a4 X=X:=by unfold ev5;simp only[Cw]
def ev6{α0 α1 α2 α3 α4 α5 γ:Type}(a0:α0)(a1:α1)(a2:α2)(a3:α3)(a4:α4)(a5:α5)(X:Option γ):Option γ:=eqv a0 a0 (eqv a1 a1 (eqv a2 a2 (eqv a3 a3 (eqv a4 a4 (eqv a5 a5 X)))))
theorem I9{α0 α1 α2 α3 α4 α5 γ:Type}(a0:α0)(j:α1)(q:α2)(a3:α3)(a4:α4)(y:α5)(X:Option γ):ev6 a0 j q a3 a4 y X=X:=by unfold ev6;simp only[Cw]
def ev7{α0 α1 α2 α3 α4 α5 α6 γ:Type}(a0:α0)(a1:α1)(a2:α2)(a3:α3)(a4:α4)(a5:α5)(a6:α6)(X:Option γ):Option γ:=eqv a0 a0 (eqv a1 a1 (eqv a2 a2 (eqv a3 a3 (eqv a4 a4 (eqv a5 a5 (eqv a6 a6 X))))))
theorem Je{α0 α1 α2 α3 α4 α5 α6 γ:Type}(a0:α0)(j:α1)(q:α2)(a3:α3)(a4:α4)(y:α5)(B:α6)(X:Option γ):ev7 a0 j q a3 a4 y B X=X:=by unfold ev7;simp only[Cw]
def ev8{α0 α1 α2 α3 α4 α5 α6 α7 γ:Type}(a0:α0)(a1:α1)(a2:α2)(a3:α3)(a4:α4)(a5:α5)(a6:α6)(a7:α7)(X:Option γ):Option γ:=eqv a0 a0 (eqv a1 a1 (eqv a2 a2 (eqv a3 a3 (eqv a4 a4 (eqv a5 a5 (eqv a6 a6 (eqv a7 a7 X)))))))
theorem Jf{α0 α1 α2 α3 α4 α5 α6 α7 γ:Type}(a0:α0)(j:α1)(q:α2)(a3:α3)(a4:α4)(y:α5)(B:α6)(E:α7)(X:Option γ):ev8 a0 j q a3 a4 y B E X=X:=by unfold ev8;simp only[Cw]
def orE{ρ:Type}(a b:Option ρ):Option ρ:=match a with|some r=>some r|none=>b
def GF.orE(g:GF)(d d2:A g.ps->Option (Tu (g.rk.cs++NA g.ps)))(hd:∀a,d a=Lv.orE (g.d a) (d2 a))
 (hk:∀a r,d2 a=some r->IM g.x (aVs g.ps a) g.rk.sh ((U5 _ r).take g.rk.cs.length).flatten ((U5 _ r).drop g.rk.cs.length)):GF:=
 ⟨g.x,g.ps,g.rk,d,g.ms,fun a r h=>by
  rw[hd]at h;unfold Lv.orE at h;split at h
  .rename_i r' h';cases h;exact g.ok a _ h'
  .exact hk a r h⟩
namespace Y
section
variable{R:List GF}
def qn(l:List (YOp R)):List (Option (Nat×Bool)×YOp R):=l.map fun o=>(none,o)
def qf(g:Nat)(l:List (YOp R)):List (Option (Nat×Bool)×YOp R):=l.map fun o=>(some (g,false),o)
def qt(g:Nat)(l:List (YOp R)):List (Option (Nat×Bool)×YOp R):=l.map fun o=>(some (g,true),o)
def qr(l:List (List (Option (Nat×Bool)×YOp R)))(Fo:List Nat):G7 R:=.region l.flatten Fo
def q1(l:List (YOp R))(Fo:List Nat):G7 R:=.region (qn l) Fo
def qdl(r:B2 R):Nat->List (Option (Nat×Bool)×YOp R)->B2 R|_,[]=>r|i,o::l=>.op i o.1 [] o.2 (qdl r (i+1) l)
def qd(i:Nat)(l:List (List (Option (Nat×Bool)×YOp R)))(r:B2 R):B2 R:=qdl r i l.flatten
def qm(d s:Nat):YOp R:=.mv d (.tmp s)
def qa(d s:Nat):YOp R:=.as d (.tmp s)
def qo(d o s:Nat):YOp R:=.fa d o (.tmp s)
def ql(d s:Nat):YOp R:=.ld d none (.tmp s)
def qL(d n s:Nat):YOp R:=.ld d (some n) (.tmp s)
def qb(d:Nat)(o:BinOp)(x y:Nat):YOp R:=.bin d .num o (.tmp x) (.tmp y)
def qi(d:Nat)(o:BinOp)(x:Nat)(n:Int):YOp R:=.bin d .num o (.tmp x) (.k (.int .i64 n))
def qx(d s:Nat):YOp R:=.un d .not (.tmp s)
def qp(d c x:Nat):YOp R:=.pick d (.tmp c) (.k (.bool true)) (.tmp x)
def qq(d c x:Nat):YOp R:=.pick d (.tmp c) (.tmp x) (.k (.bool false))
def qc(d:Nat)(g:GF)(hf:([]:List Nat).map (fun n=>(R[n]?).map GF.x)=(fX g.ps).map some)(l:List Nat):YOp R:=.call d g [] hf (l.map .tmp)
def qz(d s:Nat):YOp R:=.len d (.tmp s)
def qe(d:Nat)(c:C)(x i:Nat):YOp R:=.ia d c (.tmp x) (.tmp i)
def qk(d:Nat)(n:Int):YOp R:=.mv d (.k (.int .i64 n))
def qK(d:Nat)(n:Int):YOp R:=.as d (.k (.int .i64 n))
def qB(d:Nat)(b:Bool):YOp R:=.as d (.k (.bool b))
def qw(n x v:Nat):YOp R:=.st n (.tmp x) (.tmp v)
def qu(d s:Nat):YOp R:=.box d (.tmp s)
def qj(n:Int):YO:=.k (.int .i64 n)
instance (n:Nat):OfNat YO n:=⟨.tmp n⟩
def kpF:Nat->Nat->Nat->List Nat
 |0,_,_=>[]|f+1,i,n=>match Nat.beq n 0 with|true=>[]|false=>match Nat.testBit n 0 with|true=>i::kpF f (i+1) (n / 2)|false=>kpF f (i+1) (n / 2)
def wU:Nat->List (Nat->Nat->YOp R)->List (YOp R)|_,[]=>[]|0,f::l=>f 0 0::wU 1 l|k+1,f::l=>f (k+1) k::wU (k+2) l
def wn(d:Nat)(l:List (Nat->Nat->YOp R)):List (Option (Nat×Bool)×YOp R):=qn (wU d l)
def wf(g d:Nat)(l:List (Nat->Nat->YOp R)):List (Option (Nat×Bool)×YOp R):=qf g (wU d l)
def wt(g d:Nat)(l:List (Nat->Nat->YOp R)):List (Option (Nat×Bool)×YOp R):=qt g (wU d l)
def w1(d:Nat)(l:List (Nat->Nat->YOp R))(Fo:List Nat):G7 R:=q1 (wU d l) Fo
def sw(d:Nat)(l:List (Nat->Nat->YOp R))(Fo:List Nat)(b:G7 R):G7 R:=.seq (q1 (wU d l) Fo) b
def sq(l:List (YOp R))(Fo:List Nat)(b:G7 R):G7 R:=.seq (q1 l Fo) b
def sr(l:List (List (Option (Nat×Bool)×YOp R)))(Fo:List Nat)(b:G7 R):G7 R:=.seq (qr l Fo) b
def wm(s d _p:Nat):YOp R:=.mv d (.tmp s)
def wM(d p:Nat):YOp R:=.mv d (.tmp p)
def wo(o s d _p:Nat):YOp R:=.fa d o (.tmp s)
def wO(o d p:Nat):YOp R:=.fa d o (.tmp p)
def wl(s d _p:Nat):YOp R:=.ld d none (.tmp s)
def wL(d p:Nat):YOp R:=.ld d none (.tmp p)
def wk(n s d _p:Nat):YOp R:=.ld d (some n) (.tmp s)
def wK(n d p:Nat):YOp R:=.ld d (some n) (.tmp p)
def wz(s d _p:Nat):YOp R:=.len d (.tmp s)
def wZ(d p:Nat):YOp R:=.len d (.tmp p)
def wx(s d _p:Nat):YOp R:=.un d .not (.tmp s)
def wX(d p:Nat):YOp R:=.un d .not (.tmp p)
def wb(o:BinOp)(x y d _p:Nat):YOp R:=.bin d .num o (.tmp x) (.tmp y)
def wB(o:BinOp)(x d p:Nat):YOp R:=.bin d .num o (.tmp x) (.tmp p)
def wi(o:BinOp)(x:Nat)(n:Int)(d _p:Nat):YOp R:=.bin d .num o (.tmp x) (.k (.int .i64 n))
def wI(o:BinOp)(n:Int)(d p:Nat):YOp R:=.bin d .num o (.tmp p) (.k (.int .i64 n))
def wr(c x d _p:Nat):YOp R:=.pick d (.tmp c) (.k (.bool true)) (.tmp x)
def wR(c d p:Nat):YOp R:=.pick d (.tmp c) (.k (.bool true)) (.tmp p)
def wq(c x d _p:Nat):YOp R:=.pick d (.tmp c) (.tmp x) (.k (.bool false))
def wQ(c d p:Nat):YOp R:=.pick d (.tmp c) (.tmp p) (.k (.bool false))
def we(c:C)(x i d _p:Nat):YOp R:=.ia d c (.tmp x) (.tmp i)
def wE(c:C)(x d p:Nat):YOp R:=.ia d c (.tmp x) (.tmp p)
def wc(g:GF)(hf:([]:List Nat).map (fun n=>(R[n]?).map GF.x)=(fX g.ps).map some)(l:List YO)(d _p:Nat):YOp R:=.call d g [] hf l
def wY(g:GF)(hf:([]:List Nat).map (fun n=>(R[n]?).map GF.x)=(fX g.ps).map some)(d p:Nat):YOp R:=.call d g [] hf [.tmp p]
def wj(n:Int)(d _p:Nat):YOp R:=.mv d (.k (.int .i64 n))
def wh(f:Nat->YOp R)(d _p:Nat):YOp R:=f d
def Kp(n:Nat):List Nat:=kpF 300 0 n
def cv(n:Nat)(c:C):Bool×Nat×Sh×List AL:=(false,n,.one,[.val c none])
def ca(n:Nat)(c:C):Bool×Nat×Sh×List AL:=(false,n,.agg,[.val c none])
def cx(n:Nat)(c:C):Bool×Nat×Sh×List AL:=(true,n,.one,[.val c none])
def cn(c:Nat)(ke:List Nat)(t:G7 R):G7 R:=.cond c [] ke t .skip
def ce(c:Nat)(kt ke:List Nat)(id:Nat):G7 R:=.cond c kt ke .skip (.exit id)
def bl(id:Nat)(c:Cut)(b:G7 R):G7 R:=.block id (.loop c b)
end
end Y
end Lv
namespace Lv
open Go
section
variable{A:Nat->Nat->List Md->Prop}{P:Program}
def fnd(n:Nat)(ms:List Md):List (Nat×Aq)->Option Aq
 | []=>none|p::r=>match Nat.beq p.1 n&&decide (Ek p.2=ms) with|true=>some p.2|false=>fnd n ms r
theorem ADw {n ms x}:∀{r:List (Nat×Aq)},fnd n ms r=some x->(n,x)∈r
 | [],h=>by cases h
 |(k,y)::r,h=>by
  unfold fnd at h;split at h
  .rename_i j;cases h;rw[AF]at j;have q:k=n:=Nat.eq_of_beq_eq_true j.1;subst q;exact Bm
  .exact A3 _ (ADw h)
theorem Mt.at{r:List (Nat×Aq)} {n x} (h:∀p∈r,Mt A P p.1 p.2) (e:fnd n (Ek x) r=some x):Mt A P n x:=h _ (ADw e)
def caO(P:Program)(p:Nat×Aq):List (Nat×Aq):=match P.funcs[p.1]? with|some fn=>WR fn p.2|none=>[]
def okO(P:Program)(p:Nat×Aq):Bool:=match P.funcs[p.1]? with|some fn=>oM P fn p.2|none=>false
def okM(P:Program):List (Nat×Aq)->Bool| []=>true|p::l=>okO P p&&okM P l
def caM(P:Program):List (Nat×Aq)->List (List (Nat×Aq))| []=>[]|p::l=>caO P p::caM P l
def ex1(r:List (Nat×Aq))(q:Nat×Aq):Nat×Aq:=match fnd q.1 (Ek q.2) r with|some x=>(q.1,x)|none=>(q.1+1,q.2)
def exM(P:Program):List (Nat×Aq)->List (Nat×Aq)->List (List (Nat×Aq))| [],_=>[]|p::l,r=>(caO P p).map (ex1 r)::exM P l (p::r)
theorem ATw{α:Type}{f:α->α}:∀{l:List α},l=l.map f->∀x∈l,x=f x
 |a::l,h,x,j=>by
  injection h with q y;rcases Ag.1 j with rfl|j
  .exact q
  .exact ATw y x j
theorem Mt.s:∀{l r:List (Nat×Aq)},(∀p∈r,Mt A P p.1 p.2)->okM P l=true->caM P l=exM P l r->∀p∈l.reverseAux r,Mt A P p.1 p.2
 | [],_,h,_,_=>h|p::l,r,h,G,J=>by
  unfold okM at G;unfold caM exM at J;rw[AF]at G;obtain⟨y,L⟩:=G;injection J with j B;refine Mt.s (l:=l) (r:=p::r) (fun q H=>?_) L B;rcases Ag.1 H with rfl|H
  .unfold okO at y;unfold caO at j;cases E:P.funcs[q.1]? with
   |none=>simp[E]at y|some fn=>
    simp only[E]at y j;refine Mt.by E y rfl fun t O=>?_
    have e:=ATw j t O;unfold ex1 at e;cases I:fnd t.1 (Ek t.2) r with
    |none=>
     rw[I]at e;have:=congrArg Prod.fst e;simp at this
    |some x=>
     rw[I]at e;rw[e];exact h _ (ADw I)
  .exact h q H
def lX(l:List (Nat×GF)):List (Nat×Aq):=l.map fun p=>(p.1,p.2.x)
end
end Lv
